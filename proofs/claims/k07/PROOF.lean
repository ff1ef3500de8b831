import PyProof.Rows.All
import Wide.All
import OpenK.AllK
import Wide.FinOn
import HandS.ForMost
import HandS.IsInst
import HandS.Zip
import HandS.TupMul
import HandS.TupAny
import HandS.Deep
import HandS.Lambda
import HandS.Style
import KE.KDictKeyed
import HandS.NoneIn
import HandS.DictComp
import HandS.TupLen
import KE.KDictWalk
import KE.KDictCopyH
import HandS.Conv
import KE.KNestM
import HandS.EndTab
import PySem.Challenge.RW_lagtalk_k07_whole_stretches_unheard
set_option Elab.async false
set_option linter.all false
set_option maxRecDepth 100000
set_option maxHeartbeats 4000000
namespace VS
open PySem PySem.Spec PyProof.Rows L2
abbrev D := PyData
/-! ### immutable data in the abstract heap -/
structure ImKeep (H H' : Hp) : Prop where
  tup : ∀ b xs, H b = some (.tup xs) → H' b = some (.tup xs)
  frz : ∀ b o u, H b = some (.frz o u) → H' b = some (.frz o u)
  code : ∀ b q, H b = some (LamX.CodeO b q) → H' b = some (LamX.CodeO b q)
theorem ImKeep.refl (H : Hp) : ImKeep H H := ⟨fun _ _ h => h, fun _ _ _ h => h, fun _ _ h => h⟩
theorem ImKeep.trans {H H1 H2 : Hp} (a : ImKeep H H1) (b : ImKeep H1 H2) : ImKeep H H2 := ⟨fun c xs h => b.tup c xs (a.tup c xs h), fun c o u h => b.frz c o u (a.frz c o u h), fun c q h => b.code c q (a.code c q h)⟩
theorem ImKeep.new {H : Hp} {p : Addr} {o : HO} (h : H p = none) : ImKeep H (upd H p o) :=
  ⟨fun b xs e => by rw [upd_ne (ne_of_none e h)]; exact e, fun b ob u e => by rw [upd_ne (ne_of_none e h)]; exact e, fun b q e => by rw [upd_ne (ne_of_none e h)]; exact e⟩
theorem ImKeep.mut {H : Hp} {p : Addr} {o u : HO} (h : H p = some u) (mu : Mut (some u)) (ht : ∀ q, u ≠ LamX.CodeO p q) : ImKeep H (upd H p o) :=
  ⟨fun b xs e => by rw [upd_ne (fun z => by rw [z, h] at e; cases e; exact mu)]; exact e, fun b ob w e => by rw [upd_ne (fun z => by rw [z, h] at e; cases e; exact mu)]; exact e,
    fun b q e => by rw [upd_ne (fun z => by subst z; rw [h] at e; exact ht q (Option.some.inj e))]; exact e⟩
theorem ImKeep.ofExt {H H' : Hp} (e : LamX.ExtN H H') : ImKeep H H' := ⟨fun b xs h => e b _ h (fun _ z => by cases z), fun b o u h => e b _ h (fun _ z => by cases z), fun b q h => e b _ h fun ps => LamX.codeO_ne ps⟩
theorem ImKeep.ofSame {H H' : Hp} (e : Same H H') : ImKeep H H' := ⟨fun b xs h => e b _ h, fun b o u h => e b _ h, fun b q h => e b _ h⟩

/-- the written part, how keys hash, and what is a function that may be called with data (n: its level) -/
structure KW where
  f : PySem.W.Frag
  hs : NestedKey → Int
  cal : Nat → Hp → V → (List PyData → Option PyData) → Prop
  cup : ∀ {k : Nat} {H H' : Hp} {v : V} {G : List PyData → Option PyData}, ImKeep H H' → cal k H v G → cal k H' v G
instance : Coe KW PySem.W.Frag := ⟨KW.f⟩
abbrev kw0 (P : Program) (w : World) (K : PySem.W.Frag) : KW := ⟨K, (nestedKind P w).hash, fun _ _ _ _ => False, fun _ h => h⟩

/-- a list that never changes any more -/
def FzL (K : KW) (H : Hp) (a : Addr) (xs : List V) : Prop := (∃ o, H a = some (.frz o (.lst xs))) ∨
  ∃ (its : List Value) (n : Nat), K.f.lookup a = some { cls := .type "list", data := .seq its.toArray n } ∧ its.length ≤ sizeLine ∧ Vals xs its
theorem FzL.sq {K : KW} {H : Hp} {a : Addr} {xs : List V} (h : FzL K H a xs) : SqL K H a xs := by
  rcases h with ⟨o, h⟩ | ⟨its, n, h1, h2, h3⟩
  · exact .inl (.inr ⟨o, h⟩)
  · exact .inr ⟨_, its.toArray, n, h1, rfl, rfl, rfl, by simpa using h2, by simpa using h3⟩
theorem FzL.mono {K : KW} {H H' : Hp} {a : Addr} {xs : List V} (k : ImKeep H H') (h : FzL K H a xs) : FzL K H' a xs := by
  rcases h with ⟨o, h⟩ | h
  · exact .inl ⟨o, k.frz _ _ _ h⟩
  · exact .inr h
theorem sqT_mono {K : KW} {H H' : Hp} {a : Addr} {xs : List V} (k : ImKeep H H') (h : SqT K H a xs) : SqT K H' a xs := by
  rcases h with (h | ⟨o, h⟩) | h
  · exact .inl (.inl (k.tup _ _ h))
  · exact .inl (.inr ⟨o, k.frz _ _ _ h⟩)
  · exact .inr h

mutual
/-- data as a dict's key -/
def kOf : D → Option NestedKey
  | .none => some .none
  | .bool b => some (.num (if b then 1 else 0))
  | .int i => some (.num i)
  | .str x => some (.text x)
  | .tuple ds => (match kOfs ds with | some ks => some (.tup ks) | none => none)
  | _ => none
def kOfs : List D → Option (List NestedKey)
  | [] => some []
  | d :: ds => (match kOf d, kOfs ds with | some k, some ks => some (k :: ks) | _, _ => none)
end
/-- an entry: its key, where the key's tuple stands, its value -/
abbrev Ent := NestedKey × Addr × V
/-- the dict's own object: xs, in the order of insertion -/
def DictO (hs : NestedKey → Int) (a : Addr) (xs : List Ent) : Heap → Prop := fun h => xs.length ≤ sizeLine ∧ (a == sysModules) = false ∧ (xs.map (·.1)).Nodup ∧
  ∃ (ys : List (NestedKey × Addr × Value)) (o : Obj) (es : Array DictEntry) (ep : Nat), Paired (fun (p : Ent) (q : NestedKey × Addr × Value) => p.1 = q.1 ∧ p.2.1 = q.2.1 ∧ RelV p.2.2 q.2.2) xs ys ∧
    h.get? a = some o ∧ o.ExactDict ∧ o.data = .dict es ep ∧ es.toList = ys.map fun y => ⟨hs y.1, .ref y.2.1, y.2.2⟩
mutual
inductive Im (K : KW) (H : Hp) : V → D → Prop
  | non : Im K H .non .none
  | bl (b : Bool) : Im K H (.bl b) (.bool b)
  | int (i : Int) : Im K H (.int i) (.int i)
  | str (x : Str) : Im K H (.str x) (.str x)
  | lst {a : Addr} {xs : List V} {ds : List D} : FzL K H a xs → ImAll K H xs ds → Im K H (.ref a) (.list ds)
  | tup {a : Addr} {xs : List V} {ds : List D} : SqT K H a xs → ImAll K H xs ds → Im K H (.ref a) (.tuple ds)
  | dct {a : Addr} {o : Obj} {xs : List Ent} {kvs : List (D × D)} : H a = some (.frz o (.ext (DictO K.hs a xs))) → DEnt K H xs kvs → Im K H (.ref a) (.dict kvs)
inductive ImAll (K : KW) (H : Hp) : List V → List D → Prop
  | nil : ImAll K H [] []
  | cons {v : V} {vs : List V} {d : D} {ds : List D} : Im K H v d → ImAll K H vs ds → ImAll K H (v :: vs) (d :: ds)
/-- keys and values as data -/
inductive DEnt (K : KW) (H : Hp) : List Ent → List (D × D) → Prop
  | nil : DEnt K H [] []
  | cons {k : NestedKey} {ka : Addr} {v : V} {dk dv : D} {xs : List Ent} {kvs : List (D × D)} : kOf dk = some k → k.depth ≤ 8 → Im K H (.ref ka) dk → Im K H v dv → DEnt K H xs kvs → DEnt K H ((k, ka, v) :: xs) ((dk, dv) :: kvs)
end
section
variable {K : KW} {H H' : Hp}
mutual
theorem Im.mono (k : ImKeep H H') : ∀ {v : V} {d : D}, Im K H v d → Im K H' v d
  | _, _, .non => .non
  | _, _, .bl b => .bl b
  | _, _, .int b => .int b
  | _, _, .str b => .str b
  | _, _, .lst h1 h2 => .lst (h1.mono k) (ImAll.mono k h2)
  | _, _, .tup h1 h2 => .tup (sqT_mono k h1) (ImAll.mono k h2)
  | _, _, .dct h1 h2 => .dct (k.frz _ _ _ h1) (DEnt.mono k h2)
theorem ImAll.mono (k : ImKeep H H') : ∀ {vs : List V} {ds : List D}, ImAll K H vs ds → ImAll K H' vs ds
  | _, _, .nil => .nil
  | _, _, .cons h1 h2 => .cons (Im.mono k h1) (ImAll.mono k h2)
theorem DEnt.mono (k : ImKeep H H') : ∀ {xs : List Ent} {kvs : List (D × D)}, DEnt K H xs kvs → DEnt K H' xs kvs
  | _, _, .nil => .nil
  | _, _, .cons h1 h2 h3 h4 h5 => .cons h1 h2 (Im.mono k h3) (Im.mono k h4) (DEnt.mono k h5)
end
theorem DEnt.up {xs : List Ent} {kvs : List (D × D)} (h : DEnt K H xs kvs) (k : ImKeep H H') : DEnt K H' xs kvs := DEnt.mono k h
theorem Im.up {v : V} {d : D} (h : Im K H v d) (k : ImKeep H H') : Im K H' v d := Im.mono k h
theorem ImAll.up {vs : List V} {ds : List D} (h : ImAll K H vs ds) (k : ImKeep H H') : ImAll K H' vs ds := ImAll.mono k h
theorem ImAll.len : ∀ {vs : List V} {ds : List D}, ImAll K H vs ds → vs.length = ds.length
  | [], [], _ => rfl
  | _ :: _, _ :: _, .cons _ h => by rw [List.length_cons, List.length_cons, h.len]
theorem ImAll.get : ∀ {vs : List V} {ds : List D} {i : Nat} {d : D}, ImAll K H vs ds → ds[i]? = some d → ∃ v, vs[i]? = some v ∧ Im K H v d
  | _, _, i, e, .nil, he => by simp at he
  | v :: vs, d :: ds, 0, e, .cons h1 h2, he => by
    have : d = e := Option.some.inj he
    subst this
    exact ⟨v, rfl, h1⟩
  | v :: vs, d :: ds, i + 1, e, .cons h1 h2, he => by
    obtain ⟨w, e1, e2⟩ := ImAll.get (i := i) h2 he
    exact ⟨w, e1, e2⟩
theorem ImAll.at : ∀ {vs : List V} {ds : List D} {i : Nat} {v : V} {d : D}, ImAll K H vs ds → vs[i]? = some v → ds[i]? = some d → Im K H v d := fun h hv hd => by
  obtain ⟨w, e1, e2⟩ := h.get hd
  rw [hv] at e1
  cases e1
  exact e2
theorem ImAll.append : ∀ {vs ws : List V} {ds es : List D}, ImAll K H vs ds → ImAll K H ws es → ImAll K H (vs ++ ws) (ds ++ es)
  | _, _, _, _, .nil, h => h
  | _, _, _, _, .cons h1 h2, h => .cons h1 (h2.append h)
theorem ImAll.take : ∀ {vs : List V} {ds : List D} (n : Nat), ImAll K H vs ds → ImAll K H (vs.take n) (ds.take n)
  | _, _, 0, _ => .nil
  | _, _, _ + 1, .nil => .nil
  | _, _, n + 1, .cons h1 h2 => .cons h1 (h2.take n)
theorem ImAll.drop : ∀ {vs : List V} {ds : List D} (n : Nat), ImAll K H vs ds → ImAll K H (vs.drop n) (ds.drop n)
  | _, _, 0, h => h
  | _, _, _ + 1, .nil => .nil
  | _, _, n + 1, .cons h1 h2 => h2.drop n
theorem ImAll.set : ∀ {vs : List V} {ds : List D} (n : Nat) {v : V} {d : D}, ImAll K H vs ds → Im K H v d → ImAll K H (vs.set n v) (ds.set n d)
  | _, _, _, _, _, .nil, _ => .nil
  | _, _, 0, _, _, .cons h1 h2, h => .cons h h2
  | _, _, n + 1, _, _, .cons h1 h2, h => .cons h1 (h2.set n h)
theorem ImAll.flat {xs : List V} {ds : List D} (h : ImAll K H xs ds) : ∀ k : Nat, ImAll K H (List.replicate k xs).flatten (List.replicate k ds).flatten
  | 0 => .nil
  | k + 1 => by
    rw [List.replicate_succ, List.replicate_succ, List.flatten_cons, List.flatten_cons]
    exact h.append (h.flat k)
mutual
theorem Im.dp : ∀ (d : D) (v : V), d.canLay0 = true → Im K H v d → Dp K H v d
  | .none, _, _, h => by cases h; exact .non
  | .bool b, _, _, h => by cases h; exact .bl b
  | .int i, _, _, h => by cases h; exact .int i
  | .str x, _, _, h => by cases h; exact .str x
  | .list ds, _, l, h => by
    cases h with
    | lst h1 h2 => exact .lst h1.sq (ImAll.dp ds _ l h2)
  | .tuple ds, _, l, h => by
    cases h with
    | tup h1 h2 => exact .tup h1 (ImAll.dp ds _ l h2)
  | .dict _, _, l, h => by cases l
theorem ImAll.dp : ∀ (ds : List D) (vs : List V), PyData.canLayAll0 ds = true → ImAll K H vs ds → DpAll K H vs ds
  | [], _, _, h => by cases h; exact .nil
  | d :: ds, _, l, h => by
    unfold PyData.canLayAll0 at l
    rw [Bool.and_eq_true] at l
    cases h with
    | cons h1 h2 => exact .cons (Im.dp d _ l.1 h1) (ImAll.dp ds _ l.2 h2)
end
/-! inversions -/
theorem Im.ofInt {v : V} {i : Int} (h : Im K H v (.int i)) : v = .int i := by cases h; rfl
theorem Im.ofBool {v : V} {b : Bool} (h : Im K H v (.bool b)) : v = .bl b := by cases h; rfl
theorem Im.ofStr {v : V} {x : Str} (h : Im K H v (.str x)) : v = .str x := by cases h; rfl
theorem Im.ofNone {v : V} (h : Im K H v .none) : v = .non := by cases h; rfl
theorem Im.ofTup {v : V} {ds : List D} (h : Im K H v (.tuple ds)) : ∃ a xs, v = .ref a ∧ SqT K H a xs ∧ ImAll K H xs ds := by cases h with | tup h1 h2 => exact ⟨_, _, rfl, h1, h2⟩
theorem Im.ofLst {v : V} {ds : List D} (h : Im K H v (.list ds)) : ∃ a xs, v = .ref a ∧ FzL K H a xs ∧ ImAll K H xs ds := by cases h with | lst h1 h2 => exact ⟨_, _, rfl, h1, h2⟩
end

/-! ### the slots' meanings -/
/-- what a slot means: data, or a list of data that belongs to this slot alone -/
inductive SV where
  | dat (d : D)
  | ol (ds : List D)
  | od (kvs : List (D × D))
  | odl (kvs : List (D × List D))
  | fn (k : Nat) (G : List D → Option D)
abbrev Rho := List (Option SV)

/-- the values are lists of the dict's own -/
inductive DLst (K : KW) (H : Hp) : List Ent → List (D × List D) → List Addr → Prop
  | nil : DLst K H [] [] []
  | cons {k : NestedKey} {ka l : Addr} {ys : List V} {dk : D} {ds : List D} {xs : List Ent} {kvs : List (D × List D)} {ls : List Addr} : kOf dk = some k → k.depth ≤ 8 → Im K H (.ref ka) dk → H l = some (.lst ys) → ImAll K H ys ds → DLst K H xs kvs ls →
      DLst K H ((k, ka, .ref l) :: xs) ((dk, ds) :: kvs) (l :: ls)
theorem DLst.up {K : KW} {H H' : Hp} (k : ImKeep H H') : ∀ {xs : List Ent} {kvs : List (D × List D)} {ls : List Addr}, DLst K H xs kvs ls → (∀ a ∈ ls, ∀ ys, H a = some (.lst ys) → H' a = some (.lst ys)) → DLst K H' xs kvs ls
  | _, _, _, .nil, _ => .nil
  | _, _, _, .cons h1 h2 h3 h4 h5 h6, e => .cons h1 h2 (h3.up k) (e _ (by simp) _ h4) (h5.up k) (h6.up k fun a ha => e a (List.mem_cons_of_mem _ ha))
theorem DLst.at {K : KW} {H : Hp} : ∀ {xs : List Ent} {kvs : List (D × List D)} {ls : List Addr}, DLst K H xs kvs ls → ∀ a ∈ ls, ∃ ys, H a = some (.lst ys)
  | _, _, _, .nil, a, h => by cases h
  | _, _, _, .cons h1 h2 h3 h4 h5 h6, a, h => by
    rcases List.mem_cons.mp h with rfl | h
    · exact ⟨_, h4⟩
    · exact h6.at a h

inductive RelS (K : KW) (H : Hp) : V → SV → List Addr → Prop
  | dat {v : V} {d : D} : Im K H v d → RelS K H v (.dat d) []
  | ol {a : Addr} {xs : List V} {ds : List D} : H a = some (.lst xs) → ImAll K H xs ds → RelS K H (.ref a) (.ol ds) [a]
  | od {a : Addr} {xs : List Ent} {kvs : List (D × D)} : H a = some (.ext (DictO K.hs a xs)) → DEnt K H xs kvs → RelS K H (.ref a) (.od kvs) [a]
  | odl {a : Addr} {xs : List Ent} {kvs : List (D × List D)} {ls : List Addr} : H a = some (.ext (DictO K.hs a xs)) → DLst K H xs kvs ls → (a :: ls).Nodup → (xs.map (·.1)).Nodup → RelS K H (.ref a) (.odl kvs) (a :: ls)
  | fn {v : V} {k : Nat} {G : List D → Option D} : K.cal k H v G → RelS K H v (.fn k G) []
theorem RelS.mut {K : KW} {H : Hp} {v : V} {sv : SV} {own : List Addr} (h : RelS K H v sv own) : ∀ a ∈ own, ∃ o, H a = some o ∧ Mut (some o) := by
  cases h with
  | dat _ => intro a z; cases z
  | fn _ => intro a z; cases z
  | ol e _ => intro a z; rw [List.mem_singleton.mp z]; exact ⟨_, e, trivial⟩
  | od e _ => intro a z; rw [List.mem_singleton.mp z]; exact ⟨_, e, trivial⟩
  | odl e l _ _ =>
    intro a z
    rcases List.mem_cons.mp z with rfl | z
    · exact ⟨_, e, trivial⟩
    · obtain ⟨ys, q⟩ := l.at a z
      exact ⟨_, q, trivial⟩
/-- what is the slot's own stays -/
theorem RelS.up {K : KW} {H H' : Hp} {v : V} {sv : SV} {own : List Addr} (h : RelS K H v sv own) (k : ImKeep H H') (e : ∀ a ∈ own, ∀ o, H a = some o → (∀ ps, o ≠ .tbl ps) → H' a = some o) : RelS K H' v sv own := by
  cases h with
  | dat h => exact .dat (h.up k)
  | fn h => exact .fn (K.cup k h)
  | ol h1 h2 => exact .ol (e _ (by simp) _ h1 fun _ z => by cases z) (h2.up k)
  | od h1 h2 => exact .od (e _ (by simp) _ h1 fun _ z => by cases z) (h2.up k)
  | odl h1 h2 h3 h4 => exact .odl (e _ (by simp) _ h1 fun _ z => by cases z) (h2.up k fun a ha ys q => e a (List.mem_cons_of_mem _ ha) _ q fun _ z => by cases z) h3 h4

abbrev Tb := List (Addr × Str)
/-- what a step leaves: all that was tracked, but what stands at B and the tables -/
structure Kp (T : Tb) (B : Addr → Prop) (H H' : Hp) : Prop where
  tbl : ∀ b ps, H b = some (.tbl ps) → ∃ more, H' b = some (.tbl (ps ++ more))
  ext : ∀ b o, H b = some o → ¬ B b → (∀ ps, o ≠ .tbl ps) → H' b = some o
  there : ∀ b o, H b = some o → ∃ o', H' b = some o'
  imm : ImKeep H H'
  tb : LamX.Tabs T H → LamX.Tabs T H'
abbrev B0 : Addr → Prop := fun _ => False
abbrev B1 (a : Addr) : Addr → Prop := fun b => b = a
section
variable {T : Tb} {B B' : Addr → Prop} {H H1 H2 H' : Hp}
theorem Kp.refl (T : Tb) (B : Addr → Prop) (H : Hp) : Kp T B H H := ⟨fun b ps h => ⟨#[], by simpa using h⟩, fun _ _ h _ _ => h, fun _ o h => ⟨o, h⟩, ImKeep.refl H, fun h => h⟩
theorem Kp.ofSame (e : Same H H') : Kp T B H H' := ⟨fun b ps h => ⟨#[], by simpa using e b _ h⟩, fun b o h _ _ => e b o h, fun b o h => ⟨o, e b o h⟩, .ofSame e, fun t => LamX.Tabs.ext t e⟩
/-- one behind another: what the second may change was the first's to change, or was not there -/
theorem Kp.trans (a : Kp T B H H1) (b : Kp T B' H1 H2) (h : ∀ c, B' c → B c ∨ H c = none) : Kp T B H H2 :=
  ⟨fun c ps h => by
    obtain ⟨m1, h1⟩ := a.tbl c ps h
    obtain ⟨m2, h2⟩ := b.tbl c _ h1
    exact ⟨m1 ++ m2, by rw [h2, Array.append_assoc]⟩, fun c o e n m => b.ext c o (a.ext c o e n m) (fun z => (h c z).elim n (fun q => by rw [q] at e; cases e)) m, fun c o e => by
    obtain ⟨o1, e1⟩ := a.there c o e
    exact b.there c o1 e1, a.imm.trans b.imm, fun h => b.tb (a.tb h)⟩
theorem Kp.sub (a : Kp T B H H') (h : ∀ b, B b → B' b ∨ H b = none) : Kp T B' H H' :=
  ⟨a.tbl, fun b o e n m => a.ext b o e (fun z => (h b z).elim n (fun q => by rw [q] at e; cases e)) m, a.there, a.imm, a.tb⟩
theorem Kp.new {p : Addr} {o : HO} (h : H p = none) : Kp T B H (upd H p o) := .ofSame fun b u e => by rw [upd_ne (ne_of_none e h)]; exact e
theorem Kp.free (a : Kp T B H H') {p : Addr} (h : H' p = none) : H p = none := by
  cases q : H p with
  | none => rfl
  | some o =>
    obtain ⟨o', e⟩ := a.there p o q
    rw [h] at e
    cases e
/-- a mutable thing is written -/
theorem Kp.write {a : Addr} {u o : HO} (h : H a = some u) (mu : Mut (some u)) (ht : ∀ q, u ≠ LamX.CodeO a q) : Kp T (B1 a) H (upd H a o) :=
  ⟨fun b ps e => ⟨#[], by rw [upd_ne (fun z => by rw [z, h] at e; cases e; exact mu)]; simpa using e⟩, fun b w e n _ => by rw [upd_ne n]; exact e, fun b w e => by
    by_cases z : b = a
    · exact ⟨o, by rw [z, upd_same]⟩
    · exact ⟨w, by rw [upd_ne z]; exact e⟩, .mut h mu ht, fun t p hp => by
      obtain ⟨ps, t1, t2, t3⟩ := t p hp
      refine ⟨ps, by rw [upd_ne (fun z => by rw [z, h] at t1; cases t1; exact mu)]; exact t1, t2, fun pos cv hc => ?_⟩
      obtain ⟨c, c1, c2⟩ := t3 pos cv hc
      refine ⟨c, c1, ?_⟩
      rw [upd_ne (fun z => by rw [z, h] at c2; exact ht _ (Option.some.inj c2))]
      exact c2⟩
end
theorem lst_code {xs : List V} {a : Addr} : ∀ q, HO.lst xs ≠ LamX.CodeO a q := fun q z => by unfold LamX.CodeO at z; cases z

/-- T: the tables of code objects; n: how many slots; pn: the first slots, whose names are not stored -/
structure Gx where
  T : Tb
  n : Nat
  pn : Nat
def okSlot (g : Gx) (i : Nat) : Bool := decide (i < g.n) && decide (g.pn ≤ i)
theorem okSlot.lt {g : Gx} {i : Nat} (h : okSlot g i = true) : i < g.n := by
  unfold okSlot at h
  simp at h
  exact h.1
theorem okSlot.le {g : Gx} {i : Nat} (h : okSlot g i = true) : g.pn ≤ i := by
  unfold okSlot at h
  simp at h
  exact h.2
abbrev Own := Nat → List Addr
abbrev InO (own : Own) (a : Addr) : Prop := ∃ i, a ∈ own i
def Holds (K : KW) (H : Hp) (v : Option (Option V)) (sv : Option (Option SV)) (own : List Addr) : Prop := match sv with
  | some (some sv) => ∃ w, v = some (some w) ∧ RelS K H w sv own
  | _ => own = []
structure RelE (K : KW) (g : Gx) (σ : L2.St) (ρ : Rho) (own : Own) (H : Hp) : Prop where
  tb : LamX.Tabs g.T H
  len : σ.length = g.n
  dj : ∀ i j a, a ∈ own i → a ∈ own j → i = j
  ct : ∀ i : Nat, Holds K H σ[i]? ρ[i]? (own i)
/-- a step -/
structure Go (K : KW) (g : Gx) (σ : L2.St) (own : Own) (H : Hp) (σ' : L2.St) (ρ' : Rho) (own' : Own) (H' : Hp) : Prop where
  kp : Kp g.T (InO own) H H'
  sub : ∀ a, InO own' a → InO own a ∨ H a = none
  pin : ∀ j, j < g.pn → σ'[j]? = σ[j]?
  rel : RelE K g σ' ρ' own' H'
section
variable {K : KW} {g : Gx} {σ σ1 σ2 : L2.St} {ρ ρ1 ρ2 : Rho} {own own1 own2 : Own} {H H1 H2 H' : Hp}
theorem Go.refl (r : RelE K g σ ρ own H) : Go K g σ own H σ ρ own H := ⟨Kp.refl _ _ _, fun _ h => .inl h, fun _ _ => rfl, r⟩
theorem Go.trans (a : Go K g σ own H σ1 ρ1 own1 H1) (b : Go K g σ1 own1 H1 σ2 ρ2 own2 H2) : Go K g σ own H σ2 ρ2 own2 H2 :=
  ⟨a.kp.trans b.kp a.sub, fun c h => (b.sub c h).elim (a.sub c) (fun z => .inr (a.kp.free z)), fun j h => (b.pin j h).trans (a.pin j h), b.rel⟩
theorem Go.im (a : Go K g σ own H σ1 ρ1 own1 H1) {v : V} {d : D} (h : Im K H v d) : Im K H1 v d := h.up a.kp.imm
theorem Go.ims (a : Go K g σ own H σ1 ρ1 own1 H1) {v : List V} {d : List D} (h : ImAll K H v d) : ImAll K H1 v d := h.up a.kp.imm
theorem RelE.mut (r : RelE K g σ ρ own H) {a : Addr} (h : InO own a) : ∃ o, H a = some o ∧ Mut (some o) := by
  obtain ⟨i, hi⟩ := h
  have c := r.ct i
  unfold Holds at c
  split at c
  · obtain ⟨w, _, rs⟩ := c
    exact rs.mut a hi
  · rw [c] at hi
    cases hi
theorem RelE.notIn (r : RelE K g σ ρ own H) {a : Addr} (h : H a = none) : ¬ InO own a := fun z => by
  obtain ⟨o, e, _⟩ := r.mut z
  rw [h] at e
  cases e
theorem RelS.keep {v : V} {sv : SV} {ow : List Addr} (h : RelS K H v sv ow) (k : Kp g.T B0 H H') : RelS K H' v sv ow := h.up k.imm fun a _ o q n => k.ext a o q (fun z => z) n
theorem Holds.map {v : Option (Option V)} {sv : Option (Option SV)} {ow : List Addr} (h : Holds K H v sv ow) (f : ∀ w s, RelS K H w s ow → RelS K H' w s ow) : Holds K H' v sv ow := by
  unfold Holds at h ⊢
  split at h
  · obtain ⟨w, e, r⟩ := h
    exact ⟨w, e, f w _ r⟩
  · exact h
/-- nothing that belongs to a slot is changed -/
theorem RelE.keep (r : RelE K g σ ρ own H) (k : Kp g.T B0 H H') : RelE K g σ ρ own H' := ⟨k.tb r.tb, r.len, r.dj, fun i => (r.ct i).map fun w s h => h.keep k⟩
theorem RelE.go (r : RelE K g σ ρ own H) (k : Kp g.T B0 H H') : Go K g σ own H σ ρ own H' := ⟨k.sub (fun _ z => z.elim), fun _ h => .inl h, fun _ _ => rfl, r.keep k⟩
theorem RelE.goSame (r : RelE K g σ ρ own H) (e : Same H H') : Go K g σ own H σ ρ own H' := r.go (.ofSame e)
theorem RelE.goNew (r : RelE K g σ ρ own H) {p : Addr} {o : HO} (h : H p = none) : Go K g σ own H σ ρ own (upd H p o) := r.go (.new h)
/-- what belongs to none of the slots is written -/
theorem RelE.off (r : RelE K g σ ρ own H) {a : Addr} (n : ¬ InO own a) (k : Kp g.T (B1 a) H H') : RelE K g σ ρ own H' := by
  refine ⟨k.tb r.tb, r.len, r.dj, fun i => (r.ct i).map fun w s rs => ?_⟩
  exact rs.up k.imm fun b hb o q m => k.ext b o q (fun z => n ⟨i, by rw [← z]; exact hb⟩) m
/-- the own lists of slot i are these from now on -/
def Own.set (own : Own) (i : Nat) (l : List Addr) : Own := fun j => if j = i then l else own j
theorem Own.set_i {i : Nat} {l : List Addr} : own.set i l i = l := if_pos rfl
theorem Own.set_ne {i j : Nat} {l : List Addr} (h : j ≠ i) : own.set i l j = own j := if_neg h
/-- a slot takes a meaning -/
theorem RelE.put (r : RelE K g σ ρ own H) {i : Nat} {v : V} {sv : SV} {ow : List Addr} (hk : okSlot g i = true) (h : RelS K H v sv ow) (hd : ∀ a ∈ ow, ∀ j, j ≠ i → a ∉ own j) :
    RelE K g (σ.set i (some v)) (ρ.set i (some sv)) (own.set i (if i < ρ.length then ow else [])) H := by
  have hi : i < σ.length := by rw [r.len]; exact okSlot.lt hk
  refine ⟨r.tb, (List.length_set ..).trans r.len, fun j l a hj hl => ?_, fun j => ?_⟩
  · by_cases ej : j = i
    · subst ej
      rw [Own.set_i] at hj
      by_cases el : l = j
      · exact el.symm
      · rw [Own.set_ne el] at hl
        split at hj
        · exact absurd hl (hd a hj l el)
        · cases hj
    · rw [Own.set_ne ej] at hj
      by_cases el : l = i
      · subst el
        rw [Own.set_i] at hl
        split at hl
        · exact absurd hj (hd a hl j ej)
        · cases hl
      · rw [Own.set_ne el] at hl
        exact r.dj j l a hj hl
  · by_cases ej : j = i
    · subst ej
      rw [Own.set_i]
      by_cases hl : j < ρ.length
      · rw [if_pos hl, List.getElem?_set_self hl, List.getElem?_set_self hi]
        exact ⟨v, rfl, h⟩
      · have e : (ρ.set j (some sv))[j]? = none := List.getElem?_eq_none (by rw [List.length_set]; omega)
        rw [if_neg hl, e]
        rfl
    · rw [Own.set_ne ej, List.getElem?_set_ne (Ne.symm ej), List.getElem?_set_ne (Ne.symm ej)]
      exact r.ct j
theorem set_sub {i : Nat} {ow : List Addr} {a : Addr} (h : InO (own.set i ow) a) : InO own a ∨ a ∈ ow := by
  obtain ⟨j, hj⟩ := h
  by_cases e : j = i
  · rw [e, Own.set_i] at hj
    exact .inr hj
  · rw [Own.set_ne e] at hj
    exact .inl ⟨j, hj⟩
theorem if_mem {c : Prop} [Decidable c] {ow : List Addr} {a : Addr} (h : a ∈ (if c then ow else [])) : a ∈ ow := by
  split at h
  · exact h
  · cases h
/-- a name is stored: data -/
theorem RelE.set (r : RelE K g σ ρ own H) {i : Nat} {v : V} {d : D} (hk : okSlot g i = true) (h : Im K H v d) : ∃ own', Go K g σ own H (σ.set i (some v)) (ρ.set i (some (.dat d))) own' H :=
  ⟨_, ⟨Kp.refl _ _ _, fun a z => (set_sub z).elim .inl (fun z => absurd (if_mem z) (by simp)), fun j hj => List.getElem?_set_ne (by have := okSlot.le hk; omega), r.put hk (.dat h) (fun a z => absurd z (by simp))⟩⟩
/-- a new list -/
theorem RelE.setO (r : RelE K g σ ρ own H) {i : Nat} {p : Addr} {xs : List V} {es : List D} (hk : okSlot g i = true) (k : Kp g.T B0 H H1) (hn : H p = none) (hp : H1 p = some (.lst xs)) (h : ImAll K H1 xs es) :
    ∃ own', Go K g σ own H (σ.set i (some (.ref p))) (ρ.set i (some (.ol es))) own' H1 :=
  ⟨_, ⟨k.sub (fun _ z => z.elim), fun a z => (set_sub z).elim .inl (fun z => .inr (by rw [List.mem_singleton.mp (if_mem z)]; exact hn)), fun j hj => List.getElem?_set_ne (by have := okSlot.le hk; omega),
    (r.keep k).put hk (.ol hp h) (fun a z j _ hj => r.notIn hn ⟨j, by rw [List.mem_singleton.mp z] at hj; exact hj⟩)⟩⟩
theorem RelE.dat (r : RelE K g σ ρ own H) {j : Nat} {d : D} (h : ρ[j]? = some (some (.dat d))) : ∃ v, σ[j]? = some (some v) ∧ Im K H v d := by
  have c := r.ct j
  rw [h] at c
  obtain ⟨v, e, rs⟩ := c
  generalize own j = oj at rs
  cases rs with
  | dat i => exact ⟨v, e, i⟩
theorem RelE.ownAt (r : RelE K g σ ρ own H) {j : Nat} {es : List D} (h : ρ[j]? = some (some (.ol es))) : ∃ a xs, σ[j]? = some (some (.ref a)) ∧ H a = some (.lst xs) ∧ ImAll K H xs es ∧ own j = [a] := by
  have c := r.ct j
  rw [h] at c
  obtain ⟨v, e, rs⟩ := c
  generalize ho : own j = oj at rs
  cases rs with
  | ol i1 i2 => exact ⟨_, _, e, i1, i2, rfl⟩
/-- slot j's own list at a is changed (to a list, or to something frozen) -/
theorem RelE.turn (r : RelE K g σ ρ own H) {j : Nat} {es : List D} {a : Addr} {sv : SV} {ow : List Addr} (h : ρ[j]? = some (some (.ol es))) (hs : σ[j]? = some (some (.ref a))) (k : Kp g.T (B1 a) H H') (h1 : RelS K H' (.ref a) sv ow) (ho : ∀ b ∈ ow, b = a) :
    Go K g σ own H σ (ρ.set j (some sv)) (own.set j ow) H' := by
  obtain ⟨a', xs, e1, e2, e3, e4⟩ := r.ownAt h
  rw [hs] at e1
  cases e1
  have hin : InO own a := ⟨j, by rw [e4]; simp⟩
  have hl : j < ρ.length := (List.getElem?_eq_some_iff.mp h).1
  refine ⟨k.sub (fun b z => .inl (by rw [z]; exact hin)), fun b z => (set_sub z).elim .inl (fun z => .inl (by rw [ho b z]; exact hin)), fun _ _ => rfl, k.tb r.tb, r.len, fun i l b hi hl => ?_, fun i => ?_⟩
  · by_cases ei : i = j
    · subst ei
      rw [Own.set_i] at hi
      by_cases el : l = i
      · exact el.symm
      · rw [Own.set_ne el] at hl
        rw [ho b hi] at hl
        exact (r.dj l i a hl (by rw [e4]; simp)).symm
    · rw [Own.set_ne ei] at hi
      by_cases el : l = j
      · subst el
        rw [Own.set_i] at hl
        rw [ho b hl] at hi
        exact r.dj i l a hi (by rw [e4]; simp)
      · rw [Own.set_ne el] at hl
        exact r.dj i l b hi hl
  · by_cases ei : i = j
    · subst ei
      rw [Own.set_i, List.getElem?_set_self hl, hs]
      exact ⟨_, rfl, h1⟩
    · rw [Own.set_ne ei, List.getElem?_set_ne (Ne.symm ei)]
      refine (r.ct i).map fun w s rs => ?_
      exact rs.up k.imm fun b hb o q m => k.ext b o q (fun z => ei (r.dj i j a (by rw [← z]; exact hb) (by rw [e4]; simp))) m
/-- the list of slot j is changed -/
theorem RelE.change (r : RelE K g σ ρ own H) {j : Nat} {es es' : List D} {a : Addr} {xs' : List V} (h : ρ[j]? = some (some (.ol es))) (hs : σ[j]? = some (some (.ref a))) (k : Kp g.T (B1 a) H H') (h1 : H' a = some (.lst xs')) (h2 : ImAll K H' xs' es') :
    ∃ own', Go K g σ own H σ (ρ.set j (some (.ol es'))) own' H' := ⟨_, r.turn h hs k (.ol h1 h2) (fun b z => List.mem_singleton.mp z)⟩
/-- the list of slot j is data from now on -/
theorem RelE.freeze (r : RelE K g σ ρ own H) {j : Nat} {es : List D} {a : Addr} {xs : List V} (h : ρ[j]? = some (some (.ol es))) (hs : σ[j]? = some (some (.ref a))) (h1 : H a = some (.lst xs)) (h2 : ImAll K H xs es) (o : Obj) :
    (∃ own', Go K g σ own H σ (ρ.set j (some (.dat (.list es)))) own' (upd H a (.frz o (.lst xs)))) ∧ Im K (upd H a (.frz o (.lst xs))) (.ref a) (.list es) := by
  have im : Im K (upd H a (.frz o (.lst xs))) (.ref a) (.list es) := .lst (.inl ⟨o, upd_same⟩) (h2.up (.mut h1 trivial lst_code))
  exact ⟨⟨_, r.turn h hs (.write h1 trivial lst_code) (.dat im) (fun b z => absurd z (by simp))⟩, im⟩
end
section
variable {K K' : KW} {H : Hp}
theorem FzL.cast (hf : K.f = K'.f) {a : Addr} {xs : List V} (h : FzL K H a xs) : FzL K' H a xs := by
  unfold FzL at h ⊢
  rw [← hf]
  exact h
mutual
theorem Im.cast (hf : K.f = K'.f) (hh : K.hs = K'.hs) : ∀ {v : V} {d : D}, Im K H v d → Im K' H v d
  | _, _, .non => .non
  | _, _, .bl b => .bl b
  | _, _, .int b => .int b
  | _, _, .str b => .str b
  | _, _, .lst h1 h2 => .lst (h1.cast hf) (ImAll.cast hf hh h2)
  | _, _, .tup h1 h2 => .tup (by rw [← hf]; exact h1) (ImAll.cast hf hh h2)
  | _, _, .dct h1 h2 => .dct (by rw [← hh]; exact h1) (DEnt.cast hf hh h2)
theorem ImAll.cast (hf : K.f = K'.f) (hh : K.hs = K'.hs) : ∀ {vs : List V} {ds : List D}, ImAll K H vs ds → ImAll K' H vs ds
  | _, _, .nil => .nil
  | _, _, .cons h1 h2 => .cons (Im.cast hf hh h1) (ImAll.cast hf hh h2)
theorem DEnt.cast (hf : K.f = K'.f) (hh : K.hs = K'.hs) : ∀ {xs : List Ent} {kvs : List (D × D)}, DEnt K H xs kvs → DEnt K' H xs kvs
  | _, _, .nil => .nil
  | _, _, .cons h1 h2 h3 h4 h5 => .cons h1 h2 (Im.cast hf hh h3) (Im.cast hf hh h4) (DEnt.cast hf hh h5)
end
end
/-- v may be called with data, by at most level k; G tells what it gives -/
def Callable (P : Program) (w : World) (F : PySem.W.Frag) (mg : Str → Option Value) (base : Heap) (k : Nat) (H : Hp) (v : V) (G : List D → Option D) : Prop := ∃ f, v = .ref f ∧
  (∀ (A : Around) (outer : List Env) (s : Shared) (H' : Hp), ImKeep H H' → Env0 P w F mg base A outer s H' → PySem.W.FnAt f s.heap) ∧
  ∀ (T : Tb) (A : Around) (outer : List Env) (s : Shared) (H' : Hp) (Q : VK) (E : XK) (us : List Value) (vs : List V) (ds : List D) (d : D), ImKeep H H' → Room k A → Env0 P w F mg base A outer s H' → Vals vs us → ImAll (kw0 P w F) H' vs ds → G ds = some d → LamX.Tabs T H' →
    (∀ v' H'', Kp T B0 H' H'' → LamX.Tabs T H'' → Im (kw0 P w F) H'' v' d → Q v' H'') → codeAny (model P w) A (.call (.ref f) ⟨us, []⟩) (CR CX0 outer P w H' s Q E) s
theorem Callable.up {P : Program} {w : World} {F : PySem.W.Frag} {mg : Str → Option Value} {base : Heap} {k : Nat} {H H' : Hp} {v : V} {G : List D → Option D} (i : ImKeep H H') (h : Callable P w F mg base k H v G) : Callable P w F mg base k H' v G := by
  obtain ⟨f, e, h1, h2⟩ := h
  exact ⟨f, e, fun A outer s H'' i' => h1 A outer s H'' (i.trans i'), fun T A outer s H'' Q E us vs ds d i' => h2 T A outer s H'' Q E us vs ds d (i.trans i')⟩
abbrev kw (P : Program) (w : World) (K : PySem.W.Frag) (mg : Str → Option Value) (base : Heap) : KW := ⟨K, (nestedKind P w).hash, Callable P w K mg base, Callable.up⟩
abbrev xkw (X : Cx) : KW := kw X.prog X.w X.K X.mg X.base
end VS

namespace VS
open PySem PySem.Spec PyProof.Rows L2

/-! ### meanings -/
abbrev M (α : Type) := Rho → Option (α × Rho)
def eVar (i : Nat) : M D := fun ρ => match ρ[i]? with
  | some (some (.dat d)) => some (d, ρ)
  | _ => none
def eC (d : D) : M D := fun ρ => some (d, ρ)
def e1 {α β : Type} (op : α → Option β) (a : M α) : M β := fun ρ => match a ρ with
  | some (x, ρ1) => (match op x with | some z => some (z, ρ1) | none => none)
  | none => none
def e2 (op : D → D → Option D) (a b : M D) : M D := fun ρ => match a ρ with
  | some (x, ρ1) => (match b ρ1 with
    | some (y, ρ2) => (match op x y with | some z => some (z, ρ2) | none => none)
    | none => none)
  | none => none
def eIf (c : M Bool) (a b : M D) : M D := fun ρ => match c ρ with
  | some (true, ρ1) => a ρ1
  | some (false, ρ1) => b ρ1
  | none => none
def asB : D → Option Bool
  | .bool b => some b
  | _ => none
def eAnd (a b : M D) : M D := fun ρ => match a ρ with
  | some (.bool true, ρ1) => b ρ1
  | some (.bool false, ρ1) => some (.bool false, ρ1)
  | _ => none
def eOr (a b : M D) : M D := fun ρ => match a ρ with
  | some (.bool true, ρ1) => some (.bool true, ρ1)
  | some (.bool false, ρ1) => b ρ1
  | _ => none
def tAndM (a b : M Bool) : M Bool := fun ρ => match a ρ with
  | some (true, ρ1) => b ρ1
  | some (false, ρ1) => some (false, ρ1)
  | none => none
def tOrM (a b : M Bool) : M Bool := fun ρ => match a ρ with
  | some (true, ρ1) => some (true, ρ1)
  | some (false, ρ1) => b ρ1
  | none => none
def dNot : D → Option D
  | .bool b => some (.bool (!b))
  | _ => none
def tNotB : Bool → Option Bool := fun b => some (!b)
def aNil : M (List D) := fun ρ => some ([], ρ)
def aCons (a : M D) (b : M (List D)) : M (List D) := fun ρ => match a ρ with
  | some (x, ρ1) => (match b ρ1 with | some (xs, ρ2) => some (x :: xs, ρ2) | none => none)
  | none => none

/-! ### readings by meanings -/
def xE (K : KW) (g : Gx) (f : M D) : TE := fun σ H Q => ∃ ρ own d ρ', f ρ = some (d, ρ') ∧ RelE K g σ ρ own H ∧ ∀ v own' H', Go K g σ own H σ ρ' own' H' → Im K H' v d → Q v H'
def xT (K : KW) (g : Gx) (f : M Bool) : TT := fun σ H Q => ∃ ρ own b ρ', f ρ = some (b, ρ') ∧ RelE K g σ ρ own H ∧ ∀ own' H', Go K g σ own H σ ρ' own' H' → Q b H'
def xA (K : KW) (g : Gx) (f : M (List D)) : TA := fun σ H Q => ∃ ρ own ds ρ', f ρ = some (ds, ρ') ∧ RelE K g σ ρ own H ∧ ∀ vs own' H', Go K g σ own H σ ρ' own' H' → ImAll K H' vs ds → Q vs H'
abbrev QE (X : Cx) (g : Gx) (e : Expr) (f : M D) : Prop := PE X e (xE (xkw X) g f)
abbrev QT (X : Cx) (g : Gx) (e : Expr) (f : M Bool) : Prop := PT X e (xT (xkw X) g f)
abbrev QA (X : Cx) (g : Gx) (es : List Expr) (f : M (List D)) : Prop := PA X es (xA (xkw X) g f)
/-- and, or of any length -/
abbrev QW (X : Cx) (g : Gx) (e : Expr) (f : M Bool) : Prop := PW X e (xT (xkw X) g f)

theorem pe_conv {X : Cx} {e : Expr} {t t' : TE} (h : PE X e t) (c : ∀ σ H Q, t' σ H Q → t σ H Q) : PE X e t' := ⟨fun pins s σ H Q I q => h.run pins s σ H Q I (c σ H Q q)⟩
theorem pt_conv {X : Cx} {e : Expr} {t t' : TT} (h : PT X e t) (c : ∀ σ H Q, t' σ H Q → t σ H Q) : PT X e t' := ⟨fun pins s σ H Q I q => h.run pins s σ H Q I (c σ H Q q)⟩
theorem pw_conv {X : Cx} {e : Expr} {t t' : TT} (h : PW X e t) (c : ∀ σ H Q, t' σ H Q → t σ H Q) : PW X e t' := ⟨fun wh pins s σ H Q I q => h.run wh pins s σ H Q I (c σ H Q q)⟩
theorem pa_conv {X : Cx} {es : List Expr} {t t' : TA} (h : PA X es t) (c : ∀ σ H Q, t' σ H Q → t σ H Q) : PA X es t' := ⟨fun pos pins s σ H Q I q => h.run pos pins s σ H Q I (c σ H Q q)⟩

/-! ### a new list is frozen -/
/-- the end Q, or a new list that Q wants frozen -/
def Fin (v : V) (H : Hp) (Q : VK) : Prop := Q v H ∨ ∃ a xs, v = .ref a ∧ H a = some (.lst xs) ∧ ∀ o, Q v (upd H a (.frz o (.lst xs)))
theorem ep_fin {X : Cx} {pins : List (Addr × Obj)} {σ : L2.St} {Q : VK} {u : Value} {s : Shared} (h : EP X pins σ (fun v H => Fin v H Q) u s) : EP X pins σ Q u s := by
  obtain ⟨v, H, I, r, h⟩ := h
  rcases h with h | ⟨a, xs, rfl, e, h⟩
  · exact ⟨v, H, I, r, h⟩
  · obtain ⟨o, I2⟩ := I.lock e trivial
    exact ⟨_, _, I2, r, h o⟩
def tFz (t : TE) : TE := fun σ H Q => t σ H fun v H1 => Fin v H1 Q
theorem pe_fz {X : Cx} {e : Expr} {t : TE} (h : PE X e t) : PE X e (tFz t) := ⟨fun pins s σ H Q I q => thn (h.run pins s σ H _ I q) fun _ _ q => ep_fin q⟩

/-- what an operation on data gives -/
def Out (K : KW) (H : Hp) (d : D) (Q : VK) : Prop := ∀ v H', Same H H' → Im K H' v d → Q v H'
theorem Out.same {K : KW} {H : Hp} {d : D} {Q : VK} (q : Out K H d Q) {v : V} (h : Im K H v d) : Fin v H Q := .inl (q v H (Same.refl H) h)
theorem Out.lst {K : KW} {H : Hp} {ds : List D} {Q : VK} (q : Out K H (.list ds) Q) {p : Addr} {xs : List V} (hn : H p = none) (h : ImAll K H xs ds) : Fin (.ref p) (upd H p (.lst xs)) Q := by
  refine .inr ⟨p, xs, rfl, upd_same, fun o => ?_⟩
  rw [upd_upd]
  exact q _ _ (fun b u e => by rw [upd_ne (ne_of_none e hn)]; exact e) (.lst (.inl ⟨o, upd_same⟩) (h.up (.new hn)))
theorem Out.tup {K : KW} {H : Hp} {ds : List D} {Q : VK} (q : Out K H (.tuple ds) Q) {p : Addr} {xs : List V} (hn : H p = none) (h : ImAll K H xs ds) : Fin (.ref p) (upd H p (.tup xs)) Q :=
  .inl (q _ _ (fun b u e => by rw [upd_ne (ne_of_none e hn)]; exact e) (.tup (.of upd_same) (h.up (.new hn))))
theorem Out.int {K : KW} {H : Hp} {i : Int} {Q : VK} (q : Out K H (.int i) Q) : Fin (.int i) H Q := q.same (.int i)
theorem Out.bl {K : KW} {H : Hp} {b : Bool} {Q : VK} (q : Out K H (.bool b) Q) : Fin (.bl b) H Q := q.same (.bl b)
theorem Out.str {K : KW} {H : Hp} {x : Str} {Q : VK} (q : Out K H (.str x) Q) : Fin (.str x) H Q := q.same (.str x)

section
variable {X : Cx} {g : Gx} {a b c e : Expr} {fa fb fc : M D} {pos : Pos}

/-- an operation of one, of two values -/
def Op2 (X : Cx) (op : Value → Value → Sem Value) (f : D → D → Option D) : Prop := ∃ r, OpR X op r ∧ ∀ x y dx dy dz H Q, Im (xkw X) H x dx → Im (xkw X) H y dy → f dx dy = some dz → Out (xkw X) H dz Q → r x y H fun v H' => Fin v H' Q
def Ix2 (X : Cx) (f : D → D → Option D) : Prop := ∃ r, IxR X r ∧ ∀ x y dx dy dz H Q, Im (xkw X) H x dx → Im (xkw X) H y dy → f dx dy = some dz → Out (xkw X) H dz Q → r x y H fun v H' => Fin v H' Q
def Un1 (X : Cx) (op : Value → Sem Value) (f : D → Option D) : Prop := ∃ r, UnR X op r ∧ ∀ x dx dz H Q, Im (xkw X) H x dx → f dx = some dz → Out (xkw X) H dz Q → r x H fun v H' => Fin v H' Q
def Fn1 (X : Cx) (fn : Value) (f : List D → Option D) : Prop := ∃ r, CallR X fn r ∧ ∀ vs ds dz H Q, ImAll (xkw X) H vs ds → f ds = some dz → Out (xkw X) H dz Q → r vs H fun v H' => Fin v H' Q

theorem e2_some {op : D → D → Option D} {fa fb : M D} {ρ ρ' : Rho} {d : D} (h : e2 op fa fb ρ = some (d, ρ')) : ∃ x ρ1 y, fa ρ = some (x, ρ1) ∧ fb ρ1 = some (y, ρ') ∧ op x y = some d := by
  unfold e2 at h
  cases h1 : fa ρ with
  | none => rw [h1] at h; cases h
  | some p =>
    obtain ⟨x, ρ1⟩ := p
    rw [h1] at h
    cases h2 : fb ρ1 with
    | none => simp only [h2] at h; cases h
    | some q =>
      obtain ⟨y, ρ2⟩ := q
      simp only [h2] at h
      cases h3 : op x y with
      | none => simp only [h3] at h; cases h
      | some z =>
        simp only [h3] at h
        cases h
        exact ⟨x, ρ1, y, rfl, h2, h3⟩
theorem e1_some {α β : Type} {op : α → Option β} {fa : M α} {ρ ρ' : Rho} {d : β} (h : e1 op fa ρ = some (d, ρ')) : ∃ x, fa ρ = some (x, ρ') ∧ op x = some d := by
  unfold e1 at h
  cases h1 : fa ρ with
  | none => rw [h1] at h; cases h
  | some p =>
    obtain ⟨x, ρ1⟩ := p
    rw [h1] at h
    cases h3 : op x with
    | none => simp only [h3] at h; cases h
    | some z =>
      simp only [h3] at h
      cases h
      exact ⟨x, rfl, h3⟩
theorem aCons_some {fa : M D} {fb : M (List D)} {ρ ρ' : Rho} {ds : List D} (h : aCons fa fb ρ = some (ds, ρ')) : ∃ x ρ1 xs, fa ρ = some (x, ρ1) ∧ fb ρ1 = some (xs, ρ') ∧ ds = x :: xs := by
  unfold aCons at h
  cases h1 : fa ρ with
  | none => rw [h1] at h; cases h
  | some p =>
    obtain ⟨x, ρ1⟩ := p
    rw [h1] at h
    cases h2 : fb ρ1 with
    | none => simp only [h2] at h; cases h
    | some q =>
      obtain ⟨y, ρ2⟩ := q
      simp only [h2] at h
      cases h
      exact ⟨x, ρ1, y, rfl, h2, rfl⟩
/-- two values one behind the other, then an operation -/
theorem two_of {op : D → D → Option D} {r : R2} {K : KW} (hr : ∀ x y dx dy dz H Q, Im K H x dx → Im K H y dy → op dx dy = some dz → Out K H dz Q → r x y H fun v H' => Fin v H' Q) :
    ∀ σ H Q, xE K g (e2 op fa fb) σ H Q → tFz (tOp r (xE K g fa) (xE K g fb)) σ H Q := by
  rintro σ H Q ⟨ρ, own, d, ρ', h, R, k⟩
  obtain ⟨x, ρ1, y, h1, h2, h3⟩ := e2_some h
  refine ⟨ρ, own, x, ρ1, h1, R, fun v ow1 H1 k1 i1 => ⟨ρ1, ow1, y, ρ', h2, k1.rel, fun w ow2 H2 k2 i2 => ?_⟩⟩
  exact hr v w x y d H2 Q (k2.im i1) i2 h3 fun z H3 s i3 => k z ow2 H3 ((k1.trans k2).trans (k2.rel.goSame s)) i3
theorem q_bin {op : Operator} {f : D → D → Option D} (ho : Op2 X (binaryOp op) f) (ha : QE X g a fa) (hb : QE X g b fb) : QE X g (.BinOp a op b pos) (e2 f fa fb) := by
  obtain ⟨r, h1, h2⟩ := ho
  exact pe_conv (pe_fz (pe_op h1 ha hb)) (two_of h2)
theorem q_cmp {op : CmpOp} {f : D → D → Option D} (ho : Op2 X (compareOp op) f) (ha : QE X g a fa) (hb : QE X g b fb) (hm : behindInMarks op b = false := by first | exact nomark _ | rfl) : QE X g (.Compare a [op] [b] pos) (e2 f fa fb) := by
  obtain ⟨r, h1, h2⟩ := ho
  exact pe_conv (pe_fz (pe_cmpR h1 ha hb hm)) (two_of h2)
theorem q_ix {f : D → D → Option D} (ho : Ix2 X f) (ha : QE X g a fa) (hb : QE X g b fb) (hs : PlainIx b := by exact fun _ _ => rfl) : QE X g (.Subscript a b pos) (e2 f fa fb) := by
  obtain ⟨r, h1, h2⟩ := ho
  exact pe_conv (pe_fz (pe_ix h1 ha hb hs)) (two_of h2)
theorem q_un {op : UnaryOp} {f : D → Option D} (ho : Un1 X (unaryOp op) f) (ha : QE X g a fa) : QE X g (.UnaryOp op a pos) (e1 f fa) := by
  obtain ⟨r, h1, h2⟩ := ho
  refine pe_conv (pe_fz (pe_un h1 ha)) ?_
  rintro σ H Q ⟨ρ, own, d, ρ', h, R, k⟩
  obtain ⟨x, h3, h4⟩ := e1_some h
  exact ⟨ρ, own, x, ρ', h3, R, fun v ow1 H1 k1 i1 => h2 v x d H1 Q i1 h4 fun z H3 s i3 => k z ow1 H3 (k1.trans (k1.rel.goSame s)) i3⟩
/-- names, constants -/
theorem q_var (i : Nat) {x : Str} (hN : X.N[i]? = some x := by rfl) (hv : Vis X.env.scope x := by first | exact Or.inl rfl | exact Or.inr (Or.inl rfl) | exact Or.inr (Or.inr rfl)) (hd : (x == ("__debug__" : Str)) = false := by decide)
    (hcd : (x == ("__classdict__" : Str)) = false := by decide) : QE X g (.Name x pos) (eVar i) := by
  refine pe_conv (pe_var hN hv hd hcd) ?_
  rintro σ H Q ⟨ρ, own, d, ρ', h, R, k⟩
  unfold eVar at h
  split at h
  · rename_i d' h1
    cases h
    obtain ⟨v, e, i⟩ := R.dat h1
    exact ⟨v, e, k v own H (.refl R) i⟩
  · cases h
theorem q_c {t : TE} {d : D} (h : PE X e t) (ht : ∀ σ H Q, (∀ v, Im (xkw X) H v d → Q v H) → t σ H Q) : QE X g e (eC d) := by
  refine pe_conv h ?_
  rintro σ H Q ⟨ρ, own, d', ρ', h, R, k⟩
  cases h
  exact ht σ H Q fun v i => k v own H (.refl R) i
theorem q_int {i j} : QE X g (.Constant (.int i) j pos) (eC (.int i)) := q_c pe_int fun _ _ _ q => q _ (.int i)
theorem q_bl {i j} : QE X g (.Constant (.bool i) j pos) (eC (.bool i)) := q_c pe_bl fun _ _ _ q => q _ (.bl i)
theorem q_str {i j} : QE X g (.Constant (.str i) j pos) (eC (.str i)) := q_c pe_str fun _ _ _ q => q _ (.str i)
theorem q_non {j} : QE X g (.Constant .none j pos) (eC .none) := q_c pe_non fun _ _ _ q => q _ .non
/-- a module's constant -/
structure GCm (K : PySem.W.Frag) (mg : Str → Option Value) (x : Str) (d : D) : Prop where
  ex : ∃ u v, mg x = some u ∧ RelV v u ∧ ∀ (kk : KW) H, kk.f = K → Im kk H v d
theorem q_gc {x : Str} {d : D} (hm : GCm X.K X.mg x d) (hg : Gl X x := by rfl) (hd : (x == ("__debug__" : Str)) = false := by decide) : QE X g (.Name x pos) (eC d) := by
  obtain ⟨u, v, h1, h2, h3⟩ := hm.ex
  exact q_c (pe_glob hg h1 h2 hd) fun _ H _ q => q _ (h3 _ H rfl)
/-- tests -/
theorem qt_val (h : QE X g e fa) (he : ∀ whole, isTrue e X.env whole = (do let v ← whole; standAt e.pos; holding [v] (truthy v)) := by intro _; rfl) : QT X g e (e1 asB fa) := by
  refine pt_conv (pt_val h he) ?_
  rintro σ H Q ⟨ρ, own, d, ρ', h, R, k⟩
  obtain ⟨x, h3, h4⟩ := e1_some h
  refine ⟨ρ, own, x, ρ', h3, R, fun v ow1 H1 k1 i1 => ?_⟩
  cases x with
  | bool b =>
    cases h4
    exact ⟨_, i1.ofBool, k ow1 H1 k1⟩
  | _ => cases h4
theorem qt_cmp {op : CmpOp} {f : D → D → Option D} (ho : Op2 X (compareOp op) f) (ha : QE X g a fa) (hb : QE X g b fb) (hm : behindInMarks op b = false := by first | exact nomark _ | rfl) : QT X g (.Compare a [op] [b] pos) (e1 asB (e2 f fa fb)) := by
  obtain ⟨r, h1, h2⟩ := ho
  have hp : PT X (.Compare a [op] [b] pos) (tTest (tFz (tOp r (xE (xkw X) g fa) (xE (xkw X) g fb)))) := by
    have hfz : OpR X (compareOp op) (fun x y H Q => r x y H fun v H' => Fin v H' Q) := fun pins s σ H x y v u Q I r1 r2 q => thn (h1 pins s σ H x y v u _ I r1 r2 q) fun _ _ q => ep_fin q
    exact pt_cmpR hfz ha hb hm
  refine pt_conv hp ?_
  rintro σ H Q ⟨ρ, own, d, ρ', h, R, k⟩
  obtain ⟨x, h3, h4⟩ := e1_some h
  refine two_of h2 σ H _ ⟨ρ, own, x, ρ', h3, R, fun v ow1 H1 k1 i1 => ?_⟩
  cases x with
  | bool b =>
    cases h4
    exact ⟨_, i1.ofBool, k ow1 H1 k1⟩
  | _ => cases h4
variable {ta tb : M Bool} {rest : List Expr}
theorem tAndM_some {ρ ρ' : Rho} {d : Bool} (h : tAndM ta tb ρ = some (d, ρ')) : ∃ x ρ1, ta ρ = some (x, ρ1) ∧ if x = true then tb ρ1 = some (d, ρ') else d = false ∧ ρ1 = ρ' := by
  unfold tAndM at h
  split at h
  · rename_i ρ1 h1
    exact ⟨true, ρ1, h1, by simpa using h⟩
  · rename_i ρ1 h1
    cases h
    exact ⟨false, _, h1, by simp⟩
  · cases h
theorem tOrM_some {ρ ρ' : Rho} {d : Bool} (h : tOrM ta tb ρ = some (d, ρ')) : ∃ x ρ1, ta ρ = some (x, ρ1) ∧ if x = true then d = true ∧ ρ1 = ρ' else tb ρ1 = some (d, ρ') := by
  unfold tOrM at h
  split at h
  · rename_i ρ1 h1
    cases h
    exact ⟨true, _, h1, by simp⟩
  · rename_i ρ1 h1
    exact ⟨false, ρ1, h1, by simpa using h⟩
  · cases h
theorem qw_and1 (ha : QT X g a ta) : QW X g (.BoolOp .And [a] pos) ta := pw_and1 ha
theorem qw_or1 (ha : QT X g a ta) : QW X g (.BoolOp .Or [a] pos) ta := pw_or1 ha
theorem qw_and (ha : QT X g a ta) (hb : QW X g (.BoolOp .And (b :: rest) pos) tb) : QW X g (.BoolOp .And (a :: b :: rest) pos) (tAndM ta tb) := by
  refine pw_conv (pw_and ha hb) ?_
  rintro σ H Q ⟨ρ, own, d, ρ', h, R, k⟩
  obtain ⟨x, ρ1, h1, h2⟩ := tAndM_some h
  refine ⟨ρ, own, x, ρ1, h1, R, fun ow1 H1 k1 => ?_⟩
  cases x with
  | true =>
    rw [if_pos rfl] at h2
    exact ⟨ρ1, ow1, d, ρ', h2, k1.rel, fun ow2 H2 k2 => k ow2 H2 (k1.trans k2)⟩
  | false =>
    rw [if_neg Bool.false_ne_true] at h2
    obtain ⟨rfl, rfl⟩ := h2
    exact k ow1 H1 k1
theorem qw_or (ha : QT X g a ta) (hb : QW X g (.BoolOp .Or (b :: rest) pos) tb) : QW X g (.BoolOp .Or (a :: b :: rest) pos) (tOrM ta tb) := by
  refine pw_conv (pw_or ha hb) ?_
  rintro σ H Q ⟨ρ, own, d, ρ', h, R, k⟩
  obtain ⟨x, ρ1, h1, h2⟩ := tOrM_some h
  refine ⟨ρ, own, x, ρ1, h1, R, fun ow1 H1 k1 => ?_⟩
  cases x with
  | true =>
    rw [if_pos rfl] at h2
    obtain ⟨rfl, rfl⟩ := h2
    exact k ow1 H1 k1
  | false =>
    rw [if_neg Bool.false_ne_true] at h2
    exact ⟨ρ1, ow1, d, ρ', h2, k1.rel, fun ow2 H2 k2 => k ow2 H2 (k1.trans k2)⟩
theorem qt_w {f : M Bool} (h : QW X g e f) : QT X g e f := h.pt
theorem qt_not (ha : QT X g a ta) : QT X g (.UnaryOp .Not a pos) (e1 tNotB ta) := by
  refine pt_conv (pt_not ha) ?_
  rintro σ H Q ⟨ρ, own, d, ρ', h, R, k⟩
  obtain ⟨x, h3, h4⟩ := e1_some h
  cases h4
  exact ⟨ρ, own, x, ρ', h3, R, k⟩
/-- as values -/
theorem q_one {op} (h : QE X g a fa) : QE X g (.BoolOp op [a] pos) fa := pe_one h
theorem q_and (ha : QE X g a fa) (hb : QE X g (.BoolOp .And (b :: rest) pos) fb) : QE X g (.BoolOp .And (a :: b :: rest) pos) (eAnd fa fb) := by
  refine pe_conv (pe_and ha hb) ?_
  rintro σ H Q ⟨ρ, own, d, ρ', h, R, k⟩
  unfold eAnd at h
  split at h
  · rename_i ρ1 h1
    exact ⟨ρ, own, _, ρ1, h1, R, fun v ow1 H1 k1 i1 => ⟨true, i1.ofBool, iteT ⟨ρ1, ow1, d, ρ', h, k1.rel, fun w ow2 H2 k2 i2 => k w ow2 H2 (k1.trans k2) i2⟩⟩⟩
  · rename_i ρ1 h1
    cases h
    exact ⟨ρ, own, _, _, h1, R, fun v ow1 H1 k1 i1 => ⟨false, i1.ofBool, iteF (k _ ow1 H1 k1 (.bl false))⟩⟩
  · cases h
theorem q_or (ha : QE X g a fa) (hb : QE X g (.BoolOp .Or (b :: rest) pos) fb) : QE X g (.BoolOp .Or (a :: b :: rest) pos) (eOr fa fb) := by
  refine pe_conv (pe_or ha hb) ?_
  rintro σ H Q ⟨ρ, own, d, ρ', h, R, k⟩
  unfold eOr at h
  split at h
  · rename_i ρ1 h1
    cases h
    exact ⟨ρ, own, _, _, h1, R, fun v ow1 H1 k1 i1 => ⟨true, i1.ofBool, iteT (k _ ow1 H1 k1 (.bl true))⟩⟩
  · rename_i ρ1 h1
    exact ⟨ρ, own, _, ρ1, h1, R, fun v ow1 H1 k1 i1 => ⟨false, i1.ofBool, iteF ⟨ρ1, ow1, d, ρ', h, k1.rel, fun w ow2 H2 k2 i2 => k w ow2 H2 (k1.trans k2) i2⟩⟩⟩
  · cases h
theorem q_not (ha : QE X g a fa) : QE X g (.UnaryOp .Not a pos) (e1 dNot fa) := by
  refine pe_conv (pe_not ha) ?_
  rintro σ H Q ⟨ρ, own, d, ρ', h, R, k⟩
  obtain ⟨x, h3, h4⟩ := e1_some h
  refine ⟨ρ, own, x, ρ', h3, R, fun v ow1 H1 k1 i1 => ?_⟩
  cases x with
  | bool b =>
    cases h4
    exact ⟨_, i1.ofBool, k _ ow1 H1 k1 (.bl _)⟩
  | _ => cases h4
theorem q_if (hc : QT X g c ta) (ha : QE X g a fa) (hb : QE X g b fb) : QE X g (.IfExp c a b pos) (eIf ta fa fb) := by
  refine pe_conv (pe_ifExp hc ha hb) ?_
  rintro σ H Q ⟨ρ, own, d, ρ', h, R, k⟩
  unfold eIf at h
  split at h
  · rename_i ρ1 h1
    exact ⟨ρ, own, _, ρ1, h1, R, fun ow1 H1 k1 => iteT ⟨ρ1, ow1, d, ρ', h, k1.rel, fun w ow2 H2 k2 i2 => k w ow2 H2 (k1.trans k2) i2⟩⟩
  · rename_i ρ1 h1
    exact ⟨ρ, own, _, ρ1, h1, R, fun ow1 H1 k1 => iteF ⟨ρ1, ow1, d, ρ', h, k1.rel, fun w ow2 H2 k2 i2 => k w ow2 H2 (k1.trans k2) i2⟩⟩
  · cases h
/-- argument lists, displays -/
theorem qa_nil : QA X g [] aNil := by
  refine pa_conv pa_nil ?_
  rintro σ H Q ⟨ρ, own, d, ρ', h, R, k⟩
  cases h
  exact k [] own H (.refl R) .nil
variable {fs : M (List D)} {es : List Expr}
theorem qa_cons (ha : QE X g e fa) (hr : QA X g es fs) (hs : starEach (e :: es) X.env = (false, eval e X.env) :: starEach es X.env := by rfl) : QA X g (e :: es) (aCons fa fs) := by
  refine pa_conv (pa_cons ha hr hs) ?_
  rintro σ H Q ⟨ρ, own, d, ρ', h, R, k⟩
  obtain ⟨x, ρ1, xs, h1, h2, rfl⟩ := aCons_some h
  exact ⟨ρ, own, x, ρ1, h1, R, fun v ow1 H1 k1 i1 => ⟨ρ1, ow1, xs, ρ', h2, k1.rel, fun vs ow2 H2 k2 i2 => k _ ow2 H2 (k1.trans k2) (.cons (k2.im i1) i2)⟩⟩
/-- a display has at most so many items -/
def most : Nat := 100000
theorem most_line : most ≤ sizeLine := by rw [sizeLine_eq]; decide
def mkT (ds : List D) : Option D := if ds.length ≤ most then some (.tuple ds) else none
def mkL (ds : List D) : Option D := if ds.length ≤ most then some (.list ds) else none
theorem q_tup {x1} (h : QA X g es fs) : QE X g (.Tuple es x1 pos) (e1 mkT fs) := by
  refine pe_conv (pe_fz (pe_tup h)) ?_
  rintro σ H Q ⟨ρ, own, d, ρ', h, R, k⟩
  obtain ⟨x, h3, h4⟩ := e1_some h
  unfold mkT at h4
  split at h4
  · rename_i hl
    cases h4
    refine ⟨ρ, own, x, ρ', h3, R, fun vs ow1 H1 k1 i1 => ⟨by rw [i1.len]; exact Nat.le_trans hl most_line, fun p hp => ?_⟩⟩
    exact Out.tup (fun v H' s i => k v ow1 H' (k1.trans (k1.rel.goSame s)) i) hp i1
  · cases h4
theorem q_lst (h : QA X g es fs) : QE X g (.List es pos) (e1 mkL fs) := by
  refine pe_conv (pe_fz (pe_lst h)) ?_
  rintro σ H Q ⟨ρ, own, d, ρ', h, R, k⟩
  obtain ⟨x, h3, h4⟩ := e1_some h
  unfold mkL at h4
  split at h4
  · rename_i hl
    cases h4
    refine ⟨ρ, own, x, ρ', h3, R, fun vs ow1 H1 k1 i1 => ⟨by rw [i1.len]; exact Nat.le_trans hl most_line, fun p hp => ?_⟩⟩
    exact Out.lst (fun v H' s i => k v ow1 H' (k1.trans (k1.rel.goSame s)) i) hp i1
  · cases h4
/-! calls of what is built in -/
variable {x : Str} {p : Pos} {id T : String}
theorem args_of {f : List D → Option D} {r : List V → Hp → VK → Prop} {K : KW} (hr : ∀ vs ds dz H Q, ImAll K H vs ds → f ds = some dz → Out K H dz Q → r vs H fun v H' => Fin v H' Q) :
    ∀ σ H Q, xE K g (e1 f fs) σ H Q → tFz (tCB r (xA K g fs)) σ H Q := by
  rintro σ H Q ⟨ρ, own, d, ρ', h, R, k⟩
  obtain ⟨xs, h3, h4⟩ := e1_some h
  exact ⟨ρ, own, xs, ρ', h3, R, fun vs ow1 H1 k1 i1 => hr vs xs d H1 Q i1 h4 fun z H3 s i3 => k z ow1 H3 (k1.trans (k1.rel.goSame s)) i3⟩
theorem q_callB {f : List D → Option D} (hf : Fn1 X (.builtin id) f) (hm : X.mg x = none) (hv : bootBuiltins x = some (.builtin id)) (ha : QA X g (e :: es) fs) (hg : Gl X x := by rfl) (hn : x ≠ "__name__" := by decide) (hdb : (x == ("__debug__" : Str)) = false := by decide)
    (he : starEach (e :: es) X.env = (false, eval e X.env) :: starEach es X.env := by rfl) (hpl : (backTo pos (starEach es X.env)).any (·.1) = false := by rfl) : QE X g (.Call (.Name x p) (e :: es) [] pos) (e1 f fs) := by
  obtain ⟨r, h1, h2⟩ := hf
  exact pe_conv (pe_fz (pe_callB h1 hg hm hv ha hn hdb he hpl)) (args_of h2)
theorem q_callTy {f : List D → Option D} (hf : Fn1 X (.type T) f) (hm : X.mg x = none) (hv : bootBuiltins x = some (.type T)) (ha : QA X g (e :: es) fs) (hg : Gl X x := by rfl) (hn : x ≠ "__name__" := by decide) (hdb : (x == ("__debug__" : Str)) = false := by decide)
    (he : starEach (e :: es) X.env = (false, eval e X.env) :: starEach es X.env := by rfl) (hpl : (backTo pos (starEach es X.env)).any (·.1) = false := by rfl) : QE X g (.Call (.Name x p) (e :: es) [] pos) (e1 f fs) := by
  obtain ⟨r, h1, h2⟩ := hf
  exact pe_conv (pe_fz (pe_callTy h1 hg hm hv ha hn hdb he hpl)) (args_of h2)
/-! calls of defs -/
/-- a def that takes data and gives data -/
def spD (K : KW) (T : Tb) (F : List D → Option D) : Sp := fun vs H Q _ => ∃ ds d, ImAll K H vs ds ∧ F ds = some d ∧ LamX.Tabs T H ∧ ∀ v H', Kp T B0 H H' → LamX.Tabs T H' → Im K H' v d → Q v H'
/-- a def that changes the list it gets first -/
def spB (K : KW) (T : Tb) (F : List D → List D → Option (D × List D)) : Sp := fun vs H Q _ => ∃ a ws xs es ds d es', vs = .ref a :: ws ∧ H a = some (.lst xs) ∧ ImAll K H xs es ∧ ImAll K H ws ds ∧ F es ds = some (d, es') ∧ LamX.Tabs T H ∧
  ∀ v H' xs', Kp T (B1 a) H H' → LamX.Tabs T H' → H' a = some (.lst xs') → ImAll K H' xs' es' → Im K H' v d → Q v H'
/-- a def that takes data and gives a new list -/
def spO (K : KW) (T : Tb) (F : List D → Option (List D)) : Sp := fun vs H Q _ => ∃ ds es, ImAll K H vs ds ∧ F ds = some es ∧ LamX.Tabs T H ∧
  ∀ p xs H', Kp T B0 H H' → LamX.Tabs T H' → H p = none → H' p = some (.lst xs) → ImAll K H' xs es → Q (.ref p) H'
/-- how a def stands in a context: it may be called from there -/
structure DefOk (X : Cx) (x : Str) (sp : Sp) : Prop where
  ex : ∃ (k : Nat) (f : Addr) (fd : FuncData) (ps : List Str), FnOk X.prog X.w (xkw X) X.mg X.base CX0 k f fd ps sp ∧ Room k X.A ∧ X.mg x = some (.ref f) ∧ PySem.W.keepIn (xkw X) (.ref f) = true ∧ Binds (xkw X) fd ps []
theorem q_call {F : List D → Option D} (hf : DefOk X x (spD (xkw X) g.T F)) (ha : QA X g (e :: es) fs) (hg : Gl X x := by rfl) (hdb : (x == ("__debug__" : Str)) = false := by decide)
    (he : starEach (e :: es) X.env = (false, eval e X.env) :: starEach es X.env := by rfl) (hpl : (backTo pos (starEach es X.env)).any (·.1) = false := by rfl) : QE X g (.Call (.Name x p) (e :: es) [] pos) (e1 F fs) := by
  obtain ⟨k, f, fd, ps, F0, hr, hm, hk, hb⟩ := hf.ex
  refine pe_conv (pe_call F0 hr hg hm hk hb .nil pass0 ha hdb he hpl) ?_
  rintro σ H Q ⟨ρ, own, d, ρ', h, R, k⟩
  obtain ⟨xs, h3, h4⟩ := e1_some h
  refine ⟨ρ, own, xs, ρ', h3, R, fun vs ow1 H1 k1 i1 => ?_⟩
  refine ⟨xs, d, by simpa using i1, h4, k1.rel.tb, fun v H' kp tb im => k v ow1 H' (k1.trans (k1.rel.go kp)) im⟩
end
end VS

namespace VS
open PySem PySem.Spec PyProof.Rows L2

/-! ### targets -/
def SameOut (ts : List Nat) (σ σ' : L2.St) : Prop := σ'.length = σ.length ∧ ∀ i, i ∉ ts → σ'[i]? = σ[i]?
theorem SameOut.refl (ts : List Nat) (σ : L2.St) : SameOut ts σ σ := ⟨rfl, fun _ _ => rfl⟩
theorem SameOut.trans {ts us : List Nat} {σ σ1 σ2 : L2.St} (a : SameOut ts σ σ1) (b : SameOut us σ1 σ2) : SameOut (ts ++ us) σ σ2 :=
  ⟨b.1.trans a.1, fun i h => (b.2 i (fun z => h (List.mem_append_right _ z))).trans (a.2 i (fun z => h (List.mem_append_left _ z)))⟩
theorem SameOut.set {i : Nat} {σ : L2.St} {x : Option V} : SameOut [i] σ (σ.set i x) := ⟨List.length_set .., fun j h => List.getElem?_set_ne (fun z => h (by simp [z]))⟩
def xG (K : KW) (g : Gx) (f : D → Rho → Option Rho) (ts : List Nat) : TG := fun v σ H Q => ∃ d ρ own ρ', f d ρ = some ρ' ∧ Im K H v d ∧ RelE K g σ ρ own H ∧ ∀ σ' own' H', Go K g σ own H σ' ρ' own' H' → SameOut ts σ σ' → Q σ' H'
def xGs (K : KW) (g : Gx) (f : List D → Rho → Option Rho) (ts : List Nat) : TGs := fun vs σ H Q => ∃ ds ρ own ρ', f ds ρ = some ρ' ∧ ImAll K H vs ds ∧ RelE K g σ ρ own H ∧ ∀ σ' own' H', Go K g σ own H σ' ρ' own' H' → SameOut ts σ σ' → Q σ' H'
abbrev QG (X : Cx) (g : Gx) (tg : Expr) (f : D → Rho → Option Rho) (ts : List Nat) : Prop := PG X tg (xG (xkw X) g f ts)
abbrev QGs (X : Cx) (g : Gx) (tg : List Expr) (f : List D → Rho → Option Rho) (ts : List Nat) : Prop := PGs X tg (xGs (xkw X) g f ts)
theorem pg_conv {X : Cx} {e : Expr} {t t' : TG} (h : PG X e t) (c : ∀ v σ H Q, t' v σ H Q → t v σ H Q) : PG X e t' := ⟨fun pins s σ H v u Q I r q => h.run pins s σ H v u Q I r (c v σ H Q q)⟩
theorem pgs_conv {X : Cx} {e : List Expr} {t t' : TGs} (h : PGs X e t) (c : ∀ v σ H Q, t' v σ H Q → t v σ H Q) : PGs X e t' := ⟨fun pins s σ H v u Q I r q => h.run pins s σ H v u Q I r (c v σ H Q q)⟩
def gName (i : Nat) : D → Rho → Option Rho := fun d ρ => some (ρ.set i (some (.dat d)))
def gsNil : List D → Rho → Option Rho := fun ds ρ => match ds with
  | [] => some ρ
  | _ => none
def gsCons (f : D → Rho → Option Rho) (fs : List D → Rho → Option Rho) : List D → Rho → Option Rho := fun ds ρ => match ds with
  | d :: r => (match f d ρ with | some ρ1 => fs r ρ1 | none => none)
  | [] => none
def gTup (fs : List D → Rho → Option Rho) : D → Rho → Option Rho := fun d ρ => match d with
  | .tuple ds => fs ds ρ
  | _ => none
def gLst (fs : List D → Rho → Option Rho) : D → Rho → Option Rho := fun d ρ => match d with
  | .list ds => fs ds ρ
  | _ => none
section
variable {X : Cx} {g : Gx} {pos : Pos} {f : D → Rho → Option Rho} {fs : List D → Rho → Option Rho} {ts us : List Nat} {e : Expr} {es : List Expr}
theorem qg_name (i : Nat) {x : Str} (hN : X.N.Nodup) (hl : okSlot g i = true := by rfl) (hi : X.N[i]? = some x := by rfl) (hx : Loc X.env.scope x := by first | exact .inl rfl | exact .inr rfl) (hf : X.fn x = true ∨ X.env.scope.names.lookup x = some .local := by first | exact .inl rfl | exact .inr rfl) :
    QG X g (.Name x pos) (gName i) [i] := by
  refine pg_conv (pg_name hN hi hx hf) ?_
  rintro v σ H Q ⟨d, ρ, own, ρ', h, im, R, k⟩
  cases h
  obtain ⟨ow, go⟩ := R.set hl im
  exact k _ ow H go SameOut.set
theorem qgs_nil : QGs X g [] gsNil [] := by
  refine pgs_conv pgs_nil ?_
  rintro v σ H Q ⟨d, ρ, own, ρ', h, im, R, k⟩
  cases im with
  | nil =>
    cases h
    exact ⟨rfl, k _ own H (.refl R) (SameOut.refl _ _)⟩
  | cons _ _ => cases h
theorem qgs_cons (h1 : QG X g e f ts) (h2 : QGs X g es fs us) (hs : (assignEach (e :: es) X.env).map (·.2) = assign e X.env :: (assignEach es X.env).map (·.2) := by rfl) : QGs X g (e :: es) (gsCons f fs) (ts ++ us) := by
  refine pgs_conv (pgs_cons h1 h2 hs) ?_
  rintro v σ H Q ⟨d, ρ, own, ρ', h, im, R, k⟩
  cases im with
  | nil => cases h
  | @cons v vs d ds i1 i2 =>
    cases h1 : f d ρ with
    | none => simp only [gsCons, h1] at h; cases h
    | some ρ1 =>
      simp only [gsCons, h1] at h
      exact ⟨v, vs, rfl, d, ρ, own, ρ1, h1, i1, R, fun σ1 ow1 H1 k1 s1 => ⟨ds, ρ1, ow1, ρ', h, k1.ims i2, k1.rel, fun σ2 ow2 H2 k2 s2 => k σ2 ow2 H2 (k1.trans k2) (s1.trans s2)⟩⟩
theorem gs_len {n : Nat} (hl : ∀ ds ρ ρ', fs ds ρ = some ρ' → ds.length = n) {ds : List D} {ρ ρ' : Rho} {H : Hp} {vs : List V} {K : KW} (im : ImAll K H vs ds) (h : fs ds ρ = some ρ') : vs.length = n := by rw [im.len]; exact hl ds ρ ρ' h
/-- how many values a row of targets takes -/
structure GLen (fs : List D → Rho → Option Rho) (n : Nat) : Prop where
  len : ∀ ds ρ ρ', fs ds ρ = some ρ' → ds.length = n
theorem glen_nil : GLen gsNil 0 := ⟨fun ds ρ ρ' h => by
  cases ds with
  | nil => rfl
  | cons _ _ => cases h⟩
theorem glen_cons {n : Nat} (h : GLen fs n) : GLen (gsCons f fs) (n + 1) := ⟨fun ds ρ ρ' h' => by
  cases ds with
  | nil => cases h'
  | cons d r =>
    cases h1 : f d ρ with
    | none => simp only [gsCons, h1] at h'; cases h'
    | some ρ1 =>
      simp only [gsCons, h1] at h'
      rw [List.length_cons, h.len _ _ _ h']⟩
theorem qg_tup {k : Nat} {n : Nat} (h : QGs X g es fs ts) (hl : GLen fs n) (hc : X.calm = true := by rfl) (hn : (assignEach es X.env).length = n := by rfl) (hst : (assignEach es X.env).findIdx? (·.1) = none := by rfl) : QG X g (.Tuple es k pos) (gTup fs) ts := by
  refine pg_conv (pg_tup hc h hn hst) ?_
  rintro v σ H Q ⟨d, ρ, own, ρ', h, im, R, k⟩
  cases im with
  | tup i1 i2 => exact ⟨_, _, rfl, i1, gs_len hl.len i2 h, _, ρ, own, ρ', h, i2, R, k⟩
  | _ => cases h
theorem qg_lst {k : Nat} {n : Nat} (h : QGs X g es fs ts) (hl : GLen fs n) (hc : X.calm = true := by rfl) (hn : (assignEach es X.env).length = n := by rfl) (hst : (assignEach es X.env).findIdx? (·.1) = none := by rfl) : QG X g (.Tuple es k pos) (gLst fs) ts := by
  refine pg_conv (pg_unl hc h hn hst) ?_
  rintro v σ H Q ⟨d, ρ, own, ρ', h, im, R, k⟩
  cases im with
  | lst i1 i2 => exact ⟨_, _, rfl, i1.sq, gs_len hl.len i2 h, _, ρ, own, ρ', h, i2, R, k⟩
  | _ => cases h
end

/-! ### statements -/
inductive Fl where
  | nx | bk | ct | rt (d : D) | ro (ds : List D)
abbrev MS := Rho → Option (Fl × Rho)
def goEnd (K : KW) (H0 : Hp) (fl : Fl) (Dn : Ends) (σ : L2.St) (H : Hp) : Prop := match fl with
  | .nx => Dn.nx σ H
  | .bk => Dn.bk σ H
  | .ct => Dn.ct σ H
  | .rt d => ∀ v, Im K H v d → Dn.rt v H
  | .ro ds => ∀ p xs, H0 p = none → H p = some (.lst xs) → ImAll K H xs ds → Dn.rt (.ref p) H
def xS (K : KW) (g : Gx) (f : MS) : TS := fun Dn σ H => ∃ ρ own fl ρ', f ρ = some (fl, ρ') ∧ RelE K g σ ρ own H ∧ ∀ σ' own' H', Go K g σ own H σ' ρ' own' H' → goEnd K H fl Dn σ' H'
abbrev QS (X : Cx) (g : Gx) (st : Stmt) (f : MS) : Prop := PS X st (xS (xkw X) g f)
abbrev QSs (X : Cx) (g : Gx) (st : List Stmt) (f : MS) : Prop := PSs X st (xS (xkw X) g f)
theorem ps_conv {X : Cx} {st : Stmt} {t t' : TS} (h : PS X st t) (c : ∀ Dn σ H, t' Dn σ H → t Dn σ H) : PS X st t' := ⟨fun pins s σ H Dn I q => h.run pins s σ H Dn I (c Dn σ H q)⟩
theorem pss_conv {X : Cx} {st : List Stmt} {t t' : TS} (h : PSs X st t) (c : ∀ Dn σ H, t' Dn σ H → t Dn σ H) : PSs X st t' := ⟨fun pins s σ H Dn I q => h.run pins s σ H Dn I (c Dn σ H q)⟩
def sNx : MS := fun ρ => some (.nx, ρ)
def sBk : MS := fun ρ => some (.bk, ρ)
def sCt : MS := fun ρ => some (.ct, ρ)
def sNever : MS := fun _ => none
def sSeq (a b : MS) : MS := fun ρ => match a ρ with
  | some (.nx, ρ1) => b ρ1
  | r => r
def sIf (c : M Bool) (a b : MS) : MS := fun ρ => match c ρ with
  | some (true, ρ1) => a ρ1
  | some (false, ρ1) => b ρ1
  | none => none
def sRet (f : M D) : MS := fun ρ => match f ρ with
  | some (d, ρ1) => some (.rt d, ρ1)
  | none => none
def sRetN : MS := fun ρ => some (.rt .none, ρ)
def sRetO (f : M (List D)) : MS := fun ρ => match f ρ with
  | some (ds, ρ1) => if ds.length ≤ most then some (.ro ds, ρ1) else none
  | none => none
def sDrop (f : M D) : MS := fun ρ => match f ρ with
  | some (_, ρ1) => some (.nx, ρ1)
  | none => none
def sAsg (f : M D) (t : D → Rho → Option Rho) : MS := fun ρ => match f ρ with
  | some (d, ρ1) => (match t d ρ1 with | some ρ2 => some (.nx, ρ2) | none => none)
  | none => none
/-- i takes a new list of its own -/
def sOwn (i : Nat) (f : M (List D)) : MS := fun ρ => match f ρ with
  | some (ds, ρ1) => if ds.length ≤ most then some (.nx, ρ1.set i (some (.ol ds))) else none
  | none => none
def sPar (is : List Nat) (f : M (List D)) : MS := fun ρ => match f ρ with
  | some (ds, ρ1) => if ds.length = is.length then some (.nx, (is.zip ds).foldl (fun r p => r.set p.1 (some (.dat p.2))) ρ1) else none
  | none => none
def forGo (t : D → Rho → Option Rho) (b : MS) : List D → Rho → Option (Fl × Rho)
  | [], ρ => some (.nx, ρ)
  | d :: r, ρ => match t d ρ with
    | none => none
    | some ρ1 => match b ρ1 with
      | some (.nx, ρ2) => forGo t b r ρ2
      | some (.ct, ρ2) => forGo t b r ρ2
      | some (.bk, ρ2) => some (.nx, ρ2)
      | some (.rt d, ρ2) => some (.rt d, ρ2)
      | some (.ro d, ρ2) => some (.ro d, ρ2)
      | none => none
def sFor (it : M (List D)) (t : D → Rho → Option Rho) (b : MS) : MS := fun ρ => match it ρ with
  | some (ds, ρ1) => forGo t b ds ρ1
  | none => none
def whGo (c : M Bool) (b : MS) : Nat → Rho → Option (Fl × Rho)
  | 0, _ => none
  | n + 1, ρ => match c ρ with
    | none => none
    | some (false, ρ1) => some (.nx, ρ1)
    | some (true, ρ1) => match b ρ1 with
      | some (.nx, ρ2) => whGo c b n ρ2
      | some (.ct, ρ2) => whGo c b n ρ2
      | some (.bk, ρ2) => some (.nx, ρ2)
      | some (.rt d, ρ2) => some (.rt d, ρ2)
      | some (.ro d, ρ2) => some (.ro d, ρ2)
      | none => none
section
variable {X : Cx} {g : Gx} {pos : Pos} {st : Stmt} {rest : List Stmt} {a b : MS} {e : Expr} {f : M D} {c : M Bool}
theorem goEnd.back {K : KW} {T : Tb} {B : Addr → Prop} {H0 H1 H2 : Hp} {fl : Fl} {Dn : Ends} {σ : L2.St} (k : Kp T B H0 H1) (h : goEnd K H0 fl Dn σ H2) : goEnd K H1 fl Dn σ H2 := by
  cases fl with
  | ro ds => exact fun p xs hn => h p xs (k.free hn)
  | _ => exact h
theorem qss_nil : QSs X g [] sNx := by
  refine pss_conv pss_nil ?_
  rintro Dn σ H ⟨ρ, own, fl, ρ', h, R, k⟩
  cases h
  exact k σ own H (.refl R)
theorem seq_some {a b : MS} {ρ ρ' : Rho} {fl : Fl} (h : sSeq a b ρ = some (fl, ρ')) : (∃ ρ1, a ρ = some (.nx, ρ1) ∧ b ρ1 = some (fl, ρ')) ∨ (a ρ = some (fl, ρ') ∧ fl ≠ .nx) := by
  unfold sSeq at h
  split at h
  · rename_i ρ1 h1
    exact .inl ⟨ρ1, h1, h⟩
  · rename_i h1
    refine .inr ⟨h, fun z => ?_⟩
    subst z
    exact h1 _ h
theorem qss_cons (h1 : QS X g st a) (h2 : QSs X g rest b) : QSs X g (st :: rest) (sSeq a b) := by
  refine pss_conv (pss_cons h1 h2) ?_
  rintro Dn σ H ⟨ρ, own, fl, ρ', h, R, k⟩
  rcases seq_some h with ⟨ρ1, q1, q2⟩ | ⟨q1, q2⟩
  · exact ⟨ρ, own, .nx, ρ1, q1, R, fun σ1 ow1 H1 k1 => ⟨ρ1, ow1, fl, ρ', q2, k1.rel, fun σ2 ow2 H2 k2 => goEnd.back k1.kp (k σ2 ow2 H2 (k1.trans k2))⟩⟩
  · refine ⟨ρ, own, fl, ρ', q1, R, fun σ1 ow1 H1 k1 => ?_⟩
    have := k σ1 ow1 H1 k1
    cases fl with
    | nx => exact absurd rfl q2
    | _ => exact this
theorem qss_one (h1 : QS X g st a) : QSs X g [st] a := pss_one h1
theorem q_pass : QS X g (.Pass pos) sNx := by
  refine ps_conv ps_pass ?_
  rintro Dn σ H ⟨ρ, own, fl, ρ', h, R, k⟩
  cases h
  exact k σ own H (.refl R)
theorem q_break : QS X g (.Break pos) sBk := by
  refine ps_conv ps_break ?_
  rintro Dn σ H ⟨ρ, own, fl, ρ', h, R, k⟩
  cases h
  exact k σ own H (.refl R)
theorem q_continue : QS X g (.Continue pos) sCt := by
  refine ps_conv ps_continue ?_
  rintro Dn σ H ⟨ρ, own, fl, ρ', h, R, k⟩
  cases h
  exact k σ own H (.refl R)
/-- what is never reached -/
theorem q_never : QS X g st sNever := by
  refine ps_conv ps_never ?_
  rintro Dn σ H ⟨ρ, own, fl, ρ', h, R, k⟩
  cases h
theorem q_ifS {x y : List Stmt} {ce : Expr} (hc : QT X g ce c) (ha : QSs X g x a) (hb : QSs X g y b) : QS X g (.If ce x y pos) (sIf c a b) := by
  refine ps_conv (ps_if hc ha hb) ?_
  rintro Dn σ H ⟨ρ, own, fl, ρ', h, R, k⟩
  unfold sIf at h
  split at h
  · rename_i ρ1 h1
    exact ⟨ρ, own, _, ρ1, h1, R, fun ow1 H1 k1 => iteT ⟨ρ1, ow1, fl, ρ', h, k1.rel, fun σ2 ow2 H2 k2 => goEnd.back k1.kp (k σ2 ow2 H2 (k1.trans k2))⟩⟩
  · rename_i ρ1 h1
    exact ⟨ρ, own, _, ρ1, h1, R, fun ow1 H1 k1 => iteF ⟨ρ1, ow1, fl, ρ', h, k1.rel, fun σ2 ow2 H2 k2 => goEnd.back k1.kp (k σ2 ow2 H2 (k1.trans k2))⟩⟩
  · cases h
theorem q_ret (he : QE X g e f) : QS X g (.Return (some e) pos) (sRet f) := by
  refine ps_conv (ps_ret he) ?_
  rintro Dn σ H ⟨ρ, own, fl, ρ', h, R, k⟩
  unfold sRet at h
  split at h
  · rename_i d ρ1 h1
    cases h
    exact ⟨ρ, own, d, ρ', h1, R, fun v ow1 H1 k1 i1 => k σ ow1 H1 k1 v i1⟩
  · cases h
theorem q_retN : QS X g (.Return none pos) sRetN := by
  refine ps_conv ps_retN ?_
  rintro Dn σ H ⟨ρ, own, fl, ρ', h, R, k⟩
  cases h
  exact k σ own H (.refl R) _ .non
theorem q_retO {es : List Expr} {fs : M (List D)} {p2 : Pos} (he : QA X g es fs) : QS X g (.Return (some (.List es p2)) pos) (sRetO fs) := by
  refine ps_conv (ps_ret (pe_lst he)) ?_
  rintro Dn σ H ⟨ρ, own, fl, ρ', h, R, k⟩
  unfold sRetO at h
  split at h
  · rename_i ds ρ1 h1
    split at h
    · rename_i hl
      cases h
      refine ⟨ρ, own, ds, ρ', h1, R, fun vs ow1 H1 k1 i1 => ⟨by rw [i1.len]; exact Nat.le_trans hl most_line, fun p hp => ?_⟩⟩
      exact k σ ow1 _ (k1.trans (k1.rel.goNew hp)) p vs (k1.kp.free hp) upd_same (i1.up (.new hp))
    · cases h
  · cases h
theorem q_drop (he : QE X g e f) (hs : swapsWith e none pos.line X.env = pure false := by rfl) : QS X g (.Expr e pos) (sDrop f) := by
  refine ps_conv (ps_expr he hs) ?_
  rintro Dn σ H ⟨ρ, own, fl, ρ', h, R, k⟩
  unfold sDrop at h
  split at h
  · rename_i d ρ1 h1
    cases h
    exact ⟨ρ, own, d, ρ', h1, R, fun v ow1 H1 k1 i1 => k σ ow1 H1 k1⟩
  · cases h
variable {t : D → Rho → Option Rho} {ts : List Nat} {tg : Expr}
theorem asg_of {K : KW} : ∀ Dn σ H, xS K g (sAsg f t) Dn σ H → tAsg (xE K g f) (xG K g t ts) Dn σ H := by
  rintro Dn σ H ⟨ρ, own, fl, ρ', h, R, k⟩
  unfold sAsg at h
  split at h
  · rename_i d ρ1 h1
    cases h2 : t d ρ1 with
    | none => simp only [h2] at h; cases h
    | some ρ2 =>
      simp only [h2] at h
      cases h
      exact ⟨ρ, own, d, ρ1, h1, R, fun v ow1 H1 k1 i1 => ⟨d, ρ1, ow1, ρ', h2, i1, k1.rel, fun σ2 ow2 H2 k2 _ => k σ2 ow2 H2 (k1.trans k2)⟩⟩
  · cases h
theorem q_asg (he : QE X g e f) (hg : QG X g tg t ts) (hs : swapsWithSole [tg] e pos.line X.env = pure false := by rfl) (hw : swappedStores [tg] e X.env = pure none := by rfl)
    (h1 : (assignEach [tg] X.env).map (·.2) = [assign tg X.env] := by rfl) : QS X g (.Assign [tg] e pos) (sAsg f t) := ps_conv (ps_asg he hg hs hw h1) asg_of
theorem q_set (i : Nat) {x : Str} {pos' : Pos} (hN : X.N.Nodup) (he : QE X g e f) (hl : okSlot g i = true := by rfl) (hi : X.N[i]? = some x := by rfl) (hx : Loc X.env.scope x := by first | exact .inl rfl | exact .inr rfl) (hs : swapsWith e (some (.Name x pos')) pos.line X.env = pure false := by rfl)
    (hf : X.fn x = true ∨ X.env.scope.names.lookup x = some .local := by first | exact .inl rfl | exact .inr rfl) : QS X g (.Assign [.Name x pos'] e pos) (sAsg f (gName i)) := by
  refine ps_conv (ps_set hN hi hx he hs hf) ?_
  rintro Dn σ H ⟨ρ, own, fl, ρ', h, R, k⟩
  unfold sAsg at h
  split at h
  · rename_i d ρ1 h1
    cases h
    exact ⟨ρ, own, d, ρ1, h1, R, fun v ow1 H1 k1 i1 => let ⟨ow2, go⟩ := k1.rel.set hl i1; k _ ow2 H1 (k1.trans go)⟩
  · cases h
/-- name = [..], a list of its own -/
theorem q_own (i : Nat) {x : Str} {pos' p2 : Pos} {es : List Expr} {fs : M (List D)} (hN : X.N.Nodup) (he : QA X g es fs) (hl : okSlot g i = true := by rfl) (hi : X.N[i]? = some x := by rfl) (hx : Loc X.env.scope x := by first | exact .inl rfl | exact .inr rfl)
    (hs : swapsWith (.List es p2) (some (.Name x pos')) pos.line X.env = pure false := by rfl)
    (hf : X.fn x = true ∨ X.env.scope.names.lookup x = some .local := by first | exact .inl rfl | exact .inr rfl) : QS X g (.Assign [.Name x pos'] (.List es p2) pos) (sOwn i fs) := by
  refine ps_conv (ps_set hN hi hx (pe_lst he) hs hf) ?_
  rintro Dn σ H ⟨ρ, own, fl, ρ', h, R, k⟩
  unfold sOwn at h
  split at h
  · rename_i ds ρ1 h1
    split at h
    · rename_i hz
      cases h
      refine ⟨ρ, own, ds, ρ1, h1, R, fun vs ow1 H1 k1 i1 => ⟨by rw [i1.len]; exact Nat.le_trans hz most_line, fun p hp => ?_⟩⟩
      obtain ⟨ow2, go⟩ := k1.rel.setO hl (.new hp) hp upd_same (i1.up (.new hp))
      exact k _ ow2 _ (k1.trans go)
    · cases h
  · cases h
/-- name = f(..), f gives a new list -/
def sOwnC (i : Nat) (F : List D → Option (List D)) (fs : M (List D)) : MS := fun ρ => match fs ρ with
  | some (ds, ρ1) => (match F ds with | some es => some (.nx, ρ1.set i (some (.ol es))) | none => none)
  | none => none
theorem q_ownC (i : Nat) {x y : Str} {pos' p p2 : Pos} {es : List Expr} {fs : M (List D)} {F : List D → Option (List D)} (hN : X.N.Nodup) (hf : DefOk X y (spO (xkw X) g.T F)) (ha : QA X g (e :: es) fs)
    (hl : okSlot g i = true := by rfl) (hi : X.N[i]? = some x := by rfl) (hx : Loc X.env.scope x := by first | exact .inl rfl | exact .inr rfl)
    (hs : swapsWith (.Call (.Name y p) (e :: es) [] p2) (some (.Name x pos')) pos.line X.env = pure false := by rfl)
    (hfn : X.fn x = true ∨ X.env.scope.names.lookup x = some .local := by first | exact .inl rfl | exact .inr rfl) (hg : Gl X y := by rfl) (hdb : (y == ("__debug__" : Str)) = false := by decide)
    (he : starEach (e :: es) X.env = (false, eval e X.env) :: starEach es X.env := by rfl) (hpl : (backTo p2 (starEach es X.env)).any (·.1) = false := by rfl) : QS X g (.Assign [.Name x pos'] (.Call (.Name y p) (e :: es) [] p2) pos) (sOwnC i F fs) := by
  obtain ⟨k, f, fd, ps, F0, hr, hm, hk, hb⟩ := hf.ex
  refine ps_conv (ps_set hN hi hx (pe_call F0 hr hg hm hk hb .nil pass0 ha hdb he hpl) hs hfn) ?_
  rintro Dn σ H ⟨ρ, own, fl, ρ', h, R, k⟩
  unfold sOwnC at h
  split at h
  · rename_i ds ρ1 h1
    cases h2 : F ds with
    | none => simp only [h2] at h; cases h
    | some es' =>
      simp only [h2] at h
      cases h
      refine ⟨ρ, own, ds, ρ1, h1, R, fun vs ow1 H1 k1 i1 => ⟨ds, es', by simpa using i1, h2, k1.rel.tb, fun q xs H' kp tb nq hq im => ?_⟩⟩
      obtain ⟨ow2, go⟩ := k1.rel.setO hl kp nq hq im
      exact k _ ow2 _ (k1.trans go)
  · cases h
/-- a, b = x, y (local names) -/
theorem q_par (i j : Nat) {x y : Str} {ea eb : Expr} {fs : M (List D)} {px py pt : Pos} {kt k2 pt2} (hN : X.N.Nodup) (ha : QA X g [ea, eb] fs) (hl : okSlot g i = true := by rfl) (hl2 : okSlot g j = true := by rfl) (hij : i ≠ j := by decide) (hc : X.calm = true := by rfl) (hi : X.N[i]? = some x := by rfl) (hj : X.N[j]? = some y := by rfl)
    (hx : X.env.scope.names.lookup x = some .local := by rfl) (hy : X.env.scope.names.lookup y = some .local := by rfl)
    (hw : swappedStores [.Tuple [.Name x px, .Name y py] kt pt] (.Tuple [ea, eb] k2 pt2) X.env = pure (some [x, y]) := by rfl)
    (hs : swapsWithSole [.Tuple [.Name x px, .Name y py] kt pt] (.Tuple [ea, eb] k2 pt2) pos.line X.env = pure false := by rfl) :
    QS X g (.Assign [.Tuple [.Name x px, .Name y py] kt pt] (.Tuple [ea, eb] k2 pt2) pos) (sPar [i, j] fs) := by
  refine ps_conv (ps_par hc hN hi hj hij hx hy ha hw hs) ?_
  rintro Dn σ H ⟨ρ, own, fl, ρ', h, R, k⟩
  unfold sPar at h
  split at h
  · rename_i ds ρ1 h1
    split at h
    · rename_i hz
      cases h
      refine ⟨ρ, own, ds, ρ1, h1, R, fun vs ow1 H1 k1 i1 => ?_⟩
      match ds, i1, hz with
      | [d1, d2], .cons (v := v1) i1 (.cons (v := v2) i2 .nil), _ =>
        obtain ⟨ow2, g2⟩ := k1.rel.set hl i1
        obtain ⟨ow3, g3⟩ := g2.rel.set hl2 i2
        exact ⟨v1, v2, rfl, k _ ow3 H1 ((k1.trans g2).trans g3)⟩
    · cases h
  · cases h
theorem q_par3 (i j l : Nat) {x y z : Str} {ea eb ec : Expr} {fs : M (List D)} {px py pz pt : Pos} {kt k2 pt2} (hN : X.N.Nodup) (ha : QA X g [ea, eb, ec] fs) (hl1 : okSlot g i = true := by rfl) (hl2 : okSlot g j = true := by rfl) (hl3 : okSlot g l = true := by rfl) (hij : i ≠ j := by decide) (hil : i ≠ l := by decide) (hjl : j ≠ l := by decide) (hc : X.calm = true := by rfl)
    (hi : X.N[i]? = some x := by rfl) (hj : X.N[j]? = some y := by rfl) (hl : X.N[l]? = some z := by rfl)
    (hx : X.env.scope.names.lookup x = some .local := by rfl) (hy : X.env.scope.names.lookup y = some .local := by rfl) (hz : X.env.scope.names.lookup z = some .local := by rfl)
    (hw : swappedStores [.Tuple [.Name x px, .Name y py, .Name z pz] kt pt] (.Tuple [ea, eb, ec] k2 pt2) X.env = pure (some [x, y, z]) := by rfl)
    (hs : swapsWithSole [.Tuple [.Name x px, .Name y py, .Name z pz] kt pt] (.Tuple [ea, eb, ec] k2 pt2) pos.line X.env = pure false := by rfl) :
    QS X g (.Assign [.Tuple [.Name x px, .Name y py, .Name z pz] kt pt] (.Tuple [ea, eb, ec] k2 pt2) pos) (sPar [i, j, l] fs) := by
  refine ps_conv (ps_par3 hc hN hi hj hl hij hil hjl hx hy hz ha hw hs) ?_
  rintro Dn σ H ⟨ρ, own, fl, ρ', h, R, k⟩
  unfold sPar at h
  split at h
  · rename_i ds ρ1 h1
    split at h
    · rename_i hz
      cases h
      refine ⟨ρ, own, ds, ρ1, h1, R, fun vs ow1 H1 k1 i1 => ?_⟩
      match ds, i1, hz with
      | [d1, d2, d3], .cons (v := v1) i1 (.cons (v := v2) i2 (.cons (v := v3) i3 .nil)), _ =>
        obtain ⟨ow2, g2⟩ := k1.rel.set hl1 i1
        obtain ⟨ow3, g3⟩ := g2.rel.set hl2 i2
        obtain ⟨ow4, g4⟩ := g3.rel.set hl3 i3
        exact ⟨v1, v2, v3, rfl, k _ ow4 H1 (((k1.trans g2).trans g3).trans g4)⟩
    · cases h
  · cases h
/-! ### loops -/
def DrawsD (K : KW) (J : It) (ds : List D) (H : Hp) : Prop := ∀ H', ImKeep H H' → ∀ i, (∀ d, ds[i]? = some d → J.go i H' ∧ ∀ x H'', J.yld i H' x H'' → Same H' H'' ∧ Im K H'' x d) ∧ (ds[i]? = none → J.stop i H')
def xI (K : KW) (g : Gx) (f : M (List D)) : TI := fun σ H R => ∃ ρ own ds ρ', f ρ = some (ds, ρ') ∧ RelE K g σ ρ own H ∧ ∀ J own' H', Go K g σ own H σ ρ' own' H' → DrawsD K J ds H' → R J H'
abbrev QI (X : Cx) (g : Gx) (tg it : Expr) (f : M (List D)) : Prop := PI X tg it (xI (xkw X) g f)
theorem pi_conv {X : Cx} {tg it : Expr} {t t' : TI} (h : PI X tg it t) (c : ∀ σ H R, t' σ H R → t σ H R) : PI X tg it t' := ⟨fun pins s σ H R I q => h.run pins s σ H R I (c σ H R q)⟩
theorem drop_get {α : Type} {ds : List α} {i : Nat} {d : α} (h : ds[i]? = some d) : ds.drop i = d :: ds.drop (i + 1) := by
  obtain ⟨hl, rfl⟩ := List.getElem?_eq_some_iff.mp h
  exact (List.drop_eq_getElem_cons hl)
theorem for_of {K : KW} {it : M (List D)} {bd : MS} : ∀ Dn σ H, xS K g (sFor it t bd) Dn σ H → tFor (xI K g it) (xG K g t ts) (xS K g bd) Dn σ H := by
  rintro Dn σ H ⟨ρ, own, fl, ρ', h, R, k⟩
  unfold sFor at h
  split at h
  · rename_i ds ρ1 h1
    refine ⟨ρ, own, ds, ρ1, h1, R, fun J ow1 H1 k1 dr => ?_⟩
    refine ⟨fun i m σ2 H2 => m = ds.length - i ∧ i ≤ ds.length ∧ ∃ ρi ow2, Go K g σ ow1 H1 σ2 ρi ow2 H2 ∧ forGo t bd (ds.drop i) ρi = some (fl, ρ'), ⟨_, rfl, Nat.zero_le _, ρ1, ow1, .refl k1.rel, h⟩, ?_⟩
    rintro i m σ2 H2 ⟨rfl, hi, ρi, ow2, k2, hg⟩
    obtain ⟨dr1, dr2⟩ := dr H2 k2.kp.imm i
    cases hd : ds[i]? with
    | none =>
      refine .inl ⟨dr2 hd, ?_⟩
      have hl : ds.length ≤ i := List.getElem?_eq_none_iff.mp hd
      rw [List.drop_of_length_le hl] at hg
      cases hg
      exact k σ2 ow2 H2 (k1.trans k2)
    | some d =>
      obtain ⟨go, yl⟩ := dr1 d hd
      have hlt : i < ds.length := (List.getElem?_eq_some_iff.mp hd).1
      rw [drop_get hd, forGo] at hg
      cases ht : t d ρi with
      | none => simp only [ht] at hg; cases hg
      | some ρ2 =>
        simp only [ht] at hg
        cases hb : bd ρ2 with
        | none => simp only [hb] at hg; cases hg
        | some q =>
          obtain ⟨fl2, ρ3⟩ := q
          refine .inr ⟨go, fun σ' H' => ∃ ow3, Go K g σ ow1 H1 σ' ρ3 ow3 H' ∧ forGo t bd (ds.drop (i + 1)) ρ3 = some (fl, ρ'), fun σ' H' ⟨ow3, n1, n2⟩ => ⟨ds.length - (i + 1), by omega, rfl, by omega, ρ3, ow3, n1, n2⟩, fun x H3 y => ?_⟩
          obtain ⟨sm, im⟩ := yl x H3 y
          have s3 := k2.rel.goSame sm
          refine ⟨d, ρi, ow2, ρ2, ht, im, s3.rel, fun σ4 ow4 H4 k4 _ => ⟨ρ2, ow4, fl2, ρ3, hb, k4.rel, fun σ5 ow5 H5 k5 => ?_⟩⟩
          have kk := ((k2.trans s3).trans k4).trans k5
          have k4' := k1.kp.trans ((k2.trans s3).trans k4).kp k1.sub
          cases fl2 with
          | nx => simp only [hb] at hg; exact ⟨ow5, kk, hg⟩
          | ct => simp only [hb] at hg; exact ⟨ow5, kk, hg⟩
          | bk => simp only [hb] at hg; cases hg; exact k σ5 ow5 H5 (k1.trans kk)
          | rt d => simp only [hb] at hg; cases hg; exact k σ5 ow5 H5 (k1.trans kk)
          | ro d => simp only [hb] at hg; cases hg; exact goEnd.back (fl := .ro d) k4' (k σ5 ow5 H5 (k1.trans kk))
  · cases h
theorem q_for {it : Expr} {body : List Stmt} {fi : M (List D)} {bd : MS} (hi : QI X g tg it fi) (hg : QG X g tg t ts) (hb : QSs X g body bd) (hp : PassesOwn (model X.prog X.w) X.A X.env X.xe := by exact PassesOwn.never) (hc : X.calm = true := by rfl)
    (hs : ∀ x, foldedSetIterable it X.env x = pure x := by intro _; rfl) : QS X g (.For tg it body [] pos) (sFor fi t bd) := ps_conv (ps_for hp hc hi hg hb hs) for_of
def sWhile (n : Nat) (c : M Bool) (b : MS) : MS := whGo c b n
theorem while_of {K : KW} {n : Nat} {bd : MS} : ∀ Dn σ H, xS K g (sWhile n c bd) Dn σ H → tWhile (xT K g c) (xS K g bd) Dn σ H := by
  rintro Dn σ H ⟨ρ, own, fl, ρ', h, R, k⟩
  refine ⟨fun m σ2 H2 => ∃ ρi ow2, Go K g σ own H σ2 ρi ow2 H2 ∧ whGo c bd m ρi = some (fl, ρ'), ⟨n, ρ, own, .refl R, h⟩, ?_⟩
  rintro m σ2 H2 ⟨ρi, ow2, k2, hg⟩
  cases m with
  | zero => cases hg
  | succ m =>
    rw [whGo] at hg
    cases hc : c ρi with
    | none => simp only [hc] at hg; cases hg
    | some q =>
      obtain ⟨bb, ρ2⟩ := q
      refine ⟨ρi, ow2, bb, ρ2, hc, k2.rel, fun ow3 H3 k3 => ?_⟩
      cases bb with
      | false =>
        simp only [hc] at hg
        cases hg
        exact iteF (k σ2 ow3 H3 (k2.trans k3))
      | true =>
        simp only [hc] at hg
        cases hb : bd ρ2 with
        | none => simp only [hb] at hg; cases hg
        | some q =>
          obtain ⟨fl2, ρ3⟩ := q
          refine iteT ⟨fun σ' H' => ∃ ow4, Go K g σ own H σ' ρ3 ow4 H' ∧ whGo c bd m ρ3 = some (fl, ρ'), fun σ' H' ⟨ow4, n1, n2⟩ => ⟨m, Nat.lt_succ_self m, ρ3, ow4, n1, n2⟩, ρ2, ow3, fl2, ρ3, hb, k3.rel, fun σ5 ow5 H5 k5 => ?_⟩
          have kk := (k2.trans k3).trans k5
          cases fl2 with
          | nx => simp only [hb] at hg; exact ⟨ow5, kk, hg⟩
          | ct => simp only [hb] at hg; exact ⟨ow5, kk, hg⟩
          | bk => simp only [hb] at hg; cases hg; exact k σ5 ow5 H5 kk
          | rt d => simp only [hb] at hg; cases hg; exact k σ5 ow5 H5 kk
          | ro d => simp only [hb] at hg; cases hg; exact goEnd.back (fl := .ro d) (k2.trans k3).kp (k σ5 ow5 H5 kk)
theorem q_while {n : Nat} {ce : Expr} {body : List Stmt} {bd : MS} (hc : QT X g ce c) (hb : QSs X g body bd) (hp : PassesOwn (model X.prog X.w) X.A X.env X.xe := by exact PassesOwn.never) : QS X g (.While ce body [] pos) (sWhile n c bd) := ps_conv (ps_while hp hc hb) while_of
end

/-! ### a def by its body -/
def args0 (n : Nat) (ds : List D) : Rho := ds.map (fun d => some (.dat d)) ++ List.replicate (n - ds.length) none
def callD (N n : Nat) (b : MS) : List D → Option D := fun ds => if ds.length = n then (match b (args0 N ds) with
  | some (.rt d, _) => some d
  | some (.nx, _) => some .none
  | _ => none) else none
def callO (N n : Nat) (b : MS) : List D → Option (List D) := fun ds => if ds.length = n then (match b (args0 N ds) with
  | some (.ro d, _) => some d
  | _ => none) else none
def callB (N n : Nat) (b : MS) : List D → List D → Option (D × List D) := fun es ds => if ds.length + 1 = n then (match b (some (.ol es) :: args0 (N - 1) ds) with
  | some (.rt d, some (.ol es') :: _) => some (d, es')
  | some (.nx, some (.ol es') :: _) => some (.none, es')
  | _ => none) else none
theorem start_get {N : List Str} {vs : List V} {ds : List D} {K : KW} {H : Hp} (im : ImAll K H vs ds) {i : Nat} {sv : SV} (h : (args0 N.length ds)[i]? = some (some sv)) : ∃ v d, (L2.start N vs)[i]? = some (some v) ∧ sv = .dat d ∧ Im K H v d := by
  unfold args0 at h
  by_cases hi : i < ds.length
  · rw [List.getElem?_append_left (by simpa using hi), List.getElem?_map] at h
    have hd : ds[i]? = some ds[i] := List.getElem?_eq_getElem hi
    rw [hd] at h
    obtain ⟨v, h1, h2⟩ := im.get hd
    cases h
    refine ⟨v, _, ?_, rfl, h2⟩
    unfold L2.start
    rw [List.getElem?_append_left (by simpa [im.len] using hi), List.getElem?_map, h1]
    rfl
  · rw [List.getElem?_append_right (by simpa using hi), List.getElem?_replicate] at h
    split at h <;> cases h
theorem start_len {N : List Str} {vs : List V} (h : vs.length ≤ N.length) : (L2.start N vs).length = N.length := by
  unfold L2.start
  rw [List.length_append, List.length_map, List.length_replicate]
  omega
section
variable {P : Program} {w : World} {K : PySem.W.Frag} {mg : Str → Option Value} {base : Heap}
/-- a def as it may be called -/
structure DOk (P : Program) (w : World) (K : PySem.W.Frag) (mg : Str → Option Value) (base : Heap) (k : Nat) (x : Str) (sp : Sp) : Prop where
  ex : ∃ (f : Addr) (fd : FuncData) (ps : List Str), FnOk P w K mg base CX0 k f fd ps sp ∧ mg x = some (.ref f) ∧ PySem.W.keepIn K (.ref f) = true ∧ Binds K fd ps []
theorem DOk.at {X : Cx} {k j : Nat} {x : Str} {sp : Sp} (h : DOk X.prog X.w (xkw X) X.mg X.base k x sp) (hr : Room j X.A) (hk : k ≤ j := by decide) : DefOk X x sp :=
  let ⟨f, fd, ps, h1, h2, h3, h4⟩ := h.ex
  ⟨k, f, fd, ps, h1, hr.mono hk, h2, h3, h4⟩
/-- what the top left of a def -/
structure Df (K : PySem.W.Frag) (mg : Str → Option Value) (x qual : Str) (st : Stmt) (ps : List Str) : Prop where
  ex : ∃ (f : Addr) (fd : FuncData), Fun K x qual st f fd ∧ mg x = some (.ref f) ∧ Binds K fd ps []
abbrev cx0 (P : Program) (w : World) (K : PySem.W.Frag) (mg : Str → Option Value) (base : Heap) (N : List Str) (qual : Str) (st : Stmt) (f : Addr) (cdv : Value) (A : Around) (outer : List Env) (s : Shared) (H : Hp) (E : XK) : Cx :=
  (cxOf CX0 P w K mg base N qual (defScope st) f cdv A outer s H E).nox
theorem rel_start {K : KW} {N : List Str} {vs : List V} {ds : List D} {H : Hp} {T : Tb} {nn pn : Nat} (hN : N.length = nn) (im : ImAll K H vs ds) (tb : LamX.Tabs T H) (hl : vs.length ≤ N.length) : RelE K ⟨T, nn, pn⟩ (L2.start N vs) (args0 nn ds) (fun _ => []) H := by
  subst hN
  refine ⟨tb, start_len hl, fun i j a h => absurd h (by simp), fun i => ?_⟩
  unfold Holds
  split
  · rename_i sv h
    obtain ⟨v, d, h1, rfl, h2⟩ := start_get im h
    exact ⟨v, h1, .dat h2⟩
  · rfl
theorem callD_some {nn n : Nat} {body : MS} {ds : List D} {d : D} (h : callD nn n body ds = some d) : ds.length = n ∧ ∃ fl ρ', body (args0 nn ds) = some (fl, ρ') ∧ (fl = .rt d ∨ (fl = .nx ∧ d = .none)) := by
  unfold callD at h
  split at h
  · rename_i hl
    refine ⟨hl, ?_⟩
    cases hb : body (args0 nn ds) with
    | none => simp only [hb] at h; cases h
    | some z =>
      obtain ⟨fl, ρ'⟩ := z
      cases fl with
      | rt d' => simp only [hb] at h; cases h; exact ⟨_, _, rfl, .inl rfl⟩
      | nx => simp only [hb] at h; cases h; exact ⟨_, _, rfl, .inr ⟨rfl, rfl⟩⟩
      | _ => simp only [hb] at h; cases h
  · cases h
theorem callO_some {nn n : Nat} {body : MS} {ds : List D} {d : List D} (h : callO nn n body ds = some d) : ds.length = n ∧ ∃ ρ', body (args0 nn ds) = some (.ro d, ρ') := by
  unfold callO at h
  split at h
  · rename_i hl
    refine ⟨hl, ?_⟩
    cases hb : body (args0 nn ds) with
    | none => simp only [hb] at h; cases h
    | some z =>
      obtain ⟨fl, ρ'⟩ := z
      cases fl with
      | ro d' => simp only [hb] at h; cases h; exact ⟨_, rfl⟩
      | _ => simp only [hb] at h; cases h
  · cases h
theorem callB_some {nn n : Nat} {body : MS} {es ds : List D} {d : D} {es' : List D} (h : callB nn n body es ds = some (d, es')) : ds.length + 1 = n ∧ ∃ fl r, body (some (.ol es) :: args0 (nn - 1) ds) = some (fl, some (.ol es') :: r) ∧ (fl = .rt d ∨ (fl = .nx ∧ d = .none)) := by
  unfold callB at h
  split at h
  · rename_i hl
    refine ⟨hl, ?_⟩
    cases hb : body (some (.ol es) :: args0 (nn - 1) ds) with
    | none => simp only [hb] at h; cases h
    | some z =>
      obtain ⟨fl, ρ'⟩ := z
      cases ρ' with
      | nil => cases fl <;> (simp only [hb] at h; cases h)
      | cons o r =>
        cases o with
        | none => cases fl <;> (simp only [hb] at h; cases h)
        | some sv =>
          cases sv with
          | dat z => cases fl <;> (simp only [hb] at h; cases h)
          | od z => cases fl <;> (simp only [hb] at h; cases h)
          | odl z => cases fl <;> (simp only [hb] at h; cases h)
          | fn _ _ => cases fl <;> (simp only [hb] at h; cases h)
          | ol es2 =>
            cases fl with
            | rt d' => simp only [hb] at h; cases h; exact ⟨_, _, rfl, .inl rfl⟩
            | nx => simp only [hb] at h; cases h; exact ⟨_, _, rfl, .inr ⟨rfl, rfl⟩⟩
            | _ => simp only [hb] at h; cases h
  · cases h
theorem not_in0 {b : Addr} (h : InO (fun _ => []) b) : False := by
  obtain ⟨i, hi⟩ := h
  cases hi
theorem dok_data {x qual : Str} {st : Stmt} {N ps : List Str} {k nn n : Nat} {T : Tb} {body : MS} (Dx : Df K mg x qual st ps) (S : FnScope N ps (defScope st)) (hN : N.length = nn) (hn : ps.length = n)
    (hb : ∀ (f : Addr) (cdv : Value) (A : Around) (outer : List Env) (s : Shared) (H : Hp) (E : XK), Room k (A.deeper (envOfC qual (defScope st) s.heap.objs.size f cdv)) → QSs (cx0 P w K mg base N qual st f cdv A outer s H E) ⟨T, nn, 0⟩ (defBody st) body) :
    DOk P w K mg base (k + 1) x (spD (kw P w K mg base) T (callD nn n body)) := by
  obtain ⟨f, fd, F, hm, hB⟩ := Dx.ex
  have hpl : ps.length ≤ N.length := by have := congrArg List.length S.pre; rw [List.length_take] at this; omega
  refine ⟨f, fd, ps, F.ok S (fun vs H Q E h => ?_) (fun cdv A outer s H vs Q E hr h => ⟨_, hb f cdv A outer s H E hr, ?_⟩), hm, F.kp, hB⟩
  · obtain ⟨ds, d, im, hF, _⟩ := h
    rw [im.len, (callD_some hF).1, hn]
  · obtain ⟨ds, d, im, hF, tb, q⟩ := h
    obtain ⟨hl, fl, ρ', h1, h2⟩ := callD_some hF
    refine ⟨_, _, fl, ρ', h1, rel_start hN im tb (by rw [im.len, hl, ← hn]; exact hpl), fun σ' ow H' go => ?_⟩
    have kp : Kp T B0 H H' := go.kp.sub fun b z => (not_in0 z).elim
    rcases h2 with rfl | ⟨rfl, rfl⟩
    · exact fun v i => q v H' kp go.rel.tb i
    · exact q _ H' kp go.rel.tb .non
theorem dok_new {x qual : Str} {st : Stmt} {N ps : List Str} {k nn n : Nat} {T : Tb} {body : MS} (Dx : Df K mg x qual st ps) (S : FnScope N ps (defScope st)) (hN : N.length = nn) (hn : ps.length = n)
    (hb : ∀ (f : Addr) (cdv : Value) (A : Around) (outer : List Env) (s : Shared) (H : Hp) (E : XK), Room k (A.deeper (envOfC qual (defScope st) s.heap.objs.size f cdv)) → QSs (cx0 P w K mg base N qual st f cdv A outer s H E) ⟨T, nn, 0⟩ (defBody st) body) :
    DOk P w K mg base (k + 1) x (spO (kw P w K mg base) T (callO nn n body)) := by
  obtain ⟨f, fd, F, hm, hB⟩ := Dx.ex
  have hpl : ps.length ≤ N.length := by have := congrArg List.length S.pre; rw [List.length_take] at this; omega
  refine ⟨f, fd, ps, F.ok S (fun vs H Q E h => ?_) (fun cdv A outer s H vs Q E hr h => ⟨_, hb f cdv A outer s H E hr, ?_⟩), hm, F.kp, hB⟩
  · obtain ⟨ds, d, im, hF, _⟩ := h
    rw [im.len, (callO_some hF).1, hn]
  · obtain ⟨ds, d, im, hF, tb, q⟩ := h
    obtain ⟨hl, ρ', h1⟩ := callO_some hF
    refine ⟨_, _, _, ρ', h1, rel_start hN im tb (by rw [im.len, hl, ← hn]; exact hpl), fun σ' ow H' go => ?_⟩
    have kp : Kp T B0 H H' := go.kp.sub fun b z => (not_in0 z).elim
    exact fun p xs e1 e2 e3 => q p xs H' kp go.rel.tb e1 e2 e3
theorem dok_noneD {x qual : Str} {st : Stmt} {ps : List Str} {k : Nat} {T : Tb} (Dx : Df K mg x qual st ps) : DOk P w K mg base k x (spD (kw P w K mg base) T fun _ => none) := by
  obtain ⟨f, fd, F, hm, hB⟩ := Dx.ex
  have no : ∀ vs H Q E, ¬ spD (kw P w K mg base) T (fun _ => none) vs H Q E := fun vs H Q E h => by
    obtain ⟨_, _, _, h, _⟩ := h
    cases h
  exact ⟨f, fd, ps, ⟨fun vs H Q E h => (no _ _ _ _ h).elim, fun A outer s H args us vs Q E hr e0 hb r h => (no _ _ _ _ h).elim⟩, hm, F.kp, hB⟩
theorem dok_noneB {x qual : Str} {st : Stmt} {ps : List Str} {k : Nat} {T : Tb} (Dx : Df K mg x qual st ps) : DOk P w K mg base k x (spB (kw P w K mg base) T fun _ _ => none) := by
  obtain ⟨f, fd, F, hm, hB⟩ := Dx.ex
  have no : ∀ vs H Q E, ¬ spB (kw P w K mg base) T (fun _ _ => none) vs H Q E := fun vs H Q E h => by
    obtain ⟨_, _, _, _, _, _, _, _, _, _, _, h, _⟩ := h
    cases h
  exact ⟨f, fd, ps, ⟨fun vs H Q E h => (no _ _ _ _ h).elim, fun A outer s H args us vs Q E hr e0 hb r h => (no _ _ _ _ h).elim⟩, hm, F.kp, hB⟩
def own1 (a : Addr) : Nat → List Addr
  | 0 => [a]
  | _ + 1 => []
theorem dok_borrow {x qual : Str} {st : Stmt} {N ps : List Str} {k nn n : Nat} {T : Tb} {body : MS} (Dx : Df K mg x qual st ps) (S : FnScope N ps (defScope st)) (hN : N.length = nn) (hn : ps.length = n)
    (hb : ∀ (f : Addr) (cdv : Value) (A : Around) (outer : List Env) (s : Shared) (H : Hp) (E : XK), Room k (A.deeper (envOfC qual (defScope st) s.heap.objs.size f cdv)) → QSs (cx0 P w K mg base N qual st f cdv A outer s H E) ⟨T, nn, 1⟩ (defBody st) body) :
    DOk P w K mg base (k + 1) x (spB (kw P w K mg base) T (callB nn n body)) := by
  obtain ⟨f, fd, F, hm, hB⟩ := Dx.ex
  have hpl : ps.length ≤ N.length := by have := congrArg List.length S.pre; rw [List.length_take] at this; omega
  refine ⟨f, fd, ps, F.ok S (fun vs H Q E h => ?_) (fun cdv A outer s H vs Q E hr h => ⟨_, hb f cdv A outer s H E hr, ?_⟩), hm, F.kp, hB⟩
  · obtain ⟨a, ws, xs, es, ds, d, es', rfl, _, _, im, hF, _⟩ := h
    rw [List.length_cons, im.len, (callB_some hF).1, hn]
  · obtain ⟨a, ws, xs, es, ds, d, es', rfl, hH, iL, im, hF, tb, q⟩ := h
    obtain ⟨hl, fl, r, h1, h2⟩ := callB_some hF
    have hl2 : (V.ref a :: ws).length ≤ N.length := by rw [List.length_cons, im.len]; omega
    have hst : L2.start N (V.ref a :: ws) = some (V.ref a) :: (ws.map some ++ List.replicate (N.length - (ws.length + 1)) none) := by
      unfold L2.start
      rw [List.map_cons, List.cons_append, List.length_cons]
    have R0 : RelE (kw P w K mg base) ⟨T, nn, 1⟩ (L2.start N (V.ref a :: ws)) (some (.ol es) :: args0 (nn - 1) ds) (own1 a) H := by
      refine ⟨tb, (start_len hl2).trans hN, fun i j b h h' => ?_, fun i => ?_⟩
      · cases i with
        | zero =>
          cases j with
          | zero => rfl
          | succ j => exact absurd h' (by simp [own1])
        | succ i => exact absurd h (by simp [own1])
      · cases i with
        | zero =>
          rw [hst]
          exact ⟨_, rfl, .ol hH iL⟩
        | succ i =>
          unfold Holds
          split
          · rename_i sv h
            rw [List.getElem?_cons_succ] at h
            unfold args0 at h
            by_cases hi : i < ds.length
            · rw [List.getElem?_append_left (by simpa using hi), List.getElem?_map] at h
              have hd : ds[i]? = some ds[i] := List.getElem?_eq_getElem hi
              rw [hd] at h
              obtain ⟨v, q1, q2⟩ := im.get hd
              cases h
              refine ⟨v, ?_, .dat q2⟩
              rw [hst, List.getElem?_cons_succ, List.getElem?_append_left (by simpa [im.len] using hi), List.getElem?_map, q1]
              rfl
            · rw [List.getElem?_append_right (by simpa using hi), List.getElem?_replicate] at h
              split at h <;> cases h
          · rfl
    refine ⟨_, own1 a, fl, _, h1, R0, fun σ' ow H' go => ?_⟩
    have kp : Kp T (B1 a) H H' := go.kp.sub fun b ⟨j, hj⟩ => by
      cases j with
      | zero => exact .inl (List.mem_singleton.mp hj)
      | succ j => cases hj
    obtain ⟨b, xs', q1, q2, q3, _⟩ := go.rel.ownAt (j := 0) (es := es') rfl
    have pn := go.pin 0 (Nat.zero_lt_one)
    rw [q1, hst] at pn
    cases pn
    rcases h2 with rfl | ⟨rfl, rfl⟩
    · exact fun v i => q v H' xs' kp go.rel.tb q2 q3 i
    · exact q _ H' xs' kp go.rel.tb q2 q3 .non
end
end VS

namespace VS
open PySem PySem.Spec PyProof.Rows L2

theorem ImAll.atI {K : KW} {H : Hp} {vs : List V} {ds : List D} {i : Int} {d : D} (h : ImAll K H vs ds) (e : L2.atI ds i = some d) : ∃ v, L2.atI vs i = some v ∧ Im K H v d := by
  unfold L2.atI at e ⊢
  rw [h.len]
  cases h1 : ixN ds.length i with
  | none => rw [h1] at e; cases e
  | some j =>
    rw [h1] at e
    exact h.get e

section
variable {X : Cx} {g : Gx} {pos : Pos} {e a b : Expr} {es : List Expr} {fs : M (List D)} {f fa : M D}
/-! ### the lists that belong to slots -/
def isOl (ρ : Rho) (j : Nat) : Option (List D) := match ρ[j]? with
  | some (some (.ol es)) => some es
  | _ => none
theorem isOl_some {ρ : Rho} {j : Nat} {es : List D} (h : isOl ρ j = some es) : ρ[j]? = some (some (.ol es)) := by
  unfold isOl at h
  split at h
  · rename_i es' h1
    cases h
    exact h1
  · cases h
/-- f(own list, ..) -/
def eBor (j : Nat) (F : List D → List D → Option (D × List D)) (fs : M (List D)) : M D := fun ρ => match isOl ρ j with
  | none => none
  | some _ => match fs ρ with
    | none => none
    | some (ds, ρ1) => match isOl ρ1 j with
      | none => none
      | some es => match F es ds with
        | none => none
        | some (d, es') => some (d, ρ1.set j (some (.ol es')))
theorem q_bor (j : Nat) {x y : Str} {p p2 : Pos} {F : List D → List D → Option (D × List D)} (hf : DefOk X x (spB (xkw X) g.T F)) (ha : QA X g es fs) (hN : X.N[j]? = some y := by rfl) (hv : Vis X.env.scope y := by first | exact Or.inl rfl | exact Or.inr (Or.inl rfl) | exact Or.inr (Or.inr rfl))
    (hdy : (y == ("__debug__" : Str)) = false := by decide) (hcd : (y == ("__classdict__" : Str)) = false := by decide) (hg : Gl X x := by rfl) (hdb : (x == ("__debug__" : Str)) = false := by decide)
    (hs : starEach (.Name y p2 :: es) X.env = (false, eval (.Name y p2) X.env) :: starEach es X.env := by rfl) (hpl : (backTo pos (starEach es X.env)).any (·.1) = false := by rfl) :
    QE X g (.Call (.Name x p) (.Name y p2 :: es) [] pos) (eBor j F fs) := by
  obtain ⟨k, f, fd, ps, F0, hr, hm, hk, hb⟩ := hf.ex
  refine pe_conv (pe_call F0 hr hg hm hk hb .nil pass0 (pa_cons (pe_var hN hv hdy hcd) ha hs) hdb hs hpl) ?_
  rintro σ H Q ⟨ρ, own, d, ρ', h, R, k⟩
  unfold eBor at h
  cases h0 : isOl ρ j with
  | none => simp only [h0] at h; cases h
  | some es0 =>
    simp only [h0] at h
    cases h1 : fs ρ with
    | none => simp only [h1] at h; cases h
    | some q =>
      obtain ⟨ds, ρ1⟩ := q
      simp only [h1] at h
      cases h2 : isOl ρ1 j with
      | none => simp only [h2] at h; cases h
      | some es1 =>
        simp only [h2] at h
        cases h3 : F es1 ds with
        | none => simp only [h3] at h; cases h
        | some r =>
          obtain ⟨d', es'⟩ := r
          simp only [h3] at h
          cases h
          obtain ⟨a, xs, q1, _⟩ := R.ownAt (isOl_some h0)
          refine ⟨.ref a, q1, ρ, own, ds, ρ1, h1, R, fun vs ow1 H1 k1 i1 => ?_⟩
          obtain ⟨a2, xs2, p1, p2, p3, _⟩ := k1.rel.ownAt (isOl_some h2)
          rw [q1] at p1
          cases p1
          refine ⟨a, vs, xs2, es1, ds, d, es', by simp, p2, p3, i1, h3, k1.rel.tb, fun v H' xs' kp tb e1 e2 im => ?_⟩
          obtain ⟨ow2, go⟩ := k1.rel.change (isOl_some h2) q1 kp e1 e2
          exact k v ow2 H' (k1.trans go) im
/-- own[i] -/
def eIxO (j : Nat) (f : M D) : M D := fun ρ => match isOl ρ j with
  | none => none
  | some _ => match f ρ with
    | some (.int i, ρ1) => (match isOl ρ1 j with
      | some es => (match atI es i with | some d => some (d, ρ1) | none => none)
      | none => none)
    | _ => none
theorem q_ixO (j : Nat) {y : Str} {p2 : Pos} (hb : QE X g b f) (hN : X.N[j]? = some y := by rfl) (hv : Vis X.env.scope y := by first | exact Or.inl rfl | exact Or.inr (Or.inl rfl) | exact Or.inr (Or.inr rfl))
    (hdy : (y == ("__debug__" : Str)) = false := by decide) (hcd : (y == ("__classdict__" : Str)) = false := by decide) (hs : PlainIx b := by exact fun _ _ => rfl) : QE X g (.Subscript (.Name y p2) b pos) (eIxO j f) := by
  refine pe_conv (pe_ix ix_list (pe_var hN hv hdy hcd) hb hs) ?_
  rintro σ H Q ⟨ρ, own, d, ρ', h, R, k⟩
  unfold eIxO at h
  cases h0 : isOl ρ j with
  | none => simp only [h0] at h; cases h
  | some es0 =>
    simp only [h0] at h
    split at h
    · rename_i i ρ1 h1
      cases h2 : isOl ρ1 j with
      | none => simp only [h2] at h; cases h
      | some es1 =>
        simp only [h2] at h
        cases h3 : atI es1 i with
        | none => simp only [h3] at h; cases h
        | some d' =>
          simp only [h3] at h
          cases h
          obtain ⟨a, xs, q1, _⟩ := R.ownAt (isOl_some h0)
          refine ⟨.ref a, q1, ρ, own, _, ρ', h1, R, fun v ow1 H1 k1 i1 => ?_⟩
          obtain ⟨a2, xs2, p1, p2, p3, _⟩ := k1.rel.ownAt (isOl_some h2)
          rw [q1] at p1
          cases p1
          obtain ⟨w, w1, w2⟩ := p3.atI h3
          exact ⟨a, xs2, i, w, rfl, i1.ofInt, .of p2, w1, k w ow1 H1 k1 w2⟩
    · cases h
/-- len(own) -/
def eLenO (j : Nat) : M D := fun ρ => match isOl ρ j with
  | some es => some (.int es.length, ρ)
  | none => none
theorem q_lenO (j : Nat) {y : Str} {p p2 : Pos} (hm : X.mg "len" = none) (hN : X.N[j]? = some y := by rfl) (hv : Vis X.env.scope y := by first | exact Or.inl rfl | exact Or.inr (Or.inl rfl) | exact Or.inr (Or.inr rfl))
    (hdy : (y == ("__debug__" : Str)) = false := by decide) (hcd : (y == ("__classdict__" : Str)) = false := by decide) (hg : Gl X "len" := by rfl) : QE X g (.Call (.Name "len" p) [.Name y p2] [] pos) (eLenO j) := by
  refine pe_conv (pe_callB call_len_seq hg hm PySem.boot_len (pa_cons (pe_var hN hv hdy hcd) pa_nil)) ?_
  rintro σ H Q ⟨ρ, own, d, ρ', h, R, k⟩
  unfold eLenO at h
  cases h0 : isOl ρ j with
  | none => simp only [h0] at h; cases h
  | some es0 =>
    simp only [h0] at h
    cases h
    obtain ⟨a, xs, q1, q2, q3, _⟩ := R.ownAt (isOl_some h0)
    refine ⟨.ref a, q1, a, xs, rfl, .inl (.of q2), ?_⟩
    rw [q3.len]
    exact k _ own H (.refl R) (.int _)
/-- own, as data from now on -/
def eTake (j : Nat) : M D := fun ρ => match isOl ρ j with
  | some es => some (.list es, ρ.set j (some (.dat (.list es))))
  | none => none
theorem q_take (j : Nat) {y : Str} (hN : X.N[j]? = some y := by rfl) (hv : Vis X.env.scope y := by first | exact Or.inl rfl | exact Or.inr (Or.inl rfl) | exact Or.inr (Or.inr rfl))
    (hdy : (y == ("__debug__" : Str)) = false := by decide) (hcd : (y == ("__classdict__" : Str)) = false := by decide) : QE X g (.Name y pos) (eTake j) := by
  refine pe_conv (pe_fz (pe_var hN hv hdy hcd)) ?_
  rintro σ H Q ⟨ρ, own, d, ρ', h, R, k⟩
  unfold eTake at h
  cases h0 : isOl ρ j with
  | none => simp only [h0] at h; cases h
  | some es0 =>
    simp only [h0] at h
    cases h
    obtain ⟨a, xs, q1, q2, q3, _⟩ := R.ownAt (isOl_some h0)
    refine ⟨.ref a, q1, .inr ⟨a, xs, rfl, q2, fun o => ?_⟩⟩
    obtain ⟨⟨ow, go⟩, im⟩ := R.freeze (isOl_some h0) q1 q2 q3 o
    exact k _ ow _ go im
/-- own.append(e) -/
def sApp (j : Nat) (f : M D) : MS := fun ρ => match isOl ρ j with
  | none => none
  | some _ => match f ρ with
    | some (d, ρ1) => (match isOl ρ1 j with
      | some es => if es.length < most then some (.nx, ρ1.set j (some (.ol (es ++ [d])))) else none
      | none => none)
    | none => none
theorem tyL {K : KW} {a : Addr} {xs : List V} {H : Hp} (h : H a = some (.lst xs)) : tyV K "list" (.ref a) H := .inl ⟨rfl, _, .of h⟩
theorem q_app (j : Nat) {y : Str} {p2 p3 p4 : Pos} (hb : QE X g b f) (hN : X.N[j]? = some y := by rfl) (hv : Vis X.env.scope y := by first | exact Or.inl rfl | exact Or.inr (Or.inl rfl) | exact Or.inr (Or.inr rfl))
    (hdy : (y == ("__debug__" : Str)) = false := by decide) (hcd : (y == ("__classdict__" : Str)) = false := by decide) (hst : starEach [b] X.env = (false, eval b X.env) :: starEach [] X.env := by rfl)
    (hs : PA X [b] (tCons (xE (xkw X) g f) tNil) → PE X (.Call (.Attribute (.Name y p2) "append" p3) [b] [] p4) (tBM (xkw X) "list" rAppend (tVar j) (tCons (xE (xkw X) g f) tNil)) := by
      exact fun h => pe_bm PySem.F.plainAttrs_list PySem.F.slot_list_append PySem.F.type_list_append mt_append (pv _) h)
    (hsw : swapsWith (.Call (.Attribute (.Name y p2) "append" p3) [b] [] p4) none pos.line X.env = pure false := by rfl) :
    QS X g (.Expr (.Call (.Attribute (.Name y p2) "append" p3) [b] [] p4) pos) (sApp j f) := by
  refine ps_conv (ps_expr (hs (pa_cons hb pa_nil hst)) hsw) ?_
  rintro Dn σ H ⟨ρ, own, fl, ρ', h, R, k⟩
  unfold sApp at h
  cases h0 : isOl ρ j with
  | none => simp only [h0] at h; cases h
  | some es0 =>
    simp only [h0] at h
    split at h
    · rename_i d ρ1 h1
      cases h2 : isOl ρ1 j with
      | none => simp only [h2] at h; cases h
      | some es1 =>
        simp only [h2] at h
        split at h
        · rename_i hz
          cases h
          obtain ⟨a, xs, q1, q2, _⟩ := R.ownAt (isOl_some h0)
          refine ⟨.ref a, q1, tyL q2, ρ, own, d, ρ1, h1, R, fun v ow1 H1 k1 i1 => ?_⟩
          obtain ⟨a2, xs2, p1, p2, p3, _⟩ := k1.rel.ownAt (isOl_some h2)
          rw [q1] at p1
          cases p1
          refine ⟨a, xs2, v, rfl, rfl, p2, by rw [p3.len]; exact Nat.lt_of_lt_of_le hz most_line, ?_⟩
          have kp : Kp g.T (B1 a) H1 (upd H1 a (.lst (xs2 ++ [v]))) := .write p2 trivial lst_code
          obtain ⟨ow2, go⟩ := k1.rel.change (isOl_some h2) q1 kp upd_same ((p3.append (.cons i1 .nil)).up kp.imm)
          exact k σ ow2 _ (k1.trans go)
        · cases h
    · cases h
/-- own[i] = e -/
def sSetO (j : Nat) (f : M D) (fi : M D) : MS := fun ρ => match f ρ with
  | none => none
  | some (d, ρ1) => match isOl ρ1 j with
    | none => none
    | some _ => match fi ρ1 with
      | some (.int i, ρ2) => (match isOl ρ2 j with
        | some es => (match ixN es.length i with | some m => some (.nx, ρ2.set j (some (.ol (es.set m d)))) | none => none)
        | none => none)
      | _ => none
theorem q_setO (j : Nat) {y : Str} {p2 p3 : Pos} (hb : QE X g b f) (hi : QE X g a fa) (hN : X.N[j]? = some y := by rfl) (hv : Vis X.env.scope y := by first | exact Or.inl rfl | exact Or.inr (Or.inl rfl) | exact Or.inr (Or.inr rfl))
    (hdy : (y == ("__debug__" : Str)) = false := by decide) (hcd : (y == ("__classdict__" : Str)) = false := by decide)
    (ha : ∀ v, assign (.Subscript (.Name y p2) a p3) X.env v = (do
      let ov ← holding [v] (eval (.Name y p2) X.env)
      let iv ← holding [v, ov] (eval a X.env)
      standAt p3
      holding [v, ov, iv] (setItem ov iv v)
      release [v, ov, iv] []) := by intro _; rfl)
    (hs : swapsWithSole [.Subscript (.Name y p2) a p3] b pos.line X.env = pure false := by rfl) (hw : swappedStores [.Subscript (.Name y p2) a p3] b X.env = pure none := by rfl)
    (h1 : (assignEach [.Subscript (.Name y p2) a p3] X.env).map (·.2) = [assign (.Subscript (.Name y p2) a p3) X.env] := by rfl) :
    QS X g (.Assign [.Subscript (.Name y p2) a p3] b pos) (sSetO j f fa) := by
  refine ps_conv (ps_asg hb (pg_sub (pe_var hN hv hdy hcd) hi set_list ha) hs hw h1) ?_
  rintro Dn σ H ⟨ρ, own, fl, ρ', h, R, k⟩
  unfold sSetO at h
  split at h
  · cases h
  · rename_i d ρ1 h1
    cases h0 : isOl ρ1 j with
    | none => simp only [h0] at h; cases h
    | some es0 =>
      simp only [h0] at h
      split at h
      · rename_i i ρ2 h2
        cases h3 : isOl ρ2 j with
        | none => simp only [h3] at h; cases h
        | some es1 =>
          simp only [h3] at h
          cases h4 : ixN es1.length i with
          | none => simp only [h4] at h; cases h
          | some m =>
            simp only [h4] at h
            cases h
            refine ⟨ρ, own, d, ρ1, h1, R, fun v ow1 H1 k1 i1 => ?_⟩
            obtain ⟨a, xs, q1, q2, _⟩ := k1.rel.ownAt (isOl_some h0)
            refine ⟨.ref a, q1, ρ1, ow1, _, ρ2, h2, k1.rel, fun iv ow2 H2 k2 i2 => ?_⟩
            obtain ⟨a2, xs2, p1, p2, p3, _⟩ := k2.rel.ownAt (isOl_some h3)
            rw [q1] at p1
            cases p1
            refine ⟨a, xs2, i, m, rfl, i2.ofInt, p2, by rw [p3.len]; exact h4, ?_⟩
            have kp : Kp g.T (B1 a) H2 (upd H2 a (.lst (xs2.set m v))) := .write p2 trivial lst_code
            obtain ⟨ow3, go⟩ := k2.rel.change (isOl_some h3) q1 kp upd_same ((p3.set m (k2.im i1)).up kp.imm)
            exact k σ ow3 _ ((k1.trans k2).trans go)
      · cases h
/-! ### what is walked -/
def iSeq : D → Option (List D)
  | .list ds => some ds
  | .tuple ds => some ds
  | _ => none
theorem draws_list {K : KW} {H : Hp} {a : Addr} {xs : List V} {ds : List D} (h1 : FzL K H a xs) (h2 : ImAll K H xs ds) : DrawsD K (Itl K a) ds H := by
  intro H' k i
  have q := (h1.mono k).sq
  refine ⟨fun d hd => ?_, fun hd => ⟨xs, q, by rw [h2.len]; exact List.getElem?_eq_none_iff.mp hd⟩⟩
  obtain ⟨v, e1, e2⟩ := h2.get hd
  refine ⟨⟨xs, v, q, e1⟩, ?_⟩
  rintro x H'' ⟨rfl, y⟩
  have := y xs q
  rw [e1] at this
  cases this
  exact ⟨Same.refl _, e2.up k⟩
theorem draws_tup {K : KW} {H : Hp} {a : Addr} {xs : List V} {ds : List D} (h1 : SqT K H a xs) (h2 : ImAll K H xs ds) : DrawsD K (Itt K a) ds H := by
  intro H' k i
  have q := sqT_mono k h1
  refine ⟨fun d hd => ?_, fun hd => ⟨xs, q, by rw [h2.len]; exact List.getElem?_eq_none_iff.mp hd⟩⟩
  obtain ⟨v, e1, e2⟩ := h2.get hd
  refine ⟨⟨xs, v, q, e1⟩, ?_⟩
  rintro x H'' ⟨rfl, y⟩
  have := y xs q
  rw [e1] at this
  cases this
  exact ⟨Same.refl _, e2.up k⟩
variable {tg : Expr}
/-- over a list, over a tuple -/
def iL : D → Option (List D)
  | .list ds => some ds
  | _ => none
def iT : D → Option (List D)
  | .tuple ds => some ds
  | _ => none
theorem qi_list (he : QE X g e f) : QI X g tg e (e1 iL f) := by
  refine pi_conv (pi_list he) ?_
  rintro σ H R ⟨ρ, own, ds, ρ', h, R0, k⟩
  obtain ⟨x, h1, h2⟩ := e1_some h
  refine ⟨ρ, own, x, ρ', h1, R0, fun v ow1 H1 k1 i1 => ?_⟩
  cases i1 with
  | lst q1 q2 =>
    cases h2
    exact ⟨_, rfl, ⟨_, q1.sq⟩, k _ ow1 H1 k1 (draws_list q1 q2)⟩
  | _ => cases h2
theorem qi_tup (he : QE X g e f) : QI X g tg e (e1 iT f) := by
  refine pi_conv (pi_tup he) ?_
  rintro σ H R ⟨ρ, own, ds, ρ', h, R0, k⟩
  obtain ⟨x, h1, h2⟩ := e1_some h
  refine ⟨ρ, own, x, ρ', h1, R0, fun v ow1 H1 k1 i1 => ?_⟩
  cases i1 with
  | tup q1 q2 =>
    cases h2
    exact ⟨_, rfl, ⟨_, q1⟩, k _ ow1 H1 k1 (draws_tup q1 q2)⟩
  | _ => cases h2
/-- a list or a tuple -/
def iSq (K : KW) (tl : TE) : TI := fun σ H R => tl σ H fun x H1 => ∃ a, x = .ref a ∧ (((∃ xs, SqL K H1 a xs) ∧ R (Itl K a) H1) ∨ ((∃ xs, SqT K H1 a xs) ∧ R (Itt K a) H1))
theorem pi_seq {l : Expr} {tl : TE} (hl : PE X l tl) : PI X tg l (iSq (xkw X) tl) := by
  refine ⟨fun pins s σ H R I h => ?_⟩
  refine thn (hl.run pins s σ H _ I h) fun v s1 ⟨x, H1, I1, r1, q1⟩ => ?_
  obtain ⟨a, e, q⟩ := q1
  subst e
  cases r1
  rcases q with ⟨⟨xs, hq⟩, q⟩ | ⟨⟨xs, hq⟩, q⟩
  · obtain ⟨its, rv, p, hz⟩ := I1.list hq
    refine wpAny_pyIter_list p.isList ?_
    refine ⟨s1.heap.objs.size, [s1.heap.objs.size], _, _, H1, rfl, I1.kept (t' := s1.toks) fun b o e => Heap.get?_push_of_some _ e, turn_list a _, ⟨_, Heap.get?_push_size _ rfl, rfl, rfl⟩, fun b hb => ?_, q⟩
    have e : b = s1.heap.objs.size := by simpa using hb
    subst e
    exact I1.fpOk (Nat.le_refl _) (I1.hok.fresh (Nat.le_refl _))
  · obtain ⟨its, rv, p, hz⟩ := I1.tuple hq
    refine wpAny_pyIter_tuple (show s1.heap.IsTuple a its.toArray from p) ?_
    refine ⟨s1.heap.objs.size, [s1.heap.objs.size], _, _, H1, rfl, I1.kept (t' := s1.toks) fun b o e => Heap.get?_push_of_some _ e, turn_tuple a _, ⟨_, Heap.get?_push_size _ rfl, rfl, rfl⟩, fun b hb => ?_, q⟩
    have e : b = s1.heap.objs.size := by simpa using hb
    subst e
    exact I1.fpOk (Nat.le_refl _) (I1.hok.fresh (Nat.le_refl _))
theorem qi_seq (he : QE X g e f) : QI X g tg e (e1 iSeq f) := by
  refine pi_conv (pi_seq he) ?_
  rintro σ H R ⟨ρ, own, ds, ρ', h, R0, k⟩
  obtain ⟨x, h1, h2⟩ := e1_some h
  refine ⟨ρ, own, x, ρ', h1, R0, fun v ow1 H1 k1 i1 => ?_⟩
  cases i1 with
  | tup q1 q2 =>
    cases h2
    exact ⟨_, rfl, .inr ⟨⟨_, q1⟩, k _ ow1 H1 k1 (draws_tup q1 q2)⟩⟩
  | lst q1 q2 =>
    cases h2
    exact ⟨_, rfl, .inl ⟨⟨_, q1.sq⟩, k _ ow1 H1 k1 (draws_list q1 q2)⟩⟩
  | _ => cases h2
/-- range(n), range(a, b) -/
def rgD (lo : Int) (n : Nat) : List D := (List.range n).map fun i => .int (lo + (i : Nat))
theorem draws_range {K : KW} {H : Hp} {lo : Int} {n : Nat} : DrawsD K (Itr lo n) (rgD lo n) H := by
  intro H' k i
  unfold rgD
  refine ⟨fun d hd => ?_, fun hd => ?_⟩
  · rw [List.getElem?_map] at hd
    by_cases hi : i < n
    · rw [List.getElem?_range hi] at hd
      cases hd
      refine ⟨hi, ?_⟩
      rintro x H'' ⟨rfl, rfl⟩
      exact ⟨Same.refl _, .int _⟩
    · rw [List.getElem?_eq_none (by simpa using hi)] at hd
      cases hd
  · have := List.getElem?_eq_none_iff.mp hd
    simp at this
    exact this
def iR1 : List D → Option (List D)
  | [.int j] => if j.natAbs < 2 ^ 62 then some (rgD 0 j.toNat) else none
  | _ => none
def iR2 : List D → Option (List D)
  | [.int i, .int j] => if i.natAbs < 2 ^ 62 ∧ j.natAbs < 2 ^ 62 then some (rgD i (j - i).toNat) else none
  | _ => none
theorem qi_range1 {p : Pos} (hm : X.mg "range" = none) (ha : QA X g [a] fs) (hg : Gl X "range" := by rfl) (hs : starEach [a] X.env = [(false, eval a X.env)] := by rfl) : QI X g tg (.Call (.Name "range" p) [a] [] pos) (e1 iR1 fs) := by
  refine pi_conv (pi_range1 hg hm ha hs) ?_
  rintro σ H R ⟨ρ, own, ds, ρ', h, R0, k⟩
  obtain ⟨x, h1, h2⟩ := e1_some h
  refine ⟨ρ, own, x, ρ', h1, R0, fun vs ow1 H1 k1 i1 => ?_⟩
  unfold iR1 at h2
  split at h2
  · rename_i j
    split at h2
    · rename_i hj
      cases h2
      cases i1 with
      | cons i1 i2 =>
        cases i2
        exact ⟨j, by rw [i1.ofInt], by omega, by omega, k _ ow1 H1 k1 draws_range⟩
    · cases h2
  · cases h2
theorem qi_range2 {p : Pos} (hm : X.mg "range" = none) (ha : QA X g [a, b] fs) (hg : Gl X "range" := by rfl) (hs : starEach [a, b] X.env = [(false, eval a X.env), (false, eval b X.env)] := by rfl) (hs2 : starEach [b] X.env = [(false, eval b X.env)] := by rfl) :
    QI X g tg (.Call (.Name "range" p) [a, b] [] pos) (e1 iR2 fs) := by
  refine pi_conv (pi_range2 hg hm ha hs hs2) ?_
  rintro σ H R ⟨ρ, own, ds, ρ', h, R0, k⟩
  obtain ⟨x, h1, h2⟩ := e1_some h
  refine ⟨ρ, own, x, ρ', h1, R0, fun vs ow1 H1 k1 i1 => ?_⟩
  unfold iR2 at h2
  split at h2
  · rename_i i j
    split at h2
    · rename_i hj
      cases h2
      cases i1 with
      | cons i1 i2 =>
        cases i2 with
        | cons i2 i3 =>
          cases i3
          exact ⟨i, j, by rw [i1.ofInt, i2.ofInt], by omega, k _ ow1 H1 k1 draws_range⟩
    · cases h2
  · cases h2
/-- zip of two lists, of two tuples -/
def zipD (xs ys : List D) : List D := List.zipWith (fun x y => .tuple [x, y]) xs ys
def iZ : List D → Option (List D)
  | [.list xs, .list ys] => some (zipD xs ys)
  | [.tuple xs, .tuple ys] => some (zipD xs ys)
  | _ => none
theorem zip_some {xs ys : List D} {i : Nat} {d : D} (h : (zipD xs ys)[i]? = some d) : ∃ x y, xs[i]? = some x ∧ ys[i]? = some y ∧ d = .tuple [x, y] := by
  unfold zipD at h
  rw [List.getElem?_zipWith] at h
  cases h1 : xs[i]? with
  | none => rw [h1] at h; cases h
  | some x =>
    cases h2 : ys[i]? with
    | none => rw [h1, h2] at h; cases h
    | some y =>
      rw [h1, h2] at h
      cases h
      exact ⟨x, y, rfl, rfl, rfl⟩
theorem zip_none {xs ys : List D} {i : Nat} (h : (zipD xs ys)[i]? = none) : xs.length ≤ i ∨ ys.length ≤ i := by
  unfold zipD at h
  have := List.getElem?_eq_none_iff.mp h
  rw [List.length_zipWith] at this
  omega
theorem im_pair {K : KW} {H : Hp} {T : Addr} {x y : V} {d e : D} (hn : H T = none) (h1 : Im K H x d) (h2 : Im K H y e) : Im K (upd H T (.tup [x, y])) (.ref T) (.tuple [d, e]) :=
  .tup (.of upd_same) (.cons (h1.up (.new hn)) (.cons (h2.up (.new hn)) .nil))
theorem draws_zipL {K : KW} {H : Hp} {a b : Addr} {xs ys : List V} {ds es : List D} (h1 : FzL K H a xs) (h2 : ImAll K H xs ds) (h3 : FzL K H b ys) (h4 : ImAll K H ys es) : DrawsD K (Itz K a b) (zipD ds es) H := by
  intro H' k i
  have q := (h1.mono k).sq
  have q2 := (h3.mono k).sq
  refine ⟨fun d hd => ?_, fun hd => ⟨xs, ys, q, q2, by rw [h2.len, h4.len]; exact zip_none hd⟩⟩
  obtain ⟨x, y, e1, e2, rfl⟩ := zip_some hd
  obtain ⟨v, v1, v2⟩ := h2.get e1
  obtain ⟨w, w1, w2⟩ := h4.get e2
  refine ⟨⟨xs, ys, v, w, q, q2, v1, w1⟩, ?_⟩
  rintro z H'' ⟨T, x', y', rfl, hT, rfl, f1, f2⟩
  have e3 := f1 xs q
  have e4 := f2 ys q2
  rw [v1] at e3
  rw [w1] at e4
  cases e3
  cases e4
  exact ⟨fun b u e => by rw [upd_ne (ne_of_none e hT)]; exact e, im_pair hT (v2.up k) (w2.up k)⟩
theorem draws_zipT {K : KW} {H : Hp} {a b : Addr} {xs ys : List V} {ds es : List D} (h1 : SqT K H a xs) (h2 : ImAll K H xs ds) (h3 : SqT K H b ys) (h4 : ImAll K H ys es) : DrawsD K (RZ.ItzT K a b) (zipD ds es) H := by
  intro H' k i
  have q := sqT_mono k h1
  have q2 := sqT_mono k h3
  refine ⟨fun d hd => ?_, fun hd => ⟨xs, ys, q, q2, by rw [h2.len, h4.len]; exact zip_none hd⟩⟩
  obtain ⟨x, y, e1, e2, rfl⟩ := zip_some hd
  obtain ⟨v, v1, v2⟩ := h2.get e1
  obtain ⟨w, w1, w2⟩ := h4.get e2
  refine ⟨⟨xs, ys, v, w, q, q2, v1, w1⟩, ?_⟩
  rintro z H'' ⟨T, x', y', rfl, hT, rfl, f1, f2⟩
  have e3 := f1 xs q
  have e4 := f2 ys q2
  rw [v1] at e3
  rw [w1] at e4
  cases e3
  cases e4
  exact ⟨fun b u e => by rw [upd_ne (ne_of_none e hT)]; exact e, im_pair hT (v2.up k) (w2.up k)⟩
theorem qi_zip {elts : List Expr} {kk : Nat} {p tpos : Pos} (hm : X.mg "zip" = none) (ha : QA X g [a, b] fs) (hg : Gl X "zip" := by rfl)
    (hs : starEach [a, b] X.env = (false, eval a X.env) :: starEach [b] X.env := by rfl) (hpl : (backTo pos (starEach [b] X.env)).any (·.1) = false := by rfl) :
    QI X g (.Tuple elts kk tpos) (.Call (.Name "zip" p) [a, b] [] pos) (e1 iZ fs) := by
  refine pi_conv (RZ.pi_zipA hg hm ha hs hpl) ?_
  rintro σ H R ⟨ρ, own, ds, ρ', h, R0, k⟩
  obtain ⟨x, h1, h2⟩ := e1_some h
  refine ⟨ρ, own, x, ρ', h1, R0, fun vs ow1 H1 k1 i1 => ?_⟩
  unfold iZ at h2
  split at h2
  · cases h2
    cases i1 with
    | cons i1 i2 =>
      cases i2 with
      | cons i2 i3 =>
        cases i3
        obtain ⟨a1, x1, rfl, q1, q2⟩ := i1.ofLst
        obtain ⟨a2, x2, rfl, q3, q4⟩ := i2.ofLst
        exact ⟨a1, a2, x1, x2, rfl, .inl ⟨q1.sq, q3.sq, k _ ow1 H1 k1 (draws_zipL q1 q2 q3 q4)⟩⟩
  · cases h2
    cases i1 with
    | cons i1 i2 =>
      cases i2 with
      | cons i2 i3 =>
        cases i3
        obtain ⟨a1, x1, rfl, q1, q2⟩ := i1.ofTup
        obtain ⟨a2, x2, rfl, q3, q4⟩ := i2.ofTup
        exact ⟨a1, a2, x1, x2, rfl, .inr ⟨q1, q3, k _ ow1 H1 k1 (draws_zipT q1 q2 q3 q4)⟩⟩
  · cases h2
end
end VS

namespace VS
open PySem PySem.Spec PyProof.Rows L2

/-! ### comprehensions -/
def wipeR (ρ : Rho) : List Nat → Rho
  | [] => ρ
  | v :: vs => (wipeR ρ vs).set v none
def okW (ρ : Rho) (vs : List Nat) : Bool := vs.all fun v => match ρ[v]? with
  | some (some (.dat _)) => true
  | some (some _) => false
  | _ => true
/-- the slots vs as they were in ρ1 -/
def restR (ρ1 ρ : Rho) : List Nat → Rho
  | [] => ρ
  | v :: vs => (restR ρ1 ρ vs).set v (ρ1[v]?.join)
def lcGo (t : D → Rho → Option Rho) (c : M Bool) (e : M D) (vs : List Nat) : List D → Rho → Option (List D × Rho)
  | [], ρ => some ([], ρ)
  | d :: r, ρ => match t d ρ with
    | none => none
    | some ρ1 => match c ρ1 with
      | none => none
      | some (false, ρ2) => lcGo t c e vs r (wipeR ρ2 vs)
      | some (true, ρ2) => match e ρ2 with
        | none => none
        | some (y, ρ3) => match lcGo t c e vs r (wipeR ρ3 vs) with
          | none => none
          | some (ys, ρ4) => some (y :: ys, ρ4)
def eLc (it : M (List D)) (t : D → Rho → Option Rho) (c : M Bool) (e : M D) (vs : List Nat) : M D := fun ρ => match it ρ with
  | none => none
  | some (ds, ρ1) => if okW ρ1 vs then (match lcGo t c e vs ds (wipeR ρ1 vs) with
    | none => none
    | some (ys, ρ2) => if ys.length ≤ most then some (.list ys, restR ρ1 ρ2 vs) else none) else none
def tYesM : M Bool := fun ρ => some (true, ρ)

section
variable {K : KW} {g : Gx} {σ : L2.St} {ρ ρ1 : Rho} {own : Own} {H : Hp}
theorem okW_nil {vs : List Nat} (h : okW ρ vs = true) {v : Nat} (hv : v ∈ vs) (r : RelE K g σ ρ own H) : own v = [] := by
  unfold okW at h
  have q := List.all_eq_true.mp h v hv
  have c := r.ct v
  unfold Holds at c
  split at c
  · rename_i sv h1
    obtain ⟨w, _, rs⟩ := c
    generalize own v = ov at rs
    cases rs with
    | dat _ => rfl
    | fn _ => rfl
    | _ =>
      rw [h1] at q
      cases q
  · exact c
theorem wipeR_len (ρ : Rho) : ∀ vs, (wipeR ρ vs).length = ρ.length
  | [] => rfl
  | v :: vs => by unfold wipeR; rw [List.length_set, wipeR_len ρ vs]
theorem wipe_not {σ : L2.St} {i : Nat} : ∀ {vs : List Nat}, i ∉ vs → (wipe σ vs)[i]? = σ[i]?
  | [], _ => rfl
  | v :: vs, h => by
    unfold wipe
    rw [List.getElem?_set_ne (fun z => h (by simp [z]))]
    exact wipe_not fun z => h (List.mem_cons_of_mem _ z)
theorem wipeR_not {i : Nat} : ∀ {vs : List Nat}, i ∉ vs → (wipeR ρ vs)[i]? = ρ[i]?
  | [], _ => rfl
  | v :: vs, h => by
    unfold wipeR
    rw [List.getElem?_set_ne (fun z => h (by simp [z]))]
    exact wipeR_not fun z => h (List.mem_cons_of_mem _ z)
theorem wipeR_in {i : Nat} : ∀ {vs : List Nat}, i ∈ vs → ∀ sv, (wipeR ρ vs)[i]? ≠ some (some sv)
  | [], h, _, _ => by cases h
  | v :: vs, h, sv, e => by
    unfold wipeR at e
    by_cases z : v = i
    · subst z
      by_cases hl : v < (wipeR ρ vs).length
      · rw [List.getElem?_set_self hl] at e; cases e
      · rw [List.getElem?_eq_none (by rw [List.length_set]; omega)] at e; cases e
    · rw [List.getElem?_set_ne z] at e
      exact wipeR_in (by simpa [Ne.symm z] using h) sv e
def wipeO (own : Own) (vs : List Nat) : Own := fun i => if i ∈ vs then [] else own i
theorem wipeO_in {vs : List Nat} {i : Nat} (h : i ∈ vs) : wipeO own vs i = [] := if_pos h
theorem wipeO_not {vs : List Nat} {i : Nat} (h : i ∉ vs) : wipeO own vs i = own i := if_neg h
theorem wipeO_mem {vs : List Nat} {i : Nat} {a : Addr} (h : a ∈ wipeO own vs i) : a ∈ own i := by
  by_cases hi : i ∈ vs
  · rw [wipeO_in hi] at h; cases h
  · rwa [wipeO_not hi] at h
theorem wipeO_sub {vs : List Nat} {a : Addr} (h : InO (wipeO own vs) a) : InO own a := let ⟨i, hi⟩ := h; ⟨i, wipeO_mem hi⟩
theorem RelE.wipe (r : RelE K g σ ρ own H) (vs : List Nat) : RelE K g (L2.wipe σ vs) (wipeR ρ vs) (wipeO own vs) H := by
  refine ⟨r.tb, (wipe_length σ vs).trans r.len, fun i j a hi hj => r.dj i j a (wipeO_mem hi) (wipeO_mem hj), fun i => ?_⟩
  by_cases hi : i ∈ vs
  · rw [wipeO_in hi]
    unfold Holds
    split
    · rename_i sv h1
      exact absurd h1 (wipeR_in hi sv)
    · rfl
  · rw [wipe_not hi, wipeR_not hi, wipeO_not hi]
    exact r.ct i
theorem restR_not {ρ1 : Rho} {i : Nat} : ∀ {vs : List Nat}, i ∉ vs → (restR ρ1 ρ vs)[i]? = ρ[i]?
  | [], _ => rfl
  | v :: vs, h => by
    unfold restR
    rw [List.getElem?_set_ne (fun z => h (by simp [z]))]
    exact restR_not fun z => h (List.mem_cons_of_mem _ z)
theorem restR_in {ρ1 : Rho} {i : Nat} {sv : SV} : ∀ {vs : List Nat}, i ∈ vs → (restR ρ1 ρ vs)[i]? = some (some sv) → ρ1[i]? = some (some sv)
  | [], h, _ => by cases h
  | v :: vs, h, e => by
    unfold restR at e
    by_cases z : v = i
    · subst z
      by_cases hl : v < (restR ρ1 ρ vs).length
      · rw [List.getElem?_set_self hl] at e
        have e := Option.some.inj e
        cases h1 : ρ1[v]? with
        | none => rw [h1] at e; cases e
        | some o => rw [h1] at e; exact congrArg some e
      · rw [List.getElem?_eq_none (by rw [List.length_set]; omega)] at e; cases e
    · rw [List.getElem?_set_ne z] at e
      exact restR_in (by simpa [Ne.symm z] using h) e
/-- back from the block -/
theorem RelE.rest {H1 : Hp} {own1 : Own} (r1 : RelE K g σ ρ1 own1 H1) {vs : List Nat} (hw : okW ρ1 vs = true) (im : ImKeep H1 H) (r : RelE K g (L2.wipe σ vs) ρ own H) :
    RelE K g σ (restR ρ1 ρ vs) (wipeO own vs) H := by
  refine ⟨r.tb, r1.len, fun i j a hi hj => r.dj i j a (wipeO_mem hi) (wipeO_mem hj), fun i => ?_⟩
  by_cases h1 : i ∈ vs
  · rw [wipeO_in h1]
    unfold Holds
    split
    · rename_i sv h2
      have h3 := restR_in h1 h2
      have e := okW_nil hw h1 r1
      have c := r1.ct i
      rw [h3, e] at c
      obtain ⟨w, w1, w2⟩ := c
      cases w2 with
      | dat q => exact ⟨w, w1, .dat (q.up im)⟩
      | fn q => exact ⟨w, w1, .fn (K.cup im q)⟩
    · rfl
  · rw [wipeO_not h1, restR_not h1, ← wipe_not (σ := σ) h1]
    exact r.ct i
theorem wipe_same {ts vs : List Nat} (hts : ∀ i ∈ ts, i ∈ vs) {σ σ' : L2.St} (h : SameOut ts (L2.wipe σ vs) σ') : L2.wipe σ' vs = L2.wipe σ vs := by
  have hl : (L2.wipe σ' vs).length = (L2.wipe σ vs).length := by rw [wipe_length, h.1]
  refine List.ext_getElem? fun i => ?_
  by_cases hi : i ∈ vs
  · have key : ∀ (s : L2.St), (∀ x, (L2.wipe s vs)[i]? ≠ some (some x)) := fun s x e => (wipe_some e).2 hi
    cases e1 : (L2.wipe σ' vs)[i]? with
    | none =>
      have := List.getElem?_eq_none_iff.mp e1
      rw [hl] at this
      exact (List.getElem?_eq_none_iff.mpr this).symm
    | some o =>
      cases o with
      | some x => exact absurd e1 (key _ x)
      | none =>
        have hlt := (List.getElem?_eq_some_iff.mp e1).1
        rw [hl] at hlt
        cases e2 : (L2.wipe σ vs)[i]? with
        | none => exact absurd (List.getElem?_eq_none_iff.mp e2) (by omega)
        | some o2 =>
          cases o2 with
          | none => rfl
          | some x => exact absurd e2 (key _ x)
  · rw [wipe_not hi, h.2 i (fun z => hi (hts i z))]
end

section
variable {X : Cx} {g : Gx} {pos : Pos}
abbrev QTs (X : Cx) (g : Gx) (ifs : List Expr) (f : M Bool) : Prop := PTs X ifs (xT (xkw X) g f)
theorem pts_conv {X : Cx} {e : List Expr} {t t' : TT} (h : PTs X e t) (c : ∀ σ H Q, t' σ H Q → t σ H Q) : PTs X e t' := ⟨fun pins s σ H Q I q => h.run pins s σ H Q I (c σ H Q q)⟩
theorem qts_nil : QTs X g [] tYesM := by
  refine pts_conv pts_nil ?_
  rintro σ H Q ⟨ρ, own, d, ρ', h, R, k⟩
  cases h
  exact k own H (.refl R)
theorem qts_one {c : Expr} {f : M Bool} (h : QT X g c f) : QTs X g [c] f := pts_one h
theorem lc_of {K : KW} {fi : M (List D)} {t : D → Rho → Option Rho} {ts vs : List Nat} {c : M Bool} {e : M D} (hts : ∀ i ∈ ts, i ∈ vs) :
    ∀ σ H Q, xE K g (eLc fi t c e vs) σ H Q → tFz (tLc (xI K g fi) (xG K g t ts) (xT K g c) (xE K g e) vs) σ H Q := by
  rintro σ H Q ⟨ρ, own, d, ρ', h, R, k⟩
  unfold eLc at h
  split at h
  · cases h
  rename_i ds ρ1 h1
  split at h
  · rename_i hw
    split at h
    · cases h
    rename_i ys ρ2 h2
    split at h
    · rename_i hz
      cases h
      refine ⟨ρ, own, ds, ρ1, h1, R, fun J ow1 H1 k1 dr p hp => ?_⟩
      have r1 := k1.rel
      have rw1 := r1.wipe vs
      have np1 : ¬ InO ow1 p := r1.notIn hp
      -- from the block's start on: what may change belongs to the slots
      refine ⟨fun i m H2 => m = ds.length - i ∧ i ≤ ds.length ∧ ∃ ρi ow2 acc ads yr, Go K g (L2.wipe σ vs) ow1 H1 (L2.wipe σ vs) ρi ow2 H2 ∧ ¬ InO ow2 p ∧ H2 p = some (.lst acc) ∧ ImAll K H2 acc ads ∧ lcGo t c e vs (ds.drop i) ρi = some (yr, ρ2) ∧ ads ++ yr = ys,
        ⟨_, rfl, Nat.zero_le _, wipeR ρ1 vs, wipeO ow1 vs, [], [], ys, ⟨.new hp, fun a z => .inl (wipeO_sub z), fun _ _ => rfl, (rw1.goNew hp).rel⟩, fun z => np1 (wipeO_sub z), upd_same, .nil, h2, rfl⟩, ?_⟩
      rintro i m H2 ⟨rfl, hi, ρi, ow2, acc, ads, yr, k2, np, hp2, ia, hg, ey⟩
      obtain ⟨dr1, dr2⟩ := dr H2 k2.kp.imm i
      cases hd : ds[i]? with
      | none =>
        refine .inl ⟨dr2 hd, ?_⟩
        have hl : ds.length ≤ i := List.getElem?_eq_none_iff.mp hd
        rw [List.drop_of_length_le hl] at hg
        cases hg
        rw [List.append_nil] at ey
        subst ey
        refine .inr ⟨p, acc, rfl, hp2, fun o => ?_⟩
        have kw : Kp g.T (B1 p) H2 (upd H2 p (.frz o (.lst acc))) := .write hp2 trivial lst_code
        have rf := k2.rel.off np kw
        have kk : Kp g.T (InO ow1) H1 (upd H2 p (.frz o (.lst acc))) := k2.kp.trans kw fun b z => .inr (by rw [z]; exact hp)
        refine k (.ref p) _ _ ⟨k1.kp.trans kk k1.sub, fun a z => ?_, fun _ _ => rfl, r1.rest hw kk.imm rf⟩ (.lst (.inl ⟨o, upd_same⟩) (ia.up kw.imm))
        rcases k2.sub a (wipeO_sub z) with z | z
        · exact k1.sub a z
        · exact .inr (k1.kp.free z)
      | some d =>
        obtain ⟨go, yl⟩ := dr1 d hd
        have hlt : i < ds.length := (List.getElem?_eq_some_iff.mp hd).1
        rw [drop_get hd, lcGo] at hg
        cases ht : t d ρi with
        | none => simp only [ht] at hg; cases hg
        | some ρ3 =>
          simp only [ht] at hg
          cases hc : c ρ3 with
          | none => simp only [hc] at hg; cases hg
          | some q =>
            obtain ⟨b, ρ4⟩ := q
            simp only [hc] at hg
            refine .inr ⟨go, fun H' => ∃ ρi ow2 acc ads yr, Go K g (L2.wipe σ vs) ow1 H1 (L2.wipe σ vs) ρi ow2 H' ∧ ¬ InO ow2 p ∧ H' p = some (.lst acc) ∧ ImAll K H' acc ads ∧ lcGo t c e vs (ds.drop (i + 1)) ρi = some (yr, ρ2) ∧ ads ++ yr = ys,
              fun H' n' => ⟨ds.length - (i + 1), by omega, rfl, by omega, n'⟩, fun x H3 y => ?_⟩
            obtain ⟨sm, im⟩ := yl x H3 y
            have s3 := k2.rel.goSame sm
            refine ⟨d, ρi, ow2, ρ3, ht, im, s3.rel, fun σ4 ow4 H4 k4 so => ?_⟩
            have ew := wipe_same hts so
            refine ⟨ew, ρ3, ow4, b, ρ4, hc, k4.rel, fun ow5 H5 k5 => ?_⟩
            have k35 := (s3.trans k4).trans k5
            -- what comes back to the block's slots
            have back : ∀ {ρ6 : Rho} {ow6 : Own} {H6 : Hp}, Go K g (L2.wipe σ vs) ow2 H2 σ4 ρ6 ow6 H6 → Go K g (L2.wipe σ vs) ow2 H2 (L2.wipe σ vs) (wipeR ρ6 vs) (wipeO ow6 vs) H6 := fun {ρ6 ow6 H6} k6 =>
              ⟨k6.kp, fun a z => k6.sub a (wipeO_sub z), fun _ _ => rfl, by have := k6.rel.wipe vs; rw [ew] at this; exact this⟩
            have stays : ∀ {ρ6 : Rho} {ow6 : Own} {H6 : Hp}, Go K g (L2.wipe σ vs) ow2 H2 (L2.wipe σ vs) ρ6 ow6 H6 → H6 p = some (.lst acc) ∧ ¬ InO ow6 p := fun {ρ6 ow6 H6} k6 =>
              ⟨k6.kp.ext p _ hp2 np (fun _ z => by cases z), fun z => (k6.sub p z).elim np fun q => by rw [hp2] at q; cases q⟩
            cases b with
            | false =>
              simp only [hc] at hg
              have kb := back k35
              obtain ⟨q1, q2⟩ := stays kb
              refine iteF ?_
              exact ⟨_, _, acc, ads, yr, k2.trans kb, q2, q1, kb.ims ia, hg, ey⟩
            | true =>
              simp only [hc] at hg
              cases hv : e ρ4 with
              | none => simp only [hv] at hg; cases hg
              | some q =>
                obtain ⟨yv, ρ5⟩ := q
                simp only [hv] at hg
                split at hg
                · cases hg
                · rename_i yr' ρ6 h6
                  cases hg
                  refine iteT ?_
                  refine ⟨ρ4, ow5, yv, ρ5, hv, k5.rel, fun v ow6 H6 k6 i6 => ?_⟩
                  have kb := back (k35.trans k6)
                  obtain ⟨q1, q2⟩ := stays kb
                  have ia6 := kb.ims ia
                  refine ⟨acc, q1, ?_, ?_⟩
                  · rw [ia6.len]
                    refine Nat.lt_of_lt_of_le (m := most) ?_ most_line
                    rw [← ey, List.length_append, List.length_cons] at hz
                    omega
                  · have kw : Kp g.T (B1 p) H6 (upd H6 p (.lst (acc ++ [v]))) := .write q1 trivial lst_code
                    have kt := k2.trans kb
                    refine ⟨_, _, acc ++ [v], ads ++ [yv], yr', ⟨kt.kp.trans kw fun b z => .inr (by rw [z]; exact hp), kt.sub, kt.pin, kt.rel.off q2 kw⟩, q2, upd_same, (ia6.append (.cons i6 .nil)).up kw.imm, h6, ?_⟩
                    rw [List.append_assoc]
                    exact ey
    · cases h
  · cases h
variable {elt tg iter : Expr} {ifs : List Expr} {scope : Scope} {fi : M (List D)} {t : D → Rho → Option Rho} {ts : List Nat} {c : M Bool} {fe : M D}
theorem q_lc (own : List (Str × Nat)) (hN : X.N.Nodup) (hi : QI X g tg iter fi) (ok : BlkOk X.N X.env.scope scope own) (hts : ∀ i ∈ ts, i ∈ own.map (·.2))
    (hg : ∀ (s : Shared) (H : Hp) (C : Addr) (cl : List (Str × Addr)) (fp : List Addr), QG (X.blk s H scope (compEnvC scope cl C X.env) fp) g tg t ts) (ht : ∀ (s : Shared) (H : Hp) (C : Addr) (cl : List (Str × Addr)) (fp : List Addr), QTs (X.blk s H scope (compEnvC scope cl C X.env) fp) g ifs c)
    (he : ∀ (s : Shared) (H : Hp) (C : Addr) (cl : List (Str × Addr)) (fp : List Addr), QE (X.blk s H scope (compEnvC scope cl C X.env) fp) g elt fe) (hc : X.calm = true := by rfl) (hs : ∀ x, foldedSetIterable iter X.env x = pure x := by intro _; rfl) :
    QE X g (.ListComp elt [⟨tg, iter, ifs, 0⟩] scope pos) (eLc fi t c fe (own.map (·.2))) :=
  pe_conv (pe_fz (pe_lc hc hN hi ok hg ht he hs)) (lc_of hts)
/-- name = [..] on one line: the new list is frozen behind the store -/
theorem inv_fin {pins : List (Addr × Obj)} {σ : L2.St} {H : Hp} {s : Shared} {v : V} {Q : VK} (I : Inv X pins σ H s) (h : Fin v H Q) : ∃ H', Inv X pins σ H' s ∧ Q v H' := by
  rcases h with h | ⟨a, xs, rfl, e, h⟩
  · exact ⟨H, I, h⟩
  · obtain ⟨o, I2⟩ := I.lock e trivial
    exact ⟨_, I2, h o⟩
theorem q_setLc (own : List (Str × Nat)) (i : Nat) {y : Str} {py spos : Pos} (hN : X.N.Nodup) (hi : QI X g tg iter fi) (ok : BlkOk X.N X.env.scope scope own) (hts : ∀ i ∈ ts, i ∈ own.map (·.2))
    (hsw : swapsWith (.ListComp elt [⟨tg, iter, ifs, 0⟩] scope pos) (some (.Name y py)) spos.line X.env = pure true)
    (hg : ∀ (s : Shared) (H : Hp) (C : Addr) (cl : List (Str × Addr)) (fp : List Addr), QG (X.blk s H scope (compEnvC scope cl C X.env) fp) g tg t ts) (ht : ∀ (s : Shared) (H : Hp) (C : Addr) (cl : List (Str × Addr)) (fp : List Addr), QTs (X.blk s H scope (compEnvC scope cl C X.env) fp) g ifs c)
    (he : ∀ (s : Shared) (H : Hp) (C : Addr) (cl : List (Str × Addr)) (fp : List Addr), QE (X.blk s H scope (compEnvC scope cl C X.env) fp) g elt fe) (hl : okSlot g i = true := by rfl) (hy : X.N[i]? = some y := by rfl) (hyl : X.env.scope.names.lookup y = some .local := by rfl)
    (hc : X.calm = true := by rfl) (hs : ∀ x, foldedSetIterable iter X.env x = pure x := by intro _; rfl) :
    QS X g (.Assign [.Name y py] (.ListComp elt [⟨tg, iter, ifs, 0⟩] scope pos) spos) (sAsg (eLc fi t c fe (own.map (·.2))) (gName i)) := by
  have h0 := ps_setLc (i := i) (g := xG (xkw X) g t ts) (tt := xT (xkw X) g c) (te := xE (xkw X) g fe) hc hN hy hyl hsw hi ok hg ht he hs
  refine ⟨fun pins s σ H Dn I hw => ?_⟩
  obtain ⟨ρ, ow, fl, ρ', h, R, k⟩ := hw
  unfold sAsg at h
  split at h
  · rename_i d ρ1 h1
    cases h
    -- the store first, the lock behind it
    have key : tLc (xI (xkw X) g fi) (xG (xkw X) g t ts) (xT (xkw X) g c) (xE (xkw X) g fe) (own.map (·.2)) σ H (fun v H1 => Fin v H1 fun v H2 => Dn.nx (σ.set i (some v)) H2) :=
      lc_of hts σ H _ ⟨ρ, ow, d, ρ1, h1, R, fun v ow1 H1 k1 i1 => let ⟨ow2, go⟩ := k1.rel.set hl i1; k _ ow2 H1 (k1.trans go)⟩
    have run := h0.run pins s σ H ⟨fun σ' H1 => ∃ v, σ' = σ.set i (some v) ∧ Fin v H1 fun v H2 => Dn.nx (σ.set i (some v)) H2, Dn.rt, Dn.bk, Dn.ct⟩ I (by
      show tLc _ _ _ _ _ σ H fun x H1 => ∃ v, σ.set i (some x) = σ.set i (some v) ∧ _
      refine (show ∀ (Q Q' : VK), (∀ v H1, Q v H1 → Q' v H1) → tLc (xI (xkw X) g fi) (xG (xkw X) g t ts) (xT (xkw X) g c) (xE (xkw X) g fe) (own.map (·.2)) σ H Q → tLc (xI (xkw X) g fi) (xG (xkw X) g t ts) (xT (xkw X) g c) (xE (xkw X) g fe) (own.map (·.2)) σ H Q' from ?_) _ _ (fun v H1 q => ⟨v, rfl, q⟩) key
      intro Q Q' hq hk
      obtain ⟨ρa, owa, ds, ρb, a1, a2, a3⟩ := hk
      refine ⟨ρa, owa, ds, ρb, a1, a2, fun J ow1 H1 k1 dr D hD => ?_⟩
      obtain ⟨W, w0, wn⟩ := a3 J ow1 H1 k1 dr D hD
      exact ⟨W, w0, fun i m H2 hw => (wn i m H2 hw).elim (fun z => .inl ⟨z.1, hq _ _ z.2⟩) .inr⟩)
    refine thn run fun f s' q => ?_
    cases f with
    | next =>
      obtain ⟨σ', H', I', v, rfl, q⟩ := q
      obtain ⟨H2, I2, q2⟩ := inv_fin I' q
      exact ⟨_, H2, I2, q2⟩
    | brk => exact q
    | cont => exact q
    | ret u => exact q
  · cases h
end
end VS

namespace VS
open PySem PySem.Spec PyProof.Rows L2

def orE (f f' : D → D → Option D) : D → D → Option D := fun x y => match f x y with
  | some z => some z
  | none => f' x y
def orL (f f' : List D → Option D) : List D → Option D := fun xs => match f xs with
  | some z => some z
  | none => f' xs
section
variable {X : Cx} {op : Value → Value → Sem Value} {f f' : D → D → Option D}
theorem Op2.or (h : Op2 X op f) (h' : Op2 X op f') : Op2 X op (orE f f') := by
  obtain ⟨r, h1, h2⟩ := h
  obtain ⟨r', h1', h2'⟩ := h'
  refine ⟨_, h1.or h1', fun x y dx dy dz H Q i1 i2 h q => ?_⟩
  unfold orE at h
  cases e : f dx dy with
  | some z =>
    rw [e] at h
    cases h
    exact .inl (h2 x y dx dy dz H Q i1 i2 e q)
  | none =>
    rw [e] at h
    exact .inr (h2' x y dx dy dz H Q i1 i2 h q)
theorem Ix2.or (h : Ix2 X f) (h' : Ix2 X f') : Ix2 X (orE f f') := by
  obtain ⟨r, h1, h2⟩ := h
  obtain ⟨r', h1', h2'⟩ := h'
  refine ⟨_, h1.or h1', fun x y dx dy dz H Q i1 i2 h q => ?_⟩
  unfold orE at h
  cases e : f dx dy with
  | some z =>
    rw [e] at h
    cases h
    exact .inl (h2 x y dx dy dz H Q i1 i2 e q)
  | none =>
    rw [e] at h
    exact .inr (h2' x y dx dy dz H Q i1 i2 h q)
theorem Fn1.or {fn : Value} {f f' : List D → Option D} (h : Fn1 X fn f) (h' : Fn1 X fn f') : Fn1 X fn (orL f f') := by
  obtain ⟨r, h1, h2⟩ := h
  obtain ⟨r', h1', h2'⟩ := h'
  refine ⟨_, h1.or h1', fun vs ds dz H Q i1 h q => ?_⟩
  unfold orL at h
  cases e : f ds with
  | some z =>
    rw [e] at h
    cases h
    exact .inl (h2 vs ds dz H Q i1 e q)
  | none =>
    rw [e] at h
    exact .inr (h2' vs ds dz H Q i1 h q)
end

/-! ### arithmetic -/
def iAdd : D → D → Option D
  | .int i, .int j => some (.int (i + j))
  | _, _ => none
def iSub : D → D → Option D
  | .int i, .int j => some (.int (i - j))
  | _, _ => none
def iMul : D → D → Option D
  | .int i, .int j => if i.natAbs < 2 ^ 64 ∨ j.natAbs < 2 ^ 64 then some (.int (i * j)) else none
  | _, _ => none
def iMod : D → D → Option D
  | .int i, .int j => if 0 < j then some (.int (i % j)) else none
  | _, _ => none
def iDiv : D → D → Option D
  | .int i, .int j => if 0 < j ∧ j.natAbs < 1073741824 then some (.int (i / j)) else none
  | _, _ => none
def iPow : D → D → Option D
  | .int i, .int j => if 0 ≤ j ∧ j.natAbs ≤ 1000000 ∧ i.natAbs < 2 ^ 64 then some (.int (i ^ j.toNat)) else none
  | _, _ => none
def iCmp (p : Int → Int → Bool) : D → D → Option D
  | .int i, .int j => some (.bool (p i j))
  | _, _ => none
section
variable {X : Cx}
theorem two_int {f : D → D → Option D} {dx dy dz : D} (h : f dx dy = some dz) (hf : ∀ x y, f x y ≠ none → ∃ i j, x = .int i ∧ y = .int j) : ∃ i j, dx = .int i ∧ dy = .int j := hf dx dy (by rw [h]; intro z; cases z)
theorem o_iadd : Op2 X (binaryOp .Add) iAdd := ⟨_, op_add, fun x y dx dy dz H Q i1 i2 h q => by
  unfold iAdd at h
  split at h
  · cases h
    exact ⟨_, _, i1.ofInt, i2.ofInt, q.int⟩
  · cases h⟩
theorem o_isub : Op2 X (binaryOp .Sub) iSub := ⟨_, op_sub, fun x y dx dy dz H Q i1 i2 h q => by
  unfold iSub at h
  split at h
  · cases h
    exact ⟨_, _, i1.ofInt, i2.ofInt, q.int⟩
  · cases h⟩
theorem o_imul : Op2 X (binaryOp .Mult) iMul := ⟨_, op_mul, fun x y dx dy dz H Q i1 i2 h q => by
  unfold iMul at h
  split at h
  · split at h
    · rename_i hc
      cases h
      exact ⟨_, _, i1.ofInt, i2.ofInt, (by unfold CMul; omega), q.int⟩
    · cases h
  · cases h⟩
theorem o_imod : Op2 X (binaryOp .Mod) iMod := ⟨_, op_mod, fun x y dx dy dz H Q i1 i2 h q => by
  unfold iMod at h
  split at h
  · split at h
    · rename_i hc
      cases h
      exact ⟨_, _, i1.ofInt, i2.ofInt, hc, q.int⟩
    · cases h
  · cases h⟩
theorem o_idiv : Op2 X (binaryOp .FloorDiv) iDiv := ⟨_, op_fdiv, fun x y dx dy dz H Q i1 i2 h q => by
  unfold iDiv at h
  split at h
  · split at h
    · rename_i hc
      cases h
      exact ⟨_, _, i1.ofInt, i2.ofInt, ⟨hc.1, by have := hc.2; omega⟩, q.int⟩
    · cases h
  · cases h⟩
theorem o_ipow : Op2 X (binaryOp .Pow) iPow := ⟨_, op_pow, fun x y dx dy dz H Q i1 i2 h q => by
  unfold iPow at h
  split at h
  · split at h
    · rename_i hc
      cases h
      exact ⟨_, _, i1.ofInt, i2.ofInt, ⟨hc.1, by have := hc.2.1; omega, hc.2.2⟩, q.int⟩
    · cases h
  · cases h⟩
theorem o_icmp {op : CmpOp} {p : Int → Int → Bool} (h : OpR X (compareOp op) (rI0 fun i j => .bl (p i j))) : Op2 X (compareOp op) (iCmp p) := ⟨_, h, fun x y dx dy dz H Q i1 i2 h q => by
  unfold iCmp at h
  split at h
  · cases h
    exact ⟨_, _, i1.ofInt, i2.ofInt, q.bl⟩
  · cases h⟩
def dLt := iCmp fun i j => decide (i < j)
def dLe := iCmp fun i j => decide (i ≤ j)
def dGt := iCmp fun i j => decide (j < i)
def dGe := iCmp fun i j => decide (j ≤ i)
theorem o_lt : Op2 X (compareOp .Lt) dLt := o_icmp op_lt
theorem o_le : Op2 X (compareOp .LtE) dLe := o_icmp op_le
theorem o_gt : Op2 X (compareOp .Gt) dGt := o_icmp op_gt
theorem o_ge : Op2 X (compareOp .GtE) dGe := o_icmp op_ge

/-! ### joined, repeated -/
def sAdd : D → D → Option D
  | .str i, .str j => if i.length + j.length ≤ most then some (.str (i ++ j)) else none
  | _, _ => none
def tAdd : D → D → Option D
  | .tuple xs, .tuple ys => if xs.length + ys.length ≤ most then some (.tuple (xs ++ ys)) else none
  | _, _ => none
def lAdd : D → D → Option D
  | .list xs, .list ys => if xs.length + ys.length ≤ most then some (.list (xs ++ ys)) else none
  | _, _ => none
theorem o_sadd : Op2 X (binaryOp .Add) sAdd := ⟨_, op_add_str, fun x y dx dy dz H Q i1 i2 h q => by
  unfold sAdd at h
  split at h
  · split at h
    · rename_i hc
      cases h
      exact ⟨_, _, i1.ofStr, i2.ofStr, Nat.le_trans hc most_line, q.str⟩
    · cases h
  · cases h⟩
theorem o_tadd : Op2 X (binaryOp .Add) tAdd := ⟨_, op_catA, fun x y dx dy dz H Q i1 i2 h q => by
  unfold tAdd at h
  split at h
  · split at h
    · rename_i hc
      cases h
      obtain ⟨a, xs, rfl, s1, q1⟩ := i1.ofTup
      obtain ⟨b, ys, rfl, s2, q2⟩ := i2.ofTup
      refine ⟨a, b, xs, ys, rfl, rfl, s1, s2, by rw [q1.len, q2.len]; exact Nat.le_trans hc most_line, fun e => ?_, fun _ e => ?_, fun _ _ p hp => q.tup hp (q1.append q2)⟩
      · subst e
        cases q1
        exact q.same (.tup s2 q2)
      · subst e
        cases q2
        rw [List.append_nil] at q
        exact q.same (.tup s1 q1)
    · cases h
  · cases h⟩
/-- frozen lists joined -/
def rCatF (K : KW) : R2 := fun x y H Q => ∃ l b xs zs, x = .ref l ∧ y = .ref b ∧ FzL K H l xs ∧ FzL K H b zs ∧ xs.length + zs.length ≤ sizeLine ∧ ∀ p, H p = none → Q (.ref p) (upd H p (.lst (xs ++ zs)))
theorem Inv.flst {pins : List (Addr × Obj)} {σ : L2.St} {H : Hp} {s : Shared} {l : Addr} {xs : List V} (I : Inv X pins σ H s) (h : FzL (xkw X) H l xs) :
    xs.length ≤ sizeLine ∧ ∃ (its : List Value) (n : Nat), Vals xs its ∧ xs.length = its.length ∧ s.heap.get? l = some { cls := .type "list", data := .seq its.toArray n } := by
  rcases h with ⟨o, h⟩ | ⟨its, n, h1, h2, h3⟩
  · obtain ⟨e, z, its, n, r, e2⟩ := I.hok l _ h
    exact ⟨z, its, n, r, r.length, e2⟩
  · exact ⟨by rw [h3.length]; exact h2, its, n, h3, h3.length, I.kIn _ _ h1⟩
theorem op_catF : OpR X (binaryOp .Add) (rCatF (xkw X)) := by
  intro pins s σ H x y v u Q I rx ry h
  obtain ⟨l, b, xs, zs, rfl, rfl, hH, hB, hz, q⟩ := h
  cases rx
  cases ry
  obtain ⟨z, its, n, r, hl, e⟩ := Inv.flst I hH
  obtain ⟨z2, its2, n2, r2, hl2, e2⟩ := Inv.flst I hB
  refine PySem.P.add_list e e2 ?_ (by rw [List.size_toArray, List.size_toArray]; omega)
  have ea : its.toArray ++ its2.toArray = (its ++ its2).toArray := by simp
  rw [ea]
  exact ⟨.ref _, _, I.lnew (t' := s.toks) (r.append r2) (by rw [List.length_append]; omega), rfl, q _ I.fresh⟩
theorem o_ladd : Op2 X (binaryOp .Add) lAdd := ⟨_, op_catF, fun x y dx dy dz H Q i1 i2 h q => by
  unfold lAdd at h
  split at h
  · split at h
    · rename_i hc
      cases h
      obtain ⟨a, xs, rfl, s1, q1⟩ := i1.ofLst
      obtain ⟨b, ys, rfl, s2, q2⟩ := i2.ofLst
      exact ⟨a, b, xs, ys, rfl, rfl, s1, s2, by rw [q1.len, q2.len]; exact Nat.le_trans hc most_line, fun p hp => q.lst hp (q1.append q2)⟩
    · cases h
  · cases h⟩
def dAdd : D → D → Option D := orE iAdd (orE tAdd (orE lAdd sAdd))
theorem o_add : Op2 X (binaryOp .Add) dAdd := o_iadd.or (o_tadd.or (o_ladd.or o_sadd))
def rRepF (K : KW) : R2 := fun x y H Q => ∃ l k xs, x = .ref l ∧ y = .int k ∧ FzL K H l xs ∧ -(2 ^ 63) ≤ k ∧ k < 2 ^ 63 ∧ xs.length * k.toNat ≤ sizeLine ∧
  ∀ p, H p = none → Q (.ref p) (upd H p (.lst (List.replicate k.toNat xs).flatten))
theorem op_repF : OpR X (binaryOp .Mult) (rRepF (xkw X)) := by
  intro pins s σ H x y v u Q I rx ry h
  obtain ⟨l, k, xs, rfl, rfl, hH, h1, h2, hz, q⟩ := h
  cases rx
  obtain ⟨t, rfl⟩ := ry
  obtain ⟨z, its, n, r, hl, e⟩ := Inv.flst I hH
  have hlen : its.toArray.size * k.toNat ≤ sizeLine := by rw [List.size_toArray, ← hl]; exact hz
  have hcap : ¬ its.toArray.size * k.toNat > (2 ^ 63 - 1) / 8 := by
    have : (sizeLine : Nat) ≤ (2 ^ 63 - 1) / 8 := by decide
    omega
  have hfit : ¬ (!Builtin.List.listFitsIndex k) = true := by
    rw [fitsIndex_both h1 h2]
    exact Bool.false_ne_true
  have hlong : ¬ Builtin.List.listTooLong (its.toArray.size * k.toNat) = true := by
    rw [notLongL hlen]
    exact Bool.false_ne_true
  have hnew : List.foldl (fun x1 x2 => x1 ++ x2) #[] (List.replicate (if its.toArray.isEmpty = true then 0 else k.toNat) its.toArray) = (List.replicate k.toNat its).flatten.toArray := by
    have f0 : ∀ m : Nat, List.foldl (fun x1 x2 => x1 ++ x2) #[] (List.replicate m its.toArray) = (List.replicate m its).flatten.toArray := fun m => by
      have := foldl_rep its m []
      rw [List.nil_append] at this
      exact this
    rw [f0]
    cases its with
    | nil => simp
    | cons a r' => rw [if_neg (by simp)]
  refine wpAny_binaryOp_repeat_ref (T := "list") (U := "int") (by decide) ⟨_, e, rfl⟩ (fun s' => typeIs_int s' k t) noFill_list_mul F.fills_int_mul F.slot_int_rmul repeat_list F.slot_int_index.lookup
    (call_meets F.slot_int_rmul (typeIs_int s k t) F.entry_int_rmul (F.args_int_rmul_2 _ _) (int___rmul___int_list k t l its.toArray n)
      ⟨e, rfl, ⟨_, e, rfl⟩, call_meets F.slot_list_mul ⟨_, e, rfl⟩ F.entry_list_mul (F.args_list_mul_2 _ _) (AutoListH.list___mul___list_int_3 l its.toArray n k t hfit hcap hlong) ⟨e, ?_⟩⟩)
  rw [hnew]
  exact ⟨.ref _, _, I.lnew (t' := s.toks) (r.rep k.toNat) (by rw [PyProof.Rows.lm_len_rep_flat, Nat.mul_comm]; exact hz), rfl, q _ I.fresh⟩
def lMul : D → D → Option D
  | .list xs, .int k => if k.natAbs ≤ 1000 ∧ xs.length ≤ 1000 then some (.list (List.replicate k.toNat xs).flatten) else none
  | _, _ => none
theorem mul1000 {n k : Nat} (h : n ≤ 1000) (h2 : k ≤ 1000) : n * k ≤ sizeLine := Nat.le_trans (Nat.mul_le_mul h h2) (by rw [sizeLine_eq]; decide)
theorem o_lmul : Op2 X (binaryOp .Mult) lMul := ⟨_, op_repF, fun x y dx dy dz H Q i1 i2 h q => by
  unfold lMul at h
  split at h
  · split at h
    · rename_i hc
      cases h
      obtain ⟨a, xs, rfl, s1, q1⟩ := i1.ofLst
      exact ⟨a, _, xs, rfl, i2.ofInt, s1, by omega, by omega, by rw [q1.len]; exact mul1000 hc.2 (by omega), fun p hp => q.lst hp (q1.flat _)⟩
    · cases h
  · cases h⟩
theorem tuple_mul1 (l : Addr) (items : Array Value) (n : Nat) (dd : Option Addr) (sl : Array (Option Value)) (u : Tok)  :
    Meets (Builtin.«tuple.__mul__» ⟨[.ref l, .int 1 u], []⟩) (fun _ R s => s.heap.get? l = some { cls := .type "tuple", dict := dd, data := .seq items n, slots := sl } ∧ R (.ok (.ret (Value.ref l))) s) :=
  .of_wp fun prog w A R s h => by
    obtain ⟨hp, g, d, tk, os⟩ := s
    obtain ⟨hl, h⟩ := h
    have f1 := AutoSeq1.idx_int
    wp_walk using wpAny_loadPart' hl
    exact ⟨_, rfl, h⟩
theorem tuple_mul0 (l : Addr) (items : Array Value) (n : Nat) (dd : Option Addr) (sl : Array (Option Value)) (x : Int) (u : Tok) (c0 : (decide (x < -(2 ^ 63)) || decide (x ≥ 2 ^ 63)) = false) (c1 : (items.isEmpty || x == 1) = false) (c2 : (decide (x ≤ 0) || items.isEmpty) = true) :
    Meets (Builtin.«tuple.__mul__» ⟨[.ref l, .int x u], []⟩) (fun _ R s => s.heap.get? l = some { cls := .type "tuple", dict := dd, data := .seq items n, slots := sl } ∧
      R (.ok (.ret (Value.ref s.heap.objs.size))) { s with heap := s.heap.push { cls := Value.type "tuple", data := Data.seq #[] }, toks := s.toks }) :=
  .of_wp fun prog w A R s h => by
    obtain ⟨hp, g, d, tk, os⟩ := s
    obtain ⟨hl, h⟩ := h
    have f1 := AutoSeq1.idx_int
    wp_walk using wpAny_loadPart' hl
    repeat (first
      | (refine wpAny_ite_false (decide_eq_false (by rw [c0]; exact Bool.false_ne_true)) ?_; wp_walk using wpAny_loadPart' hl)
      | (refine wpAny_ite_false (decide_eq_false (by rw [c1]; exact Bool.false_ne_true)) ?_; wp_walk using wpAny_loadPart' hl)
      | (refine wpAny_ite_true (decide_eq_true c2) ?_; wp_walk using wpAny_loadPart' hl))
    exact ⟨_, rfl, h⟩
/-- a tuple times a number below 2 -/
def rRepS (K : KW) : R2 := fun x y H Q => ∃ l k xs, x = .ref l ∧ y = .int k ∧ SqT K H l xs ∧ xs ≠ [] ∧ -1000 ≤ k ∧ ((k = 1 ∧ Q (.ref l) H) ∨ (k ≤ 0 ∧ ∀ p, H p = none → Q (.ref p) (upd H p (.tup []))))
theorem op_repS : OpR X (binaryOp .Mult) (rRepS (xkw X)) := by
  intro pins s σ H x y v u Q I rx ry h
  obtain ⟨l, k, xs, rfl, rfl, hT, hne, h1, q⟩ := h
  cases rx
  obtain ⟨t, rfl⟩ := ry
  obtain ⟨its, r, ⟨⟨cls, dd, data, sl⟩, ho, hc, n, hd⟩, hs⟩ := I.tuple hT
  simp only at hc hd
  subst hc hd
  have hn : its ≠ [] := fun e => hne (by
    have := r.length
    rw [e] at this
    exact List.eq_nil_of_length_eq_zero this)
  have hi : its.toArray.isEmpty = false := by
    cases its with
    | nil => exact absurd rfl hn
    | cons a b => rfl
  rcases q with ⟨rfl, q⟩ | ⟨hk, q⟩
  · refine wpAny_binaryOp_repeat_ref (T := "tuple") (U := "int") (by decide) ⟨_, ho, rfl⟩ (fun s' => typeIs_int s' 1 t) noFill_tuple_mul F.fills_int_mul F.slot_int_rmul repeat_tuple F.slot_int_index.lookup
      (call_meets F.slot_int_rmul (typeIs_int s 1 t) F.entry_int_rmul (F.args_int_rmul_2 _ _) (int_rmul_tuple 1 t l its.toArray n dd sl)
        ⟨ho, rfl, ⟨_, ho, rfl⟩, call_meets F.slot_tuple_mul ⟨_, ho, rfl⟩ F.entry_tuple_mul (F.args_tuple_mul_2 _ _) (tuple_mul1 l its.toArray n dd sl t) ⟨ho, ?_⟩⟩)
    exact ⟨.ref l, H, I, rfl, q⟩
  · refine wpAny_binaryOp_repeat_ref (T := "tuple") (U := "int") (by decide) ⟨_, ho, rfl⟩ (fun s' => typeIs_int s' k t) noFill_tuple_mul F.fills_int_mul F.slot_int_rmul repeat_tuple F.slot_int_index.lookup
      (call_meets F.slot_int_rmul (typeIs_int s k t) F.entry_int_rmul (F.args_int_rmul_2 _ _) (int_rmul_tuple k t l its.toArray n dd sl)
        ⟨ho, rfl, ⟨_, ho, rfl⟩, call_meets F.slot_tuple_mul ⟨_, ho, rfl⟩ F.entry_tuple_mul (F.args_tuple_mul_2 _ _) (tuple_mul0 l its.toArray n dd sl k t
          (by rw [decide_eq_false (by omega), decide_eq_false (by omega)] <;> rfl) (by rw [hi, Bool.false_or]; exact beq_eq_false_iff_ne.mpr (by omega)) (by rw [decide_eq_true hk]; rfl)) ⟨ho, ?_⟩⟩)
    refine ⟨.ref s.heap.objs.size, _, I.laid (t' := s.toks) (o := .tup []) (fun b ob q => Heap.get?_push_of_some _ q) (Nat.le_refl _) ?_, rfl, q _ (I.hok.fresh (Nat.le_refl _))⟩
    exact ⟨Nat.zero_le _, [], .nil, IsTup.new _ _⟩
def tMul : D → D → Option D
  | .tuple xs, .int k => if k.natAbs ≤ 1000 ∧ xs.length ≤ 1000 ∧ xs.length ≠ 0 then some (.tuple (List.replicate k.toNat xs).flatten) else none
  | _, _ => none
theorem o_tmul : Op2 X (binaryOp .Mult) tMul := ⟨_, op_repT.or op_repS, fun x y dx dy dz H Q i1 i2 h q => by
  unfold tMul at h
  split at h
  · rename_i ds k
    split at h
    · rename_i hc
      cases h
      obtain ⟨a, xs, rfl, s1, q1⟩ := i1.ofTup
      have hne : xs ≠ [] := fun z => hc.2.2 (by rw [← q1.len, z]; rfl)
      by_cases hk : 2 ≤ k
      · exact .inl ⟨a, k, xs, rfl, i2.ofInt, s1, hne, hk, by omega, by rw [q1.len]; exact hc.2.1, fun p hp => q.tup hp (q1.flat _)⟩
      · refine .inr ⟨a, k, xs, rfl, i2.ofInt, s1, hne, by omega, ?_⟩
        by_cases h1 : k = 1
        · subst h1
          refine .inl ⟨rfl, q.same (.tup s1 ?_)⟩
          have : (List.replicate (1 : Int).toNat ds).flatten = ds := by
            show (List.replicate 1 ds).flatten = ds
            simp
          rw [this]
          exact q1
        · refine .inr ⟨by omega, fun p hp => ?_⟩
          have h0 : k.toNat = 0 := by omega
          rw [h0] at q
          exact q.tup hp .nil
    · cases h
  · cases h⟩
def dMul : D → D → Option D := orE iMul (orE lMul tMul)
theorem o_mul : Op2 X (binaryOp .Mult) dMul := o_imul.or (o_lmul.or o_tmul)

/-! ### equal, in -/
def okEq (d e : D) : Bool := d.canLay0 && e.canLay0 && decide (min d.depth e.depth ≤ 64)
def dEq : D → D → Option D := fun x y => if okEq x y then some (.bool (PyData.eqv x y)) else none
def dNe : D → D → Option D := fun x y => if okEq x y then some (.bool (!PyData.eqv x y)) else none
theorem okEq_of {d e : D} (h : okEq d e = true) : d.canLay0 = true ∧ e.canLay0 = true ∧ min d.depth e.depth ≤ 64 := by
  unfold okEq at h
  simp only [Bool.and_eq_true, decide_eq_true_eq] at h
  exact ⟨h.1.1, h.1.2, h.2⟩
def rEqM (K : KW) (neg : Bool) : R2 := fun x y H Q => ∃ d e, Dp K H x d ∧ Dp K H y e ∧ okEq d e = true ∧ Q (.bl (if neg then !PyData.eqv d e else PyData.eqv d e)) H
theorem op_eqM (hu : X.A.units + 64 < cLine) : OpR X (compareOp .Eq) (rEqM (xkw X) false) := by
  intro pins s σ H x y v u Q I rx ry h
  obtain ⟨d, e, hd, he, ok, q⟩ := h
  obtain ⟨as, r1⟩ := Dp.reads I d x v hd rx
  obtain ⟨bs, r2⟩ := Dp.reads I e y u he ry
  obtain ⟨o1, o2, o3⟩ := okEq_of ok
  exact SeqAt.compareEq_reads r1 r2 o1 o2 (by omega) ⟨.bl _, H, I, rfl, q⟩
theorem op_neM (hu : X.A.units + 64 < cLine) : OpR X (compareOp .NotEq) (rEqM (xkw X) true) := by
  intro pins s σ H x y v u Q I rx ry h
  obtain ⟨d, e, hd, he, ok, q⟩ := h
  obtain ⟨as, r1⟩ := Dp.reads I d x v hd rx
  obtain ⟨bs, r2⟩ := Dp.reads I e y u he ry
  obtain ⟨o1, o2, o3⟩ := okEq_of ok
  exact SeqAt.compareNe_reads r1 r2 o1 o2 (by omega) ⟨.bl _, H, I, rfl, q⟩
theorem o_eq {k : Nat} (hr : Room k X.A) : Op2 X (compareOp .Eq) dEq := ⟨_, op_eqM hr.units, fun x y dx dy dz H Q i1 i2 h q => by
  unfold dEq at h
  split at h
  · rename_i ok
    cases h
    exact ⟨dx, dy, Im.dp _ _ (okEq_of ok).1 i1, Im.dp _ _ (okEq_of ok).2.1 i2, ok, q.bl⟩
  · cases h⟩
theorem o_ne {k : Nat} (hr : Room k X.A) : Op2 X (compareOp .NotEq) dNe := ⟨_, op_neM hr.units, fun x y dx dy dz H Q i1 i2 h q => by
  unfold dNe at h
  split at h
  · rename_i ok
    cases h
    exact ⟨dx, dy, Im.dp _ _ (okEq_of ok).1 i1, Im.dp _ _ (okEq_of ok).2.1 i2, ok, q.bl⟩
  · cases h⟩
def flatD : D → Bool
  | .none | .bool _ | .int _ | .str _ => true
  | _ => false
theorem im_flat {K : KW} {H : Hp} {v : V} {d : D} (h : Im K H v d) (f : flatD d = true) : flatV v = true := by
  cases h <;> first | rfl | cases f
theorem im_flats {K : KW} {H : Hp} : ∀ {vs : List V} {ds : List D}, ImAll K H vs ds → ds.all flatD = true → vs.all flatV = true
  | _, _, .nil, _ => rfl
  | _, _, .cons h1 h2, f => by
    rw [List.all_cons, Bool.and_eq_true] at f
    rw [List.all_cons, im_flat h1 f.1, im_flats h2 f.2]
    rfl
theorem eqV_eqv {K : KW} {H : Hp} {v w : V} {d e : D} (h1 : Im K H v d) (h2 : Im K H w e) (f1 : flatD d = true) (f2 : flatD e = true) : eqV v w = PyData.eqv d e := by
  cases h1 with
  | lst _ _ => exact absurd f1 (by simp [flatD])
  | tup _ _ => exact absurd f1 (by simp [flatD])
  | _ =>
    cases h2 with
    | lst _ _ => exact absurd f2 (by simp [flatD])
    | tup _ _ => exact absurd f2 (by simp [flatD])
    | _ => simp [eqV, PyData.eqv]
theorem inV_eqv {K : KW} {H : Hp} {v : V} {d : D} (h : Im K H v d) (f : flatD d = true) : ∀ {vs : List V} {ds : List D}, ImAll K H vs ds → ds.all flatD = true → inV v vs = ds.any fun z => PyData.eqv z d
  | _, _, .nil, _ => rfl
  | _, _, .cons h1 h2, g => by
    rw [List.all_cons, Bool.and_eq_true] at g
    have := inV_eqv h f h2 g.2
    unfold inV at this ⊢
    rw [List.any_cons, List.any_cons, this, eqV_eqv h1 h g.1 f]
def fIn (neg : Bool) : D → D → Option D
  | x, .list ds => if flatD x && ds.all flatD then some (.bool (neg ^^ (ds.any fun z => PyData.eqv z x))) else none
  | x, .tuple ds => if flatD x && ds.all flatD then some (.bool (neg ^^ (ds.any fun z => PyData.eqv z x))) else none
  | _, _ => none
def lIn (neg : Bool) : D → D → Option D
  | x, .list ds => if SeqAt.shaped x && SeqAt.shaped (.list ds) then some (.bool (neg ^^ (ds.any fun z => PyData.eqv z x))) else none
  | _, _ => none
def sIn (neg : Bool) : D → D → Option D
  | .str i, .str j => some (.bool (neg ^^ !(Builtin.Str.occurrences j i 0 j.length 1).isEmpty))
  | _, _ => none
theorem o_fin : Op2 X (compareOp .In) (fIn false) := ⟨_, op_in_seq, fun x y dx dy dz H Q i1 i2 h q => by
  unfold fIn at h
  split at h
  · split at h
    · rename_i ds hc
      cases h
      rw [Bool.and_eq_true] at hc
      obtain ⟨a, xs, rfl, s1, q1⟩ := i2.ofLst
      refine ⟨a, xs, rfl, .inl s1.sq, im_flat i1 hc.1, im_flats q1 hc.2, ?_⟩
      rw [if_neg Bool.false_ne_true, inV_eqv i1 hc.1 q1 hc.2]
      rw [Bool.false_xor] at q
      exact q.bl
    · cases h
  · split at h
    · rename_i ds hc
      cases h
      rw [Bool.and_eq_true] at hc
      obtain ⟨a, xs, rfl, s1, q1⟩ := i2.ofTup
      refine ⟨a, xs, rfl, .inr s1, im_flat i1 hc.1, im_flats q1 hc.2, ?_⟩
      rw [if_neg Bool.false_ne_true, inV_eqv i1 hc.1 q1 hc.2]
      rw [Bool.false_xor] at q
      exact q.bl
    · cases h
  · cases h⟩
theorem o_fnin : Op2 X (compareOp .NotIn) (fIn true) := ⟨_, op_notIn_seq, fun x y dx dy dz H Q i1 i2 h q => by
  unfold fIn at h
  split at h
  · split at h
    · rename_i ds hc
      cases h
      rw [Bool.and_eq_true] at hc
      obtain ⟨a, xs, rfl, s1, q1⟩ := i2.ofLst
      refine ⟨a, xs, rfl, .inl s1.sq, im_flat i1 hc.1, im_flats q1 hc.2, ?_⟩
      rw [if_pos rfl, inV_eqv i1 hc.1 q1 hc.2]
      rw [Bool.true_xor] at q
      exact q.bl
    · cases h
  · split at h
    · rename_i ds hc
      cases h
      rw [Bool.and_eq_true] at hc
      obtain ⟨a, xs, rfl, s1, q1⟩ := i2.ofTup
      refine ⟨a, xs, rfl, .inr s1, im_flat i1 hc.1, im_flats q1 hc.2, ?_⟩
      rw [if_pos rfl, inV_eqv i1 hc.1 q1 hc.2]
      rw [Bool.true_xor] at q
      exact q.bl
    · cases h
  · cases h⟩
theorem o_lin {k : Nat} (hr : Room k X.A) : Op2 X (compareOp .In) (lIn false) := ⟨_, op_inD (by have := hr.un; omega), fun x y dx dy dz H Q i1 i2 h q => by
  unfold lIn at h
  split at h
  · split at h
    · rename_i ds hc
      cases h
      rw [Bool.and_eq_true] at hc
      rw [Bool.false_xor] at q
      exact ⟨dx, ds, Im.dp _ _ (SeqAt.canLay_of_shaped hc.1) i1, Im.dp _ _ (SeqAt.canLay_of_shaped hc.2) i2, hc.1, hc.2, q.bl⟩
    · cases h
  · cases h⟩
theorem o_lnin {k : Nat} (hr : Room k X.A) : Op2 X (compareOp .NotIn) (lIn true) := ⟨_, op_notInD (by have := hr.un; omega), fun x y dx dy dz H Q i1 i2 h q => by
  unfold lIn at h
  split at h
  · split at h
    · rename_i ds hc
      cases h
      rw [Bool.and_eq_true] at hc
      rw [Bool.true_xor] at q
      exact ⟨dx, ds, Im.dp _ _ (SeqAt.canLay_of_shaped hc.1) i1, Im.dp _ _ (SeqAt.canLay_of_shaped hc.2) i2, hc.1, hc.2, q.bl⟩
    · cases h
  · cases h⟩
theorem o_sin : Op2 X (compareOp .In) (sIn false) := ⟨_, op_in_str, fun x y dx dy dz H Q i1 i2 h q => by
  unfold sIn at h
  split at h
  · cases h
    rw [Bool.false_xor] at q
    exact ⟨_, _, i1.ofStr, i2.ofStr, q.bl⟩
  · cases h⟩
theorem o_snin : Op2 X (compareOp .NotIn) (sIn true) := ⟨_, op_notin_str, fun x y dx dy dz H Q i1 i2 h q => by
  unfold sIn at h
  split at h
  · cases h
    rw [Bool.true_xor] at q
    exact ⟨_, _, i1.ofStr, i2.ofStr, q.bl⟩
  · cases h⟩
def dIn (neg : Bool) : D → D → Option D := orE (fIn neg) (orE (lIn neg) (sIn neg))
theorem o_in {k : Nat} (hr : Room k X.A) : Op2 X (compareOp .In) (dIn false) := o_fin.or ((o_lin hr).or o_sin)
theorem o_nin {k : Nat} (hr : Room k X.A) : Op2 X (compareOp .NotIn) (dIn true) := o_fnin.or ((o_lnin hr).or o_snin)
/-! ### is None -/
def dIsN (neg : Bool) : D → D → Option D
  | .none, .none => some (.bool (!neg))
  | _, .none => some (.bool neg)
  | _, _ => none
theorem im_non {K : KW} {H : Hp} {v : V} {d : D} (h : Im K H v d) (hd : d ≠ .none) : v ≠ .non := by
  cases h with
  | non => exact absurd rfl hd
  | _ => intro z; cases z
theorem o_isn : Op2 X (compareOp .Is) (dIsN false) := ⟨_, op_isN, fun x y dx dy dz H Q i1 i2 h q => by
  unfold dIsN at h
  split at h
  · cases h
    refine ⟨i2.ofNone, ?_⟩
    rw [i1.ofNone]
    exact q.bl
  · rename_i hd
    cases h
    refine ⟨i2.ofNone, ?_⟩
    rw [decide_eq_false (im_non i1 hd)]
    exact q.bl
  · cases h⟩
theorem o_isnn : Op2 X (compareOp .IsNot) (dIsN true) := ⟨_, op_notN, fun x y dx dy dz H Q i1 i2 h q => by
  unfold dIsN at h
  split at h
  · cases h
    refine ⟨i2.ofNone, ?_⟩
    rw [i1.ofNone]
    exact q.bl
  · rename_i hd
    cases h
    refine ⟨i2.ofNone, ?_⟩
    rw [decide_eq_false (im_non i1 hd)]
    exact q.bl
  · cases h⟩
end
end VS

namespace VS
open PySem PySem.Spec PyProof.Rows L2

/-! ### isinstance -/
inductive Ty5 where
  | int | bool | tup | lst | str
def Ty5.name : Ty5 → String
  | .int => "int"
  | .bool => "bool"
  | .tup => "tuple"
  | .lst => "list"
  | .str => "str"
def Ty5.is : Ty5 → D → Bool
  | .int, .int _ => true
  | .int, .bool _ => true
  | .bool, .bool _ => true
  | .tup, .tuple _ => true
  | .lst, .list _ => true
  | .str, .str _ => true
  | _, _ => false
def tyName : D → String
  | .none => "NoneType"
  | .bool _ => "bool"
  | .int _ => "int"
  | .str _ => "str"
  | .list _ => "list"
  | .tuple _ => "tuple"
  | .dict _ => "dict"
theorem kit_is (t : Ty5) (d : D) : kitB (tyName d) t.name = some (t.is d) := by
  cases t <;> cases d <;> (simp only [tyName, Ty5.name, Ty5.is]; decide +kernel)
theorem boot_ty (t : Ty5) : bootBuiltins (Str.ofString t.name) = some (.type t.name) := by
  cases t
  · exact boot_int
  · exact boot_bool
  · exact boot_tuple
  · exact boot_list
  · exact boot_str
theorem im_ty {K : KW} {H : Hp} {v : V} {d : D} (h : Im K H v d) : TyX K H v (.type (tyName d)) ∨ ∃ a o φ, v = .ref a ∧ H a = some (.frz o (.ext φ)) ∧ tyName d = "dict" ∧ (∀ h, φ h → ∃ o, h.get? a = some o ∧ o.cls = .type "dict") := by
  cases h with
  | non => exact .inl (.base .non)
  | bl b => exact .inl (.base (.bl b))
  | int i => exact .inl (.base (.int i))
  | str x => exact .inl (.base (.str x))
  | lst h1 h2 =>
    rcases h1 with ⟨o, h1⟩ | ⟨its, n, h1, _⟩
    · exact .inl (.base (.frz h1))
    · exact .inl (.kList h1 rfl)
  | tup h1 h2 =>
    rcases h1 with (h1 | ⟨o, h1⟩) | ⟨o, its, n, h1, h3, _⟩
    · exact .inl (.base (.tup h1))
    · exact .inl (.fTuple h1)
    · exact .inl (.kTuple h1 h3)
  | dct h1 h2 => exact .inr ⟨_, _, _, rfl, h1, rfl, fun h ⟨_, _, _, _, o, _, _, _, e1, e2, _⟩ => ⟨o, e1, e2.1⟩⟩
theorem kit_im {X : Cx} {pins : List (Addr × Obj)} {σ : L2.St} {H : Hp} {s : Shared} {x : V} {u : Value} {d : D} (I : Inv X pins σ H s) (rx : RelV x u) (i : Im (xkw X) H x d) : ∃ P : Heap → Prop, PySem.W.KitX X.K u (.type (tyName d)) P ∧ P s.heap ∧ u ≠ .builtin "__main__.__loader__#opaque" := by
  rcases im_ty i with ty | ⟨a, o, φ, rfl, hH, e, hφ⟩
  · exact kit_of I rx ty
  · cases (show u = Value.ref a from rx)
    obtain ⟨_, h2, _⟩ := (show ObjOk X.prog X.w H s.heap a (.frz o (.ext φ)) from I.hok a _ hH)
    obtain ⟨ob, e1, e2⟩ := hφ _ h2
    rw [e]
    exact ⟨_, PySem.W.kitx_dict, ⟨ob, e1, e2⟩, fun z => nomatch z⟩
def rIsiM (K : KW) : List V → Hp → VK → Prop := fun xs H Q => ∃ (x c : V) (d : D) (u : Value) (b : Bool), xs = [x, c] ∧ ClsV c u ∧ Im K H x d ∧ PySem.W.kitOne K (.type (tyName d)) u = some b ∧ Q (.bl b) H
def rIsiTM (K : KW) : List V → Hp → VK → Prop := fun xs H Q => ∃ (x : V) (tp : Addr) (cs : List V) (d : D) (us : List Value) (b : Bool), xs = [x, .ref tp] ∧ H tp = some (.tup cs) ∧ Paired ClsV cs us ∧ Im K H x d ∧ PySem.W.kitAny K (.type (tyName d)) us = some b ∧ Q (.bl b) H
theorem call_isiM {X : Cx} : CallR X (.builtin "isinstance") (rIsiM (xkw X)) := by
  intro pins s σ H xs us Q I r h
  obtain ⟨x, c, t, u, b, rfl, k, ty, e, q⟩ := h
  obtain ⟨u1, u2, rfl, r1, r2⟩ := vals2 r
  have e2 := k.eq r2
  subst e2
  obtain ⟨P, Z, p, hx⟩ := kit_im I r1 ty
  exact PySem.W.kia_one Z I.kIn p e hx fun tk => ⟨.bl b, H, I.tok tk, rfl, q⟩
theorem call_isiTM {X : Cx} : CallR X (.builtin "isinstance") (rIsiTM (xkw X)) := by
  intro pins s σ H xs us Q I r h
  obtain ⟨x, tp, cs, t, ws, b, rfl, hT, k, ty, e, q⟩ := h
  obtain ⟨u1, u2, rfl, r1, r2⟩ := vals2 r
  cases (show u2 = Value.ref tp from r2)
  obtain ⟨P, Z, p, hx⟩ := kit_im I r1 ty
  obtain ⟨_, its, rv, o, h1, h2, n, h3⟩ := (show ObjOk X.prog X.w H s.heap tp (.tup cs) from I.hok tp _ hT)
  have e3 := ClsV.all k rv
  subst e3
  obtain ⟨oc, od, dt, sl⟩ := o
  simp only at h2 h3
  subst h2 h3
  exact PySem.W.kia_tup Z I.kIn p h1 e hx fun tk => ⟨.bl b, H, I.tok tk, rfl, q⟩
section
variable {X : Cx} {g : Gx} {pos : Pos} {a b c e : Expr} {fa fb fc f : M D} {es : List Expr} {fs : M (List D)}
def dIsi (t : Ty5) : D → Option D := fun d => some (.bool (t.is d))
def dIsi2 (t u : Ty5) : D → Option D := fun d => some (.bool (t.is d || u.is d))
theorem q_isi (t : Ty5) {x : Str} {p p2 : Pos} (ha : QE X g a fa) (hx : x = Str.ofString t.name) (hm : X.mg "isinstance" = none) (hm2 : X.mg x = none) (hg : Gl X "isinstance" := by rfl) (hg2 : Gl X x := by rfl) (hn : x ≠ "__name__" := by decide) (hd : (x == ("__debug__" : Str)) = false := by decide)
    (hs : starEach [a, .Name x p2] X.env = (false, eval a X.env) :: starEach [.Name x p2] X.env := by rfl) (hs2 : starEach [.Name x p2] X.env = (false, eval (.Name x p2) X.env) :: starEach [] X.env := by rfl) (hpl : (backTo pos (starEach [.Name x p2] X.env)).any (·.1) = false := by rfl) :
    QE X g (.Call (.Name "isinstance" p) [a, .Name x p2] [] pos) (e1 (dIsi t) fa) := by
  subst hx
  have hb : PE X (.Name (Str.ofString t.name) p2) (tC (.ty t.name)) := pe_bltn hg2 hm2 (boot_ty t) rfl hn hd
  refine pe_conv (pe_callB call_isiM hg hm boot_isinstance (pa_cons ha (pa_cons hb pa_nil hs2) hs) (by decide) (by decide) hs hpl) ?_
  rintro σ H Q ⟨ρ, own, d, ρ', h, R, k⟩
  obtain ⟨x, h1, h2⟩ := e1_some h
  cases h2
  refine ⟨ρ, own, x, ρ', h1, R, fun v ow1 H1 k1 i1 => ⟨v, .ty t.name, x, _, t.is x, rfl, .ty _, i1, kit_ty (kit_is t x), k _ ow1 H1 k1 (.bl _)⟩⟩
theorem q_isi2 (t u : Ty5) {x y : Str} {p p2 p3 p4 : Pos} {kk} (ha : QE X g a fa) (hx : x = Str.ofString t.name) (hy : y = Str.ofString u.name) (hm : X.mg "isinstance" = none) (hm2 : X.mg x = none) (hm3 : X.mg y = none) (hg : Gl X "isinstance" := by rfl) (hg2 : Gl X x := by rfl) (hg3 : Gl X y := by rfl)
    (hn : x ≠ "__name__" := by decide) (hd : (x == ("__debug__" : Str)) = false := by decide) (hn2 : y ≠ "__name__" := by decide) (hd2 : (y == ("__debug__" : Str)) = false := by decide)
    (hs : starEach [a, .Tuple [.Name x p2, .Name y p3] kk p4] X.env = (false, eval a X.env) :: starEach [.Tuple [.Name x p2, .Name y p3] kk p4] X.env := by rfl)
    (hs2 : starEach [.Tuple [.Name x p2, .Name y p3] kk p4] X.env = (false, eval (.Tuple [.Name x p2, .Name y p3] kk p4) X.env) :: starEach [] X.env := by rfl)
    (hs3 : starEach [.Name x p2, .Name y p3] X.env = (false, eval (.Name x p2) X.env) :: starEach [.Name y p3] X.env := by rfl)
    (hs4 : starEach [.Name y p3] X.env = (false, eval (.Name y p3) X.env) :: starEach [] X.env := by rfl)
    (hpl : (backTo pos (starEach [.Tuple [.Name x p2, .Name y p3] kk p4] X.env)).any (·.1) = false := by rfl) :
    QE X g (.Call (.Name "isinstance" p) [a, .Tuple [.Name x p2, .Name y p3] kk p4] [] pos) (e1 (dIsi2 t u) fa) := by
  subst hx hy
  have hb : PE X (.Name (Str.ofString t.name) p2) (tC (.ty t.name)) := pe_bltn hg2 hm2 (boot_ty t) rfl hn hd
  have hc : PE X (.Name (Str.ofString u.name) p3) (tC (.ty u.name)) := pe_bltn hg3 hm3 (boot_ty u) rfl hn2 hd2
  refine pe_conv (pe_callB call_isiTM hg hm boot_isinstance (pa_cons ha (pa_cons (pe_tup (pa_cons hb (pa_cons hc pa_nil hs4) hs3)) pa_nil hs2) hs) (by decide) (by decide) hs hpl) ?_
  rintro σ H Q ⟨ρ, own, d, ρ', h, R, k⟩
  obtain ⟨x, h1, h2⟩ := e1_some h
  cases h2
  refine ⟨ρ, own, x, ρ', h1, R, fun v ow1 H1 k1 i1 => ⟨by show 2 ≤ sizeLine; decide, fun q hq => ?_⟩⟩
  refine ⟨v, q, [.ty t.name, .ty u.name], x, [.type t.name, .type u.name], t.is x || u.is x, rfl, upd_same, .cons (.ty _) (.cons (.ty _) .nil), i1.up (.new hq), ?_, k _ ow1 _ (k1.trans (k1.rel.goNew hq)) (.bl _)⟩
  refine kitAny_cons (kit_ty (kit_is t x)) (fun e => ?_) (fun e => by rw [e]; rfl)
  rw [e, Bool.false_or]
  exact kitAny_cons (kit_ty (kit_is u x)) (fun e => by rw [e]; exact kitAny_nil) (fun e => e)

/-! ### calls -/
def fLenS : List D → Option D
  | [.list ds] => some (.int ds.length)
  | [.tuple ds] => some (.int ds.length)
  | _ => none
def fLenT : List D → Option D
  | [.str x] => if x.length ≤ most then some (.int x.length) else none
  | _ => none
theorem f_lenS : Fn1 X (.builtin "len") fLenS := ⟨_, call_len_seq, fun vs ds dz H Q i1 h q => by
  unfold fLenS at h
  split at h
  · cases h
    cases i1 with
    | cons i1 i2 =>
      cases i2
      obtain ⟨a, xs, rfl, s1, q1⟩ := i1.ofLst
      exact ⟨a, xs, rfl, .inl s1.sq, by rw [q1.len]; exact q.int⟩
  · cases h
    cases i1 with
    | cons i1 i2 =>
      cases i2
      obtain ⟨a, xs, rfl, s1, q1⟩ := i1.ofTup
      exact ⟨a, xs, rfl, .inr s1, by rw [q1.len]; exact q.int⟩
  · cases h⟩
theorem f_lenT : Fn1 X (.builtin "len") fLenT := ⟨_, call_len_str, fun vs ds dz H Q i1 h q => by
  unfold fLenT at h
  split at h
  · split at h
    · rename_i hc
      cases h
      cases i1 with
      | cons i1 i2 =>
        cases i2
        exact ⟨_, by rw [i1.ofStr], Nat.le_trans hc most_line, q.int⟩
    · cases h
  · cases h⟩
def fLen : List D → Option D := orL fLenS fLenT
theorem f_len : Fn1 X (.builtin "len") fLen := f_lenS.or f_lenT
def fInt : List D → Option D
  | [.int i] => some (.int i)
  | [.bool b] => some (.int (if b then 1 else 0))
  | _ => none
theorem f_int : Fn1 X (.type "int") fInt := ⟨_, call_int1, fun vs ds dz H Q i1 h q => by
  unfold fInt at h
  split at h
  · cases h
    cases i1 with
    | cons i1 i2 =>
      cases i2
      exact .inl ⟨_, by rw [i1.ofInt], q.int⟩
  · cases h
    cases i1 with
    | cons i1 i2 =>
      cases i2
      exact .inr ⟨_, by rw [i1.ofBool], q.int⟩
  · cases h⟩
def fAbs : List D → Option D
  | [.int i] => some (.int (if i < 0 then -i else i))
  | _ => none
theorem f_abs : Fn1 X (.builtin "abs") fAbs := ⟨_, call_abs, fun vs ds dz H Q i1 h q => by
  unfold fAbs at h
  split at h
  · cases h
    cases i1 with
    | cons i1 i2 =>
      cases i2
      exact ⟨_, by rw [i1.ofInt], q.int⟩
  · cases h⟩
def fMax2 : List D → Option D
  | [.int i, .int j] => some (.int (if j > i then j else i))
  | _ => none
def fMin2 : List D → Option D
  | [.int i, .int j] => some (.int (if j < i then j else i))
  | _ => none
theorem f_max2 (hc : X.calm = true := by rfl) : Fn1 X (.builtin "max") fMax2 := ⟨_, call_max2 hc, fun vs ds dz H Q i1 h q => by
  unfold fMax2 at h
  split at h
  · cases h
    cases i1 with
    | cons i1 i2 =>
      cases i2 with
      | cons i2 i3 =>
        cases i3
        exact ⟨_, _, by rw [i1.ofInt, i2.ofInt], q.int⟩
  · cases h⟩
theorem f_min2 (hc : X.calm = true := by rfl) : Fn1 X (.builtin "min") fMin2 := ⟨_, call_min2 hc, fun vs ds dz H Q i1 h q => by
  unfold fMin2 at h
  split at h
  · cases h
    cases i1 with
    | cons i1 i2 =>
      cases i2 with
      | cons i2 i3 =>
        cases i3
        exact ⟨_, _, by rw [i1.ofInt, i2.ofInt], q.int⟩
  · cases h⟩
def boolsD : List D → Option (List Bool)
  | [] => some []
  | .bool b :: r => (match boolsD r with | some bs => some (b :: bs) | none => none)
  | _ => none
theorem bools_of : ∀ {ds : List D} {bs : List Bool}, boolsD ds = some bs → ds = bs.map .bool
  | [], bs, h => by cases h; rfl
  | .bool b :: r, bs, h => by
    unfold boolsD at h
    split at h
    · rename_i bs' h'
      cases h
      rw [bools_of h']
      rfl
    · cases h
  | .none :: _, _, h => by cases h
  | .int _ :: _, _, h => by cases h
  | .str _ :: _, _, h => by cases h
  | .list _ :: _, _, h => by cases h
  | .tuple _ :: _, _, h => by cases h
  | .dict _ :: _, _, h => by cases h
theorem im_bools {K : KW} {H : Hp} : ∀ {bs : List Bool} {vs : List V}, ImAll K H vs (bs.map .bool) → vs = bs.map V.bl
  | [], _, h => by cases h; rfl
  | b :: bs, _, h => by
    cases h with
    | cons h1 h2 => rw [h1.ofBool, im_bools h2]; rfl
def fAll : List D → Option D
  | [.list ds] => (match boolsD ds with | some bs => some (.bool (bs.all id)) | none => none)
  | _ => none
theorem f_all (hc : X.calm = true := by rfl) : Fn1 X (.builtin "all") fAll := ⟨_, cr_all hc, fun vs ds dz H Q i1 h q => by
  unfold fAll at h
  split at h
  · split at h
    · rename_i bs hb
      cases h
      cases i1 with
      | cons i1 i2 =>
        cases i2
        obtain ⟨a, xs, rfl, s1, q1⟩ := i1.ofLst
        have e := bools_of hb
        subst e
        have e2 := im_bools q1
        subst e2
        exact ⟨a, bs, rfl, s1.sq, q.bl⟩
    · cases h
  · cases h⟩
def fTuple : List D → Option D
  | [.list ds] => some (.tuple ds)
  | [.tuple ds] => some (.tuple ds)
  | _ => none
theorem f_tuple : Fn1 X (.type "tuple") fTuple := ⟨_, call_tuple_of, fun vs ds dz H Q i1 h q => by
  unfold fTuple at h
  split at h
  · cases h
    cases i1 with
    | cons i1 i2 =>
      cases i2
      obtain ⟨a, xs, rfl, s1, q1⟩ := i1.ofLst
      exact ⟨a, xs, rfl, .inl ⟨s1.sq, fun l hl => q.tup hl q1⟩⟩
  · cases h
    cases i1 with
    | cons i1 i2 =>
      cases i2
      obtain ⟨a, xs, rfl, s1, q1⟩ := i1.ofTup
      exact ⟨a, xs, rfl, .inr ⟨s1, q.same (.tup s1 q1)⟩⟩
  · cases h⟩
def fList : List D → Option D
  | [.list ds] => some (.list ds)
  | [.tuple ds] => some (.list ds)
  | _ => none
theorem f_list : Fn1 X (.type "list") fList := ⟨_, call_list_of, fun vs ds dz H Q i1 h q => by
  unfold fList at h
  split at h
  · cases h
    cases i1 with
    | cons i1 i2 =>
      cases i2
      obtain ⟨a, xs, rfl, s1, q1⟩ := i1.ofLst
      exact ⟨a, xs, rfl, .inl s1.sq, fun l hl => q.lst hl q1⟩
  · cases h
    cases i1 with
    | cons i1 i2 =>
      cases i2
      obtain ⟨a, xs, rfl, s1, q1⟩ := i1.ofTup
      exact ⟨a, xs, rfl, .inr s1, fun l hl => q.lst hl q1⟩
  · cases h⟩
def fStr : List D → Option D
  | [.int i] => if i.natAbs.log2 < 1920 then some (.str (toString i)) else none
  | _ => none
theorem f_str : Fn1 X (.type "str") fStr := ⟨_, call_str_int, fun vs ds dz H Q i1 h q => by
  unfold fStr at h
  split at h
  · split at h
    · rename_i hc
      cases h
      cases i1 with
      | cons i1 i2 =>
        cases i2
        exact ⟨_, by rw [i1.ofInt], hc, q.str⟩
    · cases h
  · cases h⟩
/-! ### places, parts -/
def dIxL : D → D → Option D
  | .list ds, .int i => atI ds i
  | _, _ => none
def dIxT : D → D → Option D
  | .tuple ds, .int i => atI ds i
  | _, _ => none
def dIxS : D → D → Option D
  | .str x, .int i => if x.length ≤ most then (match atI x.cps.toList i with | some c => some (.str ⟨#[c]⟩) | none => none) else none
  | _, _ => none
theorem i_list : Ix2 X dIxL := ⟨_, ix_list, fun x y dx dy dz H Q i1 i2 h q => by
  unfold dIxL at h
  split at h
  · obtain ⟨a, xs, rfl, s1, q1⟩ := i1.ofLst
    obtain ⟨v, v1, v2⟩ := q1.atI h
    exact ⟨a, xs, _, v, rfl, i2.ofInt, s1.sq, v1, q.same v2⟩
  · cases h⟩
theorem i_tup : Ix2 X dIxT := ⟨_, ix_tup, fun x y dx dy dz H Q i1 i2 h q => by
  unfold dIxT at h
  split at h
  · obtain ⟨a, xs, rfl, s1, q1⟩ := i1.ofTup
    obtain ⟨v, v1, v2⟩ := q1.atI h
    exact ⟨a, xs, _, v, rfl, i2.ofInt, s1, v1, q.same v2⟩
  · cases h⟩
theorem i_str : Ix2 X dIxS := ⟨_, ix_str, fun x y dx dy dz H Q i1 i2 h q => by
  unfold dIxS at h
  split at h
  · split at h
    · rename_i hc
      split at h
      · rename_i c hc2
        cases h
        exact ⟨_, _, c, i1.ofStr, i2.ofInt, Nat.le_trans hc most_line, hc2, q.str⟩
      · cases h
    · cases h
  · cases h⟩
def dIx : D → D → Option D := orE dIxT (orE dIxL dIxS)
theorem i_any : Ix2 X dIx := i_tup.or (i_list.or i_str)
/-- parts of a slice -/
abbrev MO := Rho → Option (Option Int × Rho)
def oNone : MO := fun ρ => some (none, ρ)
def oSome (f : M D) : MO := fun ρ => match f ρ with
  | some (.int i, ρ1) => some (some i, ρ1)
  | _ => none
def xO (K : KW) (g : Gx) (f : MO) : TO := fun σ H Q => ∃ ρ own d ρ', f ρ = some (d, ρ') ∧ RelE K g σ ρ own H ∧ ∀ own' H', Go K g σ own H σ ρ' own' H' → Q d H'
abbrev QO (X : Cx) (g : Gx) (e : Option Expr) (f : MO) : Prop := PO X e (xO (xkw X) g f)
theorem po_conv {e : Option Expr} {t t' : TO} (h : PO X e t) (c : ∀ σ H Q, t' σ H Q → t σ H Q) : PO X e t' := ⟨fun pins s σ H Q I q => h.run pins s σ H Q I (c σ H Q q)⟩
theorem qo_none : QO X g none oNone := by
  refine po_conv po_none ?_
  rintro σ H Q ⟨ρ, own, d, ρ', h, R, k⟩
  cases h
  exact k own H (.refl R)
theorem qo_some (he : QE X g e f) : QO X g (some e) (oSome f) := by
  refine po_conv (po_some he) ?_
  rintro σ H Q ⟨ρ, own, d, ρ', h, R, k⟩
  unfold oSome at h
  split at h
  · rename_i i ρ1 h1
    cases h
    exact ⟨ρ, own, _, ρ', h1, R, fun v ow1 H1 k1 i1 => ⟨i, i1.ofInt, k ow1 H1 k1⟩⟩
  · cases h
def cutD (xs : List D) (lo hi : Option Int) : List D := (xs.drop (HT.sIx xs.length 0 lo)).take (HT.sIx xs.length xs.length hi - HT.sIx xs.length 0 lo)
theorem im_cut {K : KW} {H : Hp} {vs : List V} {ds : List D} (h : ImAll K H vs ds) (lo hi : Option Int) : ImAll K H (cutV vs lo hi) (cutD ds lo hi) := by
  unfold cutV cutD
  rw [h.len]
  exact (h.drop _).take _
def dSl : D → Option Int → Option Int → Option D
  | .tuple ds, lo, hi => some (.tuple (cutD ds lo hi))
  | .list ds, lo, hi => some (.list (cutD ds lo hi))
  | .str x, lo, hi => if x.length ≤ most then some (.str (cutS x lo hi)) else none
  | _, _, _ => none
def eSl (fa : M D) (lo hi : MO) : M D := fun ρ => match fa ρ with
  | some (x, ρ1) => (match lo ρ1 with
    | some (l, ρ2) => (match hi ρ2 with
      | some (u, ρ3) => (match dSl x l u with | some z => some (z, ρ3) | none => none)
      | none => none)
    | none => none)
  | none => none
theorem q_slice {lo hi : Option Expr} {fl fh : MO} {p2 : Pos} (he : QE X g a fa) (hl : QO X g lo fl) (hh : QO X g hi fh) : QE X g (.Subscript a (.Slice lo hi none p2) pos) (eSl fa fl fh) := by
  refine pe_conv (pe_fz (pe_slice (sl_tupA.or (sl_list.or sl_str)) he hl hh)) ?_
  rintro σ H Q ⟨ρ, own, d, ρ', h, R, k⟩
  unfold eSl at h
  split at h
  · rename_i x ρ1 h1
    split at h
    · rename_i l ρ2 h2
      split at h
      · rename_i u ρ3 h3
        split at h
        · rename_i z hz
          cases h
          refine ⟨ρ, own, x, ρ1, h1, R, fun v ow1 H1 k1 i1 => ⟨ρ1, ow1, l, ρ2, h2, k1.rel, fun ow2 H2 k2 => ⟨ρ2, ow2, u, ρ', h3, k2.rel, fun ow3 H3 k3 => ?_⟩⟩⟩
          have q : Out (xkw X) H3 d Q := fun w H' s i => k w ow3 H' (((k1.trans k2).trans k3).trans (k3.rel.goSame s)) i
          have i3 := k3.im (k2.im i1)
          cases i3 with
          | tup s1 q1 =>
            cases hz
            refine .inl ⟨_, _, rfl, s1, fun hw => q.same (.tup s1 ?_), fun _ p hp => q.tup hp (im_cut q1 _ _)⟩
            unfold cutD
            rw [← q1.len, hw.1, hw.2, Nat.sub_zero, List.drop_zero]
            rw [q1.len, List.take_length]
            exact q1
          | lst s1 q1 =>
            cases hz
            exact .inr (.inl ⟨_, _, rfl, s1.sq, fun p hp => q.lst hp (im_cut q1 _ _)⟩)
          | str x =>
            have hz : (if x.length ≤ most then some (PyData.str (cutS x l u)) else none) = some d := hz
            split at hz
            · rename_i hc
              cases hz
              exact .inr (.inr ⟨_, rfl, Nat.le_trans hc most_line, q.str⟩)
            · cases hz
          | _ => cases hz
        · cases h
      · cases h
    · cases h
  · cases h
/-! ### -x, chains -/
def dNeg : D → Option D
  | .int i => some (.int (-i))
  | _ => none
theorem u_neg : Un1 X (unaryOp .USub) dNeg := ⟨_, un_neg, fun x dx dz H Q i1 h q => by
  unfold dNeg at h
  split at h
  · cases h
    exact ⟨_, i1.ofInt, q.int⟩
  · cases h⟩
def eChain (p p' : D → D → Option D) (fa fb fc : M D) : M D := fun ρ => match fa ρ with
  | none => none
  | some (x, ρ1) => match fb ρ1 with
    | none => none
    | some (y, ρ2) => match p x y with
      | some (.bool true) => (match fc ρ2 with
        | some (z, ρ3) => (match p' y z with | some r => some (r, ρ3) | none => none)
        | none => none)
      | some (.bool false) => some (.bool false, ρ2)
      | _ => none
theorem chain_of {K : KW} {p p' : D → D → Option D} {r r' : R2} (hr : ∀ x y dx dy dz H Q, Im K H x dx → Im K H y dy → p dx dy = some dz → Out K H dz Q → r x y H fun v H' => Fin v H' Q)
    (hr' : ∀ x y dx dy dz H Q, Im K H x dx → Im K H y dy → p' dx dy = some dz → Out K H dz Q → r' x y H fun v H' => Fin v H' Q) :
    ∀ σ H Q, xE K g (eChain p p' fa fb fc) σ H Q → tChain (fun x y H Q => r x y H fun v H' => Fin v H' Q) (fun x y H Q => r' x y H fun v H' => Fin v H' Q) (xE K g fa) (xE K g fb) (xE K g fc) σ H Q := by
  rintro σ H Q ⟨ρ, own, d, ρ', h, R, k⟩
  unfold eChain at h
  split at h
  · cases h
  rename_i x ρ1 h1
  split at h
  · cases h
  rename_i y ρ2 h2
  refine ⟨ρ, own, x, ρ1, h1, R, fun v ow1 H1 k1 i1 => ⟨ρ1, ow1, y, ρ2, h2, k1.rel, fun w ow2 H2 k2 i2 => ?_⟩⟩
  split at h
  · rename_i hp
    split at h
    · rename_i z ρ3 h3
      split at h
      · rename_i rr hq
        cases h
        refine hr v w x y _ H2 _ (k2.im i1) i2 hp fun b H3 s ib => ⟨true, ib.ofBool, iteT ?_⟩
        have k3 := k2.rel.goSame s
        refine ⟨ρ2, ow2, z, ρ', h3, k3.rel, fun u ow4 H4 k4 i4 => ?_⟩
        exact hr' w u y z d H4 Q (k4.im (k3.im i2)) i4 hq fun t H5 s5 i5 => k t ow4 H5 ((((k1.trans k2).trans k3).trans k4).trans (k4.rel.goSame s5)) i5
      · cases h
    · cases h
  · rename_i hp
    cases h
    refine hr v w x y _ H2 _ (k2.im i1) i2 hp fun b H3 s ib => ⟨false, ib.ofBool, iteF ?_⟩
    exact k _ ow2 H3 ((k1.trans k2).trans (k2.rel.goSame s)) (.bl false)
  · cases h
theorem OpR.fin {op : Value → Value → Sem Value} {r : R2} (h : OpR X op r) : OpR X op (fun x y H Q => r x y H fun v H' => Fin v H' Q) := fun pins s σ H x y v u Q I r1 r2 q => thn (h pins s σ H x y v u _ I r1 r2 q) fun _ _ q => ep_fin q
theorem q_chain {op op' : CmpOp} {p p' : D → D → Option D} (ho : Op2 X (compareOp op) p) (ho' : Op2 X (compareOp op') p') (ha : QE X g a fa) (hb : QE X g b fb) (hc : QE X g c fc)
    (hm : lastMarks [op, op'] [b, c] = false := by with_unfolding_all rfl) : QE X g (.Compare a [op, op'] [b, c] pos) (eChain p p' fa fb fc) := by
  obtain ⟨r, h1, h2⟩ := ho
  obtain ⟨r', h1', h2'⟩ := ho'
  exact pe_conv (pe_chain (OpR.fin h1) (OpR.fin h1') ha hb hc hm) (chain_of h2 h2')
theorem qt_chain {op op' : CmpOp} {p p' : D → D → Option D} (ho : Op2 X (compareOp op) p) (ho' : Op2 X (compareOp op') p') (ha : QE X g a fa) (hb : QE X g b fb) (hc : QE X g c fc)
    (hm : lastMarks [op, op'] [b, c] = false := by with_unfolding_all rfl) : QT X g (.Compare a [op, op'] [b, c] pos) (e1 asB (eChain p p' fa fb fc)) := by
  obtain ⟨r, h1, h2⟩ := ho
  obtain ⟨r', h1', h2'⟩ := ho'
  refine pt_conv (pt_chain (OpR.fin h1) (OpR.fin h1') ha hb hc hm) ?_
  rintro σ H Q ⟨ρ, own, d, ρ', h, R, k⟩
  obtain ⟨x, h3, h4⟩ := e1_some h
  refine chain_of h2 h2' σ H _ ⟨ρ, own, x, ρ', h3, R, fun v ow1 H1 k1 i1 => ?_⟩
  cases x with
  | bool b =>
    cases h4
    exact ⟨_, i1.ofBool, k ow1 H1 k1⟩
  | _ => cases h4
end
end VS

namespace VS
open PySem PySem.Spec PyProof.Rows L2

/-! ### comprehensions of two clauses -/
def lcIn (u : D → Rho → Option Rho) (e : M D) (vs1 : List Nat) : List D → Rho → Option (List D × Rho)
  | [], ρ => some ([], ρ)
  | d :: r, ρ => match u d ρ with
    | none => none
    | some ρ1 => match e ρ1 with
      | none => none
      | some (y, ρ2) => match lcIn u e vs1 r (wipeR ρ2 vs1) with
        | none => none
        | some (ys, ρ3) => some (y :: ys, ρ3)
def lc2Go (t : D → Rho → Option Rho) (fj : M (List D)) (u : D → Rho → Option Rho) (e : M D) (vs vs1 : List Nat) : List D → Rho → Option (List D × Rho)
  | [], ρ => some ([], ρ)
  | d :: r, ρ => match t d ρ with
    | none => none
    | some ρ1 => match fj ρ1 with
      | none => none
      | some (es, ρ2) => match lcIn u e vs1 es (wipeR ρ2 vs1) with
        | none => none
        | some (ys, ρ3) => match lc2Go t fj u e vs vs1 r (wipeR ρ3 vs) with
          | none => none
          | some (zs, ρ4) => some (ys ++ zs, ρ4)
def eLc2 (it : M (List D)) (t : D → Rho → Option Rho) (fj : M (List D)) (u : D → Rho → Option Rho) (e : M D) (vs vs1 : List Nat) : M D := fun ρ => match it ρ with
  | none => none
  | some (ds, ρ1) => if okW ρ1 vs then (match lc2Go t fj u e vs vs1 ds (wipeR ρ1 vs) with
    | none => none
    | some (ys, ρ2) => if ys.length ≤ most then some (.list ys, restR ρ1 ρ2 vs) else none) else none
section
variable {X : Cx} {g : Gx} {pos : Pos}
theorem lc2_of {K : KW} {fi fj : M (List D)} {t u : D → Rho → Option Rho} {ts us vs vs1 : List Nat} {e : M D} (hts : ∀ i ∈ ts, i ∈ vs) (hus : ∀ i ∈ us, i ∈ vs1) (h1s : ∀ i ∈ vs1, i ∈ vs) (hok : vs1.all (okSlot g) = true) :
    ∀ σ H Q, xE K g (eLc2 fi t fj u e vs vs1) σ H Q → tFz (tLc2 (xI K g fi) (xG K g t ts) tYes (xI K g fj) (xG K g u us) tYes (xE K g e) vs vs1) σ H Q := by
  rintro σ H Q ⟨ρ, own, d, ρ', h, R, k⟩
  unfold eLc2 at h
  split at h
  · cases h
  rename_i ds ρ1 h1
  split at h
  · rename_i hw
    split at h
    · cases h
    rename_i ys ρ2 h2
    split at h
    · rename_i hz
      cases h
      refine ⟨ρ, own, ds, ρ1, h1, R, fun J ow1 H1 k1 dr p hp => ?_⟩
      have r1 := k1.rel
      have rw1 := r1.wipe vs
      have np1 : ¬ InO ow1 p := r1.notIn hp
      refine ⟨fun i m H2 => m = ds.length - i ∧ i ≤ ds.length ∧ ∃ ρi ow2 acc ads yr, Go K g (L2.wipe σ vs) ow1 H1 (L2.wipe σ vs) ρi ow2 H2 ∧ ¬ InO ow2 p ∧ H2 p = some (.lst acc) ∧ ImAll K H2 acc ads ∧ lc2Go t fj u e vs vs1 (ds.drop i) ρi = some (yr, ρ2) ∧ ads ++ yr = ys,
        ⟨_, rfl, Nat.zero_le _, wipeR ρ1 vs, wipeO ow1 vs, [], [], ys, ⟨.new hp, fun a z => .inl (wipeO_sub z), fun _ _ => rfl, (rw1.goNew hp).rel⟩, fun z => np1 (wipeO_sub z), upd_same, .nil, h2, rfl⟩, ?_⟩
      rintro i m H2 ⟨rfl, hi, ρi, ow2, acc, ads, yr, k2, np, hp2, ia, hg, ey⟩
      obtain ⟨dr1, dr2⟩ := dr H2 k2.kp.imm i
      cases hd : ds[i]? with
      | none =>
        refine .inl ⟨dr2 hd, ?_⟩
        have hl : ds.length ≤ i := List.getElem?_eq_none_iff.mp hd
        rw [List.drop_of_length_le hl] at hg
        cases hg
        rw [List.append_nil] at ey
        subst ey
        refine .inr ⟨p, acc, rfl, hp2, fun o => ?_⟩
        have kw : Kp g.T (B1 p) H2 (upd H2 p (.frz o (.lst acc))) := .write hp2 trivial lst_code
        have rf := k2.rel.off np kw
        have kk : Kp g.T (InO ow1) H1 (upd H2 p (.frz o (.lst acc))) := k2.kp.trans kw fun b z => .inr (by rw [z]; exact hp)
        refine k (.ref p) _ _ ⟨k1.kp.trans kk k1.sub, fun a z => ?_, fun _ _ => rfl, r1.rest hw kk.imm rf⟩ (.lst (.inl ⟨o, upd_same⟩) (ia.up kw.imm))
        rcases k2.sub a (wipeO_sub z) with z | z
        · exact k1.sub a z
        · exact .inr (k1.kp.free z)
      | some d =>
        obtain ⟨go, yl⟩ := dr1 d hd
        have hlt : i < ds.length := (List.getElem?_eq_some_iff.mp hd).1
        rw [drop_get hd, lc2Go] at hg
        cases ht : t d ρi with
        | none => simp only [ht] at hg; cases hg
        | some ρ3 =>
          simp only [ht] at hg
          cases hj : fj ρ3 with
          | none => simp only [hj] at hg; cases hg
          | some q =>
            obtain ⟨es, ρ4⟩ := q
            simp only [hj] at hg
            split at hg
            · cases hg
            rename_i yi ρ5 h5
            split at hg
            · cases hg
            rename_i zr ρ6 h6
            cases hg
            refine .inr ⟨go, fun H' => ∃ ρi ow2 acc ads yr, Go K g (L2.wipe σ vs) ow1 H1 (L2.wipe σ vs) ρi ow2 H' ∧ ¬ InO ow2 p ∧ H' p = some (.lst acc) ∧ ImAll K H' acc ads ∧ lc2Go t fj u e vs vs1 (ds.drop (i + 1)) ρi = some (yr, ρ2) ∧ ads ++ yr = ys,
              fun H' n' => ⟨ds.length - (i + 1), by omega, rfl, by omega, n'⟩, fun x H3 y => ?_⟩
            obtain ⟨sm, im⟩ := yl x H3 y
            have s3 := k2.rel.goSame sm
            refine ⟨d, ρi, ow2, ρ3, ht, im, s3.rel, fun σ4 ow4 H4 k4 so => ?_⟩
            have ew := wipe_same hts so
            refine ⟨ew, ?_⟩
            unfold tYes
            refine iteT ?_
            refine ⟨ρ3, ow4, es, ρ4, hj, k4.rel, fun J1 ow5 H5 k5 dr5 => ?_⟩
            have k35 := (s3.trans k4).trans k5
            -- the inner block's slots
            have inn : ∀ {σ7 : L2.St} {ρ7 : Rho} {ow7 : Own} {H7 : Hp}, Go K g (L2.wipe σ vs) ow2 H2 σ7 ρ7 ow7 H7 → L2.wipe σ7 vs1 = L2.wipe σ4 vs1 → Go K g (L2.wipe σ vs) ow2 H2 (L2.wipe σ4 vs1) (wipeR ρ7 vs1) (wipeO ow7 vs1) H7 := fun {σ7 ρ7 ow7 H7} k7 e7 =>
              ⟨k7.kp, fun a z => k7.sub a (wipeO_sub z), fun j hj => by
                rw [← e7, wipe_not (fun z => absurd (okSlot.le (List.all_eq_true.mp hok j z)) (by omega))]
                exact k7.pin j hj, by have := k7.rel.wipe vs1; rw [e7] at this; exact this⟩
            have outr : ∀ {σ7 : L2.St} {ρ7 : Rho} {ow7 : Own} {H7 : Hp}, Go K g (L2.wipe σ vs) ow2 H2 σ7 ρ7 ow7 H7 → L2.wipe σ7 vs = L2.wipe σ vs → Go K g (L2.wipe σ vs) ow2 H2 (L2.wipe σ vs) (wipeR ρ7 vs) (wipeO ow7 vs) H7 := fun {σ7 ρ7 ow7 H7} k7 e7 =>
              ⟨k7.kp, fun a z => k7.sub a (wipeO_sub z), fun _ _ => rfl, by have := k7.rel.wipe vs; rw [e7] at this; exact this⟩
            have ww : L2.wipe (L2.wipe σ4 vs1) vs = L2.wipe σ vs := by
              have : SameOut vs1 σ4 (L2.wipe σ4 vs1) := ⟨wipe_length _ _, fun i hi => wipe_not hi⟩
              rw [← ew]
              have hl : (L2.wipe (L2.wipe σ4 vs1) vs).length = (L2.wipe σ4 vs).length := by rw [wipe_length, wipe_length, wipe_length]
              refine List.ext_getElem? fun i => ?_
              by_cases hi : i ∈ vs
              · have key : ∀ (s : L2.St), (∀ x, (L2.wipe s vs)[i]? ≠ some (some x)) := fun s x e => (wipe_some e).2 hi
                cases e1 : (L2.wipe (L2.wipe σ4 vs1) vs)[i]? with
                | none =>
                  have := List.getElem?_eq_none_iff.mp e1
                  rw [hl] at this
                  exact (List.getElem?_eq_none_iff.mpr this).symm
                | some o =>
                  cases o with
                  | some x => exact absurd e1 (key _ x)
                  | none =>
                    have hlt := (List.getElem?_eq_some_iff.mp e1).1
                    rw [hl] at hlt
                    cases e2 : (L2.wipe σ4 vs)[i]? with
                    | none => exact absurd (List.getElem?_eq_none_iff.mp e2) (by omega)
                    | some o2 =>
                      cases o2 with
                      | none => rfl
                      | some x => exact absurd e2 (key _ x)
              · rw [wipe_not hi, wipe_not hi, wipe_not (fun z => hi (h1s i z))]
            have kb0 := inn k35 rfl
            have stays : ∀ {σ7 : L2.St} {ρ7 : Rho} {ow7 : Own} {H7 : Hp}, Go K g (L2.wipe σ vs) ow2 H2 σ7 ρ7 ow7 H7 → H7 p = some (.lst acc) ∧ ¬ InO ow7 p := fun {σ7 ρ7 ow7 H7} k7 =>
              ⟨k7.kp.ext p _ hp2 np (fun _ z => by cases z), fun z => (k7.sub p z).elim np fun q => by rw [hp2] at q; cases q⟩
            obtain ⟨q1, q2⟩ := stays kb0
            refine ⟨fun j m H7 => m = es.length - j ∧ j ≤ es.length ∧ ∃ ρj ow7 acc7 ad7 yr7, Go K g (L2.wipe σ vs) ow1 H1 (L2.wipe σ4 vs1) ρj ow7 H7 ∧ ImKeep H5 H7 ∧ ¬ InO ow7 p ∧ H7 p = some (.lst acc7) ∧ ImAll K H7 acc7 ad7 ∧ lcIn u e vs1 (es.drop j) ρj = some (yr7, ρ5) ∧ ad7 ++ yr7 = ads ++ yi,
              ⟨_, rfl, Nat.zero_le _, wipeR ρ4 vs1, wipeO ow5 vs1, acc, ads, yi, k2.trans kb0, ImKeep.refl _, q2, q1, kb0.ims ia, h5, rfl⟩, ?_⟩
            rintro j m7 H7 ⟨rfl, hj7, ρj, ow7, acc7, ad7, yr7, k7, ik7, np7, hp7, ia7, hg7, ey7⟩
            obtain ⟨er1, er2⟩ := dr5 H7 ik7 j
            cases he : es[j]? with
            | none =>
              refine .inl ⟨er2 he, ?_⟩
              have hl : es.length ≤ j := List.getElem?_eq_none_iff.mp he
              rw [List.drop_of_length_le hl] at hg7
              cases hg7
              rw [List.append_nil] at ey7
              subst ey7
              refine ⟨wipeR ρ5 vs, wipeO ow7 vs, acc7, ads ++ yi, zr, ⟨k7.kp, fun a z => k7.sub a (wipeO_sub z), fun _ _ => rfl, by have := k7.rel.wipe vs; rw [ww] at this; exact this⟩, fun z => np7 (wipeO_sub z), hp7, ia7, h6, by rw [List.append_assoc]; exact ey⟩
            | some d7 =>
              obtain ⟨go7, yl7⟩ := er1 d7 he
              have hlt7 : j < es.length := (List.getElem?_eq_some_iff.mp he).1
              rw [drop_get he, lcIn] at hg7
              cases hu : u d7 ρj with
              | none => simp only [hu] at hg7; cases hg7
              | some ρ8 =>
                simp only [hu] at hg7
                cases hv : e ρ8 with
                | none => simp only [hv] at hg7; cases hg7
                | some q =>
                  obtain ⟨yv, ρ9⟩ := q
                  simp only [hv] at hg7
                  split at hg7
                  · cases hg7
                  rename_i yr8 ρ10 h10
                  cases hg7
                  refine .inr ⟨go7, fun H' => ∃ ρj ow7 acc7 ad7 yr7, Go K g (L2.wipe σ vs) ow1 H1 (L2.wipe σ4 vs1) ρj ow7 H' ∧ ImKeep H5 H' ∧ ¬ InO ow7 p ∧ H' p = some (.lst acc7) ∧ ImAll K H' acc7 ad7 ∧ lcIn u e vs1 (es.drop (j + 1)) ρj = some (yr7, ρ5) ∧ ad7 ++ yr7 = ads ++ yi,
                    fun H' n' => ⟨es.length - (j + 1), by omega, rfl, by omega, n'⟩, fun x8 H8 y8 => ?_⟩
                  obtain ⟨sm8, im8⟩ := yl7 x8 H8 y8
                  have s8 := k7.rel.goSame sm8
                  refine ⟨d7, ρj, ow7, ρ8, hu, im8, s8.rel, fun σ9 ow9 H9 k9 so9 => ?_⟩
                  have ew9 := wipe_same hus so9
                  refine ⟨ew9, ?_⟩
                  refine iteT ?_
                  refine ⟨ρ8, ow9, yv, ρ9, hv, k9.rel, fun v ow10 H10 k10 i10 => ?_⟩
                  have kt := (s8.trans k9).trans k10
                  have p1 : H10 p = some (.lst acc7) := kt.kp.ext p _ hp7 np7 (fun _ z => by cases z)
                  have p2 : ¬ InO ow10 p := fun z => (kt.sub p z).elim np7 fun q => by rw [hp7] at q; cases q
                  have ia10 := kt.ims ia7
                  refine ⟨acc7, p1, ?_, ?_⟩
                  · rw [ia10.len]
                    refine Nat.lt_of_lt_of_le (m := most) ?_ most_line
                    have e1 := congrArg List.length ey
                    have e2 := congrArg List.length ey7
                    simp only [List.length_append, List.length_cons] at e1 e2
                    omega
                  · have kw : Kp g.T (B1 p) H10 (upd H10 p (.lst (acc7 ++ [v]))) := .write p1 trivial lst_code
                    have kf := k7.trans kt
                    refine ⟨wipeR ρ9 vs1, wipeO ow10 vs1, acc7 ++ [v], ad7 ++ [yv], yr8, ⟨kf.kp.trans kw fun b z => .inr (by rw [z]; exact hp), fun a z => kf.sub a (wipeO_sub z), fun j hj => ?_, ?_⟩, (ik7.trans kt.kp.imm).trans kw.imm, fun z => p2 (wipeO_sub z), upd_same, (ia10.append (.cons i10 .nil)).up kw.imm, h10, by rw [List.append_assoc]; exact ey7⟩
                    · exact k7.pin j hj
                    · have := (kf.rel.off p2 kw).wipe vs1
                      rw [ew9] at this
                      exact this
    · cases h
  · cases h
variable {elt tg iter tg1 iter1 : Expr} {scope : Scope} {fi fj : M (List D)} {t u : D → Rho → Option Rho} {ts us : List Nat} {fe : M D}
theorem q_lc2 (own : List (Str × Nat)) (vs1 : List Nat) (hN : X.N.Nodup) (hi : QI X g tg iter fi) (ok : BlkOk X.N X.env.scope scope own) (hts : ∀ i ∈ ts, i ∈ own.map (·.2)) (hus : ∀ i ∈ us, i ∈ vs1) (h1s : ∀ i ∈ vs1, i ∈ own.map (·.2))
    (hg : ∀ (s : Shared) (H : Hp) (C : Addr) (cl : List (Str × Addr)) (fp : List Addr), QG (X.blk s H scope (compEnvC scope cl C X.env) fp) g tg t ts)
    (hi1 : ∀ (s : Shared) (H : Hp) (C : Addr) (cl : List (Str × Addr)) (fp : List Addr), QI (X.blk s H scope (compEnvC scope cl C X.env) fp) g tg1 iter1 fj)
    (hg1 : ∀ (s : Shared) (H : Hp) (C : Addr) (cl : List (Str × Addr)) (fp : List Addr), QG (X.blk s H scope (compEnvC scope cl C X.env) fp) g tg1 u us)
    (he : ∀ (s : Shared) (H : Hp) (C : Addr) (cl : List (Str × Addr)) (fp : List Addr), QE (X.blk s H scope (compEnvC scope cl C X.env) fp) g elt fe) (hok : vs1.all (okSlot g) = true := by rfl) (hc : X.calm = true := by rfl)
    (hs : ∀ x, foldedSetIterable iter X.env x = pure x := by intro _; rfl) (hs1 : ∀ env x, foldedSetIterable iter1 env x = pure x := by intro _ _; rfl) :
    QE X g (.ListComp elt [⟨tg, iter, [], 0⟩, ⟨tg1, iter1, [], 0⟩] scope pos) (eLc2 fi t fj u fe (own.map (·.2)) vs1) :=
  pe_conv (pe_fz (pe_lc2 (g := xG (xkw X) g t ts) (tt := tYes) (wi1 := xI (xkw X) g fj) (g1 := xG (xkw X) g u us) (tt1 := tYes) (te := xE (xkw X) g fe) hc hN hi ok h1s hg (fun _ _ _ _ _ => pts_nil) hi1 hg1 (fun _ _ _ _ _ => pts_nil) he hs hs1)) (lc2_of hts hus h1s hok)
end
end VS

namespace VS
open PySem PySem.Spec PyProof.Rows L2

/-! ### a, b, c = x, y, [] with a list of its own for c; a, b = [], y -/
def sPar3O (i j l : Nat) (fs : M (List D)) : MS := fun ρ => match fs ρ with
  | some ([a, b], ρ1) => some (.nx, ((ρ1.set i (some (.dat a))).set j (some (.dat b))).set l (some (.ol [])))
  | _ => none
section
variable {X : Cx} {g : Gx} {pos : Pos} {fa fb : M D}
theorem q_par3O (i j l : Nat) {x y z : Str} {ea eb : Expr} {px py pz pt p2 : Pos} {kt k2 pt2} (hN : X.N.Nodup) (ha : QE X g ea fa) (hb : QE X g eb fb) (hl1 : okSlot g i = true := by rfl) (hl2 : okSlot g j = true := by rfl) (hl3 : okSlot g l = true := by rfl) (hij : i ≠ j := by decide) (hil : i ≠ l := by decide) (hjl : j ≠ l := by decide) (hc : X.calm = true := by rfl)
    (hi : X.N[i]? = some x := by rfl) (hj : X.N[j]? = some y := by rfl) (hl : X.N[l]? = some z := by rfl)
    (hx : X.env.scope.names.lookup x = some .local := by rfl) (hy : X.env.scope.names.lookup y = some .local := by rfl) (hz : X.env.scope.names.lookup z = some .local := by rfl)
    (h1 : starEach [ea, eb, .List [] p2] X.env = (false, eval ea X.env) :: starEach [eb, .List [] p2] X.env := by rfl) (h2 : starEach [eb, .List [] p2] X.env = (false, eval eb X.env) :: starEach [.List [] p2] X.env := by rfl)
    (h3 : starEach [.List [] p2] X.env = (false, eval (.List [] p2) X.env) :: starEach [] X.env := by rfl)
    (hw : swappedStores [.Tuple [.Name x px, .Name y py, .Name z pz] kt pt] (.Tuple [ea, eb, .List [] p2] k2 pt2) X.env = pure (some [x, y, z]) := by rfl)
    (hs : swapsWithSole [.Tuple [.Name x px, .Name y py, .Name z pz] kt pt] (.Tuple [ea, eb, .List [] p2] k2 pt2) pos.line X.env = pure false := by rfl) :
    QS X g (.Assign [.Tuple [.Name x px, .Name y py, .Name z pz] kt pt] (.Tuple [ea, eb, .List [] p2] k2 pt2) pos) (sPar3O i j l (aCons fa (aCons fb aNil))) := by
  refine ps_conv (ps_par3 hc hN hi hj hl hij hil hjl hx hy hz (pa_cons ha (pa_cons hb (pa_cons (pe_lst pa_nil) pa_nil h3) h2) h1) hw hs) ?_
  rintro Dn σ H ⟨ρ, own, fl, ρ', h, R, k⟩
  unfold sPar3O at h
  split at h
  · rename_i d1 d2 ρ1 hh
    cases h
    obtain ⟨x1, ρa, xs1, q1, q2, e⟩ := aCons_some hh
    obtain ⟨x2, ρb, xs2, q3, q4, e'⟩ := aCons_some q2
    cases q4
    cases e'
    cases e
    refine ⟨ρ, own, d1, ρa, q1, R, fun v1 ow1 H1 k1 i1 => ⟨ρa, ow1, d2, _, q3, k1.rel, fun v2 ow2 H2 k2 i2 => ⟨Nat.zero_le _, fun p hp => ?_⟩⟩⟩
    obtain ⟨ow3, g3⟩ := k2.rel.set hl1 (k2.im i1)
    obtain ⟨ow4, g4⟩ := g3.rel.set hl2 i2
    obtain ⟨ow5, g5⟩ := g4.rel.setO hl3 (.new hp) hp upd_same (es := []) .nil
    exact ⟨v1, v2, .ref p, rfl, k _ ow5 _ ((((k1.trans k2).trans g3).trans g4).trans g5)⟩
  · cases h
end
end VS

namespace VS
open PySem PySem.Spec PyProof.Rows L2

/-! ### the end: from the top's facts to the row -/
section
variable {P : Program} {w : World} {K : PySem.W.Frag} {mg : Str → Option Value} {base : Heap}
theorem fn_data {x qual : Str} {st : Stmt} {N ps : List Str} {k nn n : Nat} {T : Tb} {body : MS} {f : Addr} {fd : FuncData} (F : Fun K x qual st f fd) (S : FnScope N ps (defScope st)) (hN : N.length = nn) (hn : ps.length = n)
    (hb : ∀ (f : Addr) (cdv : Value) (A : Around) (outer : List Env) (s : Shared) (H : Hp) (E : XK), Room k (A.deeper (envOfC qual (defScope st) s.heap.objs.size f cdv)) → QSs (cx0 P w K mg base N qual st f cdv A outer s H E) ⟨T, nn, 0⟩ (defBody st) body) :
    FnOk P w K mg base CX0 (k + 1) f fd ps (spD (kw P w K mg base) T (callD nn n body)) := by
  have hpl : ps.length ≤ N.length := by have := congrArg List.length S.pre; rw [List.length_take] at this; omega
  refine F.ok S (fun vs H Q E h => ?_) (fun cdv A outer s H vs Q E hr h => ⟨_, hb f cdv A outer s H E hr, ?_⟩)
  · obtain ⟨ds, d, im, hF, _⟩ := h
    rw [im.len, (callD_some hF).1, hn]
  · obtain ⟨ds, d, im, hF, tb, q⟩ := h
    obtain ⟨hl, fl, ρ', h1, h2⟩ := callD_some hF
    refine ⟨_, _, fl, ρ', h1, rel_start hN im tb (by rw [im.len, hl, ← hn]; exact hpl), fun σ' ow H' go => ?_⟩
    have kp : Kp T B0 H H' := go.kp.sub fun b z => (not_in0 z).elim
    rcases h2 with rfl | ⟨rfl, rfl⟩
    · exact fun v i => q v H' kp go.rel.tb i
    · exact q _ H' kp go.rel.tb .non
theorem df_mk {h : Heap} {x : Str} {st : Stmt} {ps : List Str} {f : Addr} {oc : Value} {od an : Option Addr} {osl : Array (Option Value)} {kV doc pm cdv ct : Value} (X : K.In h) (G : h.Ns mainGlobals mg)
    (hb : ∀ (kV doc pm : Value) (an : Option Addr) (cdv ct : Value) (us : List Value), us.length = ps.length → bindArgs (PySem.W.fnOf x x (defArgs st) (defBody st) (defScope st) .none kV doc pm an cdv ct) ⟨us, []⟩ = pure (ps.zip us))
    (a : PySem.W.nsIn K mainGlobals x = some (some (.ref f))) (l : K.lookup f = some ⟨oc, od, .func (PySem.W.fnOf x x (defArgs st) (defBody st) (defScope st) .none kV doc pm an cdv ct), osl⟩)
    (c : PySem.W.codeIn K cdv x = true) (k : PySem.W.keepIn K (.ref f) = true) : Df K mg x x st ps :=
  ⟨f, _, fun_mk l c k, PySem.W.mg_of X G a, (fun_mk l c k).binds hb⟩
theorem law_mk {h : Heap} {x : Str} {st : Stmt} {k : Nat} {sp : Heap → Sp} {fa f : Addr} {oc : Value} {od an : Option Addr} {osl : Array (Option Value)} {kV doc pm cdv ct : Value} (X : K.In h) (G : h.Ns mainGlobals mg) (hfa : mg "law" = some (.ref fa))
    (hb : ∀ (kV doc pm : Value) (an : Option Addr) (cdv ct : Value) (us : List Value), us.length = [x].length → bindArgs (PySem.W.fnOf "law" "law" (defArgs st) (defBody st) (defScope st) .none kV doc pm an cdv ct) ⟨us, []⟩ = pure ([x].zip us))
    (a : PySem.W.nsIn K mainGlobals "law" = some (some (.ref f))) (l : K.lookup f = some ⟨oc, od, .func (PySem.W.fnOf "law" "law" (defArgs st) (defBody st) (defScope st) .none kV doc pm an cdv ct), osl⟩)
    (c : PySem.W.codeIn K cdv "law" = true) (kp : PySem.W.keepIn K (.ref f) = true) (H : ∀ fd, Fun K "law" "law" st f fd → ∀ base, FnOk P w K mg base CX0 k f fd [x] (sp base)) :
    ∃ fd : FuncData, (∀ (s : Shared) (u : Value), BindsTo s fd ⟨[u], []⟩ [(x, u)]) ∧ ∀ base : Heap, K.In base → base.Ns mainGlobals mg → FnOk P w K mg base CX0 k fa fd [x] (sp base) := by
  have e := hfa.symm.trans (PySem.W.mg_of X G a)
  cases e
  exact ⟨_, fun s u => .of_eq (hb _ _ _ _ _ _ [u] rfl), fun base _ _ => H _ (fun_mk l c kp) base⟩
theorem gc_int {h : Heap} {x : Str} {i : Int} {t : Tok} (X : K.In h) (G : h.Ns mainGlobals mg) (a : PySem.W.nsIn K mainGlobals x = some (some (.int i t))) : GCm K mg x (.int i) :=
  ⟨_, .int i, PySem.W.mg_of X G a, ⟨_, rfl⟩, fun _ _ _ => .int i⟩
theorem gc_str {h : Heap} {x z : Str} {t : Tok} (X : K.In h) (G : h.Ns mainGlobals mg) (a : PySem.W.nsIn K mainGlobals x = some (some (.str z t))) : GCm K mg x (.str z) :=
  ⟨_, .str z, PySem.W.mg_of X G a, ⟨_, rfl⟩, fun _ _ _ => .str z⟩
theorem gc_tup {h : Heap} {x : Str} {f : Addr} {od : Option Addr} {its : Array Value} {n : Nat} {sl : Array (Option Value)} {ds : List D} (xs : List V) (X : K.In h) (G : h.Ns mainGlobals mg) (i : ∀ (kk : KW) H, ImAll kk H xs ds) (a : PySem.W.nsIn K mainGlobals x = some (some (.ref f)))
    (l : K.lookup f = some ⟨.type "tuple", od, .seq its n, sl⟩) (v : Vals xs its.toList) (z : its.size ≤ sizeLine) : GCm K mg x (.tuple ds) :=
  ⟨_, .ref f, PySem.W.mg_of X G a, rfl, fun kk H e => .tup (.inr ⟨_, its, n, by rw [e]; exact l, rfl, rfl, z, v⟩) (i kk H)⟩
theorem tabs_nil {H : Hp} : LamX.Tabs [] H := fun _ h => by cases h
theorem im_ints {K : KW} {H : Hp} : ∀ ns : List Int, ImAll K H (ns.map V.int) (ns.map .int)
  | [] => .nil
  | i :: ns => .cons (.int i) (im_ints ns)
/-- the script as data -/
theorem im_script {h : Heap} {H : Hp} {a : Addr} {vs : List Value} {ns : List Int} (KX : K.In h) (ho : h.get? a = some { cls := .type "list", data := .seq vs.toArray }) (hO : Only H) (hS : SqL K H a (ns.map V.int)) : Im (kw0 P w K) H (.ref a) (.list (ns.map .int)) := by
  refine .lst ?_ (im_ints ns)
  rcases hS with (h1 | ⟨o, h1⟩) | ⟨o, its, n, k1, k2, k3, k4, k5, k6⟩
  · rcases hO a with z | ⟨o, xs, z⟩
    · rw [h1] at z; cases z
    · rw [h1] at z; cases z
  · exact .inl ⟨o, h1⟩
  · have e := KX a o k1
    rw [ho] at e
    have e' := Option.some.inj e
    subst e'
    cases k4
    exact .inr ⟨vs, _, k1, by simpa using k5, by simpa using k6⟩
theorem sp_law {h : Heap} {H : Hp} {a : Addr} {vs : List Value} {ns : List Int} {F : List D → Option D} {E : XK} (hF : F [.list (ns.map .int)] = some (.bool true)) (KX : K.In h) (ho : h.get? a = some { cls := .type "list", data := .seq vs.toArray }) (hO : Only H) (hS : SqL K H a (ns.map V.int)) :
    spD (kw0 P w K) [] F [.ref a] H (fun v _ => v = .bl true) E :=
  ⟨_, _, .cons (im_script KX ho hO hS) .nil, hF, tabs_nil, fun v H' _ _ i => i.ofBool⟩
end
theorem spD_cast {P : Program} {w : World} {K : PySem.W.Frag} {mg : Str → Option Value} {base : Heap} {T : Tb} {F : List D → Option D} {vs : List V} {H : Hp} {Q : VK} {E : XK} (h : spD (kw0 P w K) T F vs H Q E) : spD (kw P w K mg base) T F vs H Q E := by
  obtain ⟨ds, d, h1, h2, h3, h4⟩ := h
  exact ⟨ds, d, ImAll.cast (K := kw0 P w K) (K' := kw P w K mg base) rfl rfl h1, h2, h3, fun v H' kp t i => h4 v H' kp t (Im.cast (K := kw P w K mg base) (K' := kw0 P w K) rfl rfl i)⟩
/-- the row, from the law's def as walked and its plain law -/
theorem walk_end {l : PySem.W.OpenLaw} {n k : Nat} {q : Program} {loose : List Str} {XP : (Str → Option Value) → Heap → Prop} {YP : World → Heap → Prop} {d : DefRec} {K : Params → PySem.W.Frag} {F : List D → Option D} {x : Str} {st : Stmt}
    (hn : l.most = some n) (hn2 : n ≤ sizeLine) (hdf : d.params.defaults = []) (hr : Room k callerA)
    (hF : ∀ ns : List Int, F [.list (ns.map .int)] = some (.bool true))
    (hY : ∀ (w : World) (h : Heap), YP w h → (K w.params).In h)
    (hL : ∀ (w : World) (mg : Str → Option Value) (fa : Addr) (h : Heap), (K w.params).In h → h.Ns mainGlobals mg → mg d.name = some (.ref fa) →
      ∃ fd : FuncData, (∀ (s : Shared) (u : Value), BindsTo s fd ⟨[u], []⟩ [(x, u)]) ∧ ∀ base : Heap, (K w.params).In base → base.Ns mainGlobals mg → FnOk l.prog w (K w.params) mg base CX0 k fa fd [x] (spD (kw l.prog w (K w.params) mg base) [] F)) :
    PySem.W.WalkO q loose XP YP l.row.toRowW d [] (fun f vs => PySem.call f vs) := by
  refine Att.attach_call hn hdf fun w s₀ s₁ mg mb fa o pm cd doc a vs ns G Y ho hd hcd hmg hobj hints hlen hg => ?_
  have KX := hY w _ Y
  obtain ⟨fd, hb, hF'⟩ := hL w mg fa _ KX G.T.g hmg
  exact law_call (CX := CX0) KX G.T.g G.T.b G.T.builtins G.T.nolimit hg hobj hints (Nat.le_trans hlen hn2) hr (fun base i n => (hF' base i n).imp fun vs H Q E h => spD_cast h) hb (fun H hO hS => sp_law (hF ns) KX hobj hO hS) fun H e s' h => h
end VS

namespace VS
open PySem PySem.Spec PyProof.Rows L2

/-! ### keys, dicts in the heap -/
section
variable {X : Cx} {pins : List (Addr × Obj)} {σ : L2.St} {H : Hp} {s : Shared}
mutual
theorem nested_of (I : Inv X pins σ H s) : ∀ (d : D) (k : NestedKey) (v : V) (u : Value), kOf d = some k → Im (xkw X) H v d → RelV v u → NestedIs s.heap k u
  | .none, k, v, u, e, h, r => by
    cases e; cases h; cases (show u = Value.none from r); exact .none
  | .bool b, k, v, u, e, h, r => by
    cases e; cases h; cases (show u = Value.bool b from r); exact .bool (by cases b <;> rfl)
  | .int i, k, v, u, e, h, r => by
    cases e; cases h; obtain ⟨t, rfl⟩ := r; exact .int i t
  | .str x, k, v, u, e, h, r => by
    cases e; cases h; obtain ⟨t, rfl⟩ := r; exact .text x t
  | .tuple ds, k, v, u, e, h, r => by
    unfold kOf at e
    split at e
    · rename_i ks hk
      cases e
      obtain ⟨a, xs, rfl, h1, h2⟩ := h.ofTup
      cases (show u = Value.ref a from r)
      obtain ⟨its, r1, ⟨o, o1, o2, n, o3⟩, _⟩ := I.tuple h1
      exact .tup o1 o2 o3 (by simpa using nested_all I ds ks xs its hk h2 r1)
    · cases e
  | .list _, k, v, u, e, h, r => by unfold kOf at e; cases e
  | .dict _, k, v, u, e, h, r => by unfold kOf at e; cases e
theorem nested_all (I : Inv X pins σ H s) : ∀ (ds : List D) (ks : List NestedKey) (vs : List V) (us : List Value), kOfs ds = some ks → ImAll (xkw X) H vs ds → Vals vs us → NestedAll s.heap ks us
  | [], ks, vs, us, e, h, r => by
    cases e; cases h; cases r; exact .nil
  | d :: ds, ks, vs, us, e, h, r => by
    unfold kOfs at e
    split at e
    · rename_i k ks' h1 h2
      cases e
      cases h with
      | cons i1 i2 =>
        cases r with
        | cons r1 r2 => exact .cons (nested_of I d k _ _ h1 i1 r1) (nested_all I ds ks' _ _ h2 i2 r2)
    · cases e
end
end
end VS

namespace VS
open PySem PySem.Spec PyProof.Rows L2

/-! ### entries of a dict -/
def entAt (xs : List Ent) (k : NestedKey) : Option (Addr × V) := (xs.find? fun e => decide (e.1 = k)).map (·.2)
def putE (xs : List Ent) (k : NestedKey) (ka : Addr) (v : V) : List Ent :=
  if (entAt xs k).isSome then xs.map (fun e => if e.1 = k then (e.1, e.2.1, v) else e) else xs ++ [(k, ka, v)]
def dropE (xs : List Ent) (k : NestedKey) : List Ent := xs.filter fun e => decide (e.1 ≠ k)
abbrev EntP : List Ent → List (NestedKey × Addr × Value) → Prop := Paired fun (p : Ent) (q : NestedKey × Addr × Value) => p.1 = q.1 ∧ p.2.1 = q.2.1 ∧ RelV p.2.2 q.2.2
theorem entAt_cons_pos {e : Ent} {xs : List Ent} {k : NestedKey} (h : e.1 = k) : entAt (e :: xs) k = some e.2 := by simp [entAt, List.find?_cons, h]
theorem entAt_cons_neg {e : Ent} {xs : List Ent} {k : NestedKey} (h : ¬ e.1 = k) : entAt (e :: xs) k = entAt xs k := by simp [entAt, List.find?_cons, h]
theorem atKey_cons_pos {e : NestedKey × Addr × Value} {xs} {k : NestedKey} (h : e.1 = k) : atKey (e :: xs) k = some e.2 := by simp [atKey, List.find?_cons, h]
theorem atKey_cons_neg {e : NestedKey × Addr × Value} {xs} {k : NestedKey} (h : ¬ e.1 = k) : atKey (e :: xs) k = atKey xs k := by simp [atKey, List.find?_cons, h]
theorem EntP.at {xs : List Ent} {ys : List (NestedKey × Addr × Value)} (h : EntP xs ys) (k : NestedKey) : (entAt xs k = none ∧ atKey ys k = none) ∨ ∃ a v u, entAt xs k = some (a, v) ∧ atKey ys k = some (a, u) ∧ RelV v u := by
  induction h with
  | nil => exact .inl ⟨rfl, rfl⟩
  | @cons p q ps qs hq t ih =>
    obtain ⟨h1, h2, h3⟩ := hq
    by_cases e : p.1 = k
    · rw [entAt_cons_pos e, atKey_cons_pos (h1.symm.trans e)]
      exact .inr ⟨p.2.1, p.2.2, q.2.2, rfl, by rw [h2], h3⟩
    · rw [entAt_cons_neg e, atKey_cons_neg (fun z => e (h1.trans z))]
      exact ih
theorem EntP.isSome {xs : List Ent} {ys : List (NestedKey × Addr × Value)} (h : EntP xs ys) (k : NestedKey) : (entAt xs k).isSome = (atKey ys k).isSome := by
  rcases h.at k with ⟨h1, h2⟩ | ⟨a, v, u, h1, h2, _⟩ <;> rw [h1, h2] <;> rfl
theorem EntP.put {xs : List Ent} {ys : List (NestedKey × Addr × Value)} (h : EntP xs ys) (k : NestedKey) (b : Addr) {v : V} {u : Value} (r : RelV v u) : EntP (putE xs k b v) (storedH ys k b u) := by
  unfold putE storedH
  rw [h.isSome k]
  by_cases c : (atKey ys k).isSome = true
  · rw [if_pos c, if_pos c]
    clear c
    induction h with
    | nil => exact .nil
    | @cons p q ps qs hq t ih =>
      rw [List.map_cons, List.map_cons]
      refine .cons ?_ ih
      obtain ⟨h1, h2, h3⟩ := hq
      unfold putAt
      by_cases e : p.1 = k
      · rw [if_pos e, if_pos (h1.symm.trans e)]; exact ⟨h1, h2, r⟩
      · rw [if_neg e, if_neg (fun z => e (h1.trans z))]; exact ⟨h1, h2, h3⟩
  · rw [if_neg c, if_neg c]
    exact Paired.snoc h ⟨rfl, rfl, r⟩
theorem EntP.drop {xs : List Ent} {ys : List (NestedKey × Addr × Value)} (h : EntP xs ys) (k : NestedKey) : EntP (dropE xs k) (withoutH ys k) := by
  unfold dropE withoutH
  induction h with
  | nil => exact .nil
  | @cons p q ps qs hq t ih =>
    obtain ⟨h1, h2, h3⟩ := hq
    rw [List.filter_cons, List.filter_cons]
    by_cases e : p.1 = k
    · rw [if_neg (by simp [e]), if_neg (by simp [h1.symm.trans e])]; exact ih
    · rw [if_pos (by simp [e]), if_pos (by simpa using fun z => e (h1.trans z))]; exact .cons ⟨h1, h2, h3⟩ ih
theorem EntP.keys {xs : List Ent} {ys : List (NestedKey × Addr × Value)} (h : EntP xs ys) : xs.map (·.1) = ys.map (·.1) := by
  induction h with
  | nil => rfl
  | cons hq t ih => rw [List.map_cons, List.map_cons, ih, hq.1]
theorem EntP.len {xs : List Ent} {ys : List (NestedKey × Addr × Value)} (h : EntP xs ys) : xs.length = ys.length := Paired.length h

/-! ### dicts as data -/
section
variable {β : Type}
def lookD (kvs : List (D × β)) (k : NestedKey) : Option β := (kvs.find? fun e => decide (kOf e.1 = some k)).map (·.2)
def putD (kvs : List (D × β)) (k : NestedKey) (dk : D) (v : β) : List (D × β) :=
  if (lookD kvs k).isSome then kvs.map (fun e => if kOf e.1 = some k then (e.1, v) else e) else kvs ++ [(dk, v)]
def dropD (kvs : List (D × β)) (k : NestedKey) : List (D × β) := kvs.filter fun e => decide (kOf e.1 ≠ some k)
theorem lookD_pos {e : D × β} {kvs : List (D × β)} {k : NestedKey} (h : kOf e.1 = some k) : lookD (e :: kvs) k = some e.2 := by simp [lookD, List.find?_cons, h]
theorem lookD_neg {e : D × β} {kvs : List (D × β)} {k : NestedKey} (h : ¬ kOf e.1 = some k) : lookD (e :: kvs) k = lookD kvs k := by simp [lookD, List.find?_cons, h]
end
def appD (kvs : List (D × List D)) (k : NestedKey) (d : D) : List (D × List D) := kvs.map fun e => if kOf e.1 = some k then (e.1, e.2 ++ [d]) else e
/-- a key that may be stored or looked for -/
def keyD : D → Option NestedKey
  | .tuple ds => (match kOf (.tuple ds) with | some k => if k.depth ≤ 8 then some k else none | none => none)
  | _ => none
theorem keyD_some {d : D} {k : NestedKey} (h : keyD d = some k) : (∃ ds, d = .tuple ds) ∧ kOf d = some k ∧ k.depth ≤ 8 := by
  cases d with
  | tuple ds =>
    unfold keyD at h
    cases hk : kOf (.tuple ds) with
    | none => simp only [hk] at h; cases h
    | some k' =>
      simp only [hk] at h
      by_cases c : k'.depth ≤ 8
      · rw [if_pos c] at h
        cases h
        exact ⟨⟨ds, rfl⟩, rfl, c⟩
      · rw [if_neg c] at h
        cases h
  | _ => cases h
section
variable {K : KW} {H H' : Hp}
/-- the keys are data -/
def KeysOk (K : KW) (H : Hp) (xs : List Ent) : Prop := ∀ e ∈ xs, ∃ dk, kOf dk = some e.1 ∧ e.1.depth ≤ 8 ∧ Im K H (.ref e.2.1) dk
theorem DEnt.keys : ∀ {xs : List Ent} {kvs : List (D × D)}, DEnt K H xs kvs → KeysOk K H xs
  | _, _, .nil => fun e h => by cases h
  | _, _, .cons h1 h2 h3 h4 h5 => fun e h => by
    rcases List.mem_cons.mp h with rfl | h
    · exact ⟨_, h1, h2, h3⟩
    · exact h5.keys e h
theorem DLst.keys : ∀ {xs : List Ent} {kvs : List (D × List D)} {ls : List Addr}, DLst K H xs kvs ls → KeysOk K H xs
  | _, _, _, .nil => fun e h => by cases h
  | _, _, _, .cons h1 h2 h3 _ _ h5 => fun e h => by
    rcases List.mem_cons.mp h with rfl | h
    · exact ⟨_, h1, h2, h3⟩
    · exact h5.keys e h
theorem DEnt.len : ∀ {xs : List Ent} {kvs : List (D × D)}, DEnt K H xs kvs → xs.length = kvs.length
  | _, _, .nil => rfl
  | _, _, .cons _ _ _ _ h5 => by rw [List.length_cons, List.length_cons, h5.len]
theorem DLst.len : ∀ {xs : List Ent} {kvs : List (D × List D)} {ls : List Addr}, DLst K H xs kvs ls → xs.length = kvs.length
  | _, _, _, .nil => rfl
  | _, _, _, .cons _ _ _ _ _ h5 => by rw [List.length_cons, List.length_cons, h5.len]
theorem DEnt.look (k : NestedKey) : ∀ {xs : List Ent} {kvs : List (D × D)}, DEnt K H xs kvs → (lookD kvs k = none ∧ entAt xs k = none) ∨ ∃ d a v, lookD kvs k = some d ∧ entAt xs k = some (a, v) ∧ Im K H v d
  | _, _, .nil => .inl ⟨rfl, rfl⟩
  | _, _, .cons (k := k0) (ka := ka) (v := v) (dk := dk) (dv := dv) (xs := xs) (kvs := kvs) h1 h2 h3 h4 h5 => by
    by_cases e : k0 = k
    · subst e
      exact .inr ⟨dv, ka, v, lookD_pos (e := (dk, dv)) h1, entAt_cons_pos (e := (k0, ka, v)) rfl, h4⟩
    · rw [lookD_neg (e := (dk, dv)) (by rw [h1]; exact fun z => e (Option.some.inj z)), entAt_cons_neg (e := (k0, ka, v)) e]
      exact DEnt.look k h5
theorem DEnt.repl {k : NestedKey} {v : V} {d : D} (i : Im K H v d) : ∀ {xs : List Ent} {kvs : List (D × D)}, DEnt K H xs kvs → DEnt K H (xs.map fun e => if e.1 = k then (e.1, e.2.1, v) else e) (kvs.map fun e => if kOf e.1 = some k then (e.1, d) else e)
  | _, _, .nil => .nil
  | _, _, .cons (k := k0) (ka := ka) (v := v0) (dk := dk) (dv := dv) h1 h2 h3 h4 h5 => by
    rw [List.map_cons, List.map_cons]
    by_cases e : k0 = k
    · rw [if_pos e, if_pos (by rw [h1, e])]
      exact .cons h1 h2 h3 i (DEnt.repl i h5)
    · rw [if_neg e, if_neg (by rw [h1]; exact fun z => e (Option.some.inj z))]
      exact .cons h1 h2 h3 h4 (DEnt.repl i h5)
theorem DEnt.snoc {k : NestedKey} {ka : Addr} {v : V} {dk d : D} (hk : kOf dk = some k) (h8 : k.depth ≤ 8) (ik : Im K H (.ref ka) dk) (i : Im K H v d) : ∀ {xs : List Ent} {kvs : List (D × D)}, DEnt K H xs kvs → DEnt K H (xs ++ [(k, ka, v)]) (kvs ++ [(dk, d)])
  | _, _, .nil => .cons hk h8 ik i .nil
  | _, _, .cons h1 h2 h3 h4 h5 => .cons h1 h2 h3 h4 (DEnt.snoc hk h8 ik i h5)
theorem DEnt.isSome {xs : List Ent} {kvs : List (D × D)} (h : DEnt K H xs kvs) (k : NestedKey) : (entAt xs k).isSome = (lookD kvs k).isSome := by
  rcases h.look k with ⟨h1, h2⟩ | ⟨_, _, _, h1, h2, _⟩ <;> rw [h1, h2] <;> rfl
theorem DEnt.put {k : NestedKey} {ka : Addr} {v : V} {dk d : D} {xs : List Ent} {kvs : List (D × D)} (h : DEnt K H xs kvs) (hk : kOf dk = some k) (h8 : k.depth ≤ 8) (ik : Im K H (.ref ka) dk) (i : Im K H v d) : DEnt K H (putE xs k ka v) (putD kvs k dk d) := by
  unfold putE putD
  rw [h.isSome k]
  split
  · exact h.repl i
  · exact h.snoc hk h8 ik i
theorem DEnt.drop (k : NestedKey) : ∀ {xs : List Ent} {kvs : List (D × D)}, DEnt K H xs kvs → DEnt K H (dropE xs k) (dropD kvs k)
  | _, _, .nil => .nil
  | _, _, .cons (k := k0) (ka := ka) (v := v0) (dk := dk) (dv := dv) h1 h2 h3 h4 h5 => by
    unfold dropE dropD
    rw [List.filter_cons, List.filter_cons]
    by_cases e : k0 = k
    · rw [if_neg (by simp [e]), if_neg (by simp [h1, e])]
      exact DEnt.drop k h5
    · rw [if_pos (by simp [e]), if_pos (by simp [h1, e])]
      exact .cons h1 h2 h3 h4 (DEnt.drop k h5)
theorem DLst.look (k : NestedKey) : ∀ {xs : List Ent} {kvs : List (D × List D)} {ls : List Addr}, DLst K H xs kvs ls → (lookD kvs k = none ∧ entAt xs k = none) ∨ ∃ ds a l ys, lookD kvs k = some ds ∧ entAt xs k = some (a, .ref l) ∧ l ∈ ls ∧ H l = some (.lst ys) ∧ ImAll K H ys ds
  | _, _, _, .nil => .inl ⟨rfl, rfl⟩
  | _, _, _, .cons (k := k0) (ka := ka) (l := l) (ys := ys) (dk := dk) (ds := dv) (xs := xs) (kvs := kvs) h1 h2 h3 h4 h6 h5 => by
    by_cases e : k0 = k
    · subst e
      exact .inr ⟨dv, ka, l, ys, lookD_pos (e := (dk, dv)) h1, entAt_cons_pos (e := (k0, ka, .ref l)) rfl, by simp, h4, h6⟩
    · rw [lookD_neg (e := (dk, dv)) (by rw [h1]; exact fun z => e (Option.some.inj z)), entAt_cons_neg (e := (k0, ka, .ref l)) e]
      rcases DLst.look k h5 with h | ⟨ds, a, l, ys, q1, q2, q3, q4⟩
      · exact .inl h
      · exact .inr ⟨ds, a, l, ys, q1, q2, List.mem_cons_of_mem _ q3, q4⟩
theorem DLst.snoc {k : NestedKey} {ka l : Addr} {ys : List V} {dk : D} {ds : List D} (hk : kOf dk = some k) (h8 : k.depth ≤ 8) (ik : Im K H (.ref ka) dk) (hl : H l = some (.lst ys)) (i : ImAll K H ys ds) : ∀ {xs : List Ent} {kvs : List (D × List D)} {ls : List Addr}, DLst K H xs kvs ls → DLst K H (xs ++ [(k, ka, .ref l)]) (kvs ++ [(dk, ds)]) (ls ++ [l])
  | _, _, _, .nil => .cons hk h8 ik hl i .nil
  | _, _, _, .cons h1 h2 h3 h4 h6 h5 => .cons h1 h2 h3 h4 h6 (DLst.snoc hk h8 ik hl i h5)
/-- the list at l, the value at the key k, is replaced -/
theorem DLst.app {k : NestedKey} {l0 : Addr} {ys0 : List V} {d0 : D} (im : ImKeep H H') (hH : ∀ b ys, b ≠ l0 → H b = some (.lst ys) → H' b = some (.lst ys)) : ∀ {xs : List Ent} {kvs : List (D × List D)} {ls : List Addr}, DLst K H xs kvs ls → ls.Nodup → (xs.map (·.1)).Nodup →
    (∀ ka, entAt xs k = some (ka, .ref l0) → ∀ ds, lookD kvs k = some ds → H' l0 = some (.lst ys0) ∧ ImAll K H' ys0 (ds ++ [d0])) → (l0 ∈ ls → ∃ ka, entAt xs k = some (ka, .ref l0)) → ((entAt xs k).isSome → ∃ ka, entAt xs k = some (ka, .ref l0)) → DLst K H' xs (appD kvs k d0) ls
  | _, _, _, .nil, _, _, _, _, _ => .nil
  | _, _, _, .cons (k := k0) (ka := ka) (l := l) (ys := ys) (dk := dk) (ds := dv) (xs := xs) (kvs := kvs) (ls := ls) h1 h2 h3 h4 h6 h5, nd, nk, q, m, e0 => by
    rw [List.nodup_cons] at nd
    rw [List.map_cons, List.nodup_cons] at nk
    unfold appD
    rw [List.map_cons]
    by_cases e : k0 = k
    · subst e
      rw [if_pos h1]
      have eh : entAt ((k0, ka, V.ref l) :: xs) k0 = some (ka, .ref l) := entAt_cons_pos rfl
      obtain ⟨ka', e1⟩ := e0 (by rw [eh]; rfl)
      rw [eh] at e1
      cases e1
      obtain ⟨q1, q2⟩ := q ka eh dv (lookD_pos (e := (dk, dv)) h1)
      have nx : entAt xs k0 = none := by
        cases he : entAt xs k0 with
        | none => rfl
        | some p =>
          refine absurd ?_ nk.1
          unfold entAt at he
          obtain ⟨x, hx, _⟩ := Option.map_eq_some_iff.mp he
          have h2 := List.find?_some hx
          exact List.mem_map.mpr ⟨x, List.mem_of_find?_eq_some hx, of_decide_eq_true h2⟩
      have nl : lookD kvs k0 = none := by
        rcases h5.look k0 with z | ⟨_, _, _, _, z, z2, _⟩
        · exact z.1
        · rw [nx] at z2; cases z2
      refine .cons h1 h2 (h3.up im) q1 q2 ?_
      refine DLst.app (ys0 := ys0) im hH h5 nd.2 nk.2 (fun ka' z => by rw [nx] at z; cases z) (fun z => absurd z nd.1) (fun z => by rw [nx] at z; cases z)
    · rw [if_neg (by rw [h1]; exact fun z => e (Option.some.inj z))]
      have ex : entAt ((k0, ka, V.ref l) :: xs) k = entAt xs k := entAt_cons_neg e
      have el : lookD ((dk, dv) :: kvs) k = lookD kvs k := lookD_neg (by rw [h1]; exact fun z => e (Option.some.inj z))
      have nl0 : l ≠ l0 := fun z => by
        subst z
        obtain ⟨ka', e1⟩ := m (by simp)
        rw [ex] at e1
        rcases h5.look k with ⟨_, z⟩ | ⟨_, _, l', _, _, z, z2, _⟩
        · rw [z] at e1; cases e1
        · rw [z] at e1
          cases e1
          exact nd.1 z2
      refine .cons h1 h2 (h3.up im) (hH l ys nl0 h4) (h6.up im) ?_
      exact DLst.app (ys0 := ys0) im hH h5 nd.2 nk.2 (fun ka' z ds z2 => q ka' (by rw [ex]; exact z) ds (by rw [el]; exact z2)) (fun z => by
        obtain ⟨ka', e1⟩ := m (List.mem_cons_of_mem _ z)
        exact ⟨ka', by rw [← ex]; exact e1⟩) (fun z => by
        obtain ⟨ka', e1⟩ := e0 (by rw [ex]; exact z)
        exact ⟨ka', by rw [← ex]; exact e1⟩)
/-- all of them as data -/
theorem DLst.dent : ∀ {xs : List Ent} {kvs : List (D × List D)} {ls : List Addr}, DLst K H xs kvs ls → ImKeep H H' → (∀ l ∈ ls, ∀ ys, H l = some (.lst ys) → ∃ o, H' l = some (.frz o (.lst ys))) → DEnt K H' xs (kvs.map fun e => (e.1, .list e.2))
  | _, _, _, .nil, _, _ => .nil
  | _, _, _, .cons (k := k0) (ka := ka) (l := l) (ys := ys) (dk := dk) (ds := dv) (xs := xs) (kvs := kvs) (ls := ls) h1 h2 h3 h4 h6 h5, im, q => by
    rw [List.map_cons]
    obtain ⟨o, e⟩ := q l (by simp) ys h4
    exact .cons h1 h2 (h3.up im) (.lst (.inl ⟨o, e⟩) (h6.up im)) (DLst.dent h5 im fun l hl => q l (List.mem_cons_of_mem _ hl))
end
end VS

namespace VS
open PySem PySem.Spec PyProof.Rows L2

/-! ### dicts by values -/
abbrev DO (K : KW) (a : Addr) (xs : List Ent) : HO := .ext (DictO K.hs a xs)
section
variable {X : Cx} {pins : List (Addr × Obj)} {σ : L2.St} {H : Hp} {s : Shared} {a : Addr} {xs : List Ent} {k : NestedKey} {v : V} {u : Value} {dk : D}
theorem key_is (I : Inv X pins σ H s) (hk : keyD dk = some k) (i : Im (xkw X) H v dk) (r : RelV v u) : ∃ b, v = .ref b ∧ u = .ref b ∧ (nestedKind X.prog X.w).is s.heap k b := by
  obtain ⟨⟨ds, e⟩, h1, h2⟩ := keyD_some hk
  subst e
  obtain ⟨b, xs, rfl, _⟩ := i.ofTup
  cases (show u = Value.ref b from r)
  exact ⟨b, rfl, rfl, nested_of I _ k _ _ h1 i rfl, h2⟩
theorem dict_at (I : Inv X pins σ H s) (rd : Rd H a (DO (xkw X) a xs)) (ko : KeysOk (xkw X) H xs) :
    xs.length ≤ sizeLine ∧ (a == sysModules) = false ∧ ∃ ys, EntP xs ys ∧ s.heap.DictOfH (nestedKind X.prog X.w) a ys := by
  obtain ⟨⟨z, hm, nd, ys, o, es, ep, rel, e1, e2, e3, e4⟩, _, _⟩ := (show ObjOk X.prog X.w H s.heap a (DO (xkw X) a xs) from rd.ok I.hok)
  refine ⟨z, hm, ys, rel, o, es, ep, e1, e2, e3, e4, ?_, by rw [← EntP.keys rel]; exact nd⟩
  clear e4 nd z
  have all : ∀ {l : List Ent} {m : List (NestedKey × Addr × Value)}, EntP l m → KeysOk (xkw X) H l → ∀ x ∈ m, (nestedKind X.prog X.w).is s.heap x.1 x.2.1 := by
    intro l m q
    induction q with
    | nil => intro _ x hx; cases hx
    | @cons p q ps qs hq t ih =>
      intro ko x hx
      rcases List.mem_cons.mp hx with e | hx
      · subst e
        obtain ⟨dk, h1, h2, h3⟩ := ko p (by simp)
        rw [← hq.1, ← hq.2.1]
        exact ⟨nested_of I dk _ _ _ h1 h3 rfl, h2⟩
      · exact ih (fun e he => ko e (List.mem_cons_of_mem _ he)) x hx
  exact all rel ko
theorem dictO_ok {P : Program} {w : World} {H' : Hp} {h' : Heap} {ys : List (NestedKey × Addr × Value)} {K : KW} (hK : K.hs = (nestedKind P w).hash) (z : xs.length ≤ sizeLine) (hm : (a == sysModules) = false) (rel : EntP xs ys) (dd : h'.DictOfH (nestedKind P w) a ys) : ObjOk P w H' h' a (DO K a xs) := by
  obtain ⟨o, es, ep, e1, e2, e3, e4, _, e6⟩ := dd
  refine ⟨⟨z, hm, by rw [EntP.keys rel]; exact e6, ys, o, es, ep, rel, e1, e2, e3, by rw [hK]; exact e4⟩, ⟨o, e1⟩, fun h1 h2 ⟨z, hm, nd, ys, o, es, ep, rel, e1, e2⟩ st => ⟨z, hm, nd, ys, o, es, ep, rel, st _ e1, e2⟩⟩
theorem dict_write {h' : Heap} {t' : Nat} {xs' : List Ent} {ys : List (NestedKey × Addr × Value)} (I : Inv X pins σ H s) (e : H a = some (DO (xkw X) a xs)) (hs : Heap.SameBut a s.heap h') (z : xs'.length ≤ sizeLine) (hm : (a == sysModules) = false) (rel : EntP xs' ys) (dd : h'.DictOfH (nestedKind X.prog X.w) a ys) :
    Inv X pins σ (upd H a (DO (xkw X) a xs')) { s with heap := h', toks := t' } := by
  have he : ∃ q, h'.get? a = some q := let ⟨q, _, _, hq, _⟩ := dd; ⟨q, hq⟩
  exact d_write I (by rw [e]; exact True.intro) hs he (dictO_ok rfl z hm rel dd)
theorem dict_ty (I : Inv X pins σ H s) (rd : Rd H a (DO (xkw X) a xs)) : s.TypeIs (.ref a) "dict" ∧ ∀ b, Value.ref a = .ref b → ∃ ob, s.heap.get? b = some ob ∧ ob.dict = none := by
  obtain ⟨⟨z, hm, nd, ys, o, es, ep, rel, e1, e2, e3, e4⟩, _, _⟩ := (show ObjOk X.prog X.w H s.heap a (DO (xkw X) a xs) from rd.ok I.hok)
  refine ⟨⟨o, e1, e2.1⟩, fun b q => ?_⟩
  cases q
  exact ⟨o, e1, e2.2.1⟩
theorem putE_len (xs : List Ent) (k : NestedKey) (b : Addr) (v : V) : (putE xs k b v).length ≤ xs.length + 1 := by
  unfold putE
  split
  · rw [List.length_map]; omega
  · rw [List.length_append, List.length_cons, List.length_nil]; omega
theorem dropE_len (xs : List Ent) (k : NestedKey) : (dropE xs k).length ≤ xs.length := List.length_filter_le _ _
end
section
variable {X : Cx}
/-- x in d, x not in d -/
def rDIn (K : KW) (neg : Bool) : R2 := fun x y H Q => ∃ a xs k dk, y = .ref a ∧ Rd H a (DO K a xs) ∧ KeysOk K H xs ∧ keyD dk = some k ∧ Im K H x dk ∧ Q (.bl (if neg then !(entAt xs k).isSome else (entAt xs k).isSome)) H
theorem op_dIn (hu : X.A.units + 9 < cLine) : OpR X (compareOp .In) (rDIn (xkw X) false) := by
  intro pins s σ H x y v u Q I rx ry ⟨a, xs, k, dk, e, rd, ko, hk, i, q⟩
  subst e
  obtain rfl : u = Value.ref a := ry
  obtain ⟨b, rfl, rfl, hkey⟩ := key_is I hk i rx
  obtain ⟨z, hm, ys, rel, dd⟩ := dict_at I rd ko
  refine wpAny_in_heap (show X.A.units + 1 + 8 < cLine by omega) hkey hm dd ?_
  rw [← rel.isSome k]
  exact ⟨.bl _, H, I.tok _, rfl, q⟩
theorem op_dNotIn (hu : X.A.units + 9 < cLine) : OpR X (compareOp .NotIn) (rDIn (xkw X) true) := by
  intro pins s σ H x y v u Q I rx ry ⟨a, xs, k, dk, e, rd, ko, hk, i, q⟩
  subst e
  obtain rfl : u = Value.ref a := ry
  obtain ⟨b, rfl, rfl, hkey⟩ := key_is I hk i rx
  obtain ⟨z, hm, ys, rel, dd⟩ := dict_at I rd ko
  refine wpAny_notIn_heap (show X.A.units + 1 + 8 < cLine by omega) hkey hm dd ?_
  rw [← rel.isSome k]
  exact ⟨.bl _, H, I.tok _, rfl, q⟩
/-- d[x] -/
def rDIx (K : KW) : R2 := fun x y H Q => ∃ a xs k dk ka v, x = .ref a ∧ Rd H a (DO K a xs) ∧ KeysOk K H xs ∧ keyD dk = some k ∧ Im K H y dk ∧ entAt xs k = some (ka, v) ∧ Q v H
theorem ix_dict (hu : X.A.units + 9 < cLine) : IxR X (rDIx (xkw X)) := by
  intro value slice pins s σ H x y v u Q I rx ry ⟨a, xs, k, dk, ka, w, e, rd, ko, hk, i, he, q⟩ hs
  subst e
  obtain rfl : v = Value.ref a := rx
  obtain ⟨b, rfl, rfl, hkey⟩ := key_is I hk i ry
  obtain ⟨z, hm, ys, rel, dd⟩ := dict_at I rd ko
  rcases rel.at k with ⟨h1, _⟩ | ⟨ka', w', uw, h1, h2, rw'⟩
  · rw [h1] at he; cases he
  rw [he] at h1
  cases h1
  have hT := dd.typeIs
  unfold subscriptTail
  refine wpAny_bind ?_
  rw [getitemInPython_of_ne hT.not_modules]
  refine wpAny_bind (wpAny_specialOf hT PySem.F.slot_dict_getitem.lookup ?_)
  have fin : wpAny (model X.prog X.w) X.A (subscripted slice false (.ref a) (.ref b)) (fun r s₃ => wpAny (model X.prog X.w) X.A (letTemporaryGo value (.ref a) r >>= fun _ => pure r) (EP X pins σ Q) X.xe s₃) X.xe s := by
    rw [hs]
    refine wpAny_operating (wpAny_mono (wpAny_getItem_heap (Q := EP X pins σ Q) (show X.A.units + 1 + 8 < cLine by omega) hkey dd h2 ⟨w, H, I.tok _, rw', q⟩) (fun r s₃ h₃ => wpAny_bind (wpAny_letTemporaryGo (wpAny_pure h₃))) fun _ _ x => x)
  first
    | exact wpAny_pure (wpAny_bind fin)
    | exact wpAny_bind (wpAny_pure (wpAny_bind fin))
    | exact wpAny_bind fin
/-- d.get(x), d.get(x, y) -/
def rDGet (K : KW) : V → List V → Hp → VK → Prop := fun x vs H Q => ∃ a xs k dk kv more, x = .ref a ∧ vs = kv :: more ∧ (more = [] ∨ ∃ z, more = [z]) ∧ Rd H a (DO K a xs) ∧ KeysOk K H xs ∧ keyD dk = some k ∧ Im K H kv dk ∧ Q (((entAt xs k).map (·.2)).getD (more.headD .non)) H
theorem mt_dGet (hu : X.A.units + 9 < cLine) : MtR X "dict.get" (rDGet (xkw X)) := by
  intro pins s σ H x vs v us Q I rx rv ⟨a, xs, k, dk, kv, more, e, e2, hmr, rd, ko, hk, i, q⟩
  subst e e2
  obtain rfl : v = Value.ref a := rx
  obtain ⟨z, hm, ys, rel, dd⟩ := dict_at I rd ko
  cases rv with
  | cons r1 rm =>
    obtain ⟨b, rfl, rfl, hkey⟩ := key_is I hk i r1
    rcases hmr with rfl | ⟨y, rfl⟩
    · cases rm
      refine call_meetsIn PySem.F.slot_dict_get dd.typeIs PySem.F.entry_dict_get (PySem.F.args_dict_get_2 _ _) (meetsH_dict_get (nestedKind X.prog X.w) a b hm) ⟨show X.A.units + 1 + 8 < cLine by omega, k, ys, hkey, dd, ⟨_, H, I.tok _, ?_, q⟩⟩
      rcases rel.at k with ⟨h1, h2⟩ | ⟨ka', w', uw, h1, h2, rw'⟩
      · rw [h1, h2]; rfl
      · rw [h1, h2]; exact rw'
    · obtain ⟨uy, rfl, ry⟩ := vals1 rm
      refine call_meetsIn PySem.F.slot_dict_get dd.typeIs PySem.F.entry_dict_get (PySem.F.args_dict_get_3 _ _ _) (meetsH_dict_get_default (nestedKind X.prog X.w) a b hm uy) ⟨show X.A.units + 1 + 8 < cLine by omega, k, ys, hkey, dd, ⟨_, H, I.tok _, ?_, q⟩⟩
      rcases rel.at k with ⟨h1, h2⟩ | ⟨ka', w', uw, h1, h2, rw'⟩
      · rw [h1, h2]; exact ry
      · rw [h1, h2]; exact rw'
/-- d.pop(x) -/
def rDPop (K : KW) : V → List V → Hp → VK → Prop := fun x vs H Q => ∃ a xs k dk kv ka v, x = .ref a ∧ vs = [kv] ∧ H a = some (DO K a xs) ∧ KeysOk K H xs ∧ keyD dk = some k ∧ Im K H kv dk ∧ entAt xs k = some (ka, v) ∧ Q v (upd H a (DO K a (dropE xs k)))
theorem mt_dPop (hu : X.A.units + 9 < cLine) : MtR X "dict.pop" (rDPop (xkw X)) := by
  intro pins s σ H x vs v us Q I rx rv ⟨a, xs, k, dk, kv, ka, w, e, e2, hH, ko, hk, i, he, q⟩
  subst e e2
  obtain rfl : v = Value.ref a := rx
  obtain ⟨z, hm, ys, rel, dd⟩ := dict_at I (.of hH) ko
  obtain ⟨uk, rfl, r1⟩ := vals1 rv
  obtain ⟨b, rfl, rfl, hkey⟩ := key_is I hk i r1
  rcases rel.at k with ⟨h1, _⟩ | ⟨ka', w', uw, h1, h2, rw'⟩
  · rw [h1] at he; cases he
  rw [he] at h1
  cases h1
  refine call_pop_heap (hsz := by rw [← rel.len]; exact z) (.inl rfl) (PySem.F.args_dict_pop_2 _ _) (show X.A.units + 1 + 8 < cLine by omega) hkey hm dd h2 fun h' dd' hs => ?_
  exact ⟨w, _, dict_write I hH hs (Nat.le_trans (dropE_len xs k) z) hm (rel.drop k) dd', rw', q⟩
/-- len(d) -/
theorem call_len_dct : CallR X (.builtin "len") (fun vs H Q => ∃ a xs, vs = [.ref a] ∧ Rd H a (DO (xkw X) a xs) ∧ KeysOk (xkw X) H xs ∧ Q (.int xs.length) H) := by
  intro pins s σ H vs us Q I r ⟨a, xs, e, rd, ko, q⟩
  subst e
  obtain ⟨u, rfl, rx⟩ := vals1 r
  obtain rfl : u = Value.ref a := rx
  obtain ⟨z, hm, ys, rel, dd⟩ := dict_at I rd ko
  have hl := rel.len
  refine call_len_dictH hm dd (by rw [sizeLine_eq] at z; omega) ⟨.int xs.length, H, I.tok _, ⟨_, by rw [hl]⟩, q⟩
/-- d[x] = y -/
def rDSet (K : KW) : TSet := fun o i v H Q => ∃ a xs k dk b, o = .ref a ∧ i = .ref b ∧ H a = some (DO K a xs) ∧ KeysOk K H xs ∧ keyD dk = some k ∧ Im K H (.ref b) dk ∧ xs.length < sizeLine ∧ Q (upd H a (DO K a (putE xs k b v)))
theorem set_dict (hu : X.A.units + 9 < cLine) : PSet X (rDSet (xkw X)) := by
  intro pins s σ H o i v ov iv u Q I ro ri rv ⟨a, xs, k, dk, b, e, e2, hH, ko, hk, im, hz, q⟩
  subst e e2
  obtain rfl : ov = Value.ref a := ro
  obtain ⟨b', e3, rfl, hkey⟩ := key_is I hk im ri
  cases e3
  obtain ⟨z, hm, ys, rel, dd⟩ := dict_at I (.of hH) ko
  refine wpAny_setItem_heap (hsz := by rw [← rel.len]; exact z) (show X.A.units + 1 + 8 < cLine by omega) hkey dd fun h' dd' hs => ?_
  exact ⟨_, dict_write I hH hs (by have := putE_len xs k b v; omega) hm (rel.put k b rv) dd', q⟩
theorem dict_dictSet {pins : List (Addr × Obj)} {σ : L2.St} {H : Hp} {s : Shared} {a b : Addr} {xs : List Ent} {k : NestedKey} {dk : D} {v : V} {ku vu : Value} {Q : Unit → Shared → Prop} (hu : X.A.units + 9 < cLine) (I : Inv X pins σ H s) (hH : H a = some (DO (xkw X) a xs)) (ko : KeysOk (xkw X) H xs) (hk : keyD dk = some k) (im : Im (xkw X) H (.ref b) dk) (hz : xs.length < sizeLine) (rk : RelV (.ref b) ku) (rv : RelV v vu)
    (h : ∀ s', Inv X pins σ (upd H a (DO (xkw X) a (putE xs k b v))) s' → Q () s') {E : Value → Shared → Prop} : wpAny (model X.prog X.w) X.A (dictSet a ku vu) Q E s := by
  obtain ⟨b', e3, rfl, hkey⟩ := key_is I hk im rk
  cases e3
  obtain ⟨z, hm, ys, rel, dd⟩ := dict_at I (.of hH) ko
  refine wpAny_dictSet_heap (hsz := by rw [← rel.len]; exact z) (show X.A.units + 8 < cLine by omega) hkey dd fun h' dd' hs => ?_
  exact h _ (dict_write I hH hs (by have := putE_len xs k b v; omega) hm (rel.put k b rv) dd')
/-- a new dict -/
theorem dictO_new {P : Program} {w : World} {H : Hp} {K : KW} (h : Heap) (hb : sysModules < h.objs.size) (hK : K.hs = (nestedKind P w).hash) : ObjOk P w H (h.push { cls := .type "dict", data := .dict #[] }) h.objs.size (DO K h.objs.size []) :=
  dictO_ok hK (Nat.zero_le _) (beq_eq_false_iff_ne.mpr (Ne.symm (Nat.ne_of_lt hb))) .nil (Heap.DictOfH.new h)
end
end VS

namespace VS
open PySem PySem.Spec PyProof.Rows L2

/-! ### fresh values: data, or things that belong to none yet -/
def xF (K : KW) (g : Gx) (f : M SV) : TE := fun σ H Q => ∃ ρ own sv ρ', f ρ = some (sv, ρ') ∧ RelE K g σ ρ own H ∧ ∀ v own' H' ow, Go K g σ own H σ ρ' own' H' → RelS K H' v sv ow → ow.Nodup → (∀ a ∈ ow, H a = none ∧ ¬ InO own' a) → Q v H'
abbrev QF (X : Cx) (g : Gx) (e : Expr) (f : M SV) : Prop := PE X e (xF (xkw X) g f)
inductive RelSs (K : KW) (H : Hp) : List V → List SV → List (List Addr) → Prop
  | nil : RelSs K H [] [] []
  | cons {v : V} {sv : SV} {ow : List Addr} {vs : List V} {svs : List SV} {ows : List (List Addr)} : RelS K H v sv ow → RelSs K H vs svs ows → RelSs K H (v :: vs) (sv :: svs) (ow :: ows)
theorem RelSs.len {K : KW} {H : Hp} : ∀ {vs : List V} {svs : List SV} {ows : List (List Addr)}, RelSs K H vs svs ows → vs.length = svs.length
  | _, _, _, .nil => rfl
  | _, _, _, .cons _ h => by rw [List.length_cons, List.length_cons, h.len]
def xFs (K : KW) (g : Gx) (f : M (List SV)) : TA := fun σ H Q => ∃ ρ own svs ρ', f ρ = some (svs, ρ') ∧ RelE K g σ ρ own H ∧ ∀ vs own' H' ows, Go K g σ own H σ ρ' own' H' → RelSs K H' vs svs ows → ows.flatten.Nodup → (∀ a ∈ ows.flatten, H a = none ∧ ¬ InO own' a) → Q vs H'
abbrev QFs (X : Cx) (g : Gx) (es : List Expr) (f : M (List SV)) : Prop := PA X es (xFs (xkw X) g f)
def fDat (f : M D) : M SV := fun ρ => match f ρ with
  | some (d, ρ1) => some (.dat d, ρ1)
  | none => none
def fsNil : M (List SV) := fun ρ => some ([], ρ)
def fsCons (a : M SV) (b : M (List SV)) : M (List SV) := fun ρ => match a ρ with
  | some (x, ρ1) => (match b ρ1 with | some (xs, ρ2) => some (x :: xs, ρ2) | none => none)
  | none => none
def fLst (fs : M (List D)) : M SV := fun ρ => match fs ρ with
  | some (ds, ρ1) => if ds.length ≤ most then some (.ol ds, ρ1) else none
  | none => none
def fIf (c : M Bool) (a b : M SV) : M SV := fun ρ => match c ρ with
  | some (true, ρ1) => a ρ1
  | some (false, ρ1) => b ρ1
  | none => none
section
variable {X : Cx} {g : Gx} {e : Expr} {es : List Expr} {fa : M D} {fs : M (List D)} {pos : Pos}
theorem qf_dat (h : QE X g e fa) : QF X g e (fDat fa) := by
  refine pe_conv h ?_
  rintro σ H Q ⟨ρ, own, sv, ρ', h, R, k⟩
  unfold fDat at h
  split at h
  · rename_i d ρ1 h1
    cases h
    exact ⟨ρ, own, d, ρ', h1, R, fun v ow1 H1 k1 i1 => k v ow1 H1 [] k1 (.dat i1) .nil (fun a z => by cases z)⟩
  · cases h
theorem qf_lst (h : QA X g es fs) : QF X g (.List es pos) (fLst fs) := by
  refine pe_conv (pe_lst h) ?_
  rintro σ H Q ⟨ρ, own, sv, ρ', h, R, k⟩
  unfold fLst at h
  split at h
  · rename_i ds ρ1 h1
    split at h
    · rename_i hz
      cases h
      refine ⟨ρ, own, ds, ρ', h1, R, fun vs ow1 H1 k1 i1 => ⟨by rw [i1.len]; exact Nat.le_trans hz most_line, fun p hp => ?_⟩⟩
      refine k _ ow1 _ [p] (k1.trans (k1.rel.goNew hp)) (.ol upd_same (i1.up (.new hp))) (by simp) (fun a z => ?_)
      rw [List.mem_singleton.mp z]
      exact ⟨k1.kp.free hp, k1.rel.notIn hp⟩
    · cases h
  · cases h
theorem qf_if {c : M Bool} {fx fy : M SV} {ce x y : Expr} (hc : QT X g ce c) (ha : QF X g x fx) (hb : QF X g y fy) : QF X g (.IfExp ce x y pos) (fIf c fx fy) := by
  refine pe_conv (pe_ifExp hc ha hb) ?_
  rintro σ H Q ⟨ρ, own, d, ρ', h, R, k⟩
  unfold fIf at h
  split at h
  · rename_i ρ1 h1
    exact ⟨ρ, own, _, ρ1, h1, R, fun ow1 H1 k1 => iteT ⟨ρ1, ow1, d, ρ', h, k1.rel, fun w ow2 H2 ow k2 i2 nd hf => k w ow2 H2 ow (k1.trans k2) i2 nd fun a z => ⟨k1.kp.free (hf a z).1, (hf a z).2⟩⟩⟩
  · rename_i ρ1 h1
    exact ⟨ρ, own, _, ρ1, h1, R, fun ow1 H1 k1 => iteF ⟨ρ1, ow1, d, ρ', h, k1.rel, fun w ow2 H2 ow k2 i2 nd hf => k w ow2 H2 ow (k1.trans k2) i2 nd fun a z => ⟨k1.kp.free (hf a z).1, (hf a z).2⟩⟩⟩
  · cases h
theorem qfs_nil : QFs X g [] fsNil := by
  refine pa_conv pa_nil ?_
  rintro σ H Q ⟨ρ, own, d, ρ', h, R, k⟩
  cases h
  exact k [] own H [] (.refl R) .nil (by simp) (fun a z => by cases z)
theorem qfs_cons {f : M SV} {fr : M (List SV)} (ha : QF X g e f) (hr : QFs X g es fr) (hs : starEach (e :: es) X.env = (false, eval e X.env) :: starEach es X.env := by rfl) : QFs X g (e :: es) (fsCons f fr) := by
  refine pa_conv (pa_cons ha hr hs) ?_
  rintro σ H Q ⟨ρ, own, d, ρ', h, R, k⟩
  unfold fsCons at h
  split at h
  · rename_i sv ρ1 h1
    cases h2 : fr ρ1 with
    | none => simp only [h2] at h; cases h
    | some q =>
      obtain ⟨svs, ρ2⟩ := q
      simp only [h2] at h
      cases h
      refine ⟨ρ, own, sv, ρ1, h1, R, fun v ow1 H1 ow k1 i1 nd1 f1 => ⟨ρ1, ow1, svs, ρ', h2, k1.rel, fun vs ow2 H2 ows k2 i2 nd2 f2 => ?_⟩⟩
      have there : ∀ a ∈ ow, ∃ o, H1 a = some o := fun a z => let ⟨o, e, _⟩ := i1.mut a z; ⟨o, e⟩
      refine k _ ow2 H2 (ow :: ows) (k1.trans k2) (.cons (i1.up k2.kp.imm fun a z o q m => k2.kp.ext a o q (f1 a z).2 m) i2) ?_ (fun a z => ?_)
      · rw [List.flatten_cons, List.nodup_append]
        refine ⟨nd1, nd2, fun a ha b hb e => ?_⟩
        subst e
        obtain ⟨o, e⟩ := there a ha
        rw [(f2 a hb).1] at e
        cases e
      · rw [List.flatten_cons, List.mem_append] at z
        rcases z with z | z
        · refine ⟨(f1 a z).1, fun q => ?_⟩
          rcases k2.sub a q with q | q
          · exact (f1 a z).2 q
          · obtain ⟨o, e⟩ := there a z
            rw [q] at e
            cases e
        · exact ⟨k1.kp.free (f2 a z).1, (f2 a z).2⟩
  · cases h
/-! ### names take fresh values -/
def setR (ρ : Rho) : List Nat → List SV → Rho
  | i :: is, sv :: svs => setR (ρ.set i (some sv)) is svs
  | _, _ => ρ
def setS (σ : L2.St) : List Nat → List V → L2.St
  | i :: is, v :: vs => setS (σ.set i (some v)) is vs
  | _, _ => σ
theorem puts {K : KW} {H : Hp} : ∀ {is : List Nat} {vs : List V} {svs : List SV} {ows : List (List Addr)} {σ : L2.St} {ρ : Rho} {own : Own}, RelE K g σ ρ own H → is.all (okSlot g) = true → RelSs K H vs svs ows → ows.flatten.Nodup → (∀ a ∈ ows.flatten, ¬ InO own a) →
    ∃ own', RelE K g (setS σ is vs) (setR ρ is svs) own' H ∧ (∀ a, InO own' a → InO own a ∨ a ∈ ows.flatten) ∧ ∀ j, j < g.pn → (setS σ is vs)[j]? = σ[j]?
  | [], vs, svs, ows, σ, ρ, own, R, _, h, _, _ => ⟨own, by cases h <;> exact R, fun a z => .inl z, fun j hj => by cases h <;> rfl⟩
  | i :: is, _, _, _, σ, ρ, own, R, _, .nil, _, _ => ⟨own, R, fun a z => .inl z, fun j hj => rfl⟩
  | i :: is, _, _, _, σ, ρ, own, R, hk, .cons (v := v) (sv := sv) (ow := ow) (vs := vs) (svs := svs) (ows := ows) h1 h2, nd, hf => by
    rw [List.all_cons, Bool.and_eq_true] at hk
    rw [List.flatten_cons, List.nodup_append] at nd
    have R1 := R.put hk.1 h1 (fun a ha j _ hj => hf a (by simp [ha]) ⟨j, hj⟩)
    obtain ⟨own', r1, r2, r3⟩ := puts (is := is) R1 hk.2 h2 nd.2.1 (fun a ha z => by
      rcases set_sub z with z | z
      · exact hf a (by rw [List.flatten_cons, List.mem_append]; exact .inr ha) z
      · exact nd.2.2 a (if_mem z) a ha rfl)
    refine ⟨own', r1, fun a z => ?_, fun j hj => ?_⟩
    · rw [List.flatten_cons, List.mem_append]
      rcases r2 a z with z | z
      · rcases set_sub z with z | z
        · exact .inl z
        · exact .inr (.inl (if_mem z))
      · exact .inr (.inr z)
    · exact (r3 j hj).trans (List.getElem?_set_ne (by have := okSlot.le hk.1; omega))
def sPutF (is : List Nat) (fs : M (List SV)) : MS := fun ρ => match fs ρ with
  | some (svs, ρ1) => if svs.length = is.length then some (.nx, setR ρ1 is svs) else none
  | none => none
theorem putF_of {K : KW} {is : List Nat} {fs : M (List SV)} (hk : is.all (okSlot g) = true) {Dn : Ends} {σ : L2.St} {H : Hp} (h : xS K g (sPutF is fs) Dn σ H) : xFs K g fs σ H fun vs H1 => vs.length = is.length ∧ Dn.nx (setS σ is vs) H1 := by
  obtain ⟨ρ, own, fl, ρ', h, R, k⟩ := h
  unfold sPutF at h
  split at h
  · rename_i svs ρ1 h1
    split at h
    · rename_i hl
      cases h
      refine ⟨ρ, own, svs, ρ1, h1, R, fun vs ow1 H1 ows k1 i1 nd f1 => ⟨i1.len.trans hl, ?_⟩⟩
      obtain ⟨own', r1, r2, r3⟩ := puts k1.rel hk i1 nd (fun a z => (f1 a z).2)
      refine k _ own' H1 ⟨k1.kp, fun a z => ?_, fun j hj => (r3 j hj).trans (k1.pin j hj), r1⟩
      rcases r2 a z with z | z
      · exact k1.sub a z
      · exact .inr (f1 a z).1
    · cases h
  · cases h
theorem xFs_mono {K : KW} {fs : M (List SV)} {σ : L2.St} {H : Hp} {Q Q' : List V → Hp → Prop} (h : xFs K g fs σ H Q) (c : ∀ vs H', Q vs H' → Q' vs H') : xFs K g fs σ H Q' := by
  obtain ⟨ρ, own, svs, ρ', h1, R, k⟩ := h
  exact ⟨ρ, own, svs, ρ', h1, R, fun vs ow H1 ows a b c' d => c _ _ (k vs ow H1 ows a b c' d)⟩
/-- name = e -/
theorem q_set1 (i : Nat) {x : Str} {pos' : Pos} {f : M SV} (hN : X.N.Nodup) (he : QF X g e f) (hl : okSlot g i = true := by rfl) (hi : X.N[i]? = some x := by rfl) (hx : Loc X.env.scope x := by first | exact .inl rfl | exact .inr rfl) (hs : swapsWith e (some (.Name x pos')) pos.line X.env = pure false := by rfl)
    (hf : X.fn x = true ∨ X.env.scope.names.lookup x = some .local := by first | exact .inl rfl | exact .inr rfl) : QS X g (.Assign [.Name x pos'] e pos) (sPutF [i] (fsCons f fsNil)) := by
  refine ps_conv (ps_set hN hi hx he hs hf) ?_
  intro Dn σ H h
  obtain ⟨ρ, own, svs, ρ', h1, R, k⟩ := putF_of (by simp [hl]) h
  unfold fsCons fsNil at h1
  split at h1
  · rename_i sv ρ1 h2
    simp only at h1
    cases h1
    refine ⟨ρ, own, sv, ρ', h2, R, fun v ow1 H1 ow k1 i1 nd f1 => ?_⟩
    have := (k [v] ow1 H1 [ow] k1 (.cons i1 .nil) (by simpa using nd) (fun a z => f1 a (by simpa using z))).2
    exact this
  · cases h1
/-- a, b = x, y (local names) -/
theorem q_par2F (i j : Nat) {x y : Str} {ea eb : Expr} {fs : M (List SV)} {px py pt : Pos} {kt k2 pt2} (hN : X.N.Nodup) (ha : QFs X g [ea, eb] fs) (hl : okSlot g i = true := by rfl) (hl2 : okSlot g j = true := by rfl) (hij : i ≠ j := by decide) (hc : X.calm = true := by rfl) (hi : X.N[i]? = some x := by rfl) (hj : X.N[j]? = some y := by rfl)
    (hx : X.env.scope.names.lookup x = some .local := by rfl) (hy : X.env.scope.names.lookup y = some .local := by rfl)
    (hw : swappedStores [.Tuple [.Name x px, .Name y py] kt pt] (.Tuple [ea, eb] k2 pt2) X.env = pure (some [x, y]) := by rfl)
    (hs : swapsWithSole [.Tuple [.Name x px, .Name y py] kt pt] (.Tuple [ea, eb] k2 pt2) pos.line X.env = pure false := by rfl) :
    QS X g (.Assign [.Tuple [.Name x px, .Name y py] kt pt] (.Tuple [ea, eb] k2 pt2) pos) (sPutF [i, j] fs) := by
  refine ps_conv (ps_par hc hN hi hj hij hx hy ha hw hs) ?_
  intro Dn σ H h
  refine xFs_mono (putF_of (by simp [hl, hl2]) h) fun vs H1 ⟨h1, h2⟩ => ?_
  match vs, h1, h2 with
  | [v, w], _, h2 => exact ⟨v, w, rfl, h2⟩
theorem q_par3F (i j l : Nat) {x y z : Str} {ea eb ec : Expr} {fs : M (List SV)} {px py pz pt : Pos} {kt k2 pt2} (hN : X.N.Nodup) (ha : QFs X g [ea, eb, ec] fs) (hl1 : okSlot g i = true := by rfl) (hl2 : okSlot g j = true := by rfl) (hl3 : okSlot g l = true := by rfl) (hij : i ≠ j := by decide) (hil : i ≠ l := by decide) (hjl : j ≠ l := by decide) (hc : X.calm = true := by rfl)
    (hi : X.N[i]? = some x := by rfl) (hj : X.N[j]? = some y := by rfl) (hl : X.N[l]? = some z := by rfl)
    (hx : X.env.scope.names.lookup x = some .local := by rfl) (hy : X.env.scope.names.lookup y = some .local := by rfl) (hz : X.env.scope.names.lookup z = some .local := by rfl)
    (hw : swappedStores [.Tuple [.Name x px, .Name y py, .Name z pz] kt pt] (.Tuple [ea, eb, ec] k2 pt2) X.env = pure (some [x, y, z]) := by rfl)
    (hs : swapsWithSole [.Tuple [.Name x px, .Name y py, .Name z pz] kt pt] (.Tuple [ea, eb, ec] k2 pt2) pos.line X.env = pure false := by rfl) :
    QS X g (.Assign [.Tuple [.Name x px, .Name y py, .Name z pz] kt pt] (.Tuple [ea, eb, ec] k2 pt2) pos) (sPutF [i, j, l] fs) := by
  refine ps_conv (ps_par3 hc hN hi hj hl hij hil hjl hx hy hz ha hw hs) ?_
  intro Dn σ H h
  refine xFs_mono (putF_of (by simp [hl1, hl2, hl3]) h) fun vs H1 ⟨h1, h2⟩ => ?_
  match vs, h1, h2 with
  | [u, v, w], _, h2 => exact ⟨u, v, w, rfl, h2⟩
/-- the same by a tuple that is taken apart (names that are cells) -/
theorem xFs_off {K : KW} {fs : M (List SV)} {is : List Nat} {σ : L2.St} {H : Hp} {Dn : Ends} (hk : is.all (okSlot g) = true) (h : xS K g (sPutF is fs) Dn σ H) : xFs K g fs σ H fun vs H1 => vs.length = is.length ∧ ∀ p, H1 p = none → Dn.nx (setS σ is vs) (upd H1 p (.tup vs)) := by
  obtain ⟨ρ, own, fl, ρ', h, R, k⟩ := h
  unfold sPutF at h
  split at h
  · rename_i svs ρ1 h1
    split at h
    · rename_i hl
      cases h
      refine ⟨ρ, own, svs, ρ1, h1, R, fun vs ow1 H1 ows k1 i1 nd f1 => ⟨i1.len.trans hl, fun p hp => ?_⟩⟩
      obtain ⟨own', r1, r2, r3⟩ := puts k1.rel hk i1 nd (fun a z => (f1 a z).2)
      have go1 : Go K g σ own H (setS σ is vs) (setR ρ1 is svs) own' H1 := ⟨k1.kp, fun a z => by
        rcases r2 a z with z | z
        · exact k1.sub a z
        · exact .inr (f1 a z).1, fun j hj => (r3 j hj).trans (k1.pin j hj), r1⟩
      exact k _ own' _ (go1.trans (r1.goNew hp))
    · cases h
  · cases h
theorem q_par2C (i j : Nat) {x y : Str} {ea eb : Expr} {fs : M (List SV)} {px py pt : Pos} {kt k2 pt2} (hN : X.N.Nodup) (ha : QFs X g [ea, eb] fs) (hl : okSlot g i = true := by rfl) (hl2 : okSlot g j = true := by rfl) (hc : X.calm = true := by rfl) (hi : X.N[i]? = some x := by rfl) (hj : X.N[j]? = some y := by rfl)
    (hx : Loc X.env.scope x := by first | exact .inl rfl | exact .inr rfl) (hfx : X.fn x = true ∨ X.env.scope.names.lookup x = some .local := by first | exact .inl rfl | exact .inr rfl)
    (hy : Loc X.env.scope y := by first | exact .inl rfl | exact .inr rfl) (hfy : X.fn y = true ∨ X.env.scope.names.lookup y = some .local := by first | exact .inl rfl | exact .inr rfl)
    (hs : swapsWithSole [.Tuple [.Name x px, .Name y py] kt pt] (.Tuple [ea, eb] k2 pt2) pos.line X.env = pure false := by rfl) (hw : swappedStores [.Tuple [.Name x px, .Name y py] kt pt] (.Tuple [ea, eb] k2 pt2) X.env = pure none := by rfl)
    (h1 : (assignEach [.Tuple [.Name x px, .Name y py] kt pt] X.env).map (·.2) = [assign (.Tuple [.Name x px, .Name y py] kt pt) X.env] := by rfl)
    (h2 : (assignEach [.Name x px, .Name y py] X.env).map (·.2) = assign (.Name x px) X.env :: (assignEach [.Name y py] X.env).map (·.2) := by rfl)
    (h3 : (assignEach [.Name y py] X.env).map (·.2) = assign (.Name y py) X.env :: (assignEach [] X.env).map (·.2) := by rfl)
    (hn : (assignEach [.Name x px, .Name y py] X.env).length = 2 := by rfl) (hst : (assignEach [.Name x px, .Name y py] X.env).findIdx? (·.1) = none := by rfl) :
    QS X g (.Assign [.Tuple [.Name x px, .Name y py] kt pt] (.Tuple [ea, eb] k2 pt2) pos) (sPutF [i, j] fs) := by
  refine ps_conv (ps_asg (pe_tup ha) (pg_tup hc (pgs_cons (pg_name hN hi hx hfx) (pgs_cons (pg_name hN hj hy hfy) pgs_nil h3) h2) hn hst) hs hw h1) ?_
  intro Dn σ H h
  refine xFs_mono (xFs_off (by simp [hl, hl2]) h) fun vs H1 ⟨hv, h2⟩ => ?_
  match vs, hv, h2 with
  | [v, w], _, h2 =>
    refine ⟨by show 2 ≤ sizeLine; decide, fun p hp => ⟨p, [v, w], rfl, .of upd_same, rfl, v, [w], rfl, w, [], rfl, rfl, h2 p hp⟩⟩
theorem q_par3C (i j l : Nat) {x y z : Str} {ea eb ec : Expr} {fs : M (List SV)} {px py pz pt : Pos} {kt k2 pt2} (hN : X.N.Nodup) (ha : QFs X g [ea, eb, ec] fs) (hl : okSlot g i = true := by rfl) (hl2 : okSlot g j = true := by rfl) (hl3 : okSlot g l = true := by rfl) (hc : X.calm = true := by rfl) (hi : X.N[i]? = some x := by rfl) (hj : X.N[j]? = some y := by rfl) (hk : X.N[l]? = some z := by rfl)
    (hx : Loc X.env.scope x := by first | exact .inl rfl | exact .inr rfl) (hfx : X.fn x = true ∨ X.env.scope.names.lookup x = some .local := by first | exact .inl rfl | exact .inr rfl)
    (hy : Loc X.env.scope y := by first | exact .inl rfl | exact .inr rfl) (hfy : X.fn y = true ∨ X.env.scope.names.lookup y = some .local := by first | exact .inl rfl | exact .inr rfl)
    (hz : Loc X.env.scope z := by first | exact .inl rfl | exact .inr rfl) (hfz : X.fn z = true ∨ X.env.scope.names.lookup z = some .local := by first | exact .inl rfl | exact .inr rfl)
    (hs : swapsWithSole [.Tuple [.Name x px, .Name y py, .Name z pz] kt pt] (.Tuple [ea, eb, ec] k2 pt2) pos.line X.env = pure false := by rfl) (hw : swappedStores [.Tuple [.Name x px, .Name y py, .Name z pz] kt pt] (.Tuple [ea, eb, ec] k2 pt2) X.env = pure none := by rfl)
    (h1 : (assignEach [.Tuple [.Name x px, .Name y py, .Name z pz] kt pt] X.env).map (·.2) = [assign (.Tuple [.Name x px, .Name y py, .Name z pz] kt pt) X.env] := by rfl)
    (h2 : (assignEach [.Name x px, .Name y py, .Name z pz] X.env).map (·.2) = assign (.Name x px) X.env :: (assignEach [.Name y py, .Name z pz] X.env).map (·.2) := by rfl)
    (h3 : (assignEach [.Name y py, .Name z pz] X.env).map (·.2) = assign (.Name y py) X.env :: (assignEach [.Name z pz] X.env).map (·.2) := by rfl)
    (h4 : (assignEach [.Name z pz] X.env).map (·.2) = assign (.Name z pz) X.env :: (assignEach [] X.env).map (·.2) := by rfl)
    (hn : (assignEach [.Name x px, .Name y py, .Name z pz] X.env).length = 3 := by rfl) (hst : (assignEach [.Name x px, .Name y py, .Name z pz] X.env).findIdx? (·.1) = none := by rfl) :
    QS X g (.Assign [.Tuple [.Name x px, .Name y py, .Name z pz] kt pt] (.Tuple [ea, eb, ec] k2 pt2) pos) (sPutF [i, j, l] fs) := by
  refine ps_conv (ps_asg (pe_tup ha) (pg_tup hc (pgs_cons (pg_name hN hi hx hfx) (pgs_cons (pg_name hN hj hy hfy) (pgs_cons (pg_name hN hk hz hfz) pgs_nil h4) h3) h2) hn hst) hs hw h1) ?_
  intro Dn σ H h
  refine xFs_mono (xFs_off (by simp [hl, hl2, hl3]) h) fun vs H1 ⟨hv, h2⟩ => ?_
  match vs, hv, h2 with
  | [u, v, w], _, h2 =>
    refine ⟨by show 3 ≤ sizeLine; decide, fun p hp => ⟨p, [u, v, w], rfl, .of upd_same, rfl, u, [v, w], rfl, v, [w], rfl, w, [], rfl, rfl, h2 p hp⟩⟩
end
end VS

namespace VS
open PySem PySem.Spec PyProof.Rows L2

/-! ### dicts that belong to slots -/
def isOd (ρ : Rho) (j : Nat) : Option (List (D × D)) := match ρ[j]? with
  | some (some (.od kvs)) => some kvs
  | _ => none
theorem isOd_some {ρ : Rho} {j : Nat} {kvs : List (D × D)} (h : isOd ρ j = some kvs) : ρ[j]? = some (some (.od kvs)) := by
  unfold isOd at h
  split at h
  · rename_i es' h1
    cases h
    exact h1
  · cases h
def isOdl (ρ : Rho) (j : Nat) : Option (List (D × List D)) := match ρ[j]? with
  | some (some (.odl kvs)) => some kvs
  | _ => none
theorem isOdl_some {ρ : Rho} {j : Nat} {kvs : List (D × List D)} (h : isOdl ρ j = some kvs) : ρ[j]? = some (some (.odl kvs)) := by
  unfold isOdl at h
  split at h
  · rename_i es' h1
    cases h
    exact h1
  · cases h
theorem ext_code {a : Addr} {φ : Heap → Prop} (h : ∀ hp, φ hp → ∃ o es ep, hp.get? a = some o ∧ o.data = .dict es ep) : ∀ q, HO.ext φ ≠ LamX.CodeO a q := fun q z => by
  unfold LamX.CodeO at z
  have e : φ = fun h => ∃ (oc : Obj) (vs : Array Value) (t : Tok), h.get? a = some oc ∧ oc.data = .fields vs ∧ vs[1]? = some (.str q t) := HO.ext.inj z
  have h0 : (Heap.push ⟨Array.replicate a default, {}⟩ { cls := .none, data := .fields #[.none, .str q 0] }).get? a = some { cls := .none, data := .fields #[.none, .str q 0] } := by
    have := Heap.get?_push_size (⟨Array.replicate a default, {}⟩ : Heap) (o := { cls := .none, data := .fields #[.none, .str q 0] }) rfl
    simpa using this
  have h1 : φ (Heap.push ⟨Array.replicate a default, {}⟩ { cls := .none, data := .fields #[.none, .str q 0] }) := by
    rw [e]
    exact ⟨_, _, 0, h0, rfl, rfl⟩
  obtain ⟨o, es, ep, e1, e2⟩ := h _ h1
  rw [h0] at e1
  cases e1
  cases e2
theorem do_code {K : KW} {a : Addr} {xs : List Ent} : ∀ q, DO K a xs ≠ LamX.CodeO a q := ext_code fun h ⟨_, _, _, ys, o, es, ep, _, e1, _, e3, _⟩ => ⟨o, es, ep, e1, e3⟩
section
variable {K : KW} {g : Gx} {σ : L2.St} {ρ : Rho} {own : Own} {H H1 H' : Hp}
theorem RelE.odAt (r : RelE K g σ ρ own H) {j : Nat} {kvs : List (D × D)} (h : ρ[j]? = some (some (.od kvs))) : ∃ a xs, σ[j]? = some (some (.ref a)) ∧ H a = some (DO K a xs) ∧ DEnt K H xs kvs ∧ own j = [a] := by
  have c := r.ct j
  rw [h] at c
  obtain ⟨v, e, rs⟩ := c
  generalize ho : own j = oj at rs
  cases rs with
  | od i1 i2 => exact ⟨_, _, e, i1, i2, rfl⟩
theorem RelE.odlAt (r : RelE K g σ ρ own H) {j : Nat} {kvs : List (D × List D)} (h : ρ[j]? = some (some (.odl kvs))) : ∃ a xs ls, σ[j]? = some (some (.ref a)) ∧ H a = some (DO K a xs) ∧ DLst K H xs kvs ls ∧ (a :: ls).Nodup ∧ own j = a :: ls ∧ (xs.map (·.1)).Nodup := by
  have c := r.ct j
  rw [h] at c
  obtain ⟨v, e, rs⟩ := c
  generalize ho : own j = oj at rs
  cases rs with
  | odl i1 i2 i3 i4 => exact ⟨_, _, _, e, i1, i2, i3, rfl, i4⟩
/-- what is slot j's own is changed (B: a part of it, or new things) -/
theorem RelE.turnG (r : RelE K g σ ρ own H) {j : Nat} {v : V} {sv0 sv : SV} {ow : List Addr} {B : Addr → Prop} (h : ρ[j]? = some (some sv0)) (hs : σ[j]? = some (some v)) (k : Kp g.T B H H') (hB : ∀ a, B a → a ∈ own j ∨ H a = none) (h1 : RelS K H' v sv ow) (ho : ∀ b ∈ ow, b ∈ own j ∨ H b = none) :
    Go K g σ own H σ (ρ.set j (some sv)) (own.set j ow) H' := by
  have hl : j < ρ.length := (List.getElem?_eq_some_iff.mp h).1
  have nin : ∀ i b, i ≠ j → b ∈ own i → ¬ (b ∈ own j ∨ H b = none) := fun i b hi hb z => by
    rcases z with z | z
    · exact hi (r.dj i j b hb z)
    · exact r.notIn z ⟨i, hb⟩
  refine ⟨k.sub (fun b z => (hB b z).elim (fun z => .inl ⟨j, z⟩) .inr), fun b z => (set_sub z).elim .inl (fun z => (ho b z).elim (fun z => .inl ⟨j, z⟩) .inr), fun _ _ => rfl, k.tb r.tb, r.len, fun i l b hi hl => ?_, fun i => ?_⟩
  · by_cases ei : i = j
    · subst ei
      rw [Own.set_i] at hi
      by_cases el : l = i
      · exact el.symm
      · rw [Own.set_ne el] at hl
        exact absurd (ho b hi) (nin l b el hl)
    · rw [Own.set_ne ei] at hi
      by_cases el : l = j
      · subst el
        rw [Own.set_i] at hl
        exact absurd (ho b hl) (nin i b ei hi)
      · rw [Own.set_ne el] at hl
        exact r.dj i l b hi hl
  · by_cases ei : i = j
    · subst ei
      rw [Own.set_i, List.getElem?_set_self hl, hs]
      exact ⟨_, rfl, h1⟩
    · rw [Own.set_ne ei, List.getElem?_set_ne (Ne.symm ei)]
      refine (r.ct i).map fun w s rs => ?_
      exact rs.up k.imm fun b hb o q m => k.ext b o q (fun z => nin i b ei hb (hB b z)) m
theorem RelE.changeD (r : RelE K g σ ρ own H) {j : Nat} {kvs kvs' : List (D × D)} {a : Addr} {xs' : List Ent} (h : ρ[j]? = some (some (.od kvs))) (hs : σ[j]? = some (some (.ref a))) (k : Kp g.T (B1 a) H H') (h1 : H' a = some (DO K a xs')) (h2 : DEnt K H' xs' kvs') :
    ∃ own', Go K g σ own H σ (ρ.set j (some (.od kvs'))) own' H' := by
  obtain ⟨a', xs, e1, e2, e3, e4⟩ := r.odAt h
  rw [hs] at e1
  cases e1
  exact ⟨_, r.turnG h hs k (fun b z => .inl (by rw [z, e4]; simp)) (.od h1 h2) (fun b z => .inl (by rw [e4]; exact z))⟩
theorem RelE.freezeD (r : RelE K g σ ρ own H) {j : Nat} {kvs : List (D × D)} {a : Addr} {xs : List Ent} (h : ρ[j]? = some (some (.od kvs))) (hs : σ[j]? = some (some (.ref a))) (h1 : H a = some (DO K a xs)) (h2 : DEnt K H xs kvs) (o : Obj) :
    (∃ own', Go K g σ own H σ (ρ.set j (some (.dat (.dict kvs)))) own' (upd H a (.frz o (DO K a xs)))) ∧ Im K (upd H a (.frz o (DO K a xs))) (.ref a) (.dict kvs) := by
  obtain ⟨a', xs', e1, e2, e3, e4⟩ := r.odAt h
  rw [hs] at e1
  cases e1
  have im : Im K (upd H a (.frz o (DO K a xs))) (.ref a) (.dict kvs) := .dct upd_same (h2.up (.mut h1 trivial do_code))
  exact ⟨⟨_, r.turnG h hs (.write h1 trivial do_code) (fun b z => .inl (by rw [z, e4]; simp)) (.dat im) (fun b z => absurd z (by simp))⟩, im⟩
end
section
variable {X : Cx} {g : Gx} {pos : Pos} {e a b : Expr} {es : List Expr} {fs : M (List D)} {f fa fb : M D}
/-- x in own, x not in own -/
def eDIn (neg : Bool) (j : Nat) (f : M D) : M D := fun ρ => match f ρ with
  | some (d, ρ1) => (match isOd ρ1 j, keyD d with
    | some kvs, some k => some (.bool (neg ^^ (lookD kvs k).isSome), ρ1)
    | _, _ => none)
  | none => none
theorem eDIn_some {neg : Bool} {j : Nat} {ρ ρ' : Rho} {d : D} (h : eDIn neg j f ρ = some (d, ρ')) : ∃ x kvs k, f ρ = some (x, ρ') ∧ isOd ρ' j = some kvs ∧ keyD x = some k ∧ d = .bool (neg ^^ (lookD kvs k).isSome) := by
  unfold eDIn at h
  split at h
  · rename_i x ρ1 h1
    split at h
    · rename_i kvs k h2 h3
      cases h
      exact ⟨x, kvs, k, h1, h2, h3, rfl⟩
    · cases h
  · cases h
theorem din_of {K : KW} {neg : Bool} {j : Nat} : ∀ σ H Q, xE K g (eDIn neg j f) σ H Q → tOp (rDIn K neg) (xE K g f) (tVar j) σ H Q := by
  rintro σ H Q ⟨ρ, own, d, ρ', h, R, k⟩
  obtain ⟨x, kvs, key, h1, h2, h3, rfl⟩ := eDIn_some h
  refine ⟨ρ, own, x, ρ', h1, R, fun v ow1 H1 k1 i1 => ?_⟩
  obtain ⟨a, xs, q1, q2, q3, _⟩ := k1.rel.odAt (isOd_some h2)
  refine ⟨.ref a, q1, a, xs, key, x, rfl, .of q2, q3.keys, h3, i1, ?_⟩
  have e := q3.isSome key
  have := k (.bl (neg ^^ (lookD kvs key).isSome)) ow1 H1 k1 (.bl _)
  rw [e]
  cases neg
  · rw [Bool.false_xor] at this
    exact this
  · rw [Bool.true_xor] at this
    exact this
theorem q_dIn (j : Nat) {y : Str} {p2 : Pos} {kk : Nat} (hr : Room kk X.A) (hb : QE X g b f) (hN : X.N[j]? = some y := by rfl) (hv : Vis X.env.scope y := by first | exact Or.inl rfl | exact Or.inr (Or.inl rfl) | exact Or.inr (Or.inr rfl))
    (hdy : (y == ("__debug__" : Str)) = false := by decide) (hcd : (y == ("__classdict__" : Str)) = false := by decide) (hm : behindInMarks .In (.Name y p2) = false := by first | exact nomark _ | rfl) : QE X g (.Compare b [.In] [.Name y p2] pos) (eDIn false j f) :=
  pe_conv (pe_cmpR (op_dIn (by have := hr.un; omega)) hb (pe_var hN hv hdy hcd) hm) din_of
theorem q_dNin (j : Nat) {y : Str} {p2 : Pos} {kk : Nat} (hr : Room kk X.A) (hb : QE X g b f) (hN : X.N[j]? = some y := by rfl) (hv : Vis X.env.scope y := by first | exact Or.inl rfl | exact Or.inr (Or.inl rfl) | exact Or.inr (Or.inr rfl))
    (hdy : (y == ("__debug__" : Str)) = false := by decide) (hcd : (y == ("__classdict__" : Str)) = false := by decide) (hm : behindInMarks .NotIn (.Name y p2) = false := by first | exact nomark _ | rfl) : QE X g (.Compare b [.NotIn] [.Name y p2] pos) (eDIn true j f) :=
  pe_conv (pe_cmpR (op_dNotIn (by have := hr.un; omega)) hb (pe_var hN hv hdy hcd) hm) din_of
theorem dinT_of {K : KW} {neg : Bool} {j : Nat} : ∀ σ H Q, xT K g (e1 asB (eDIn neg j f)) σ H Q → tTest (tOp (rDIn K neg) (xE K g f) (tVar j)) σ H Q := by
  rintro σ H Q ⟨ρ, own, d, ρ', h, R, k⟩
  obtain ⟨x, h3, h4⟩ := e1_some h
  refine din_of σ H _ ⟨ρ, own, x, ρ', h3, R, fun v ow1 H1 k1 i1 => ?_⟩
  cases x with
  | bool b =>
    cases h4
    exact ⟨_, i1.ofBool, k ow1 H1 k1⟩
  | _ => cases h4
theorem qt_dIn (j : Nat) {y : Str} {p2 : Pos} {kk : Nat} (hr : Room kk X.A) (hb : QE X g b f) (hN : X.N[j]? = some y := by rfl) (hv : Vis X.env.scope y := by first | exact Or.inl rfl | exact Or.inr (Or.inl rfl) | exact Or.inr (Or.inr rfl))
    (hdy : (y == ("__debug__" : Str)) = false := by decide) (hcd : (y == ("__classdict__" : Str)) = false := by decide) (hm : behindInMarks .In (.Name y p2) = false := by first | exact nomark _ | rfl) : QT X g (.Compare b [.In] [.Name y p2] pos) (e1 asB (eDIn false j f)) :=
  pt_conv (pt_cmpR (op_dIn (by have := hr.un; omega)) hb (pe_var hN hv hdy hcd) hm) dinT_of
theorem qt_dNin (j : Nat) {y : Str} {p2 : Pos} {kk : Nat} (hr : Room kk X.A) (hb : QE X g b f) (hN : X.N[j]? = some y := by rfl) (hv : Vis X.env.scope y := by first | exact Or.inl rfl | exact Or.inr (Or.inl rfl) | exact Or.inr (Or.inr rfl))
    (hdy : (y == ("__debug__" : Str)) = false := by decide) (hcd : (y == ("__classdict__" : Str)) = false := by decide) (hm : behindInMarks .NotIn (.Name y p2) = false := by first | exact nomark _ | rfl) : QT X g (.Compare b [.NotIn] [.Name y p2] pos) (e1 asB (eDIn true j f)) :=
  pt_conv (pt_cmpR (op_dNotIn (by have := hr.un; omega)) hb (pe_var hN hv hdy hcd) hm) dinT_of
/-- own[x] -/
def eDIx (j : Nat) (f : M D) : M D := fun ρ => match isOd ρ j with
  | none => none
  | some _ => match f ρ with
    | some (d, ρ1) => (match isOd ρ1 j, keyD d with
      | some kvs, some k => (match lookD kvs k with | some z => some (z, ρ1) | none => none)
      | _, _ => none)
    | none => none
theorem q_dIx (j : Nat) {y : Str} {p2 : Pos} {kk : Nat} (hr : Room kk X.A) (hb : QE X g b f) (hN : X.N[j]? = some y := by rfl) (hv : Vis X.env.scope y := by first | exact Or.inl rfl | exact Or.inr (Or.inl rfl) | exact Or.inr (Or.inr rfl))
    (hdy : (y == ("__debug__" : Str)) = false := by decide) (hcd : (y == ("__classdict__" : Str)) = false := by decide) (hs : PlainIx b := by exact fun _ _ => rfl) : QE X g (.Subscript (.Name y p2) b pos) (eDIx j f) := by
  refine pe_conv (pe_ix (ix_dict (by have := hr.un; omega)) (pe_var hN hv hdy hcd) hb hs) ?_
  rintro σ H Q ⟨ρ, own, d, ρ', h, R, k⟩
  unfold eDIx at h
  cases h0 : isOd ρ j with
  | none => simp only [h0] at h; cases h
  | some es0 =>
    simp only [h0] at h
    split at h
    · rename_i x ρ1 h1
      split at h
      · rename_i kvs key h2 h3
        cases h4 : lookD kvs key with
        | none => simp only [h4] at h; cases h
        | some z =>
          simp only [h4] at h
          cases h
          obtain ⟨a, xs, q1, _⟩ := R.odAt (isOd_some h0)
          refine ⟨.ref a, q1, ρ, own, _, ρ', h1, R, fun v ow1 H1 k1 i1 => ?_⟩
          obtain ⟨a2, xs2, p1, p2, p3, _⟩ := k1.rel.odAt (isOd_some h2)
          rw [q1] at p1
          cases p1
          rcases p3.look key with ⟨z1, _⟩ | ⟨d', ka, w, z1, z2, z3⟩
          · rw [h4] at z1; cases z1
          rw [h4] at z1
          cases z1
          exact ⟨a, xs2, key, x, ka, w, rfl, .of p2, p3.keys, h3, i1, z2, k w ow1 H1 k1 z3⟩
      · cases h
    · cases h
/-- own, as data from now on -/
def eDTake (j : Nat) : M D := fun ρ => match isOd ρ j with
  | some kvs => some (.dict kvs, ρ.set j (some (.dat (.dict kvs))))
  | none => none
def FinD (K : KW) (v : V) (H : Hp) (Q : VK) : Prop := ∃ a u, v = .ref a ∧ H a = some u ∧ Mut (some u) ∧ ∀ o, Q v (upd H a (.frz o u))
theorem ep_finD {pins : List (Addr × Obj)} {σ : L2.St} {Q : VK} {u : Value} {s : Shared} {K : KW} (h : EP X pins σ (fun v H => FinD K v H Q) u s) : EP X pins σ Q u s := by
  obtain ⟨v, H, I, r, h⟩ := h
  obtain ⟨a, u, rfl, e, mu, h⟩ := h
  obtain ⟨o, I2⟩ := I.lock e mu
  exact ⟨_, _, I2, r, h o⟩
theorem pe_fzD {t : TE} (h : PE X e t) (K : KW) : PE X e (fun σ H Q => t σ H fun v H1 => FinD K v H1 Q) := ⟨fun pins s σ H Q I q => thn (h.run pins s σ H _ I q) fun _ _ q => ep_finD q⟩
theorem q_dTake (j : Nat) {y : Str} (hN : X.N[j]? = some y := by rfl) (hv : Vis X.env.scope y := by first | exact Or.inl rfl | exact Or.inr (Or.inl rfl) | exact Or.inr (Or.inr rfl))
    (hdy : (y == ("__debug__" : Str)) = false := by decide) (hcd : (y == ("__classdict__" : Str)) = false := by decide) : QE X g (.Name y pos) (eDTake j) := by
  refine pe_conv (pe_fzD (pe_var hN hv hdy hcd) (xkw X)) ?_
  rintro σ H Q ⟨ρ, own, d, ρ', h, R, k⟩
  unfold eDTake at h
  cases h0 : isOd ρ j with
  | none => simp only [h0] at h; cases h
  | some es0 =>
    simp only [h0] at h
    cases h
    obtain ⟨a, xs, q1, q2, q3, _⟩ := R.odAt (isOd_some h0)
    refine ⟨.ref a, q1, a, _, rfl, q2, trivial, fun o => ?_⟩
    obtain ⟨⟨ow, go⟩, im⟩ := R.freezeD (isOd_some h0) q1 q2 q3 o
    exact k _ ow _ go im
/-- methods of dicts -/
def TyD (K : KW) (x : V) (H : Hp) : Prop := ∃ a xs, x = .ref a ∧ Rd H a (DO K a xs)
def tBD (K : KW) (r : V → List V → Hp → VK → Prop) (to : TE) (t : TA) : TE := fun σ H Q => to σ H fun x H1 => TyD K x H1 ∧ t σ H1 fun xs H2 => r x xs H2 Q
theorem pe_bd {o : Expr} {name : Str} {id : String} {apos cpos : Pos} {to : TE} {t : TA} {r : V → List V → Hp → VK → Prop} (slot : Slot "dict" name id) (hty : typeOf (.builtin id) = pure (.type "method_descriptor")) (hm : MtR X id r) (ho : PE X o to) (ha : PA X (e :: es) t)
    (hbase : attributeBase o name X.env (eval o X.env) = eval o X.env := by rfl)
    (hfew : ((backTo cpos (starEach (e :: es) X.env)).all (fun x => !x.1) && (backToKw cpos (keywordEach [] X.env)).all (fun x => x.1.isSome)
      && decide ((e :: es).length + ([] : List Keyword).length + (if ([] : List Keyword).isEmpty then 0 else 1) < 30)) = true := by rfl)
    (hline : (apos.endLine == cpos.line) = true := by rfl) (hs : starEach (e :: es) X.env = (false, eval e X.env) :: starEach es X.env := by rfl) (hplain : (backTo cpos (starEach es X.env)).any (·.1) = false := by rfl) :
    PE X (.Call (.Attribute o name apos) (e :: es) [] cpos) (tBD (xkw X) r to t) := by
  refine ⟨fun pins s σ H Q I h => ?_⟩
  refine wpAny_Call_method_late hbase hfew hline rfl (thn (ho.run pins s σ H _ I h) fun v s1 ⟨x, H1, I1, r1, ty, q1⟩ => ?_)
  have hh : s1.TypeIs v "dict" ∧ ∀ a, v = .ref a → ∃ ob, s1.heap.get? a = some ob ∧ ob.dict = none := by
    obtain ⟨a, xs, rfl, rd⟩ := ty
    cases (show v = Value.ref a from r1)
    exact dict_ty I1 rd
  refine ⟨"dict", id, PySem.F.plainAttrs_dict, slot, hty, hh.1, hh.2, ?_⟩
  have hA := ha.run cpos pins s1 σ H1 _ I1 q1
  rw [hs] at hA ⊢
  refine Calls.callWith_builtin (by show (false || (backTo cpos (starEach es X.env)).any (·.1)) = false; rw [hplain] <;> rfl) (Calls.evalArgs_plain ?_)
  exact thn hA fun us s2 ⟨vs, H2, I2, r2, q2⟩ => hm pins s2 σ H2 x vs v us Q I2 r1 r2 q2
/-- own.get(x, y) -/
def eDGet (j : Nat) (fs : M (List D)) : M D := fun ρ => match isOd ρ j with
  | none => none
  | some _ => match fs ρ with
    | some ([d], ρ1) => (match isOd ρ1 j, keyD d with
      | some kvs, some k => some ((lookD kvs k).getD .none, ρ1)
      | _, _ => none)
    | some ([d, z], ρ1) => (match isOd ρ1 j, keyD d with
      | some kvs, some k => some ((lookD kvs k).getD z, ρ1)
      | _, _ => none)
    | _ => none
theorem eDGet_some {j : Nat} {ρ ρ' : Rho} {d : D} (h : eDGet j fs ρ = some (d, ρ')) : ∃ kvs0 x more kvs k, isOd ρ j = some kvs0 ∧ fs ρ = some (x :: more, ρ') ∧ (more = [] ∨ ∃ z, more = [z]) ∧ isOd ρ' j = some kvs ∧ keyD x = some k ∧ d = (lookD kvs k).getD (more.headD .none) := by
  unfold eDGet at h
  split at h
  · cases h
  · rename_i kvs0 h0
    split at h
    · rename_i x ρ1 h1
      split at h
      · rename_i kvs k h2 h3
        cases h
        exact ⟨kvs0, x, [], kvs, k, h0, h1, .inl rfl, h2, h3, rfl⟩
      · cases h
    · rename_i x z ρ1 h1
      split at h
      · rename_i kvs k h2 h3
        cases h
        exact ⟨kvs0, x, [z], kvs, k, h0, h1, .inr ⟨z, rfl⟩, h2, h3, rfl⟩
      · cases h
    · cases h
theorem q_dGet (j : Nat) {y : Str} {p2 apos cpos : Pos} {kk : Nat} (hr : Room kk X.A) (ha : QA X g (e :: es) fs) (hN : X.N[j]? = some y := by rfl) (hv : Vis X.env.scope y := by first | exact Or.inl rfl | exact Or.inr (Or.inl rfl) | exact Or.inr (Or.inr rfl))
    (hdy : (y == ("__debug__" : Str)) = false := by decide) (hcd : (y == ("__classdict__" : Str)) = false := by decide)
    (hs : ∀ {t : TA}, PA X (e :: es) t → PE X (.Call (.Attribute (.Name y p2) "get" apos) (e :: es) [] cpos) (tBD (xkw X) (rDGet (xkw X)) (tVar j) t)) :
    QE X g (.Call (.Attribute (.Name y p2) "get" apos) (e :: es) [] cpos) (eDGet j fs) := by
  refine pe_conv (hs ha) ?_
  rintro σ H Q ⟨ρ, own, d, ρ', h, R, k⟩
  obtain ⟨kvs0, x, more, kvs, key, h0, h1, hm, h2, h3, rfl⟩ := eDGet_some h
  obtain ⟨a, xs, q1, q2, _⟩ := R.odAt (isOd_some h0)
  refine ⟨.ref a, q1, ⟨a, xs, rfl, .of q2⟩, ρ, own, _, ρ', h1, R, fun vs ow1 H1 k1 i1 => ?_⟩
  obtain ⟨a2, xs2, p1, p2, p3, _⟩ := k1.rel.odAt (isOd_some h2)
  rw [q1] at p1
  cases p1
  cases i1 with
  | @cons v vs _ _ i1 i2 =>
    refine ⟨a, xs2, key, x, v, vs, rfl, rfl, ?_, .of p2, p3.keys, h3, i1, ?_⟩
    · rcases hm with rfl | ⟨z, rfl⟩
      · cases i2; exact .inl rfl
      · match vs, i2 with
        | [w], _ => exact .inr ⟨w, rfl⟩
    · refine k _ ow1 H1 k1 ?_
      rcases p3.look key with ⟨z1, z2⟩ | ⟨d', ka, w, z1, z2, z3⟩
      · rw [z1, z2]
        rcases hm with rfl | ⟨z, rfl⟩
        · cases i2; exact .non
        · match vs, i2 with
          | [w], .cons iw _ => exact iw
      · rw [z1, z2]
        exact z3
/-- own.pop(x) -/
def eDPop (j : Nat) (f : M D) : M D := fun ρ => match isOd ρ j with
  | none => none
  | some _ => match f ρ with
    | some (d, ρ1) => (match isOd ρ1 j, keyD d with
      | some kvs, some k => (match lookD kvs k with | some z => some (z, ρ1.set j (some (.od (dropD kvs k)))) | none => none)
      | _, _ => none)
    | none => none
theorem q_dPop (j : Nat) {y : Str} {p2 apos cpos : Pos} {kk : Nat} (hr : Room kk X.A) (hb : QE X g b f) (hN : X.N[j]? = some y := by rfl) (hv : Vis X.env.scope y := by first | exact Or.inl rfl | exact Or.inr (Or.inl rfl) | exact Or.inr (Or.inr rfl))
    (hdy : (y == ("__debug__" : Str)) = false := by decide) (hcd : (y == ("__classdict__" : Str)) = false := by decide) (hst : starEach [b] X.env = (false, eval b X.env) :: starEach [] X.env := by rfl)
    (hs : ∀ {t : TA}, PA X [b] t → PE X (.Call (.Attribute (.Name y p2) "pop" apos) [b] [] cpos) (tBD (xkw X) (rDPop (xkw X)) (tVar j) t)) :
    QE X g (.Call (.Attribute (.Name y p2) "pop" apos) [b] [] cpos) (eDPop j f) := by
  refine pe_conv (hs (pa_cons hb pa_nil hst)) ?_
  rintro σ H Q ⟨ρ, own, d, ρ', h, R, k⟩
  unfold eDPop at h
  cases h0 : isOd ρ j with
  | none => simp only [h0] at h; cases h
  | some es0 =>
    simp only [h0] at h
    split at h
    · rename_i x ρ1 h1
      split at h
      · rename_i kvs key h2 h3
        cases h4 : lookD kvs key with
        | none => simp only [h4] at h; cases h
        | some z =>
          simp only [h4] at h
          cases h
          obtain ⟨a, xs, q1, q2, _⟩ := R.odAt (isOd_some h0)
          refine ⟨.ref a, q1, ⟨a, xs, rfl, .of q2⟩, ρ, own, _, ρ1, h1, R, fun v ow1 H1 k1 i1 => ?_⟩
          obtain ⟨a2, xs2, p1, p2, p3, _⟩ := k1.rel.odAt (isOd_some h2)
          rw [q1] at p1
          cases p1
          rcases p3.look key with ⟨z1, _⟩ | ⟨d', ka, w, z1, z2, z3⟩
          · rw [h4] at z1; cases z1
          rw [h4] at z1
          cases z1
          refine ⟨a, xs2, key, x, v, ka, w, rfl, rfl, p2, p3.keys, h3, i1, z2, ?_⟩
          have kp : Kp g.T (B1 a) H1 (upd H1 a (DO (xkw X) a (dropE xs2 key))) := .write p2 trivial do_code
          obtain ⟨ow2, go⟩ := k1.rel.changeD (isOd_some h2) q1 kp upd_same ((p3.drop key).up kp.imm)
          exact k w ow2 _ (k1.trans go) (z3.up kp.imm)
      · cases h
    · cases h
/-- own[x] = .. -/
def gDSet (j : Nat) (f : M D) : D → Rho → Option Rho := fun d ρ => match isOd ρ j with
  | none => none
  | some _ => match f ρ with
    | some (x, ρ1) => (match isOd ρ1 j, keyD x with
      | some kvs, some k => if kvs.length < most then some (ρ1.set j (some (.od (putD kvs k x d)))) else none
      | _, _ => none)
    | none => none
theorem qg_dSet (j : Nat) {y : Str} {p2 : Pos} {kk : Nat} (hr : Room kk X.A) (hi : QE X g b f) (hN : X.N[j]? = some y := by rfl) (hv : Vis X.env.scope y := by first | exact Or.inl rfl | exact Or.inr (Or.inl rfl) | exact Or.inr (Or.inr rfl))
    (hdy : (y == ("__debug__" : Str)) = false := by decide) (hcd : (y == ("__classdict__" : Str)) = false := by decide)
    (ha : ∀ v, assign (.Subscript (.Name y p2) b pos) X.env v = (do
      let ov ← holding [v] (eval (.Name y p2) X.env)
      let iv ← holding [v, ov] (eval b X.env)
      standAt pos
      holding [v, ov, iv] (setItem ov iv v)
      release [v, ov, iv] []) := by intro _; rfl) : QG X g (.Subscript (.Name y p2) b pos) (gDSet j f) [] := by
  refine pg_conv (pg_sub (pe_var hN hv hdy hcd) hi (set_dict (by have := hr.un; omega)) ha) ?_
  rintro v σ H Q ⟨d, ρ, own, ρ', h, im, R, k⟩
  unfold gDSet at h
  cases h0 : isOd ρ j with
  | none => simp only [h0] at h; cases h
  | some es0 =>
    simp only [h0] at h
    split at h
    · rename_i x ρ1 h1
      split at h
      · rename_i kvs key h2 h3
        split at h
        · rename_i hz
          cases h
          obtain ⟨a, xs, q1, q2, _⟩ := R.odAt (isOd_some h0)
          refine ⟨.ref a, q1, ρ, own, _, ρ1, h1, R, fun iv ow1 H1 k1 i1 => ?_⟩
          obtain ⟨a2, xs2, p1, p2, p3, _⟩ := k1.rel.odAt (isOd_some h2)
          rw [q1] at p1
          cases p1
          obtain ⟨⟨ds, e⟩, e1, e2⟩ := keyD_some h3
          have i1' := i1
          rw [e] at i1'
          obtain ⟨bb, bs, rfl, _⟩ := i1'.ofTup
          refine ⟨a, xs2, key, x, bb, rfl, rfl, p2, p3.keys, h3, i1, by rw [p3.len]; exact Nat.lt_of_lt_of_le hz most_line, ?_⟩
          have kp : Kp g.T (B1 a) H1 (upd H1 a (DO (xkw X) a (putE xs2 key bb v))) := .write p2 trivial do_code
          obtain ⟨ow2, go⟩ := k1.rel.changeD (isOd_some h2) q1 kp upd_same ((p3.put e1 e2 i1 (k1.im im)).up kp.imm)
          exact k σ ow2 _ (k1.trans go) (SameOut.refl _ _)
        · cases h
      · cases h
    · cases h
end
end VS

namespace VS
open PySem PySem.Spec PyProof.Rows L2

/-! ### expressions that change nothing -/
abbrev MP := Rho → Option D
def xP (K : KW) (g : Gx) (f : MP) : TE := fun σ H Q => ∃ ρ own d, f ρ = some d ∧ RelE K g σ ρ own H ∧ ∀ v H', Kp g.T B0 H H' → Im K H' v d → Q v H'
abbrev QP (X : Cx) (g : Gx) (e : Expr) (f : MP) : Prop := PE X e (xP (xkw X) g f)
def xPA (K : KW) (g : Gx) (f : Rho → Option (List D)) : TA := fun σ H Q => ∃ ρ own ds, f ρ = some ds ∧ RelE K g σ ρ own H ∧ ∀ vs H', Kp g.T B0 H H' → ImAll K H' vs ds → Q vs H'
abbrev QPA (X : Cx) (g : Gx) (es : List Expr) (f : Rho → Option (List D)) : Prop := PA X es (xPA (xkw X) g f)
def pVar (i : Nat) : MP := fun ρ => match ρ[i]? with
  | some (some (.dat d)) => some d
  | _ => none
def pC (d : D) : MP := fun _ => some d
def p2 (op : D → D → Option D) (a b : MP) : MP := fun ρ => match a ρ, b ρ with
  | some x, some y => op x y
  | _, _ => none
def pNil : Rho → Option (List D) := fun _ => some []
def pCons (a : MP) (b : Rho → Option (List D)) : Rho → Option (List D) := fun ρ => match a ρ, b ρ with
  | some x, some xs => some (x :: xs)
  | _, _ => none
def pA (F : List D → Option D) (a : Rho → Option (List D)) : MP := fun ρ => match a ρ with
  | some xs => F xs
  | none => none
theorem kp0 {T : Tb} {H H1 H2 : Hp} (a : Kp T B0 H H1) (b : Kp T B0 H1 H2) : Kp T B0 H H2 := a.trans b fun _ z => z.elim
section
variable {X : Cx} {g : Gx} {pos : Pos} {e a b : Expr} {es : List Expr} {f fa fb : MP} {fs : Rho → Option (List D)}
theorem qp_var (i : Nat) {x : Str} (hN : X.N[i]? = some x := by rfl) (hv : Vis X.env.scope x := by first | exact Or.inl rfl | exact Or.inr (Or.inl rfl) | exact Or.inr (Or.inr rfl)) (hd : (x == ("__debug__" : Str)) = false := by decide)
    (hcd : (x == ("__classdict__" : Str)) = false := by decide) : QP X g (.Name x pos) (pVar i) := by
  refine pe_conv (pe_var hN hv hd hcd) ?_
  rintro σ H Q ⟨ρ, own, d, h, R, k⟩
  unfold pVar at h
  split at h
  · rename_i d' h1
    cases h
    obtain ⟨v, e, i⟩ := R.dat h1
    exact ⟨v, e, k v H (.refl ..) i⟩
  · cases h
theorem qp_c {t : TE} {d : D} (h : PE X e t) (ht : ∀ σ H Q, (∀ v, Im (xkw X) H v d → Q v H) → t σ H Q) : QP X g e (pC d) := by
  refine pe_conv h ?_
  rintro σ H Q ⟨ρ, own, d', h, R, k⟩
  cases h
  exact ht σ H Q fun v i => k v H (.refl ..) i
theorem qp_int {i j} : QP X g (.Constant (.int i) j pos) (pC (.int i)) := qp_c pe_int fun _ _ _ q => q _ (.int i)
theorem qp_bl {i j} : QP X g (.Constant (.bool i) j pos) (pC (.bool i)) := qp_c pe_bl fun _ _ _ q => q _ (.bl i)
theorem p2_some {op : D → D → Option D} {ρ : Rho} {d : D} (h : p2 op fa fb ρ = some d) : ∃ x y, fa ρ = some x ∧ fb ρ = some y ∧ op x y = some d := by
  unfold p2 at h
  split at h
  · rename_i x y h1 h2
    exact ⟨x, y, h1, h2, h⟩
  · cases h
theorem qp_ix {op : D → D → Option D} (ho : Ix2 X op) (ha : QP X g a fa) (hb : QP X g b fb) (hs : PlainIx b := by exact fun _ _ => rfl) : QP X g (.Subscript a b pos) (p2 op fa fb) := by
  obtain ⟨r, h1, h2⟩ := ho
  refine pe_conv (pe_fz (pe_ix h1 ha hb hs)) ?_
  rintro σ H Q ⟨ρ, own, d, h, R, k⟩
  obtain ⟨x, y, q1, q2, q3⟩ := p2_some h
  refine ⟨ρ, own, x, q1, R, fun v H1 k1 i1 => ⟨ρ, own, y, q2, R.keep k1, fun w H2 k2 i2 => ?_⟩⟩
  exact h2 v w x y d H2 Q (i1.up k2.imm) i2 q3 fun z H3 s i3 => k z H3 (kp0 (kp0 k1 k2) (.ofSame s)) i3
theorem qpa_nil : QPA X g [] pNil := by
  refine pa_conv pa_nil ?_
  rintro σ H Q ⟨ρ, own, d, h, R, k⟩
  cases h
  exact k [] H (.refl ..) .nil
theorem qpa_cons (ha : QP X g e f) (hr : QPA X g es fs) (hs : starEach (e :: es) X.env = (false, eval e X.env) :: starEach es X.env := by rfl) : QPA X g (e :: es) (pCons f fs) := by
  refine pa_conv (pa_cons ha hr hs) ?_
  rintro σ H Q ⟨ρ, own, d, h, R, k⟩
  unfold pCons at h
  split at h
  · rename_i x xs h1 h2
    cases h
    exact ⟨ρ, own, x, h1, R, fun v H1 k1 i1 => ⟨ρ, own, xs, h2, R.keep k1, fun vs H2 k2 i2 => k _ H2 (kp0 k1 k2) (.cons (i1.up k2.imm) i2)⟩⟩
  · cases h
theorem pA_some {F : List D → Option D} {ρ : Rho} {d : D} (h : pA F fs ρ = some d) : ∃ xs, fs ρ = some xs ∧ F xs = some d := by
  unfold pA at h
  split at h
  · rename_i xs h1
    exact ⟨xs, h1, h⟩
  · cases h
theorem qp_tup {x1} (h : QPA X g es fs) : QP X g (.Tuple es x1 pos) (pA mkT fs) := by
  refine pe_conv (pe_fz (pe_tup h)) ?_
  rintro σ H Q ⟨ρ, own, d, h, R, k⟩
  obtain ⟨xs, h3, h4⟩ := pA_some h
  unfold mkT at h4
  split at h4
  · rename_i hl
    cases h4
    refine ⟨ρ, own, xs, h3, R, fun vs H1 k1 i1 => ⟨by rw [i1.len]; exact Nat.le_trans hl most_line, fun p hp => ?_⟩⟩
    exact Out.tup (fun v H' s i => k v H' (kp0 k1 (.ofSame s)) i) hp i1
  · cases h4
theorem qp_call {x : Str} {p : Pos} {F : List D → Option D} (hf : DefOk X x (spD (xkw X) g.T F)) (ha : QPA X g (e :: es) fs) (hg : Gl X x := by rfl) (hdb : (x == ("__debug__" : Str)) = false := by decide)
    (he : starEach (e :: es) X.env = (false, eval e X.env) :: starEach es X.env := by rfl) (hpl : (backTo pos (starEach es X.env)).any (·.1) = false := by rfl) : QP X g (.Call (.Name x p) (e :: es) [] pos) (pA F fs) := by
  obtain ⟨k, f, fd, ps, F0, hr, hm, hk, hb⟩ := hf.ex
  refine pe_conv (pe_call F0 hr hg hm hk hb .nil pass0 ha hdb he hpl) ?_
  rintro σ H Q ⟨ρ, own, d, h, R, k⟩
  obtain ⟨xs, h3, h4⟩ := pA_some h
  refine ⟨ρ, own, xs, h3, R, fun vs H1 k1 i1 => ?_⟩
  exact ⟨xs, d, by simpa using i1, h4, (R.keep k1).tb, fun v H' kp tb im => k v H' (kp0 k1 kp) im⟩
/-- as any expression -/
def eP (f : MP) : M D := fun ρ => match f ρ with
  | some d => some (d, ρ)
  | none => none
theorem q_p (h : QP X g e f) : QE X g e (eP f) := by
  refine pe_conv h ?_
  rintro σ H Q ⟨ρ, own, d, ρ', h, R, k⟩
  unfold eP at h
  split at h
  · rename_i d' h1
    cases h
    exact ⟨ρ, own, d, h1, R, fun v H' kp im => k v own H' (R.go kp) im⟩
  · cases h
end
/-! ### dicts of lists that are their own -/
section
variable {K : KW} {g : Gx} {σ : L2.St} {ρ : Rho} {own : Own} {H H1 H' : Hp}
/-- what is slot j's own is changed; new things may be among them -/
theorem RelE.turnR (r : RelE K g σ ρ own H) {j : Nat} {v : V} {sv0 sv : SV} {ow : List Addr} {B : Addr → Prop} (h : ρ[j]? = some (some sv0)) (hs : σ[j]? = some (some v)) (k : Kp g.T B H H') (hB : ∀ a, B a → a ∈ own j ∨ ¬ InO own a) (h1 : RelS K H' v sv ow) (ho : ∀ b ∈ ow, b ∈ own j ∨ ¬ InO own b) :
    RelE K g σ (ρ.set j (some sv)) (own.set j ow) H' := by
  have hl : j < ρ.length := (List.getElem?_eq_some_iff.mp h).1
  have nin : ∀ i b, i ≠ j → b ∈ own i → ¬ (b ∈ own j ∨ ¬ InO own b) := fun i b hi hb z => by
    rcases z with z | z
    · exact hi (r.dj i j b hb z)
    · exact z ⟨i, hb⟩
  refine ⟨k.tb r.tb, r.len, fun i l b hi hl => ?_, fun i => ?_⟩
  · by_cases ei : i = j
    · subst ei
      rw [Own.set_i] at hi
      by_cases el : l = i
      · exact el.symm
      · rw [Own.set_ne el] at hl
        exact absurd (ho b hi) (nin l b el hl)
    · rw [Own.set_ne ei] at hi
      by_cases el : l = j
      · subst el
        rw [Own.set_i] at hl
        exact absurd (ho b hl) (nin i b ei hi)
      · rw [Own.set_ne el] at hl
        exact r.dj i l b hi hl
  · by_cases ei : i = j
    · subst ei
      rw [Own.set_i, List.getElem?_set_self hl, hs]
      exact ⟨_, rfl, h1⟩
    · rw [Own.set_ne ei, List.getElem?_set_ne (Ne.symm ei)]
      refine (r.ct i).map fun w s rs => ?_
      exact rs.up k.imm fun b hb o q m => k.ext b o q (fun z => nin i b ei hb (hB b z)) m
end
section
variable {X : Cx} {g : Gx} {pos : Pos} {e a b : Expr} {es : List Expr} {f fv : MP}
/-- own[x] = [] -/
def sDSetL (j : Nat) (f : MP) : MS := fun ρ => match isOdl ρ j, f ρ with
  | some kvs, some x => (match keyD x with
    | some k => if kvs.length < most ∧ lookD kvs k = none then some (.nx, ρ.set j (some (.odl (kvs ++ [(x, [])])))) else none
    | none => none)
  | _, _ => none
theorem q_dSetL (j : Nat) {y : Str} {p2 p3 p4 : Pos} {kk : Nat} (hr : Room kk X.A) (hi : QP X g b f) (hN : X.N[j]? = some y := by rfl) (hv : Vis X.env.scope y := by first | exact Or.inl rfl | exact Or.inr (Or.inl rfl) | exact Or.inr (Or.inr rfl))
    (hdy : (y == ("__debug__" : Str)) = false := by decide) (hcd : (y == ("__classdict__" : Str)) = false := by decide)
    (ha : ∀ v, assign (.Subscript (.Name y p2) b p3) X.env v = (do
      let ov ← holding [v] (eval (.Name y p2) X.env)
      let iv ← holding [v, ov] (eval b X.env)
      standAt p3
      holding [v, ov, iv] (setItem ov iv v)
      release [v, ov, iv] []) := by intro _; rfl)
    (hs : swapsWithSole [.Subscript (.Name y p2) b p3] (.List [] p4) pos.line X.env = pure false := by rfl) (hw : swappedStores [.Subscript (.Name y p2) b p3] (.List [] p4) X.env = pure none := by rfl)
    (h1 : (assignEach [.Subscript (.Name y p2) b p3] X.env).map (·.2) = [assign (.Subscript (.Name y p2) b p3) X.env] := by rfl) : QS X g (.Assign [.Subscript (.Name y p2) b p3] (.List [] p4) pos) (sDSetL j f) := by
  refine ps_conv (ps_asg (pe_lst pa_nil) (pg_sub (pe_var hN hv hdy hcd) hi (set_dict (by have := hr.un; omega)) ha) hs hw h1) ?_
  rintro Dn σ H ⟨ρ, own, fl, ρ', h, R, k⟩
  unfold sDSetL at h
  split at h
  · rename_i kvs x h0 h1
    cases h3 : keyD x with
    | none => simp only [h3] at h; cases h
    | some key =>
      simp only [h3] at h
      split at h
      · rename_i hz
        cases h
        obtain ⟨a, xs, ls, q1, q2, q3, q4, q5, q6⟩ := R.odlAt (isOdl_some h0)
        refine ⟨by show 0 ≤ sizeLine; exact Nat.zero_le _, fun p hp => ?_⟩
        have R1 := (R.goNew (o := .lst []) hp).rel
        refine ⟨.ref a, q1, ρ, own, x, h1, R1, fun iv H1 k1 i1 => ?_⟩
        have np : ¬ InO own p := R.notIn hp
        have ep : H1 p = some (.lst []) := k1.ext p _ upd_same (fun z => z) (fun _ z => by cases z)
        have ea : H1 a = some (DO (xkw X) a xs) := k1.ext a _ (by rw [upd_ne (ne_of_none q2 hp)]; exact q2) (fun z => z) (fun _ z => by cases z)
        have nap : a ≠ p := ne_of_none q2 hp
        have kp1 : Kp g.T B0 H H1 := (Kp.new hp).trans k1 fun _ z => z.elim
        have d1 : DLst (xkw X) H1 xs kvs ls := q3.up kp1.imm fun l hl ys z => kp1.ext l _ z (fun z => z) (fun _ z => by cases z)
        obtain ⟨⟨ds, e⟩, e1, e2⟩ := keyD_some h3
        have i1' := i1
        rw [e] at i1'
        obtain ⟨bb, bs, rfl, _⟩ := i1'.ofTup
        have he : entAt xs key = none := by
          rcases d1.look key with ⟨_, z⟩ | ⟨ds, _, _, _, z, _⟩
          · exact z
          · rw [hz.2] at z; cases z
        refine ⟨a, xs, key, x, bb, rfl, rfl, ea, d1.keys, h3, i1, by rw [d1.len]; exact Nat.lt_of_lt_of_le hz.1 most_line, ?_⟩
        have eput : putE xs key bb (.ref p) = xs ++ [(key, bb, .ref p)] := by unfold putE; rw [he]; rfl
        rw [eput]
        have kp2 : Kp g.T (B1 a) H1 (upd H1 a (DO (xkw X) a (xs ++ [(key, bb, .ref p)]))) := .write ea trivial do_code
        have hls : ∀ l ∈ ls, l ≠ a := fun l hl z => by
          rw [List.nodup_cons] at q4
          exact q4.1 (by rw [← z]; exact hl)
        have d2 : DLst (xkw X) (upd H1 a (DO (xkw X) a (xs ++ [(key, bb, .ref p)]))) (xs ++ [(key, bb, .ref p)]) (kvs ++ [(x, [])]) (ls ++ [p]) :=
          (d1.up kp2.imm fun l hl ys z => by rw [upd_ne (hls l hl)]; exact z).snoc e1 e2 (i1.up kp2.imm) (by rw [upd_ne (Ne.symm nap)]; exact ep) .nil
        have nd : (a :: (ls ++ [p])).Nodup := by
          have q4' := q4
          rw [List.nodup_cons] at q4' ⊢
          refine ⟨fun z => ?_, ?_⟩
          · rcases List.mem_append.mp z with z | z
            · exact q4'.1 z
            · exact nap (List.mem_singleton.mp z)
          · rw [List.nodup_append]
            refine ⟨q4'.2, by simp, fun l hl m hm e => ?_⟩
            rw [List.mem_singleton] at hm
            subst hm e
            exact np ⟨j, by rw [q5]; exact List.mem_cons_of_mem _ hl⟩
        have nk2 : ((xs ++ [(key, bb, V.ref p)]).map (·.1)).Nodup := by
          rw [List.map_append, List.nodup_append]
          refine ⟨q6, by simp, fun c hc m hm e => ?_⟩
          have hm : m = key := by simpa using hm
          subst hm e
          obtain ⟨en, h1, h2⟩ := List.mem_map.mp hc
          have : (entAt xs c).isSome = true := by
            unfold entAt
            rw [Option.isSome_map, List.find?_isSome]
            exact ⟨en, h1, by simp [h2]⟩
          rw [he] at this
          cases this
        have R2 := (R.keep kp1).turnR (isOdl_some h0) q1 kp2 (fun c z => .inl (by rw [z, q5]; simp)) (.odl upd_same d2 nd nk2) (fun c z => by
          rcases List.mem_cons.mp z with z | z
          · exact .inl (by rw [q5, z]; simp)
          · rcases List.mem_append.mp z with z | z
            · exact .inl (by rw [q5]; exact List.mem_cons_of_mem _ z)
            · exact .inr (by rw [List.mem_singleton.mp z]; exact np))
        have kp3 : Kp g.T (InO own) H (upd H1 a (DO (xkw X) a (xs ++ [(key, bb, V.ref p)]))) := (kp1.sub (fun _ z => z.elim)).trans kp2 (fun c z => .inl ⟨j, by rw [z, q5]; simp⟩)
        refine k σ _ _ ⟨kp3, fun c z => ?_, fun _ _ => rfl, R2⟩
        · rcases set_sub z with z | z
          · exact .inl z
          · rcases List.mem_cons.mp z with z | z
            · exact .inl ⟨j, by rw [q5, z]; simp⟩
            · rcases List.mem_append.mp z with z | z
              · exact .inl ⟨j, by rw [q5]; exact List.mem_cons_of_mem _ z⟩
              · exact .inr (by rw [List.mem_singleton.mp z]; exact hp)
      · cases h
  · cases h
/-- own[x].append(y) -/
def sDApp (j : Nat) (f fv : MP) : MS := fun ρ => match isOdl ρ j, f ρ, fv ρ with
  | some kvs, some x, some d => (match keyD x with
    | some k => (match lookD kvs k with
      | some ds => if ds.length < most then some (.nx, ρ.set j (some (.odl (appD kvs k d)))) else none
      | none => none)
    | none => none)
  | _, _, _ => none
theorem q_dApp (j : Nat) {y : Str} {p2 p3 p4 p5 : Pos} {c : Expr} {kk : Nat} (hr : Room kk X.A) (hi : QP X g b f) (hx : QP X g c fv) (hN : X.N[j]? = some y := by rfl) (hv : Vis X.env.scope y := by first | exact Or.inl rfl | exact Or.inr (Or.inl rfl) | exact Or.inr (Or.inr rfl))
    (hdy : (y == ("__debug__" : Str)) = false := by decide) (hcd : (y == ("__classdict__" : Str)) = false := by decide) (hst : starEach [c] X.env = (false, eval c X.env) :: starEach [] X.env := by rfl) (hpl : PlainIx b := by exact fun _ _ => rfl)
    (hs : ∀ {to : TE} {t : TA}, PE X (.Subscript (.Name y p2) b p5) to → PA X [c] t → PE X (.Call (.Attribute (.Subscript (.Name y p2) b p5) "append" p3) [c] [] p4) (tBM (xkw X) "list" rAppend to t))
    (hsw : swapsWith (.Call (.Attribute (.Subscript (.Name y p2) b p5) "append" p3) [c] [] p4) none pos.line X.env = pure false := by rfl) :
    QS X g (.Expr (.Call (.Attribute (.Subscript (.Name y p2) b p5) "append" p3) [c] [] p4) pos) (sDApp j f fv) := by
  refine ps_conv (ps_expr (hs (pe_ix (ix_dict (by have := hr.un; omega)) (pe_var hN hv hdy hcd) hi hpl) (pa_cons hx pa_nil hst)) hsw) ?_
  rintro Dn σ H ⟨ρ, own, fl, ρ', h, R, k⟩
  unfold sDApp at h
  split at h
  · rename_i kvs x d h0 h1 h2
    cases h3 : keyD x with
    | none => simp only [h3] at h; cases h
    | some key =>
      simp only [h3] at h
      cases h4 : lookD kvs key with
      | none => simp only [h4] at h; cases h
      | some ds =>
        simp only [h4] at h
        split at h
        · rename_i hz
          cases h
          obtain ⟨a, xs, ls, q1, q2, q3, q4, q5, q6⟩ := R.odlAt (isOdl_some h0)
          refine ⟨.ref a, q1, ρ, own, x, h1, R, fun iv H1 k1 i1 => ?_⟩
          have ea : H1 a = some (DO (xkw X) a xs) := k1.ext a _ q2 (fun z => z) (fun _ z => by cases z)
          have d1 : DLst (xkw X) H1 xs kvs ls := q3.up k1.imm fun l hl ys z => k1.ext l _ z (fun z => z) (fun _ z => by cases z)
          rcases d1.look key with ⟨z, _⟩ | ⟨ds', ka, l, ys, z1, z2, z3, z4, z5⟩
          · rw [h4] at z; cases z
          rw [h4] at z1
          cases z1
          refine ⟨a, xs, key, x, ka, .ref l, rfl, .of ea, d1.keys, h3, i1, z2, tyL z4, ρ, own, d, h2, R.keep k1, fun v H2 k2 i2 => ?_⟩
          have kp1 := kp0 k1 k2
          have el : H2 l = some (.lst ys) := k2.ext l _ z4 (fun z => z) (fun _ z => by cases z)
          have ea2 : H2 a = some (DO (xkw X) a xs) := k2.ext a _ ea (fun z => z) (fun _ z => by cases z)
          have iy := z5.up k2.imm
          refine ⟨l, ys, v, rfl, rfl, el, by rw [iy.len]; exact Nat.lt_of_lt_of_le hz most_line, ?_⟩
          have kp2 : Kp g.T (B1 l) H2 (upd H2 l (.lst (ys ++ [v]))) := .write el trivial lst_code
          have q4' := q4
          rw [List.nodup_cons] at q4'
          have nal : a ≠ l := fun z => q4'.1 (by rw [z]; exact z3)
          have d2 : DLst (xkw X) H2 xs kvs ls := q3.up kp1.imm fun l hl ys z => kp1.ext l _ z (fun z => z) (fun _ z => by cases z)
          have d3 : DLst (xkw X) (upd H2 l (.lst (ys ++ [v]))) xs (appD kvs key d) ls :=
            DLst.app (ys0 := ys ++ [v]) (l0 := l) kp2.imm (fun b ys' hb z => by rw [upd_ne hb]; exact z) d2 q4'.2 q6 (fun ka' z ds' zz => by
              rw [h4] at zz
              cases zz
              exact ⟨upd_same, (iy.append (.cons i2 .nil)).up kp2.imm⟩) (fun _ => ⟨ka, z2⟩) (fun _ => ⟨ka, z2⟩)
          have lin : l ∈ own j := by rw [q5]; exact List.mem_cons_of_mem _ z3
          have R2 := (R.keep kp1).turnR (isOdl_some h0) q1 kp2 (fun c z => .inl (by rw [z]; exact lin)) (.odl (by rw [upd_ne nal]; exact ea2) d3 q4 q6) (fun c z => .inl (by rw [q5]; exact z))
          have kp3 : Kp g.T (InO own) H (upd H2 l (.lst (ys ++ [v]))) := (kp1.sub (fun _ z => z.elim)).trans kp2 (fun c z => .inl ⟨j, by rw [z]; exact lin⟩)
          exact k σ _ _ ⟨kp3, fun c z => (set_sub z).elim .inl (fun z => .inl ⟨j, by rw [q5]; exact z⟩), fun _ _ => rfl, R2⟩
        · cases h
  · cases h
end
end VS

namespace VS
open PySem PySem.Spec PyProof.Rows L2

/-! ### the lists of a dict are data from now on -/
theorem locks {X : Cx} {pins : List (Addr × Obj)} {σ : L2.St} {s : Shared} {T : Tb} : ∀ (ls : List Addr) (H : Hp), Inv X pins σ H s → (∀ l ∈ ls, ∃ ys, H l = some (.lst ys)) → ls.Nodup →
    ∃ H', Inv X pins σ H' s ∧ Kp T (fun a => a ∈ ls) H H' ∧ ∀ l ∈ ls, ∀ ys, H l = some (.lst ys) → ∃ o, H' l = some (.frz o (.lst ys))
  | [], H, I, _, _ => ⟨H, I, .refl .., fun l h => by cases h⟩
  | l :: ls, H, I, hl, nd => by
    obtain ⟨ys, e⟩ := hl l (by simp)
    rw [List.nodup_cons] at nd
    obtain ⟨o, I1⟩ := I.lock e trivial
    have ne : ∀ m ∈ ls, m ≠ l := fun m hm z => nd.1 (by rw [← z]; exact hm)
    obtain ⟨H', I2, kp, h2⟩ := locks (T := T) ls (upd H l (.frz o (.lst ys))) I1 (fun m hm => by
      obtain ⟨zs, z⟩ := hl m (List.mem_cons_of_mem _ hm)
      exact ⟨zs, by rw [upd_ne (ne m hm)]; exact z⟩) nd.2
    have k0 : Kp T (B1 l) H (upd H l (.frz o (.lst ys))) := .write e trivial lst_code
    refine ⟨H', I2, (k0.sub (fun b z => .inl (by rw [z]; simp))).trans kp (fun c z => .inl (List.mem_cons_of_mem _ z)), fun m hm zs z => ?_⟩
    rcases List.mem_cons.mp hm with rfl | hm
    · rw [e] at z
      cases z
      exact ⟨o, kp.imm.frz _ _ _ upd_same⟩
    · exact h2 m hm zs (by rw [upd_ne (ne m hm)]; exact z)
def odOf (kvs : List (D × List D)) : List (D × D) := kvs.map fun e => (e.1, .list e.2)
def thaw (j : Nat) (ρ : Rho) : Rho := match isOdl ρ j with
  | some kvs => ρ.set j (some (.od (odOf kvs)))
  | none => ρ
theorem thaw_go {X : Cx} {g : Gx} {pins : List (Addr × Obj)} {σ : L2.St} {H : Hp} {s : Shared} {ρ : Rho} {own : Own} (j : Nat) (I : Inv X pins σ H s) (R : RelE (xkw X) g σ ρ own H) : ∃ own' H', Inv X pins σ H' s ∧ Go (xkw X) g σ own H σ (thaw j ρ) own' H' := by
  unfold thaw
  cases h0 : isOdl ρ j with
  | none => exact ⟨own, H, I, .refl R⟩
  | some kvs =>
    obtain ⟨a, xs, ls, q1, q2, q3, q4, q5, q6⟩ := R.odlAt (isOdl_some h0)
    rw [List.nodup_cons] at q4
    obtain ⟨H', I', kp, hl⟩ := locks (T := g.T) ls H I q3.at q4.2
    have ea : H' a = some (DO (xkw X) a xs) := kp.ext a _ q2 q4.1 (fun _ z => by cases z)
    refine ⟨_, H', I', R.turnG (isOdl_some h0) q1 kp (fun b z => .inl (by rw [q5]; exact List.mem_cons_of_mem _ z)) (.od ea (q3.dent kp.imm hl)) (fun b z => .inl (by rw [q5, List.mem_singleton.mp z]; simp))⟩
def sThaw (j : Nat) (f : MS) : MS := fun ρ => f (thaw j ρ)
theorem q_thaw {X : Cx} {g : Gx} {st : Stmt} {f : MS} (j : Nat) (h : QS X g st f) : QS X g st (sThaw j f) := by
  refine ⟨fun pins s σ H Dn I q => ?_⟩
  obtain ⟨ρ, own, fl, ρ', h1, R, k⟩ := q
  obtain ⟨ow, H1, I1, go⟩ := thaw_go j I R
  exact h.run pins s σ H1 Dn I1 ⟨_, ow, fl, ρ', h1, go.rel, fun σ2 ow2 H2 k2 => goEnd.back go.kp (k σ2 ow2 H2 (go.trans k2))⟩
/-! ### displays -/
section
variable {prog : Program} {w : World} {A : Around} {E : Value → Shared → Prop} {s : Shared}
theorem disp1_heap {K : Type} [DecidableEq K] {knd : HeapKind prog w K} {env : Env} {ke ve : Expr} {pos : Pos} {Q : Value → Shared → Prop} (hu : knd.room A)
    (h : wpAny (model prog w) A (eval ke env) (fun u s1 => wpAny (model prog w) A (eval ve env) (fun v s2 => ∃ b k, u = .ref b ∧ knd.is s2.heap k b ∧ s2.heap.DictOfH knd s.heap.objs.size [] ∧
      ∀ h' t, h'.DictOfH knd s.heap.objs.size [(k, b, v)] → Heap.SameBut s.heap.objs.size s2.heap h' → Q (.ref s.heap.objs.size) { s2 with heap := h', toks := t }) E s1) E { s with heap := s.heap.push { cls := .type "dict", data := .dict #[] } }) :
    wpAny (model prog w) A (eval (.Dict [some ke] [ve] pos) env) Q E s := by
  have hshape : (evalEachOpt [some ke] env).zip ((evalEach [ve] env).map fun v => do let x ← v; standAt pos; pure x) = [(eval ke env, do let x ← eval ve env; standAt pos; pure x)].map fun p => (some p.1, p.2) := rfl
  rw [arm_eval_Dict, hshape, dictDisplay_pairs _ (by simp) (by simp)]
  refine wpAny_bind (wpAny_standAt (wpAny_bind ?_))
  unfold subDict
  refine wpAny_bind (wpAny_alloc ?_)
  refine wpAny_bind (wpAny_holding ?_)
  rw [if_pos (by simp)]
  refine wpAny_bind (evalPairs_cons (wpAny_mono h (fun u s1 h1 => ?_) fun _ _ x => x))
  refine wpAny_bind (wpAny_mono h1 (fun v s2 h2 => wpAny_bind (wpAny_standAt (wpAny_pure (evalPairs_nil ?_)))) fun _ _ x => x)
  obtain ⟨b, k, e, hk, hm, q⟩ := h2
  subst e
  refine wpAny_holding ?_
  rw [List.forIn_cons]
  refine wpAny_bind (wpAny_bind (wpAny_bind (wpAny_dictSet_heap (hsz := Nat.zero_le _) hu hk hm fun h' dd hs => wpAny_pure ?_)))
  simp only [List.forIn_nil]
  exact wpAny_pure (wpAny_pure (wpAny_pure (wpAny_pure (q h' _ dd hs))))
end
def fD0 : M SV := fun ρ => some (.od [], ρ)
def fDL0 : M SV := fun ρ => some (.odl [], ρ)
def fD1 (fk fv : M D) : M SV := fun ρ => match fk ρ with
  | some (x, ρ1) => (match fv ρ1 with
    | some (y, ρ2) => (match keyD x with | some _ => some (.od [(x, y)], ρ2) | none => none)
    | none => none)
  | none => none
section
variable {X : Cx} {g : Gx} {pos : Pos} {e a b : Expr} {es : List Expr} {fk fv : M D}
theorem pe_dct0 {Q : VK} {pins : List (Addr × Obj)} {σ : L2.St} {H : Hp} {s : Shared} (I : Inv X pins σ H s) (h : ∀ p, H p = none → Q (.ref p) (upd H p (DO (xkw X) p []))) : wpAny (model X.prog X.w) X.A (eval (.Dict [] [] pos) X.env) (EP X pins σ Q) X.xe s :=
  wpAny_Dict_empty ⟨.ref s.heap.objs.size, _, I.laid (a := s.heap.objs.size) (o := DO (xkw X) s.heap.objs.size []) (t' := s.toks) (fun _ _ q => Heap.get?_push_of_some _ q) (Nat.le_refl _) (dictO_new s.heap I.big rfl), rfl, h _ (I.hok.fresh (Nat.le_refl _))⟩
theorem qf_d0 : QF X g (.Dict [] [] pos) fD0 := by
  refine ⟨fun pins s σ H Q I h => pe_dct0 I fun p hp => ?_⟩
  obtain ⟨ρ, own, sv, ρ', h1, R, k⟩ := h
  cases h1
  exact k _ own _ [p] (R.goNew hp) (.od upd_same .nil) (by simp) (fun a z => by rw [List.mem_singleton.mp z]; exact ⟨hp, R.notIn hp⟩)
theorem qf_dl0 : QF X g (.Dict [] [] pos) fDL0 := by
  refine ⟨fun pins s σ H Q I h => pe_dct0 I fun p hp => ?_⟩
  obtain ⟨ρ, own, sv, ρ', h1, R, k⟩ := h
  cases h1
  exact k _ own _ [p] (R.goNew hp) (.odl upd_same .nil (by simp) (by simp)) (by simp) (fun a z => by rw [List.mem_singleton.mp z]; exact ⟨hp, R.notIn hp⟩)
theorem qf_d1 {ke ve : Expr} {kk : Nat} (hr : Room kk X.A) (hk : QE X g ke fk) (hv : QE X g ve fv) : QF X g (.Dict [some ke] [ve] pos) (fD1 fk fv) := by
  refine ⟨fun pins s σ H Q I h => ?_⟩
  obtain ⟨ρ, own, sv, ρ', h1, R, k⟩ := h
  unfold fD1 at h1
  split at h1
  · rename_i x ρ1 e1
    split at h1
    · rename_i y ρ2 e2
      cases e3 : keyD x with
      | none => simp only [e3] at h1; cases h1
      | some key =>
        simp only [e3] at h1
        cases h1
        have hn := I.hok.fresh (Nat.le_refl s.heap.objs.size)
        have I1 := I.laid (a := s.heap.objs.size) (o := DO (xkw X) s.heap.objs.size []) (h' := s.heap.push { cls := .type "dict", data := .dict #[] }) (t' := s.toks) (fun _ _ q => Heap.get?_push_of_some _ q) (Nat.le_refl _) (dictO_new s.heap I.big rfl)
        generalize hD : s.heap.objs.size = p at hn I1
        have R1 := (R.goNew (o := DO (xkw X) p []) hn)
        refine disp1_heap (knd := nestedKind X.prog X.w) (show X.A.units + 8 < cLine by have := hr.un; omega) ?_
        rw [hD]
        refine thn (hk.run pins _ σ _ (fun v H1 => ∃ ow1, Go (xkw X) g σ own (upd H p (DO (xkw X) p [])) σ ρ1 ow1 H1 ∧ Im (xkw X) H1 v x) I1 ⟨ρ, own, x, ρ1, e1, R1.rel, fun v ow1 H1 k1 i1 => ⟨ow1, k1, i1⟩⟩) fun u s1 ⟨v, H1, I1, r1, ow1, k1, i1⟩ => ?_
        refine thn (hv.run pins _ σ _ (fun v H2 => ∃ ow2, Go (xkw X) g σ ow1 H1 σ ρ' ow2 H2 ∧ Im (xkw X) H2 v y) I1 ⟨ρ1, ow1, y, ρ', e2, k1.rel, fun v ow2 H2 k2 i2 => ⟨ow2, k2, i2⟩⟩) fun u2 s2 ⟨v2, H2, I2, r2, ow2, k2, i2⟩ => ?_
        have go := (R1.trans k1).trans k2
        have i1' := k2.im i1
        obtain ⟨b, rfl, rfl, hkey⟩ := key_is I2 e3 i1' r1
        obtain ⟨_, h1, h2⟩ := keyD_some e3
        have np : ¬ InO own p := R.notIn hn
        have go2 := k1.trans k2
        have ep : H2 p = some (DO (xkw X) p []) := go2.kp.ext p _ upd_same np (fun _ z => by cases z)
        obtain ⟨z, hm, ys, rel, dd⟩ := dict_at I2 (.of ep) (fun e he => by cases he)
        cases rel
        refine ⟨b, key, rfl, hkey, dd, fun h' t dd' hs => ?_⟩
        have kp : Kp g.T (B1 p) H2 (upd H2 p (DO (xkw X) p [(key, b, v2)])) := .write ep trivial do_code
        refine ⟨.ref p, _, dict_write (t' := t) (xs' := [(key, b, v2)]) I2 ep hs (by show 1 ≤ sizeLine; decide) hm (.cons ⟨rfl, rfl, r2⟩ .nil) dd', rfl, ?_⟩
        have np2 : ¬ InO ow2 p := fun z => by
          rcases go2.sub p z with z | z
          · exact np z
          · rw [upd_same] at z; cases z
        have R3 := go.rel.off np2 kp
        refine k _ ow2 _ [p] ⟨go.kp.trans kp (fun c z => .inr (by rw [z]; exact hn)), go.sub, go.pin, R3⟩ (.od upd_same (.cons h1 h2 (i1'.up kp.imm) (i2.up kp.imm) .nil)) (by simp) (fun a z => by rw [List.mem_singleton.mp z]; exact ⟨hn, np2⟩)
    · cases h1
  · cases h1
end
end VS

namespace VS
open PySem PySem.Spec PyProof.Rows L2

/-! ### dict comprehensions whose keys are data -/
/-- y: z goes into the new dict at p; N holds behind it -/
def Goes (K : KW) (p : Addr) (y z : V) (H : Hp) (N : Hp → Prop) : Prop := ∃ xs k dk b, y = .ref b ∧ keyD dk = some k ∧ Im K H (.ref b) dk ∧ H p = some (DO K p xs) ∧ KeysOk K H xs ∧ xs.length < sizeLine ∧ N (upd H p (DO K p (putE xs k b z)))
def tDcs (K : KW) (wi : TI) (tg : TG) (tk tv : TE) (vs : List Nat) : TE := fun σ H Q => wi σ H fun J H1 => ∀ p, H1 p = none → ∃ W : Nat → Nat → Hp → Prop, (∃ m, W 0 m (upd H1 p (DO K p []))) ∧ ∀ i m H, W i m H →
  (J.stop i H ∧ Q (.ref p) H) ∨ (J.go i H ∧ ∃ N : Hp → Prop, (∀ H', N H' → ∃ m', m' < m ∧ W (i + 1) m' H') ∧ ∀ x H', J.yld i H x H' → tg x (wipe σ vs) H' fun σ2 H2 => wipe σ2 vs = wipe σ vs ∧ tk σ2 H2 fun y H4 => tv σ2 H4 fun z H5 => Goes K p y z H5 N)
section
variable {X : Cx} {pins : List (Addr × Obj)} {s : Shared} {σ : L2.St} {H : Hp} {Q : VK} {kx vx tg iter : Expr} {scope : Scope} {own : List (Str × Nat)} {pos pos' : Pos} {wi : TI} {g : TG} {tk tv : TE} {use : Option (Value → Sem Unit)} {Qf : Value → Shared → Prop}
/-- the block's turns: the iterator is walked, the dict at D filled; B is the block's context -/
theorem dcs_loop {B : Cx} {fp : List Addr} {tn : Nat → Heap → Prop} {J : It} {it D : Addr} {m0 : Nat} {H3 : Hp} {s4 : Shared} {R : Result → Shared → Prop} {W : Nat → Nat → Hp → Prop} (hB : B.calm = true) (hu : B.A.units + 9 < cLine) (hx : B.xe = fun _ _ => False)
    (T : Turn B.prog B.w B.K tg J fp it tn) (pg : PG B tg g) (pk : PE B kx tk) (pv : PE B vx tv)
    (ex : ∀ b ∈ fp, b ∈ B.ex) (I4 : Inv B [] (wipe σ (own.map (·.2))) H3 s4) (st4 : tn 0 s4.heap) (nfp : ∀ b ∈ fp, H3 b = none) (w0 : W 0 m0 H3) (pn0 : B.pn = [])
    (turn : ∀ i m H, W i m H → (J.stop i H ∧ Q (.ref D) H) ∨ (J.go i H ∧ ∃ N : Hp → Prop, (∀ H', N H' → ∃ m', m' < m ∧ W (i + 1) m' H') ∧ ∀ x H', J.yld i H x H' → g x (wipe σ (own.map (·.2))) H' fun σ2 H2 => wipe σ2 (own.map (·.2)) = wipe σ (own.map (·.2)) ∧ tk σ2 H2 fun y H4 => tv σ2 H4 fun z H5 => Goes (xkw B) D y z H5 N))
    (done : ∀ H' s', Inv B [] (wipe σ (own.map (·.2))) H' s' → Q (.ref D) H' → R (.ok .next) s') :
    codeAny (model B.prog B.w) B.A (.compLoop (.DictComp kx vx [⟨tg, iter, [], 0⟩] scope pos) 0 (.ref it) (.ref D) B.env) R s4 := by
  have stat : ∀ {σ' : L2.St} {H' : Hp} {s' : Shared}, Inv B [] σ' H' s' → (∀ b ∈ fp, H' b = none) → ∀ b ∈ fp, FpOk B [] H' b := fun {σ' H' s'} I' hn b hb =>
    ⟨hn b hb, (I'.ok.exf b (ex b hb)).1, I'.ok.exfs b (ex b hb), .inl (ex b hb), fun x c e => (I'.ok.exf b (ex b hb)).2 x c e, fun q hq => by rw [pn0] at hq; cases hq⟩
  refine compLoop_anyD (fun n s' => ∃ i H', Inv B [] (wipe σ (own.map (·.2))) H' s' ∧ tn i s'.heap ∧ (∀ b ∈ fp, H' b = none) ∧ W i n H') ?_ m0 ⟨0, H3, I4, st4, nfp, w0⟩
  rintro n s5 ⟨i, H5, I5, st5, n5, w5⟩
  rcases turn i n H5 w5 with ⟨stop, qq⟩ | ⟨go, N, hN, step⟩
  · refine thnF (T.done B rfl rfl rfl hB i [] s5 _ H5 (fun _ _ => False) I5 (stat I5 n5) st5 stop) fun r s6 ⟨hr, I6⟩ => ?_
    subst hr
    exact done H5 s6 I6 qq
  · refine thnF (T.item B rfl rfl rfl hB i [] s5 _ H5 (fun _ _ => False) I5 (stat I5 n5) st5 go) fun r s6 ⟨u, hr, h6⟩ => ?_
    subst hr
    refine thnF h6 fun _ s7 ⟨x, H7, I7, r7, y7, st7, n7⟩ => ?_
    have p1 := pg.run _ s7 _ H7 x u _ (I7.pinned (stat I7 n7) (T.obj _ _ st7)) r7 (step x H7 y7)
    rw [hx] at p1
    refine thnF p1 fun _ s8 ⟨σ8, H8, I8, hw8, q8⟩ => ?_
    rw [List.forIn_nil]
    refine wpAny_pure ?_
    rw [if_pos rfl]
    have p2 := pk.run _ s8 σ8 H8 _ I8 q8
    rw [hx] at p2
    refine thnF p2 fun z s9 ⟨y, H9, I9, r9, q9⟩ => ?_
    have p3 := pv.run _ s9 σ8 H9 _ I9 q9
    rw [hx] at p3
    refine thnF p3 fun z2 s10 ⟨v, H10, I10, r10, xs, k, dk, b, ey, hk, im, hD, ko, hz, nx⟩ => ?_
    subst ey
    refine dict_dictSet (X := B) hu I10 hD ko hk im hz r9 r10 fun s' I' => ?_
    obtain ⟨m', hm, w'⟩ := hN _ nx
    have pin' : ∀ c ∈ fp, ∀ o, s7.heap.get? c = some o → s'.heap.get? c = some o ∧ upd H10 D (DO (xkw B) D (putE xs k b v)) c = none := fun c hc o e => by
      have z := I'.pin (c, o) (List.mem_append_right _ (List.mem_append_right _ (mem_pinsAt hc e)))
      exact ⟨z.1, z.2.1⟩
    have hl : (wipe σ (own.map (·.2))).length = σ8.length := by rw [← hw8, wipe_length]
    refine ⟨m', hm, i + 1, _, (I'.unpinned (pins := [])).weak hl (fun j v e => ?_), T.keep _ _ _ st7 fun c hc o e => (pin' c hc o e).1, fun c hc => ?_, w'⟩
    · rw [← hw8] at e
      exact (wipe_some e).1
    · obtain ⟨o, e, _⟩ := T.obj _ _ st7 c hc
      exact (pin' c hc o e).2
theorem dcs_core {kk : Nat} (hr : Room kk X.A) (hc : X.calm = true) (hN : X.N.Nodup) (I : Inv X pins σ H s) (hi : PI X tg iter wi) (ok : BlkOk X.N X.env.scope scope own)
    (hg : ∀ (s : Shared) (H : Hp) (C : Addr) (cl : List (Str × Addr)) (fp : List Addr), PG (X.blk s H scope (compEnvC scope cl C X.env) fp) tg g)
    (hk : ∀ (s : Shared) (H : Hp) (C : Addr) (cl : List (Str × Addr)) (fp : List Addr), PE (X.blk s H scope (compEnvC scope cl C X.env) fp) kx tk)
    (hv : ∀ (s : Shared) (H : Hp) (C : Addr) (cl : List (Str × Addr)) (fp : List Addr), PE (X.blk s H scope (compEnvC scope cl C X.env) fp) vx tv) (hs : ∀ x, foldedSetIterable iter X.env x = pure x)
    (h : tDcs (xkw X) wi g tk tv (own.map (·.2)) σ H Q)
    (fin : ∀ D C s' m H', Inv X pins σ H' s' → Q (.ref D) H' → s'.heap.Ns C m → FpOk X pins H' C → compPost (model X.prog X.w) X.A X.xe use Qf (.ref D) C (.ok .next) s') :
    wpAny (model X.prog X.w) X.A (comprehension (.DictComp kx vx [⟨tg, iter, [], 0⟩] scope pos) scope X.env pos' newDict false (eval iter X.env) use) Qf X.xe s := by
  have hfree : ∀ y ∈ scope.names, y.2 = .free → ∃ c, X.env.cells.lookup y.1 = some c := fun y hy e => (ok.free y hy e).elim (fun k => I.ok.has _ (.inl k)) fun k => I.ok.has _ (.inr k)
  refine wpAny_comprehension_free (use := use) rfl hs (closure_ok hfree) ok.kind (fun y hy e => by rw [ok.uniq y hy, e]) (thn (hi.run pins s σ H _ I h) fun xv s1 h1 => thn h1 fun itv s2 h2 => ?_)
  obtain ⟨it, fp, tn, J, H2, e, I2, T, st2, f2, q⟩ := h2
  subst e
  refine wpAny_newObj_type (newEnv_comp ?_)
  have hn := I2.hok.fresh (Nat.le_refl s2.heap.objs.size)
  have I3 := I2.laid (a := s2.heap.objs.size) (o := DO (xkw X) s2.heap.objs.size []) (h' := s2.heap.push { cls := .type "dict", data := .dict #[] }) (t' := s2.toks) (fun _ _ q => Heap.get?_push_of_some _ q) (Nat.le_refl _) (dictO_new s2.heap I2.big rfl)
  have sz : ∀ b ∈ fp, b < s2.heap.objs.size := fun b hb => let ⟨_, e, _⟩ := T.obj _ _ st2 b hb; Heap.lt_size e
  generalize hD : s2.heap.objs.size = D at hn I3 sz ⊢
  obtain ⟨W, ⟨m0, w0⟩, turn⟩ := q D hn
  generalize hs3 : ({ s2 with heap := s2.heap.push { cls := .type "dict", data := .dict #[] } } : Shared) = s3
  have h3 : s3.heap = s2.heap.push { cls := .type "dict", data := .dict #[] } := by rw [← hs3]
  have I3 : Inv X pins σ (upd H2 D (DO (xkw X) D [])) s3 := by rw [← hs3]; exact I3
  generalize hH3 : upd H2 D (DO (xkw X) D []) = H3 at I3 w0
  have f3 : ∀ b ∈ fp, FpOk X pins H3 b ∧ b < s3.heap.objs.size := fun b hb => by
    refine ⟨⟨?_, (f2 b hb).2⟩, by rw [h3, Heap.size_push, hD]; exact Nat.lt_succ_of_lt (sz b hb)⟩
    rw [← hH3, upd_ne (Nat.ne_of_lt (sz b hb))]
    exact (f2 b hb).1
  have st3 : tn 0 s3.heap := T.keep _ _ _ st2 fun b _ o e => by rw [h3]; exact Heap.get?_push_of_some _ e
  have I4 := block_start I3 ok hN f3
  have pg := hg s3 H3 s3.heap.objs.size (cellsFrom (s3.heap.objs.size + 1) scope.names (cloFrom X.env.cells scope.names [])) fp
  have pk := hk s3 H3 s3.heap.objs.size (cellsFrom (s3.heap.objs.size + 1) scope.names (cloFrom X.env.cells scope.names [])) fp
  have pv := hv s3 H3 s3.heap.objs.size (cellsFrom (s3.heap.objs.size + 1) scope.names (cloFrom X.env.cells scope.names [])) fp
  show codeAny _ _ (.compStart (.DictComp kx vx [⟨tg, iter, [], 0⟩] scope pos) 0 (.ref it) (.ref D) (compEnvC scope (cellsFrom (s3.heap.objs.size + 1) scope.names (cloFrom X.env.cells scope.names [])) s3.heap.objs.size X.env)) (compPost (model X.prog X.w) X.A X.xe use Qf (.ref D) s3.heap.objs.size) { s3 with heap := pushCells (s3.heap.push { cls := .type "dict", data := .dict #[] }) scope.names }
  generalize hce : compEnvC scope (cellsFrom (s3.heap.objs.size + 1) scope.names (cloFrom X.env.cells scope.names [])) s3.heap.objs.size X.env = ce at I4 pg pk pv ⊢
  have cL : ce.locals = s3.heap.objs.size := by subst hce; rfl
  generalize hs4 : ({ s3 with heap := pushCells (s3.heap.push { cls := .type "dict", data := .dict #[] }) scope.names } : Shared) = s4 at I4 ⊢
  have st4 : tn 0 s4.heap := T.keep _ _ _ st3 fun b _ o e => by rw [← hs4]; exact pushCells_keeps _ _ _ _ (Heap.get?_push_of_some _ e)
  have loop := dcs_loop (B := X.blk s3 H3 scope ce fp) (scope := scope) (pos := pos) (iter := iter) (Q := Q) (R := compPost (model X.prog X.w) X.A X.xe use Qf (.ref D) s3.heap.objs.size) hc (show X.A.units + 9 < cLine by have := hr.un; omega) rfl T pg pk pv (fun b hb => hb) I4 st4 (fun b hb => (f3 b hb).1.1) w0 rfl turn fun H' s' I' qq => by
    have I7 : Inv X pins σ H' s' := I3.call' (ch := fp) I'.os I'.base I'.hok I'.bare fun b hb => ⟨(f3 b hb).1.2.2.2.1, (f3 b hb).1.2.1, (f3 b hb).1.2.2.2.2.1, (f3 b hb).1.2.2.2.2.2⟩
    have nC : H' s3.heap.objs.size = none := by rw [← cL]; exact I'.free
    obtain ⟨m, hn, _⟩ := I'.loc
    have hn : s'.heap.Ns ce.locals m := hn
    rw [cL] at hn
    exact fin D s3.heap.objs.size s' m H' I7 qq hn (I3.fpOk (Nat.le_refl _) nC)
  exact codeAny_compStart_dict loop (T.self X.A 0 _ _ _ st4 loop)
theorem pe_dcs {kk : Nat} (hr : Room kk X.A) (hc : X.calm = true) (hN : X.N.Nodup) (hi : PI X tg iter wi) (ok : BlkOk X.N X.env.scope scope own)
    (hg : ∀ (s : Shared) (H : Hp) (C : Addr) (cl : List (Str × Addr)) (fp : List Addr), PG (X.blk s H scope (compEnvC scope cl C X.env) fp) tg g)
    (hk : ∀ (s : Shared) (H : Hp) (C : Addr) (cl : List (Str × Addr)) (fp : List Addr), PE (X.blk s H scope (compEnvC scope cl C X.env) fp) kx tk)
    (hv : ∀ (s : Shared) (H : Hp) (C : Addr) (cl : List (Str × Addr)) (fp : List Addr), PE (X.blk s H scope (compEnvC scope cl C X.env) fp) vx tv) (hs : ∀ x, foldedSetIterable iter X.env x = pure x := by intro _; rfl) :
    PE X (.DictComp kx vx [⟨tg, iter, [], 0⟩] scope pos) (tDcs (xkw X) wi g tk tv (own.map (·.2))) := by
  refine ⟨fun pins s σ H Q I h => ?_⟩
  rw [arm_eval_DictComp]
  refine dcs_core hr hc hN I hi ok hg hk hv hs h fun D C s' m H' I' q hn f => ⟨m, hn, fun h'' sb => ?_⟩
  exact ⟨.ref D, H', I'.turned (t' := s'.toks) (fun b o hb e => (sb.2 b hb).trans e) f.1 f.2.1 f.2.2.2.1 f.2.2.2.2.1 f.2.2.2.2.2, rfl, q⟩
end
end VS

namespace VS
open PySem PySem.Spec PyProof.Rows L2

def dcGo (t : D → Rho → Option Rho) (ek ev : M D) (vs : List Nat) : List D → List (D × D) → Rho → Option (List (D × D) × Rho)
  | [], acc, ρ => some (acc, ρ)
  | d :: r, acc, ρ => match t d ρ with
    | none => none
    | some ρ1 => match ek ρ1 with
      | none => none
      | some (x, ρ2) => match ev ρ2 with
        | none => none
        | some (y, ρ3) => match keyD x with
          | none => none
          | some k => if acc.length < most then dcGo t ek ev vs r (putD acc k x y) (wipeR ρ3 vs) else none
/-- {x: y for ..}, y data -/
def fDc (it : M (List D)) (t : D → Rho → Option Rho) (ek ev : M D) (vs : List Nat) : M SV := fun ρ => match it ρ with
  | none => none
  | some (ds, ρ1) => if okW ρ1 vs then (match dcGo t ek ev vs ds [] (wipeR ρ1 vs) with
    | none => none
    | some (kvs, ρ2) => some (.od kvs, restR ρ1 ρ2 vs)) else none
def dcGoL (t : D → Rho → Option Rho) (ek : M D) (vs : List Nat) : List D → List (D × List D) → Rho → Option (List (D × List D) × Rho)
  | [], acc, ρ => some (acc, ρ)
  | d :: r, acc, ρ => match t d ρ with
    | none => none
    | some ρ1 => match ek ρ1 with
      | none => none
      | some (x, ρ2) => match keyD x with
        | none => none
        | some k => if acc.length < most ∧ lookD acc k = none then dcGoL t ek vs r (acc ++ [(x, [])]) (wipeR ρ2 vs) else none
/-- {x: [] for ..} -/
def fDcL (it : M (List D)) (t : D → Rho → Option Rho) (ek : M D) (vs : List Nat) : M SV := fun ρ => match it ρ with
  | none => none
  | some (ds, ρ1) => if okW ρ1 vs then (match dcGoL t ek vs ds [] (wipeR ρ1 vs) with
    | none => none
    | some (kvs, ρ2) => some (.odl kvs, restR ρ1 ρ2 vs)) else none
section
variable {K : KW} {g : Gx} {σ : L2.St} {H : Hp}
theorem dc_of {fi : M (List D)} {t : D → Rho → Option Rho} {ts vs : List Nat} {ek ev : M D} (hts : ∀ i ∈ ts, i ∈ vs) :
    ∀ σ H Q, xF K g (fDc fi t ek ev vs) σ H Q → tDcs K (xI K g fi) (xG K g t ts) (xE K g ek) (xE K g ev) vs σ H Q := by
  rintro σ H Q ⟨ρ, own, sv, ρ', h, R, k⟩
  unfold fDc at h
  split at h
  · cases h
  rename_i ds ρ1 h1
  split at h
  · rename_i hw
    split at h
    · cases h
    rename_i kvs ρ2 h2
    cases h
    refine ⟨ρ, own, ds, ρ1, h1, R, fun J ow1 H1 k1 dr p hp => ?_⟩
    have r1 := k1.rel
    have rw1 := r1.wipe vs
    have np1 : ¬ InO ow1 p := r1.notIn hp
    refine ⟨fun i m H2 => m = ds.length - i ∧ i ≤ ds.length ∧ ∃ ρi ow2 xs acc, Go K g (L2.wipe σ vs) ow1 H1 (L2.wipe σ vs) ρi ow2 H2 ∧ ¬ InO ow2 p ∧ H2 p = some (DO K p xs) ∧ DEnt K H2 xs acc ∧ dcGo t ek ev vs (ds.drop i) acc ρi = some (kvs, ρ2),
      ⟨_, rfl, Nat.zero_le _, wipeR ρ1 vs, wipeO ow1 vs, [], [], ⟨.new hp, fun a z => .inl (wipeO_sub z), fun _ _ => rfl, (rw1.goNew hp).rel⟩, fun z => np1 (wipeO_sub z), upd_same, .nil, h2⟩, ?_⟩
    rintro i m H2 ⟨rfl, hi, ρi, ow2, xs, acc, k2, np, hp2, ia, hg⟩
    obtain ⟨dr1, dr2⟩ := dr H2 k2.kp.imm i
    cases hd : ds[i]? with
    | none =>
      refine .inl ⟨dr2 hd, ?_⟩
      have hl : ds.length ≤ i := List.getElem?_eq_none_iff.mp hd
      rw [List.drop_of_length_le hl] at hg
      cases hg
      refine k (.ref p) _ _ [p] ⟨k1.kp.trans k2.kp k1.sub, fun a z => ?_, fun _ _ => rfl, r1.rest hw k2.kp.imm k2.rel⟩ (.od hp2 ia) (by simp) (fun a z => by rw [List.mem_singleton.mp z]; exact ⟨k1.kp.free hp, fun z => np (wipeO_sub z)⟩)
      rcases k2.sub a (wipeO_sub z) with z | z
      · exact k1.sub a z
      · exact .inr (k1.kp.free z)
    | some d =>
      obtain ⟨go, yl⟩ := dr1 d hd
      have hlt : i < ds.length := (List.getElem?_eq_some_iff.mp hd).1
      rw [drop_get hd, dcGo] at hg
      cases ht : t d ρi with
      | none => simp only [ht] at hg; cases hg
      | some ρ3 =>
        simp only [ht] at hg
        cases hk : ek ρ3 with
        | none => simp only [hk] at hg; cases hg
        | some q =>
          obtain ⟨x, ρ4⟩ := q
          simp only [hk] at hg
          cases hv : ev ρ4 with
          | none => simp only [hv] at hg; cases hg
          | some q =>
            obtain ⟨y, ρ5⟩ := q
            simp only [hv] at hg
            cases hkey : keyD x with
            | none => simp only [hkey] at hg; cases hg
            | some key =>
              simp only [hkey] at hg
              split at hg
              · rename_i hz
                refine .inr ⟨go, fun H' => ∃ ρi ow2 xs acc, Go K g (L2.wipe σ vs) ow1 H1 (L2.wipe σ vs) ρi ow2 H' ∧ ¬ InO ow2 p ∧ H' p = some (DO K p xs) ∧ DEnt K H' xs acc ∧ dcGo t ek ev vs (ds.drop (i + 1)) acc ρi = some (kvs, ρ2),
                  fun H' n' => ⟨ds.length - (i + 1), by omega, rfl, by omega, n'⟩, fun z H3 yz => ?_⟩
                obtain ⟨sm, im⟩ := yl z H3 yz
                have s3 := k2.rel.goSame sm
                refine ⟨d, ρi, ow2, ρ3, ht, im, s3.rel, fun σ4 ow4 H4 k4 so => ?_⟩
                have ew := wipe_same hts so
                refine ⟨ew, ρ3, ow4, x, ρ4, hk, k4.rel, fun kv ow5 H5 k5 i5 => ⟨ρ4, ow5, y, ρ5, hv, k5.rel, fun v ow6 H6 k6 i6 => ?_⟩⟩
                have k36 := ((s3.trans k4).trans k5).trans k6
                have kb : Go K g (L2.wipe σ vs) ow2 H2 (L2.wipe σ vs) (wipeR ρ5 vs) (wipeO ow6 vs) H6 := ⟨k36.kp, fun a z => k36.sub a (wipeO_sub z), fun _ _ => rfl, by have := k36.rel.wipe vs; rw [ew] at this; exact this⟩
                have q1 : H6 p = some (DO K p xs) := kb.kp.ext p _ hp2 np (fun _ z => by cases z)
                have q2 : ¬ InO (wipeO ow6 vs) p := fun z => (kb.sub p z).elim np fun q => by rw [hp2] at q; cases q
                have ia6 : DEnt K H6 xs acc := ia.up kb.kp.imm
                obtain ⟨⟨dsk, ek'⟩, e1, e2⟩ := keyD_some hkey
                have i5' := k6.im i5
                have i5'' := i5'
                rw [ek'] at i5''
                obtain ⟨bb, bs, rfl, _⟩ := i5''.ofTup
                refine ⟨xs, key, x, bb, rfl, hkey, i5', q1, ia6.keys, by rw [ia6.len]; exact Nat.lt_of_lt_of_le hz most_line, ?_⟩
                have kw : Kp g.T (B1 p) H6 (upd H6 p (DO K p (putE xs key bb v))) := .write q1 trivial do_code
                have kt := k2.trans kb
                exact ⟨_, _, _, _, ⟨kt.kp.trans kw fun b z => .inr (by rw [z]; exact hp), kt.sub, kt.pin, kt.rel.off q2 kw⟩, q2, upd_same, (ia6.put e1 e2 i5' i6).up kw.imm, hg⟩
              · cases hg
  · cases h
theorem dcL_of {fi : M (List D)} {t : D → Rho → Option Rho} {ts vs : List Nat} {ek : M D} (hts : ∀ i ∈ ts, i ∈ vs) :
    ∀ σ H Q, xF K g (fDcL fi t ek vs) σ H Q → tDcs K (xI K g fi) (xG K g t ts) (xE K g ek) (tLst tNil) vs σ H Q := by
  rintro σ H Q ⟨ρ, own, sv, ρ', h, R, k⟩
  unfold fDcL at h
  split at h
  · cases h
  rename_i ds ρ1 h1
  split at h
  · rename_i hw
    split at h
    · cases h
    rename_i kvs ρ2 h2
    cases h
    refine ⟨ρ, own, ds, ρ1, h1, R, fun J ow1 H1 k1 dr p hp => ?_⟩
    have r1 := k1.rel
    have rw1 := r1.wipe vs
    have np1 : ¬ InO ow1 p := r1.notIn hp
    refine ⟨fun i m H2 => m = ds.length - i ∧ i ≤ ds.length ∧ ∃ ρi ow2 xs acc ls, Go K g (L2.wipe σ vs) ow1 H1 (L2.wipe σ vs) ρi ow2 H2 ∧ (∀ a ∈ p :: ls, ¬ InO ow2 a ∧ H1 a = none) ∧ H2 p = some (DO K p xs) ∧ DLst K H2 xs acc ls ∧ (p :: ls).Nodup ∧ (xs.map (·.1)).Nodup ∧ dcGoL t ek vs (ds.drop i) acc ρi = some (kvs, ρ2),
      ⟨_, rfl, Nat.zero_le _, wipeR ρ1 vs, wipeO ow1 vs, [], [], [], ⟨.new hp, fun a z => .inl (wipeO_sub z), fun _ _ => rfl, (rw1.goNew hp).rel⟩, fun a ha => by rw [List.mem_singleton.mp ha]; exact ⟨fun z => np1 (wipeO_sub z), hp⟩, upd_same, .nil, by simp, by simp, h2⟩, ?_⟩
    rintro i m H2 ⟨rfl, hi, ρi, ow2, xs, acc, ls, k2, np, hp2, ia, nd, nk, hg⟩
    obtain ⟨dr1, dr2⟩ := dr H2 k2.kp.imm i
    cases hd : ds[i]? with
    | none =>
      refine .inl ⟨dr2 hd, ?_⟩
      have hl : ds.length ≤ i := List.getElem?_eq_none_iff.mp hd
      rw [List.drop_of_length_le hl] at hg
      cases hg
      refine k (.ref p) _ _ (p :: ls) ⟨k1.kp.trans k2.kp k1.sub, fun a z => ?_, fun _ _ => rfl, r1.rest hw k2.kp.imm k2.rel⟩ (.odl hp2 ia nd nk) nd (fun a z => ⟨k1.kp.free (np a z).2, fun z2 => (np a z).1 (wipeO_sub z2)⟩)
      rcases k2.sub a (wipeO_sub z) with z | z
      · exact k1.sub a z
      · exact .inr (k1.kp.free z)
    | some d =>
      obtain ⟨go, yl⟩ := dr1 d hd
      have hlt : i < ds.length := (List.getElem?_eq_some_iff.mp hd).1
      rw [drop_get hd, dcGoL] at hg
      cases ht : t d ρi with
      | none => simp only [ht] at hg; cases hg
      | some ρ3 =>
        simp only [ht] at hg
        cases hk : ek ρ3 with
        | none => simp only [hk] at hg; cases hg
        | some q =>
          obtain ⟨x, ρ4⟩ := q
          simp only [hk] at hg
          cases hkey : keyD x with
          | none => simp only [hkey] at hg; cases hg
          | some key =>
            simp only [hkey] at hg
            split at hg
            · rename_i hz
              refine .inr ⟨go, fun H' => ∃ ρi ow2 xs acc ls, Go K g (L2.wipe σ vs) ow1 H1 (L2.wipe σ vs) ρi ow2 H' ∧ (∀ a ∈ p :: ls, ¬ InO ow2 a ∧ H1 a = none) ∧ H' p = some (DO K p xs) ∧ DLst K H' xs acc ls ∧ (p :: ls).Nodup ∧ (xs.map (·.1)).Nodup ∧ dcGoL t ek vs (ds.drop (i + 1)) acc ρi = some (kvs, ρ2),
                fun H' n' => ⟨ds.length - (i + 1), by omega, rfl, by omega, n'⟩, fun z H3 yz => ?_⟩
              obtain ⟨sm, im⟩ := yl z H3 yz
              have s3 := k2.rel.goSame sm
              refine ⟨d, ρi, ow2, ρ3, ht, im, s3.rel, fun σ4 ow4 H4 k4 so => ?_⟩
              have ew := wipe_same hts so
              refine ⟨ew, ρ3, ow4, x, ρ4, hk, k4.rel, fun kv ow5 H5 k5 i5 => ⟨by show 0 ≤ sizeLine; exact Nat.zero_le _, fun l hl => ?_⟩⟩
              have k35 := (s3.trans k4).trans k5
              have kb : Go K g (L2.wipe σ vs) ow2 H2 (L2.wipe σ vs) (wipeR ρ4 vs) (wipeO ow5 vs) H5 := ⟨k35.kp, fun a z => k35.sub a (wipeO_sub z), fun _ _ => rfl, by have := k35.rel.wipe vs; rw [ew] at this; exact this⟩
              have there : ∀ a ∈ p :: ls, ∃ o, H2 a = some o := fun a z => by
                rcases List.mem_cons.mp z with rfl | z
                · exact ⟨_, hp2⟩
                · obtain ⟨ys, e⟩ := ia.at a z
                  exact ⟨_, e⟩
              have np5 : ∀ a ∈ p :: ls, ¬ InO (wipeO ow5 vs) a := fun a ha z => (kb.sub a z).elim (np a ha).1 fun q => by
                obtain ⟨o, e⟩ := there a ha
                rw [e] at q
                cases q
              have nl : l ∉ p :: ls := fun z => by
                obtain ⟨o, e⟩ := there l z
                obtain ⟨o', e'⟩ := kb.kp.there l o e
                rw [hl] at e'
                cases e'
              have q1 : H5 p = some (DO K p xs) := kb.kp.ext p _ hp2 (np p (by simp)).1 (fun _ z => by cases z)
              have ia5 : DLst K H5 xs acc ls := ia.up kb.kp.imm fun a ha ys z => kb.kp.ext a _ z (np a (List.mem_cons_of_mem _ ha)).1 (fun _ z => by cases z)
              have npl : p ≠ l := fun z => nl (by rw [z]; simp)
              obtain ⟨⟨dsk, ek'⟩, e1, e2⟩ := keyD_some hkey
              have i5'' := i5
              rw [ek'] at i5''
              obtain ⟨bb, bs, rfl, _⟩ := i5''.ofTup
              have kn : Kp g.T B0 H5 (upd H5 l (.lst [])) := .new hl
              have ia6 : DLst K (upd H5 l (.lst [])) xs acc ls := ia5.up kn.imm fun a ha ys z => by rw [upd_ne (fun z => nl (by rw [← z]; exact List.mem_cons_of_mem _ ha))]; exact z
              have q6 : upd H5 l (HO.lst []) p = some (DO K p xs) := by rw [upd_ne npl]; exact q1
              refine ⟨xs, key, x, bb, rfl, hkey, i5.up kn.imm, q6, ia6.keys, by rw [ia6.len]; exact Nat.lt_of_lt_of_le hz.1 most_line, ?_⟩
              have he : entAt xs key = none := by
                rcases ia6.look key with ⟨_, z⟩ | ⟨_, _, _, _, z, _⟩
                · exact z
                · rw [hz.2] at z; cases z
              have eput : putE xs key bb (.ref l) = xs ++ [(key, bb, .ref l)] := by unfold putE; rw [he]; rfl
              rw [eput]
              have kw : Kp g.T (B1 p) (upd H5 l (.lst [])) (upd (upd H5 l (.lst [])) p (DO K p (xs ++ [(key, bb, .ref l)]))) := .write q6 trivial do_code
              have kt := (k2.trans kb).trans (kb.rel.goNew (o := .lst []) hl)
              refine ⟨_, _, _, _, ls ++ [l], ⟨kt.kp.trans kw fun b z => .inr (by rw [z]; exact hp), kt.sub, kt.pin, kt.rel.off (np5 p (by simp)) kw⟩, fun a ha => ?_, upd_same, ?_, ?_, ?_, hg⟩
              · rw [← List.cons_append, List.mem_append] at ha
                rcases ha with ha | ha
                · exact ⟨np5 a ha, (np a ha).2⟩
                · rw [List.mem_singleton.mp ha]
                  exact ⟨kb.rel.notIn hl, (k2.kp.free (kb.kp.free hl))⟩
              · exact (ia6.up kw.imm fun a ha ys z => by rw [upd_ne (fun z => by rw [List.nodup_cons] at nd; exact nd.1 (by rw [← z]; exact ha))]; exact z).snoc e1 e2 ((i5.up kn.imm).up kw.imm) (by rw [upd_ne (Ne.symm npl), upd_same]) .nil
              · rw [← List.cons_append, List.nodup_append]
                exact ⟨nd, by simp, fun a ha b hb e => nl (by rw [← List.mem_singleton.mp hb, ← e]; exact ha)⟩
              · rw [List.map_append, List.nodup_append]
                refine ⟨nk, by simp, fun c hc m hm e => ?_⟩
                have hm : m = key := by simpa using hm
                subst hm e
                obtain ⟨en, h1, h2⟩ := List.mem_map.mp hc
                have : (entAt xs c).isSome = true := by
                  unfold entAt
                  rw [Option.isSome_map, List.find?_isSome]
                  exact ⟨en, h1, by simp [h2]⟩
                rw [he] at this
                cases this
            · cases hg
  · cases h
end
section
variable {X : Cx} {g : Gx} {pos : Pos} {kx vx tg iter : Expr} {scope : Scope} {fi : M (List D)} {t : D → Rho → Option Rho} {ts : List Nat} {fk fv : M D}
theorem qf_dc {kk : Nat} (hr : Room kk X.A) (own : List (Str × Nat)) (hN : X.N.Nodup) (hi : QI X g tg iter fi) (ok : BlkOk X.N X.env.scope scope own) (hts : ∀ i ∈ ts, i ∈ own.map (·.2))
    (hg : ∀ (s : Shared) (H : Hp) (C : Addr) (cl : List (Str × Addr)) (fp : List Addr), QG (X.blk s H scope (compEnvC scope cl C X.env) fp) g tg t ts)
    (hk : ∀ (s : Shared) (H : Hp) (C : Addr) (cl : List (Str × Addr)) (fp : List Addr), QE (X.blk s H scope (compEnvC scope cl C X.env) fp) g kx fk)
    (hv : ∀ (s : Shared) (H : Hp) (C : Addr) (cl : List (Str × Addr)) (fp : List Addr), QE (X.blk s H scope (compEnvC scope cl C X.env) fp) g vx fv) (hc : X.calm = true := by rfl) (hs : ∀ x, foldedSetIterable iter X.env x = pure x := by intro _; rfl) :
    QF X g (.DictComp kx vx [⟨tg, iter, [], 0⟩] scope pos) (fDc fi t fk fv (own.map (·.2))) := pe_conv (pe_dcs hr hc hN hi ok hg hk hv hs) (dc_of hts)
theorem qf_dcL {kk : Nat} {p2 : Pos} (hr : Room kk X.A) (own : List (Str × Nat)) (hN : X.N.Nodup) (hi : QI X g tg iter fi) (ok : BlkOk X.N X.env.scope scope own) (hts : ∀ i ∈ ts, i ∈ own.map (·.2))
    (hg : ∀ (s : Shared) (H : Hp) (C : Addr) (cl : List (Str × Addr)) (fp : List Addr), QG (X.blk s H scope (compEnvC scope cl C X.env) fp) g tg t ts)
    (hk : ∀ (s : Shared) (H : Hp) (C : Addr) (cl : List (Str × Addr)) (fp : List Addr), QE (X.blk s H scope (compEnvC scope cl C X.env) fp) g kx fk) (hc : X.calm = true := by rfl) (hs : ∀ x, foldedSetIterable iter X.env x = pure x := by intro _; rfl) :
    QF X g (.DictComp kx (.List [] p2) [⟨tg, iter, [], 0⟩] scope pos) (fDcL fi t fk (own.map (·.2))) := pe_conv (pe_dcs hr hc hN hi ok hg hk (fun _ _ _ _ _ => pe_lst pa_nil) hs) (dcL_of hts)
end
end VS

namespace VS
open PySem PySem.Spec PyProof.Rows L2
section
variable {X : Cx} {g : Gx} {pos spos : Pos} {kx vx tg iter : Expr} {scope : Scope} {fi : M (List D)} {t : D → Rho → Option Rho} {ts : List Nat} {fk fv : M D}
theorem ps_setDcs {kk i : Nat} {y : Str} {py : Pos} {own : List (Str × Nat)} {wi : TI} {gt : TG} {tk tv : TE} (hr : Room kk X.A) (hc : X.calm = true) (hN : X.N.Nodup) (hy : X.N[i]? = some y) (hyl : X.env.scope.names.lookup y = some .local)
    (hsw : swapsWith (.DictComp kx vx [⟨tg, iter, [], 0⟩] scope pos) (some (.Name y py)) spos.line X.env = pure true) (hi : PI X tg iter wi) (ok : BlkOk X.N X.env.scope scope own)
    (hg : ∀ (s : Shared) (H : Hp) (C : Addr) (cl : List (Str × Addr)) (fp : List Addr), PG (X.blk s H scope (compEnvC scope cl C X.env) fp) tg gt)
    (hk : ∀ (s : Shared) (H : Hp) (C : Addr) (cl : List (Str × Addr)) (fp : List Addr), PE (X.blk s H scope (compEnvC scope cl C X.env) fp) kx tk)
    (hv : ∀ (s : Shared) (H : Hp) (C : Addr) (cl : List (Str × Addr)) (fp : List Addr), PE (X.blk s H scope (compEnvC scope cl C X.env) fp) vx tv) (hs : ∀ x, foldedSetIterable iter X.env x = pure x := by intro _; rfl) :
    PS X (.Assign [.Name y py] (.DictComp kx vx [⟨tg, iter, [], 0⟩] scope pos) spos) (L2.tAsg (tDcs (xkw X) wi gt tk tv (own.map (·.2))) (L2.gName i)) := by
  refine ⟨fun pins s σ H Dn I h => ?_⟩
  rw [exec_Assign_Name_used _ _ _ _ hsw]
  refine wpAny_bind (wpAny_standAt (wpAny_bind ?_))
  have h : tDcs (xkw X) wi gt tk tv (own.map (·.2)) σ H (fun x H1 => Dn.nx (σ.set i (some x)) H1) := h
  show wpAny _ X.A (do let _ ← comprehension (.DictComp kx vx [⟨tg, iter, [], 0⟩] scope pos) scope X.env (firstIterPos [⟨tg, iter, [], 0⟩] pos) newDict false (eval iter X.env) (some (assign (.Name y py) X.env))) _ _ s
  refine wpAny_bind (thn (dcs_core (Qf := fun _ s' => SP X pins Dn .next s') hr hc hN I hi ok hg hk hv hs h fun D C s' m H' I' q hn f => ?_) fun _ s' hq => wpAny_pure (wpAny_pure hq))
  show wpAny _ _ (assign (.Name y py) X.env (.ref D)) _ _ _
  refine wpAny_assign_Name (store_ok2 (v := V.ref D) I' hN hy (.inl hyl) rfl (fun s2 I2 ⟨a, sb, ha⟩ => ?_) (.inr hyl))
  have haC : C ≠ a := ha.elim (fun z => by rw [z]; exact f.2.1) fun z e => f.2.2.2.2.1 y a z e.symm
  exact ⟨m, hn.sameBut sb haC, fun h3 sb3 => ⟨_, H', I2.turned (t' := s2.toks) (fun b o hb e => (sb3.2 b hb).trans e) f.1 f.2.1 f.2.2.2.1 f.2.2.2.2.1 f.2.2.2.2.2, q⟩⟩
theorem swd_true {gs : List Comprehension} {pos py : Pos} {y : Str} {l : Nat} {env : Env} (hk : env.scope.kind = .function) (hy : env.scope.names.lookup y = some .local) (hl : (py.line == pos.line) = true)
    (ha : (scope.names.any fun (n, k) => n == y && (k == .local || k == .cell)) = false) : swapsWith (.DictComp kx vx gs scope pos) (some (.Name y py)) l env = pure true := by
  have ky : env.kindOf y = some .local := hy
  have hb : env.blockKind = .function := by unfold Env.blockKind; rw [hk]; rfl
  unfold swapsWith
  simp only [hb, ky, ha, Expr.pos, hl]
  rfl
/-- name = {x: y for ..} -/
theorem q_setDc {kk : Nat} (hr : Room kk X.A) (own : List (Str × Nat)) (i : Nat) {y : Str} {py : Pos} (hN : X.N.Nodup) (hi : QI X g tg iter fi) (ok : BlkOk X.N X.env.scope scope own) (hts : ∀ i ∈ ts, i ∈ own.map (·.2))
    (hsw : swapsWith (.DictComp kx vx [⟨tg, iter, [], 0⟩] scope pos) (some (.Name y py)) spos.line X.env = pure true)
    (hg : ∀ (s : Shared) (H : Hp) (C : Addr) (cl : List (Str × Addr)) (fp : List Addr), QG (X.blk s H scope (compEnvC scope cl C X.env) fp) g tg t ts)
    (hk : ∀ (s : Shared) (H : Hp) (C : Addr) (cl : List (Str × Addr)) (fp : List Addr), QE (X.blk s H scope (compEnvC scope cl C X.env) fp) g kx fk)
    (hv : ∀ (s : Shared) (H : Hp) (C : Addr) (cl : List (Str × Addr)) (fp : List Addr), QE (X.blk s H scope (compEnvC scope cl C X.env) fp) g vx fv) (hl : okSlot g i = true := by rfl) (hy : X.N[i]? = some y := by rfl) (hyl : X.env.scope.names.lookup y = some .local := by rfl)
    (hc : X.calm = true := by rfl) (hs : ∀ x, foldedSetIterable iter X.env x = pure x := by intro _; rfl) :
    QS X g (.Assign [.Name y py] (.DictComp kx vx [⟨tg, iter, [], 0⟩] scope pos) spos) (sPutF [i] (fsCons (fDc fi t fk fv (own.map (·.2))) fsNil)) := by
  refine ps_conv (ps_setDcs (gt := xG (xkw X) g t ts) (tk := xE (xkw X) g fk) (tv := xE (xkw X) g fv) hr hc hN hy hyl hsw hi ok hg hk hv hs) ?_
  intro Dn σ H h
  obtain ⟨ρ, own, svs, ρ', h1, R, k⟩ := putF_of (by simp [hl]) h
  unfold fsCons fsNil at h1
  split at h1
  · rename_i sv ρ1 h2
    simp only at h1
    cases h1
    refine dc_of hts σ H _ ⟨ρ, own, sv, ρ', h2, R, fun v ow1 H1 ow k1 i1 nd f1 => ?_⟩
    exact (k [v] ow1 H1 [ow] k1 (.cons i1 .nil) (by simpa using nd) (fun a z => f1 a (by simpa using z))).2
  · cases h1
end
end VS

namespace VS
open PySem PySem.Spec PyProof.Rows L2

/-! ### dicts that are data -/
theorem Im.ofDct {K : KW} {H : Hp} {v : V} {kvs : List (D × D)} (h : Im K H v (.dict kvs)) : ∃ a o xs, v = .ref a ∧ H a = some (.frz o (DO K a xs)) ∧ DEnt K H xs kvs := by
  cases h with
  | dct h1 h2 => exact ⟨_, _, _, rfl, h1, h2⟩
def dInD (neg : Bool) : D → D → Option D := fun x y => match y with
  | .dict kvs => (match keyD x with | some k => some (.bool (neg ^^ (lookD kvs k).isSome)) | none => none)
  | _ => none
def dIxD : D → D → Option D := fun x y => match x with
  | .dict kvs => (match keyD y with | some k => lookD kvs k | none => none)
  | _ => none
def fLenD : List D → Option D
  | [.dict kvs] => some (.int kvs.length)
  | _ => none
def fListD : List D → Option D
  | [.dict kvs] => if kvs.length ≤ most then some (.list (kvs.map (·.1))) else none
  | _ => none
section
variable {X : Cx} {g : Gx} {kk : Nat}
theorem dIn_parts {neg : Bool} {x y z : D} (h : dInD neg x y = some z) : ∃ kvs k, y = .dict kvs ∧ keyD x = some k ∧ z = .bool (neg ^^ (lookD kvs k).isSome) := by
  unfold dInD at h
  split at h
  · rename_i kvs
    cases hk : keyD x with
    | none => simp only [hk] at h; cases h
    | some k => simp only [hk] at h; cases h; exact ⟨_, _, rfl, rfl, rfl⟩
  · cases h
theorem o_dIn (hr : Room kk X.A) : Op2 X (compareOp .In) (dInD false) := ⟨_, op_dIn (by have := hr.un; omega), fun x y dx dy dz H Q i1 i2 h q => by
  obtain ⟨kvs, k, rfl, hk, rfl⟩ := dIn_parts h
  obtain ⟨a, o, xs, rfl, h1, h2⟩ := i2.ofDct
  refine ⟨a, xs, k, dx, rfl, .inr ⟨o, h1⟩, h2.keys, hk, i1, ?_⟩
  rw [Bool.false_xor] at q
  rw [h2.isSome k]
  exact q.bl⟩
theorem o_dNin (hr : Room kk X.A) : Op2 X (compareOp .NotIn) (dInD true) := ⟨_, op_dNotIn (by have := hr.un; omega), fun x y dx dy dz H Q i1 i2 h q => by
  obtain ⟨kvs, k, rfl, hk, rfl⟩ := dIn_parts h
  obtain ⟨a, o, xs, rfl, h1, h2⟩ := i2.ofDct
  refine ⟨a, xs, k, dx, rfl, .inr ⟨o, h1⟩, h2.keys, hk, i1, ?_⟩
  rw [Bool.true_xor] at q
  rw [h2.isSome k]
  exact q.bl⟩
theorem i_dct (hr : Room kk X.A) : Ix2 X dIxD := ⟨_, ix_dict (by have := hr.un; omega), fun x y dx dy dz H Q i1 i2 h q => by
  unfold dIxD at h
  split at h
  · rename_i kvs
    cases hk : keyD dy with
    | none => simp only [hk] at h; cases h
    | some k =>
      simp only [hk] at h
      obtain ⟨a, o, xs, rfl, h1, h2⟩ := i1.ofDct
      rcases h2.look k with ⟨z, _⟩ | ⟨d, ka, v, z1, z2, z3⟩
      · rw [h] at z; cases z
      rw [h] at z1
      cases z1
      exact ⟨a, xs, k, dy, ka, v, rfl, .inr ⟨o, h1⟩, h2.keys, hk, i2, z2, q.same z3⟩
  · cases h⟩
theorem f_lenD : Fn1 X (.builtin "len") fLenD := ⟨_, call_len_dct, fun vs ds dz H Q i1 h q => by
  unfold fLenD at h
  split at h
  · rename_i kvs
    cases h
    match vs, i1 with
    | [v], .cons i1 .nil =>
      obtain ⟨a, o, xs, rfl, h1, h2⟩ := i1.ofDct
      refine ⟨a, xs, rfl, .inr ⟨o, h1⟩, h2.keys, ?_⟩
      rw [h2.len]
      exact q.int
  · cases h⟩
/-- what is known of the object of a dict -/
theorem dct_raw {pins : List (Addr × Obj)} {σ : L2.St} {H : Hp} {s : Shared} {a : Addr} {xs : List Ent} (I : Inv X pins σ H s) (rd : Rd H a (DO (xkw X) a xs)) : xs.length ≤ sizeLine ∧ (a == sysModules) = false ∧ ∃ o es ep, s.heap.get? a = some o ∧ o.ExactDict ∧ o.data = .dict es ep ∧ es.size = xs.length ∧
    ∀ i (hi : i < es.size), ∃ k ka v, xs[i]? = some (k, ka, v) ∧ es[i].key = .ref ka ∧ RelV v es[i].val := by
  obtain ⟨⟨z, hm, nd, ys, o, es, ep, rel, e1, e2, e3, e4⟩, _, _⟩ := (show ObjOk X.prog X.w H s.heap a (DO (xkw X) a xs) from rd.ok I.hok)
  have l1 : es.size = ys.length := by rw [← Array.length_toList, e4, List.length_map]
  have l2 : xs.length = ys.length := EntP.len rel
  refine ⟨z, hm, o, es, ep, e1, e2, e3, by omega, fun i hi => ?_⟩
  obtain ⟨⟨k, ka, v⟩, hx⟩ : ∃ p, xs[i]? = some p := ⟨_, List.getElem?_eq_getElem (by omega)⟩
  obtain ⟨⟨k2, ka2, u⟩, hy, h1, h2, h3⟩ := L2.paired_get rel hx
  have q : es[i]? = some ⟨(xkw X).hs k2, .ref ka2, u⟩ := by rw [← Array.getElem?_toList, e4, List.getElem?_map, hy]; rfl
  rw [Array.getElem?_eq_getElem hi] at q
  have q' := Option.some.inj q
  refine ⟨k, ka, v, hx, ?_, ?_⟩
  · rw [q']
    exact congrArg Value.ref (show ka2 = ka from h2.symm)
  · rw [q']
    exact h3
theorem dct_rawF {pins : List (Addr × Obj)} {σ : L2.St} {H : Hp} {s : Shared} {a : Addr} {ob : Obj} {xs : List Ent} (I : Inv X pins σ H s) (h : H a = some (.frz ob (DO (xkw X) a xs))) : xs.length ≤ sizeLine ∧ (a == sysModules) = false ∧ ∃ es ep, s.heap.get? a = some ob ∧ ob.ExactDict ∧ ob.data = .dict es ep ∧ es.size = xs.length ∧
    ∀ i (hi : i < es.size), ∃ k ka v, xs[i]? = some (k, ka, v) ∧ es[i].key = .ref ka ∧ RelV v es[i].val := by
  obtain ⟨z, hm, o, es, ep, e1, r⟩ := dct_raw I (.inr ⟨ob, h⟩)
  obtain ⟨e2, _⟩ := (show ObjOk X.prog X.w H s.heap a (.frz ob (DO (xkw X) a xs)) from I.hok a _ h)
  rw [e1] at e2
  cases e2
  exact ⟨z, hm, es, ep, e1, r⟩
/-- list(d) -/
theorem call_list_dct (hc : X.calm = true) : CallR X (.type "list") (fun vs H Q => ∃ d xs, vs = [V.ref d] ∧ Rd H d (DO (xkw X) d xs) ∧ ∀ p, H p = none → Q (.ref p) (upd H p (.lst (xs.map fun e => V.ref e.2.1)))) := by
  intro pins s σ H vs us Q I r ⟨d, xs, e, rd, q⟩
  subst e
  obtain ⟨u, rfl, rx⟩ := vals1 r
  obtain rfl : u = Value.ref d := rx
  obtain ⟨z, hm, o, es, ep, e1, e2, e3, e4, e5⟩ := dct_raw I rd
  refine PySem.W.kdl_call (KdlSrc.rawDict (es := es) (ep := ep) hm) (I.ok.hd hc) ⟨o, e1, e2, e3⟩ (by omega) fun h' tk acc' c' hk hS it => ?_
  refine ⟨.ref s.heap.objs.size, _, I.laid (t' := tk) (o := .lst (xs.map fun e => V.ref e.2.1)) hk (Nat.le_refl _) ⟨by rw [List.length_map]; exact z, acc'.toList, c', ?_, by rw [Array.toArray_toList]; exact hS⟩, rfl, q _ (I.hok.fresh (Nat.le_refl _))⟩
  refine vals_of_at (by rw [List.length_map]; have h1 := it.1; have h2 : acc'.toList.length = acc'.size := Array.length_toList; omega) fun j x w h1 h2 => ?_
  obtain ⟨hi, hw⟩ := it.2 j w (by rw [← Array.getElem?_toList]; exact h2)
  obtain ⟨k, ka, v, hx, hy, _⟩ := e5 j hi
  rw [List.getElem?_map, hx] at h1
  cases h1
  rw [hw, hy]
  rfl
theorem f_listD (hc : X.calm = true := by rfl) : Fn1 X (.type "list") fListD := ⟨_, call_list_dct hc, fun vs ds dz H Q i1 h q => by
  unfold fListD at h
  split at h
  · rename_i kvs
    split at h
    · cases h
      match vs, i1 with
      | [v], .cons i1 .nil =>
        obtain ⟨a, o, xs, rfl, h1, h2⟩ := i1.ofDct
        refine ⟨a, xs, rfl, .inr ⟨o, h1⟩, fun p hp => Out.lst q hp ?_⟩
        clear h1 i1
        have all : ∀ {xs : List Ent} {kvs : List (D × D)}, DEnt (xkw X) H xs kvs → ImAll (xkw X) H (xs.map fun e => V.ref e.2.1) (kvs.map (·.1)) := by
          intro xs kvs h
          induction xs generalizing kvs with
          | nil => cases h; exact .nil
          | cons e xs ih =>
            cases h with
            | cons h1 h2 h3 h4 h5 => exact .cons h3 (ih h5)
        exact all h2
    · cases h
  · cases h⟩
/-- list(d.values()) -/
def dVals : D → Option D
  | .dict kvs => if kvs.length ≤ most then some (.list (kvs.map (·.2))) else none
  | _ => none
theorem pe_listVals {e : Expr} {td : TE} {p apos cpos pos : Pos} (hc : X.calm = true) (hm : X.mg "list" = none) (he : PE X e td) (hg : Gl X "list" := by rfl) (hbase : attributeBase e "values" X.env (eval e X.env) = eval e X.env := by rfl) (hline : (apos.endLine == cpos.line) = true := by rfl)
    (na : starEach [.Call (.Attribute e "values" apos) [] [] cpos] X.env = (false, eval (.Call (.Attribute e "values" apos) [] [] cpos) X.env) :: starEach [] X.env := by rfl) :
    PE X (.Call (.Name "list" p) [.Call (.Attribute e "values" apos) [] [] cpos] [] pos) (fun σ H Q => td σ H fun x H1 => ∃ d xs, x = .ref d ∧ Rd H1 d (DO (xkw X) d xs) ∧ ∀ p, H1 p = none → Q (.ref p) (upd H1 p (.lst (xs.map fun e => e.2.2)))) := by
  refine ⟨fun pins s σ H Q I h => ?_⟩
  refine Call_ (ld_blt I hg hm boot_list (PyProof.Rows.callWith_type1 (args_cons ?_ na) na))
  refine wpAny_Call_method (T := "dict") (id := "dict.values") hbase rfl hline F.plainAttrs_dict F.slot_dict_values F.type_dict_values (thn (he.run pins s σ H _ I h) fun u s1 ⟨x, H1, I1, rx, d, xs, ex, hd, q⟩ => ?_)
  subst ex
  obtain rfl : u = Value.ref d := rx
  obtain ⟨z, hs, o, es, ep, e1, e2, e3, e4, e5⟩ := dct_raw I1 hd
  have raw : s1.heap.DictRaw d es ep := ⟨o, e1, e2, e3⟩
  refine ⟨raw.typeIs, fun b q => by cases q; exact ⟨o, e1, e2.2.1⟩, ?_⟩
  have I2 : Inv X pins σ H1 { s1 with heap := s1.heap.push { cls := .type "dict_values", data := .fields #[.ref d] } } := I1.kept (t' := s1.toks) fun b ob q => Heap.get?_push_of_some _ q
  show wpAny _ _ (callWith cpos (.builtin "dict.values") [.ref d] [] []) _ X.xe s1
  refine method_meetsIn F.slot_dict_values F.entry_dict_values rfl (PySem.evalArgs_none ⟨rfl, raw.typeIs, F.args_dict_values_1 _, _, meets_dict_values_raw d hs, ⟨es, ep, raw⟩, args_nil ?_⟩)
  refine PySem.W.kdl_call (KdlSrc.rawValues (es := es) (ep := ep)) (I2.ok.hd hc) ⟨⟨_, Heap.get?_push_size _ rfl, rfl, rfl⟩, raw.at fun o e => Heap.get?_push_of_some _ e⟩ (by omega) fun h' tk acc' c' hk hS it => ?_
  refine ⟨.ref _, _, I2.laid (t' := tk) (o := .lst (xs.map fun e => e.2.2)) hk (Nat.le_refl _) ⟨by rw [List.length_map]; exact z, acc'.toList, c', ?_, by rw [Array.toArray_toList]; exact hS⟩, rfl, q _ (I2.hok.fresh (Nat.le_refl _))⟩
  refine vals_of_at (by rw [List.length_map]; have h1 := it.1; have h2 : acc'.toList.length = acc'.size := Array.length_toList; omega) fun j x w h1 h2 => ?_
  obtain ⟨hi, hw⟩ := it.2 j w (by rw [← Array.getElem?_toList]; exact h2)
  obtain ⟨k, ka, v, hx, _, hy⟩ := e5 j hi
  rw [List.getElem?_map, hx] at h1
  cases h1
  rw [hw]
  exact hy
theorem q_listVals {e : Expr} {f : M D} {p apos cpos pos : Pos} (hm : X.mg "list" = none) (he : QE X g e f) (hc : X.calm = true := by rfl) (hg : Gl X "list" := by rfl) (hbase : attributeBase e "values" X.env (eval e X.env) = eval e X.env := by rfl) (hline : (apos.endLine == cpos.line) = true := by rfl)
    (na : starEach [.Call (.Attribute e "values" apos) [] [] cpos] X.env = (false, eval (.Call (.Attribute e "values" apos) [] [] cpos) X.env) :: starEach [] X.env := by rfl) :
    QE X g (.Call (.Name "list" p) [.Call (.Attribute e "values" apos) [] [] cpos] [] pos) (e1 dVals f) := by
  refine pe_conv (pe_fz (pe_listVals hc hm he hg hbase hline na)) ?_
  rintro σ H Q ⟨ρ, own, d, ρ', h, R, k⟩
  obtain ⟨x, h3, h4⟩ := e1_some h
  unfold dVals at h4
  split at h4
  · rename_i kvs
    split at h4
    · cases h4
      refine ⟨ρ, own, _, ρ', h3, R, fun v ow1 H1 k1 i1 => ?_⟩
      obtain ⟨a, o, xs, rfl, h1, h2⟩ := i1.ofDct
      refine ⟨a, xs, rfl, .inr ⟨o, h1⟩, fun p hp => Out.lst (fun v H' s i => k v ow1 H' (k1.trans (k1.rel.goSame s)) i) hp ?_⟩
      clear h1 i1
      have all : ∀ {xs : List Ent} {kvs : List (D × D)}, DEnt (xkw X) H1 xs kvs → ImAll (xkw X) H1 (xs.map fun e => e.2.2) (kvs.map (·.2)) := by
        intro xs kvs h
        induction xs generalizing kvs with
        | nil => cases h; exact .nil
        | cons e xs ih =>
          cases h with
          | cons h1 h2 h3 h4 h5 => exact .cons h4 (ih h5)
      exact all h2
    · cases h4
  · cases h4
end
end VS

namespace VS
open PySem PySem.Spec PyProof.Rows L2

/-! ### dicts that are data, walked -/
def ItK (K : KW) (d : Addr) (o : Obj) (xs : List Ent) : It :=
  ⟨fun i H => H d = some (.frz o (DO K d xs)) ∧ i < xs.length, fun i H x H' => H' = H ∧ ∃ e, xs[i]? = some e ∧ x = .ref e.2.1, fun i H => H d = some (.frz o (DO K d xs)) ∧ xs.length ≤ i⟩
def ItP (K : KW) (d : Addr) (o : Obj) (xs : List Ent) : It :=
  ⟨fun i H => H d = some (.frz o (DO K d xs)) ∧ i < xs.length, fun i H x H' => ∃ T e, xs[i]? = some e ∧ x = .ref T ∧ H T = none ∧ H' = upd H T (.tup [.ref e.2.1, e.2.2]), fun i H => H d = some (.frz o (DO K d xs)) ∧ xs.length ≤ i⟩
section
variable {P : Program} {w : World} {K : PySem.W.Frag} {tg : Expr} {d : Addr} {o : Obj} {es : Array DictEntry} {ep : Nat} {xs : List Ent}
theorem turn_dk (it : Addr) (hod : o.data = .dict es ep) : Turn P w K tg (ItK (kw0 P w K) d o xs) [it] it (fun i h => h.IsKeyIter it d i xs.length ep) where
  mem := by simp
  obj := fun i h st b hb => by
    obtain rfl : b = it := by simpa using hb
    obtain ⟨oi, e, c, dd⟩ := st
    exact ⟨oi, e, fun v z => by rw [dd] at z; cases z⟩
  keep := fun i h h' st k => st.at fun oi e => k it (by simp) oi e
  item := by
    intro X hP hw hK hc i pins s σ H E I hf st hg
    subst hP hw hK
    obtain ⟨hd, hi⟩ := hg
    obtain ⟨f0, f1, f2, f3, f4, f5⟩ := hf it (by simp)
    obtain ⟨_, hs, es', ep', hgd, hx, hdt, hsz, ent⟩ := dct_rawF I hd
    obtain ⟨rfl, rfl⟩ := dict_ep hod hdt
    obtain ⟨k, ka, v, hkv, hkey, _⟩ := ent i (by omega)
    refine next_key_item st hgd hdt hsz (Array.getElem?_eq_getElem (by omega)) fun h' st' sb => ?_
    have I1 : Inv X pins σ H { s with heap := h' } := I.turned (t' := s.toks) (fun b ob hb e => (sb.2 b hb).trans e) f0 f1 f3 f4 f5
    obtain ⟨oi, e, c, dd⟩ := id st'
    exact ⟨_, rfl, go_of (s := { s with heap := h' }) e c dd (by decide) ⟨.ref ka, H, I1, hkey, ⟨rfl, _, hkv, rfl⟩, st', fun b hb => (hf b hb).1⟩⟩
  done := by
    intro X hP hw hK hc i pins s σ H E I hf st hg
    subst hP hw hK
    obtain ⟨hd, hi⟩ := hg
    obtain ⟨f0, f1, f2, f3, f4, f5⟩ := hf it (by simp)
    obtain ⟨_, hs, es', ep', hgd, hx, hdt, hsz, ent⟩ := dct_rawF I hd
    obtain ⟨rfl, rfl⟩ := dict_ep hod hdt
    exact next_key_end (I.ok.hd hc) st hgd hdt hsz hi fun h' eb => ⟨rfl, I.turned (t' := s.toks) (fun b ob hb e => eb b ob hb e) f0 f1 f3 f4 f5⟩
  self := fun A i s Q E st h => wpAny_pyIter_keyiter st h
theorem turn_di {elts : List Expr} {kk : Nat} {tpos : Pos} (it : Addr) (hod : o.data = .dict es ep) :
    Turn P w K (.Tuple elts kk tpos) (ItP (kw0 P w K) d o xs) [it] it (fun i h => ∃ ok ov, IsItemIter h it d i xs.length ep ok ov) where
  mem := by simp
  obj := fun i h st b hb => by
    obtain rfl : b = it := by simpa using hb
    obtain ⟨ok, ov, e⟩ := st
    exact ⟨_, e, fun v z => nomatch z⟩
  keep := fun i h h' st k => let ⟨ok, ov, e⟩ := st; ⟨ok, ov, k it (by simp) _ e⟩
  item := by
    intro X hP hw hK hc i pins s σ H E I hf st hg
    subst hP hw hK
    obtain ⟨hd, hi⟩ := hg
    obtain ⟨_, hs, es', ep', hgd, hx, hdt, hsz, ent⟩ := dct_rawF I hd
    obtain ⟨rfl, rfl⟩ := dict_ep hod hdt
    obtain ⟨k, ka, v, hkv, hkey, hval⟩ := ent i (by omega)
    obtain ⟨ok, ov, he⟩ := st
    rw [← hsz] at he
    have hlt : it < s.heap.objs.size := Heap.lt_size he
    refine wpAny_pyNext_items_item_raw he ⟨o, hgd, hx, hdt⟩ (by omega) fun h' ho hT hz hk => ?_
    refine ⟨_, rfl, wpAny_letOwnedTupleGo_items (s := { s with heap := h' }) ho fun h'' he' sb => ?_⟩
    have hT2 := (sb.2 _ (Nat.ne_of_gt hlt)).trans hT
    have new : ObjOk X.prog X.w (upd H s.heap.objs.size (.tup [.ref ka, v])) h'' s.heap.objs.size (.tup [.ref ka, v]) :=
      ⟨by show 2 ≤ sizeLine; decide, [_, _], .cons hkey (.cons hval .nil), ⟨_, hT2, rfl, _, rfl⟩⟩
    have I1 : Inv X pins σ (upd H s.heap.objs.size (.tup [.ref ka, v])) { s with heap := h'' } :=
      I.turnedNew (t' := s.toks) (ch := [it]) (fun b ob hb e => (sb.2 b (by simpa using hb)).trans (hk b ob (by simpa using hb) e)) hf (Nat.le_refl _) new
    refine ⟨.ref s.heap.objs.size, _, I1, rfl, ⟨_, _, hkv, rfl, I.hok.fresh (Nat.le_refl _), rfl⟩, ⟨_, _, by rw [← hsz]; exact he'⟩, fun b hb => ?_⟩
    obtain rfl : b = it := by simpa using hb
    rw [upd_ne (Nat.ne_of_lt hlt)]
    exact (hf b (by simp)).1
  done := by
    intro X hP hw hK hc i pins s σ H E I hf st hg
    subst hP hw hK
    obtain ⟨hd, hi⟩ := hg
    obtain ⟨f0, f1, f2, f3, f4, f5⟩ := hf it (by simp)
    obtain ⟨_, hs, es', ep', hgd, hx, hdt, hsz, ent⟩ := dct_rawF I hd
    obtain ⟨rfl, rfl⟩ := dict_ep hod hdt
    obtain ⟨ok, ov, he⟩ := st
    rw [← hsz] at he
    exact wpAny_pyNext_items_end_raw (I.ok.hd hc) he ⟨o, hgd, hx, hdt⟩ (by omega) fun h' eb => ⟨rfl, I.turned (t' := s.toks) (fun b ob hb e => eb b ob hb e) f0 f1 f3 f4 f5⟩
  self := fun A i s Q E st h => let ⟨_, _, e⟩ := st; PySem.W.kcp_self e h
end
def iDK (K : KW) (td : TE) : TI := fun σ H R => td σ H fun x H1 => ∃ d o xs, x = .ref d ∧ H1 d = some (.frz o (DO K d xs)) ∧ R (ItK K d o xs) H1
def iDP (K : KW) (td : TE) : TI := fun σ H R => td σ H fun x H1 => ∃ d o xs, x = .ref d ∧ H1 d = some (.frz o (DO K d xs)) ∧ R (ItP K d o xs) H1
def iKy : D → Option (List D)
  | .dict kvs => some (kvs.map (·.1))
  | _ => none
def iIt : D → Option (List D)
  | .dict kvs => some (kvs.map fun e => .tuple [e.1, e.2])
  | _ => none
section
variable {X : Cx} {g : Gx} {tg e : Expr} {f : M D} {td : TE} {apos cpos : Pos}
theorem pi_dk (he : PE X e td) : PI X tg e (iDK (xkw X) td) := by
  refine ⟨fun pins s σ H R I h => ?_⟩
  refine thn (he.run pins s σ H _ I h) fun u s1 ⟨x, H1, I1, rx, d, o, xs, ex, hd, q⟩ => ?_
  subst ex
  obtain rfl : u = Value.ref d := rx
  obtain ⟨_, hs, es, ep, hgd, hx, hdt, hsz, ent⟩ := dct_rawF I1 hd
  refine iter_keys hs hgd hx hdt (pi_one (tk := s1.toks) I1 _ (turn_dk _ hdt) ⟨_, Heap.get?_push_size _ rfl, rfl, ?_⟩ q)
  rw [hsz] <;> rfl
theorem pi_di {elts : List Expr} {kk : Nat} {tpos : Pos} (he : PE X e td) (hbase : attributeBase e "items" X.env (eval e X.env) = eval e X.env := by rfl) (hline : (apos.endLine == cpos.line) = true := by rfl) :
    PI X (.Tuple elts kk tpos) (.Call (.Attribute e "items" apos) [] [] cpos) (iDP (xkw X) td) := by
  refine ⟨fun pins s σ H R I h => ?_⟩
  refine wpAny_Call_method (T := "dict") (id := "dict.items") hbase rfl hline F.plainAttrs_dict F.slot_dict_items F.type_dict_items (thn (he.run pins s σ H _ I h) fun u s1 ⟨x, H1, I1, rx, d, o, xs, ex, hd, q⟩ => ?_)
  subst ex
  obtain rfl : u = Value.ref d := rx
  obtain ⟨_, hs, es, ep, hgd, hx, hdt, hsz, ent⟩ := dct_rawF I1 hd
  have raw : s1.heap.DictRaw d es ep := ⟨o, hgd, hx, hdt⟩
  refine ⟨raw.typeIs, fun b q => by cases q; exact ⟨o, hgd, hx.2.1⟩, ?_⟩
  have I2 : Inv X pins σ H1 { s1 with heap := s1.heap.push { cls := .type "dict_items", data := .fields #[.ref d] } } := I1.kept (t' := s1.toks) fun b ob q => Heap.get?_push_of_some _ q
  have fin : wpAny (model X.prog X.w) X.A (pyIter (.ref s1.heap.objs.size)) (PIE X pins σ (.Tuple elts kk tpos) R) X.xe { s1 with heap := s1.heap.push { cls := .type "dict_items", data := .fields #[.ref d] } } := by
    refine wpAny_pyIter_items_raw (d := d) ⟨_, Heap.get?_push_size _ rfl, rfl, rfl⟩ (raw.at fun o e => Heap.get?_push_of_some _ e) (pi_one (tk := s1.toks) I2 _ (turn_di _ hdt) ⟨.none, .none, ?_⟩ q)
    rw [← hsz]
    exact Heap.get?_push_size _ rfl
  show wpAny _ _ (callWith cpos (.builtin "dict.items") [.ref d] [] []) _ X.xe s1
  exact method_meetsIn F.slot_dict_items F.entry_dict_items rfl (PySem.evalArgs_none ⟨rfl, raw.typeIs, F.args_dict_items_1 _, _, meets_dict_items_raw d hs, ⟨⟨es, ep, raw⟩, fin⟩⟩)
theorem dent_at {K : KW} {H : Hp} : ∀ {xs : List Ent} {kvs : List (D × D)} {i : Nat}, DEnt K H xs kvs → (∀ e, xs[i]? = some e → ∃ p, kvs[i]? = some p ∧ Im K H (.ref e.2.1) p.1 ∧ Im K H e.2.2 p.2) ∧ (kvs[i]? = none → xs.length ≤ i) ∧ (∀ p, kvs[i]? = some p → i < xs.length)
  | _, _, i, .nil => ⟨fun e h => by simp at h, fun _ => Nat.zero_le _, fun p h => by simp at h⟩
  | _, _, 0, .cons (k := k0) (ka := ka) (v := v0) (dk := dk) (dv := dv) h1 h2 h3 h4 h5 => ⟨fun e h => by cases h; exact ⟨_, rfl, h3, h4⟩, fun h => by simp at h, fun p h => Nat.succ_pos _⟩
  | _, _, i + 1, .cons (k := k0) (ka := ka) (v := v0) (dk := dk) (dv := dv) h1 h2 h3 h4 h5 => by
    obtain ⟨q1, q2, q3⟩ := dent_at (i := i) h5
    exact ⟨fun e h => q1 e h, fun h => Nat.succ_le_succ (q2 h), fun p h => Nat.succ_lt_succ (q3 p h)⟩
theorem draws_dk {K : KW} {H : Hp} {d : Addr} {o : Obj} {xs : List Ent} {kvs : List (D × D)} (hd : H d = some (.frz o (DO K d xs))) (h : DEnt K H xs kvs) : DrawsD K (ItK K d o xs) (kvs.map (·.1)) H := by
  intro H' k i
  have hd' := k.frz _ _ _ hd
  obtain ⟨q1, q2, q3⟩ := dent_at (i := i) (h.up k)
  refine ⟨fun z hz => ?_, fun hz => ⟨hd', q2 (by rw [List.getElem?_map] at hz; simpa using hz)⟩⟩
  rw [List.getElem?_map] at hz
  obtain ⟨p, hp, rfl⟩ := Option.map_eq_some_iff.mp hz
  refine ⟨⟨hd', q3 p hp⟩, fun x H'' y => ?_⟩
  obtain ⟨rfl, e, he, rfl⟩ := y
  obtain ⟨p', hp', i1, _⟩ := q1 e he
  rw [hp] at hp'
  cases hp'
  exact ⟨Same.refl _, i1⟩
theorem draws_di {K : KW} {H : Hp} {d : Addr} {o : Obj} {xs : List Ent} {kvs : List (D × D)} (hd : H d = some (.frz o (DO K d xs))) (h : DEnt K H xs kvs) : DrawsD K (ItP K d o xs) (kvs.map fun e => .tuple [e.1, e.2]) H := by
  intro H' k i
  have hd' := k.frz _ _ _ hd
  obtain ⟨q1, q2, q3⟩ := dent_at (i := i) (h.up k)
  refine ⟨fun z hz => ?_, fun hz => ⟨hd', q2 (by rw [List.getElem?_map] at hz; simpa using hz)⟩⟩
  rw [List.getElem?_map] at hz
  obtain ⟨p, hp, rfl⟩ := Option.map_eq_some_iff.mp hz
  refine ⟨⟨hd', q3 p hp⟩, fun x H'' y => ?_⟩
  obtain ⟨T, e, he, rfl, hT, rfl⟩ := y
  obtain ⟨p', hp', i1, i2⟩ := q1 e he
  rw [hp] at hp'
  cases hp'
  exact ⟨fun b u q => by rw [upd_ne (ne_of_none q hT)]; exact q, im_pair hT i1 i2⟩
theorem qi_keys (he : QE X g e f) : QI X g tg e (e1 iKy f) := by
  refine pi_conv (pi_dk he) ?_
  rintro σ H R ⟨ρ, own, ds, ρ', h, R0, k⟩
  obtain ⟨x, h3, h4⟩ := e1_some h
  unfold iKy at h4
  split at h4
  · cases h4
    refine ⟨ρ, own, _, ρ', h3, R0, fun v ow1 H1 k1 i1 => ?_⟩
    obtain ⟨a, o, xs, rfl, h1, h2⟩ := i1.ofDct
    exact ⟨a, o, xs, rfl, h1, k _ ow1 H1 k1 (draws_dk h1 h2)⟩
  · cases h4
theorem qi_items {elts : List Expr} {kk : Nat} {tpos : Pos} (he : QE X g e f) (hbase : attributeBase e "items" X.env (eval e X.env) = eval e X.env := by rfl) (hline : (apos.endLine == cpos.line) = true := by rfl) : QI X g (.Tuple elts kk tpos) (.Call (.Attribute e "items" apos) [] [] cpos) (e1 iIt f) := by
  refine pi_conv (pi_di he hbase hline) ?_
  rintro σ H R ⟨ρ, own, ds, ρ', h, R0, k⟩
  obtain ⟨x, h3, h4⟩ := e1_some h
  unfold iIt at h4
  split at h4
  · cases h4
    refine ⟨ρ, own, _, ρ', h3, R0, fun v ow1 H1 k1 i1 => ?_⟩
    obtain ⟨a, o, xs, rfl, h1, h2⟩ := i1.ofDct
    exact ⟨a, o, xs, rfl, h1, k _ ow1 H1 k1 (draws_di h1 h2)⟩
  · cases h4
end
end VS

namespace VS
open PySem PySem.Spec PyProof.Rows L2

/-! ### a dict of its own is data while a statement runs -/
section
variable {K : KW} {H H' : Hp} {a : Addr} {o : Obj} {xs : List Ent}
mutual
theorem Im.thaw (e : ∀ b, b ≠ a → H' b = H b) (ha : H a = some (.frz o (DO K a xs))) : ∀ (d : D) (v : V), d.canLay0 = true → Im K H v d → Im K H' v d
  | .none, _, _, h => by cases h; exact .non
  | .bool b, _, _, h => by cases h; exact .bl b
  | .int i, _, _, h => by cases h; exact .int i
  | .str x, _, _, h => by cases h; exact .str x
  | .list ds, _, l, h => by
    cases h with
    | lst h1 h2 =>
      refine .lst ?_ (ImAll.thaw e ha ds _ l h2)
      rcases h1 with ⟨o1, h1⟩ | h1
      · exact .inl ⟨o1, by rw [e _ (fun z => by rw [z, ha] at h1; cases h1)]; exact h1⟩
      · exact .inr h1
  | .tuple ds, _, l, h => by
    cases h with
    | tup h1 h2 =>
      refine .tup ?_ (ImAll.thaw e ha ds _ l h2)
      rcases h1 with (h1 | ⟨o1, h1⟩) | h1
      · exact .inl (.inl (by rw [e _ (fun z => by rw [z, ha] at h1; cases h1)]; exact h1))
      · exact .inl (.inr ⟨o1, by rw [e _ (fun z => by rw [z, ha] at h1; cases h1)]; exact h1⟩)
      · exact .inr h1
  | .dict _, _, l, h => by cases l
theorem ImAll.thaw (e : ∀ b, b ≠ a → H' b = H b) (ha : H a = some (.frz o (DO K a xs))) : ∀ (ds : List D) (vs : List V), PyData.canLayAll0 ds = true → ImAll K H vs ds → ImAll K H' vs ds
  | [], _, _, h => by cases h; exact .nil
  | d :: ds, _, l, h => by
    unfold PyData.canLayAll0 at l
    rw [Bool.and_eq_true] at l
    cases h with
    | cons h1 h2 => exact .cons (Im.thaw e ha d _ l.1 h1) (ImAll.thaw e ha ds _ l.2 h2)
end
def layD (kvs : List (D × D)) : Bool := kvs.all fun e => e.1.canLay0 && e.2.canLay0
def layDL (kvs : List (D × List D)) : Bool := kvs.all fun e => e.1.canLay0 && PyData.canLayAll0 e.2
theorem DEnt.thaw (e : ∀ b, b ≠ a → H' b = H b) (ha : H a = some (.frz o (DO K a xs))) : ∀ {ys : List Ent} {kvs : List (D × D)}, layD kvs = true → DEnt K H ys kvs → DEnt K H' ys kvs
  | _, _, _, .nil => .nil
  | _, _, l, .cons h1 h2 h3 h4 h5 => by
    unfold layD at l
    rw [List.all_cons, Bool.and_eq_true, Bool.and_eq_true] at l
    exact .cons h1 h2 (Im.thaw e ha _ _ l.1.1 h3) (Im.thaw e ha _ _ l.1.2 h4) (DEnt.thaw e ha l.2 h5)
theorem DLst.thaw (e : ∀ b, b ≠ a → H' b = H b) (ha : H a = some (.frz o (DO K a xs))) : ∀ {ys : List Ent} {kvs : List (D × List D)} {ls : List Addr}, layDL kvs = true → DLst K H ys kvs ls → DLst K H' ys kvs ls
  | _, _, _, _, .nil => .nil
  | _, _, _, l, .cons h1 h2 h3 h4 h6 h5 => by
    unfold layDL at l
    rw [List.all_cons, Bool.and_eq_true, Bool.and_eq_true] at l
    exact .cons h1 h2 (Im.thaw e ha _ _ l.1.1 h3) (by rw [e _ (fun z => by rw [z, ha] at h4; cases h4)]; exact h4) (ImAll.thaw e ha _ _ l.1.2 h6) (DLst.thaw e ha l.2 h5)
def laySV : Option SV → Bool
  | none => true
  | some (.dat d) => d.canLay0
  | some (.ol ds) => PyData.canLayAll0 ds
  | some (.od kvs) => layD kvs
  | some (.odl kvs) => layDL kvs
  | some (.fn _ _) => false
theorem RelS.thaw (e : ∀ b, b ≠ a → H' b = H b) (ha : H a = some (.frz o (DO K a xs))) {v : V} {sv : SV} {ow : List Addr} (l : laySV (some sv) = true) (h : RelS K H v sv ow) : RelS K H' v sv ow := by
  cases h with
  | dat h => exact .dat (Im.thaw e ha _ _ l h)
  | ol h1 h2 => exact .ol (by rw [e _ (fun z => by rw [z, ha] at h1; cases h1)]; exact h1) (ImAll.thaw e ha _ _ l h2)
  | od h1 h2 => exact .od (by rw [e _ (fun z => by rw [z, ha] at h1; cases h1)]; exact h1) (DEnt.thaw e ha l h2)
  | fn h => cases l
  | odl h1 h2 h3 h4 => exact .odl (by rw [e _ (fun z => by rw [z, ha] at h1; cases h1)]; exact h1) (DLst.thaw e ha l h2) h3 h4
theorem Kp.thaw {T : Tb} {B : Addr → Prop} {H0 : Hp} {u w u' : HO} (k : Kp T B H0 H) (h0 : H0 a = some u) (mu : Mut (some u)) (ht : ∀ q, u ≠ LamX.CodeO a q) (hB : B a) (ha : H a = some (.frz o u')) : Kp T B H0 (upd H a w) := by
  refine ⟨fun b ps e => ?_, fun b p e n m => ?_, fun b p e => ?_, ⟨fun b ys e => ?_, fun b p q e => ?_, fun b q e => ?_⟩, fun t => ?_⟩
  · obtain ⟨more, h⟩ := k.tbl b ps e
    exact ⟨more, by rw [upd_ne (fun z => by rw [z, h0] at e; cases e; exact mu)]; exact h⟩
  · rw [upd_ne (fun z => n (by rw [z]; exact hB))]
    exact k.ext b p e n m
  · by_cases z : b = a
    · exact ⟨w, by rw [z, upd_same]⟩
    · obtain ⟨o', h⟩ := k.there b p e
      exact ⟨o', by rw [upd_ne z]; exact h⟩
  · rw [upd_ne (fun z => by rw [z, h0] at e; cases e; exact mu)]
    exact k.imm.tup b ys e
  · rw [upd_ne (fun z => by rw [z, h0] at e; cases e; exact mu)]
    exact k.imm.frz b p q e
  · rw [upd_ne (fun z => by subst z; rw [h0] at e; exact ht q (Option.some.inj e))]
    exact k.imm.code b q e
  · intro p hp
    obtain ⟨ps, t1, t2, t3⟩ := k.tb t p hp
    refine ⟨ps, by rw [upd_ne (fun z => by rw [z, ha] at t1; cases t1)]; exact t1, t2, fun pos cv hc => ?_⟩
    obtain ⟨c, c1, c2⟩ := t3 pos cv hc
    refine ⟨c, c1, ?_⟩
    rw [upd_ne (fun z => by rw [z, ha] at c2; cases c2)]
    exact c2
end
def lockR (j : Nat) (kvs : List (D × D)) (ρ : Rho) : Rho := ρ.set j (some (.dat (.dict kvs)))
def thawOk (j : Nat) (kvs : List (D × D)) (ρ : Rho) : Bool := layD kvs && (ρ.set j none).all laySV
def sLockD (j : Nat) (f : MS) : MS := fun ρ => match isOd ρ j with
  | none => none
  | some kvs => match f (lockR j kvs ρ) with
    | some (.nx, ρ1) => if thawOk j kvs ρ1 && decide (j < ρ1.length) then some (.nx, ρ1.set j (some (.od kvs))) else none
    | _ => none
/-- a statement that stores at i alone -/
def xSi (K : KW) (g : Gx) (i : Nat) (f : MS) : TS := fun Dn σ H => ∃ ρ own ρ', f ρ = some (.nx, ρ') ∧ RelE K g σ ρ own H ∧ ∀ v own' H', Go K g σ own H (σ.set i (some v)) ρ' own' H' → Dn.nx (σ.set i (some v)) H'
section
variable {X : Cx} {g : Gx} {st : Stmt} {f : MS}
theorem q_lockD (i j : Nat) (h : PS X st (xSi (xkw X) g i f)) (hij : i ≠ j := by decide) : QS X g st (sLockD j f) := by
  refine ps_conv (ps_lock h) ?_
  rintro Dn σ H ⟨ρ, own, fl, ρ', h, R, k⟩
  unfold sLockD at h
  cases h0 : isOd ρ j with
  | none => simp only [h0] at h; cases h
  | some kvs =>
    simp only [h0] at h
    split at h
    · rename_i ρ1 h1
      split at h
      · rename_i hc
        cases h
        rw [Bool.and_eq_true] at hc
        have hl : j < ρ1.length := of_decide_eq_true hc.2
        have hc := hc.1
        unfold thawOk at hc
        rw [Bool.and_eq_true] at hc
        obtain ⟨a, xs, q1, q2, q3, q4⟩ := R.odAt (isOd_some h0)
        refine ⟨a, _, q2, trivial, fun od => ?_⟩
        obtain ⟨⟨ow0, go0⟩, im0⟩ := R.freezeD (isOd_some h0) q1 q2 q3 od
        refine ⟨_, ow0, ρ1, h1, go0.rel, fun v ow1 H1 k1 => ?_⟩
        have go := go0.trans k1
        have ha : H1 a = some (.frz od (DO (xkw X) a xs)) := k1.kp.imm.frz _ _ _ upd_same
        refine ⟨ha, k (σ.set i (some v)) (ow1.set j [a]) (upd H1 a (DO (xkw X) a xs)) ?_⟩
        have oth : ∀ b, b ≠ a → upd H1 a (DO (xkw X) a xs) b = H1 b := fun b hb => upd_ne hb
        have na : ¬ InO ow1 a := fun z => by
          obtain ⟨o, e, mu⟩ := k1.rel.mut z
          rw [ha] at e
          cases e
          exact mu
        have ain : InO own a := ⟨j, by rw [q4]; simp⟩
        refine ⟨go.kp.thaw q2 trivial do_code ain ha, fun b z => ?_, go.pin, ⟨?_, k1.rel.len, fun l m b hl2 hm => ?_, fun l => ?_⟩⟩
        · rcases set_sub z with z | z
          · exact go.sub b z
          · rw [List.mem_singleton.mp z]
            exact .inl ain
        · exact (go.kp.thaw q2 trivial do_code ain ha).tb R.tb
        · by_cases el : l = j
          · subst el
            rw [Own.set_i] at hl2
            by_cases em : m = l
            · exact em.symm
            · rw [Own.set_ne em, List.mem_singleton.mp hl2] at hm
              exact absurd ⟨m, hm⟩ na
          · rw [Own.set_ne el] at hl2
            by_cases em : m = j
            · subst em
              rw [Own.set_i] at hm
              rw [List.mem_singleton.mp hm] at hl2
              exact absurd ⟨l, hl2⟩ na
            · rw [Own.set_ne em] at hm
              exact k1.rel.dj l m b hl2 hm
        · by_cases el : l = j
          · subst el
            rw [Own.set_i, List.getElem?_set_self hl, List.getElem?_set_ne hij, q1]
            exact ⟨_, rfl, .od upd_same (DEnt.thaw oth ha hc.1 (q3.up go.kp.imm))⟩
          · rw [Own.set_ne el, List.getElem?_set_ne (Ne.symm el)]
            have c := k1.rel.ct l
            unfold Holds at c ⊢
            cases hs : ρ1[l]? with
            | none => rw [hs] at c; exact c
            | some o =>
              cases o with
              | none => rw [hs] at c; exact c
              | some sv =>
                rw [hs] at c
                obtain ⟨w, w1, w2⟩ := c
                refine ⟨w, w1, w2.thaw oth ha ?_⟩
                have := List.all_eq_true.mp hc.2 (some sv) (by
                  have h3 : (ρ1.set j none)[l]? = some (some sv) := by rw [List.getElem?_set_ne (Ne.symm el)]; exact hs
                  exact List.mem_of_getElem? h3)
                exact this
      · cases h
    · cases h
end
section
variable {X : Cx} {g : Gx} {pos : Pos} {elt tg iter : Expr} {ifs : List Expr} {scope : Scope} {fi : M (List D)} {t : D → Rho → Option Rho} {ts : List Nat} {c : M Bool} {fe : M D}
theorem q_setLci (own : List (Str × Nat)) (i : Nat) {y : Str} {py spos : Pos} (hN : X.N.Nodup) (hi : QI X g tg iter fi) (ok : BlkOk X.N X.env.scope scope own) (hts : ∀ i ∈ ts, i ∈ own.map (·.2))
    (hsw : swapsWith (.ListComp elt [⟨tg, iter, ifs, 0⟩] scope pos) (some (.Name y py)) spos.line X.env = pure true)
    (hg : ∀ (s : Shared) (H : Hp) (C : Addr) (cl : List (Str × Addr)) (fp : List Addr), QG (X.blk s H scope (compEnvC scope cl C X.env) fp) g tg t ts) (ht : ∀ (s : Shared) (H : Hp) (C : Addr) (cl : List (Str × Addr)) (fp : List Addr), QTs (X.blk s H scope (compEnvC scope cl C X.env) fp) g ifs c)
    (he : ∀ (s : Shared) (H : Hp) (C : Addr) (cl : List (Str × Addr)) (fp : List Addr), QE (X.blk s H scope (compEnvC scope cl C X.env) fp) g elt fe) (hl : okSlot g i = true := by rfl) (hy : X.N[i]? = some y := by rfl) (hyl : X.env.scope.names.lookup y = some .local := by rfl)
    (hc : X.calm = true := by rfl) (hs : ∀ x, foldedSetIterable iter X.env x = pure x := by intro _; rfl) :
    PS X (.Assign [.Name y py] (.ListComp elt [⟨tg, iter, ifs, 0⟩] scope pos) spos) (xSi (xkw X) g i (sAsg (eLc fi t c fe (own.map (·.2))) (gName i))) := by
  have h0 := ps_setLc (i := i) (g := xG (xkw X) g t ts) (tt := xT (xkw X) g c) (te := xE (xkw X) g fe) hc hN hy hyl hsw hi ok hg ht he hs
  refine ⟨fun pins s σ H Dn I hw => ?_⟩
  obtain ⟨ρ, ow, ρ', h, R, k⟩ := hw
  unfold sAsg at h
  split at h
  · rename_i d ρ1 h1
    cases h
    have key : tLc (xI (xkw X) g fi) (xG (xkw X) g t ts) (xT (xkw X) g c) (xE (xkw X) g fe) (own.map (·.2)) σ H (fun v H1 => Fin v H1 fun v H2 => Dn.nx (σ.set i (some v)) H2) :=
      lc_of hts σ H _ ⟨ρ, ow, d, ρ1, h1, R, fun v ow1 H1 k1 i1 => let ⟨ow2, go⟩ := k1.rel.set hl i1; k v ow2 H1 (k1.trans go)⟩
    have mono : ∀ (Q Q' : VK), (∀ v H1, Q v H1 → Q' v H1) → tLc (xI (xkw X) g fi) (xG (xkw X) g t ts) (xT (xkw X) g c) (xE (xkw X) g fe) (own.map (·.2)) σ H Q → tLc (xI (xkw X) g fi) (xG (xkw X) g t ts) (xT (xkw X) g c) (xE (xkw X) g fe) (own.map (·.2)) σ H Q' := by
      intro Q Q' hq hk
      obtain ⟨ρa, owa, ds, ρb, a1, a2, a3⟩ := hk
      refine ⟨ρa, owa, ds, ρb, a1, a2, fun J ow1 H1 k1 dr D hD => ?_⟩
      obtain ⟨W, w0, wn⟩ := a3 J ow1 H1 k1 dr D hD
      exact ⟨W, w0, fun i m H2 hw => (wn i m H2 hw).elim (fun z => .inl ⟨z.1, hq _ _ z.2⟩) .inr⟩
    have run := h0.run pins s σ H ⟨fun σ' H1 => ∃ v, σ' = σ.set i (some v) ∧ Fin v H1 fun v H2 => Dn.nx (σ.set i (some v)) H2, Dn.rt, Dn.bk, Dn.ct⟩ I (mono _ _ (fun v H1 q => ⟨v, rfl, q⟩) key)
    refine thn run fun f s' q => ?_
    cases f with
    | next =>
      obtain ⟨σ', H', I', v, rfl, q⟩ := q
      obtain ⟨H2, I2, q2⟩ := inv_fin I' q
      exact ⟨_, H2, I2, q2⟩
    | brk => exact q
    | cont => exact q
    | ret u => exact q
  · cases h
end
/-! ### d == {} -/
section
variable {prog : Program} {w : World} {A : Around} {E : Value → Shared → Prop} {s : Shared}
theorem eq_empty {a b : Addr} {es : Array DictEntry} {ep ep' : Nat} {Q : Value → Shared → Prop} (ha : (a == sysModules) = false) (hb : (b == sysModules) = false) (da : s.heap.DictRaw a es ep) (db : s.heap.DictRaw b #[] ep') (hu : A.units < cLine) (h : Q (.bool (es.size == 0)) s) :
    wpAny (model prog w) A (compareOp .Eq (.ref a) (.ref b)) Q E s := by
  have ta : s.TypeIs (.ref a) "dict" := da.typeIs
  have tb : s.TypeIs (.ref b) "dict" := db.typeIs
  obtain ⟨oa, h1, h2, h3⟩ := da
  obtain ⟨ob, g1, g2, g3⟩ := db
  refine wpAny_richCompare_same_room (op := .Eq) ta tb PySem.F.slot_dict_eq (wpAny_call_entry PySem.F.slot_dict_eq ta PySem.F.entry_dict_eq ?_ (PySem.F.args_dict_eq_2 _ _)) hu
  show wpAny _ _ (Builtin.Dict.dictSlotArgs "__eq__" ⟨[.ref a, .ref b], []⟩ >>= _) _ _ s
  refine wpAny_bind ?_
  unfold Builtin.Dict.dictSlotArgs
  refine wpAny_bind (wpAny_notOrdered_dict ta (wpAny_pure ?_))
  refine wpAny_bind (wpAny_isInstance (T := "dict") tb PySem.F.sub_dict_dict ?_)
  simp only [Bool.not_true, Bool.false_eq_true, if_false]
  refine wpAny_bind (wpAny_pure (wpAny_bind (wpAny_pure (wpAny_bind ?_))))
  unfold Builtin.Dict.samePairs Builtin.Dict.showsAll
  rw [if_neg (by rw [ha]; exact Bool.false_ne_true), if_neg (by rw [hb]; exact Bool.false_ne_true)]
  refine wpAny_bind (wpAny_pure (wpAny_bind (wpAny_pure ?_)))
  refine wpAny_bind (wpAny_dictEntries h1 h3 ?_)
  dsimp only
  refine wpAny_bind (wpAny_dictEntries g1 g3 ?_)
  by_cases hz : es.size = 0
  · rw [if_neg (by simp [hz])]
    refine wpAny_bind (wpAny_dictEpoch h1 h3 (wpAny_bind ?_))
    rw [hz]
    simp only [Std.Legacy.Range.forIn_eq_forIn_range', Std.Legacy.Range.size, Nat.sub_self, Nat.zero_add, Nat.sub_self, Nat.div_one, List.range'_zero, List.forIn_nil]
    refine wpAny_pure (wpAny_pure (wpAny_pure ⟨_, rfl, And.intro (fun x => nomatch x) ?_⟩))
    simpa [hz] using h
  · rw [if_pos (by simpa using hz)]
    refine wpAny_bind (wpAny_rule (wpAny_pure (wpAny_pure ⟨_, rfl, And.intro (fun x => nomatch x) ?_⟩)))
    have : (es.size == 0) = false := by simpa using hz
    rw [this] at h
    simpa using h
end
def eDEmpty (j : Nat) : M D := fun ρ => match isOd ρ j with
  | some kvs => some (.bool kvs.isEmpty, ρ)
  | none => none
section
variable {X : Cx} {g : Gx} {pos : Pos}
theorem op_eqEmpty (hu : X.A.units < cLine) : OpR X (compareOp .Eq) (fun x y H Q => ∃ a xs b, x = .ref a ∧ y = .ref b ∧ Rd H a (DO (xkw X) a xs) ∧ Rd H b (DO (xkw X) b []) ∧ Q (.bl xs.isEmpty) H) := by
  intro pins s σ H x y v u Q I rx ry ⟨a, xs, b, e1, e2, r1, r2, q⟩
  subst e1 e2
  obtain rfl : v = Value.ref a := rx
  obtain rfl : u = Value.ref b := ry
  obtain ⟨_, ha, o, es, ep, h1, h2, h3, h4, _⟩ := dct_raw I r1
  obtain ⟨_, hb, o', es', ep', g1, g2, g3, g4, _⟩ := dct_raw I r2
  have e : es' = #[] := Array.eq_empty_of_size_eq_zero g4
  subst e
  refine eq_empty ha hb ⟨o, h1, h2, h3⟩ ⟨o', g1, g2, g3⟩ hu ?_
  have : (es.size == 0) = xs.isEmpty := by rw [h4]; cases xs <;> rfl
  rw [this]
  exact ⟨.bl _, H, I, rfl, q⟩
theorem pe_dctN : PE X (.Dict [] [] pos) (fun σ H Q => ∀ p, H p = none → Q (.ref p) (upd H p (DO (xkw X) p []))) := ⟨fun pins s σ H Q I h => pe_dct0 I h⟩
theorem dent_empty {K : KW} {H : Hp} {xs : List Ent} {kvs : List (D × D)} (h : DEnt K H xs kvs) : xs.isEmpty = kvs.isEmpty := by cases h <;> rfl
theorem q_dEmpty (j : Nat) {y : Str} {p2 p3 : Pos} {kk : Nat} (hr : Room kk X.A) (hN : X.N[j]? = some y := by rfl) (hv : Vis X.env.scope y := by first | exact Or.inl rfl | exact Or.inr (Or.inl rfl) | exact Or.inr (Or.inr rfl))
    (hdy : (y == ("__debug__" : Str)) = false := by decide) (hcd : (y == ("__classdict__" : Str)) = false := by decide) (hm : behindInMarks .Eq (.Dict [] [] p3) = false := by first | exact nomark _ | rfl) : QT X g (.Compare (.Name y p2) [.Eq] [.Dict [] [] p3] pos) (e1 asB (eDEmpty j)) := by
  refine pt_conv (pt_cmpR (op_eqEmpty (by have := hr.un; omega)) (pe_var hN hv hdy hcd) pe_dctN hm) ?_
  rintro σ H Q ⟨ρ, own, d, ρ', h, R, k⟩
  obtain ⟨x, h3, h4⟩ := e1_some h
  unfold eDEmpty at h3
  cases h0 : isOd ρ j with
  | none => simp only [h0] at h3; cases h3
  | some kvs =>
    simp only [h0] at h3
    cases h3
    cases h4
    obtain ⟨a, xs, q1, q2, q3, _⟩ := R.odAt (isOd_some h0)
    refine ⟨.ref a, q1, fun p hp => ?_⟩
    refine ⟨a, xs, p, rfl, rfl, .of (by rw [upd_ne (ne_of_none q2 hp)]; exact q2), .of upd_same, _, rfl, ?_⟩
    rw [dent_empty q3]
    exact k own _ (R.goNew hp)
end
end VS

namespace VS
open PySem PySem.Spec PyProof.Rows L2

section
variable {X : Cx} {g : Gx} {pos : Pos} {e a b : Expr} {es : List Expr} {fs : M (List D)} {f fa fb : M D}
/-! ### own.pop() -/
def ePop (j : Nat) : M D := fun ρ => match isOl ρ j with
  | some es => (match es[es.length - 1]? with | some d => some (d, ρ.set j (some (.ol es.dropLast))) | none => none)
  | none => none
theorem q_pop (j : Nat) {y : Str} {p2 apos cpos : Pos} (hN : X.N[j]? = some y := by rfl) (hv : Vis X.env.scope y := by first | exact Or.inl rfl | exact Or.inr (Or.inl rfl) | exact Or.inr (Or.inr rfl))
    (hdy : (y == ("__debug__" : Str)) = false := by decide) (hcd : (y == ("__classdict__" : Str)) = false := by decide)
    (hbase : attributeBase (.Name y p2) "pop" X.env (eval (.Name y p2) X.env) = eval (.Name y p2) X.env := by rfl) (hline : (apos.endLine == cpos.line) = true := by rfl) : QE X g (.Call (.Attribute (.Name y p2) "pop" apos) [] [] cpos) (ePop j) := by
  refine pe_conv (pe_bm0 PySem.F.plainAttrs_list PySem.F.slot_list_pop PySem.F.type_list_pop mt_pop (pe_var hN hv hdy hcd) hbase hline) ?_
  rintro σ H Q ⟨ρ, own, d, ρ', h, R, k⟩
  unfold ePop at h
  cases h0 : isOl ρ j with
  | none => simp only [h0] at h; cases h
  | some es =>
    simp only [h0] at h
    cases h1 : es[es.length - 1]? with
    | none => simp only [h1] at h; cases h
    | some x =>
      simp only [h1] at h
      cases h
      obtain ⟨a, xs, q1, q2, q3, _⟩ := R.ownAt (isOl_some h0)
      obtain ⟨w, w1, w2⟩ := q3.get h1
      refine ⟨.ref a, q1, tyL (K := xkw X) q2, a, xs, w, rfl, rfl, q2, by rw [q3.len]; exact w1, ?_⟩
      have kp : Kp g.T (B1 a) H (upd H a (.lst xs.dropLast)) := .write q2 trivial lst_code
      have id2 : ImAll (xkw X) H xs.dropLast es.dropLast := by rw [List.dropLast_eq_take, List.dropLast_eq_take, q3.len]; exact q3.take _
      obtain ⟨ow2, go⟩ := R.change (isOl_some h0) q1 kp upd_same (id2.up kp.imm)
      exact k w ow2 _ go (w2.up kp.imm)
/-! ### own == [], own != [] -/
def eNil (neg : Bool) (j : Nat) : M D := fun ρ => match isOl ρ j with
  | some es => if okEq (.list es) (.list []) then some (.bool (if neg then !PyData.eqv (.list es) (.list []) else PyData.eqv (.list es) (.list [])), ρ) else none
  | none => none
theorem dp_own {K : KW} {H : Hp} {a : Addr} {xs : List V} {ds : List D} (h : H a = some (.lst xs)) (i : ImAll K H xs ds) (l : PyData.canLayAll0 ds = true) : Dp K H (.ref a) (.list ds) := .lst (.inl (.inl h)) (ImAll.dp ds _ l i)
theorem nil_of {K : KW} {neg : Bool} {j : Nat} : ∀ σ H Q, xT K g (e1 asB (eNil neg j)) σ H Q → tTest (tOp (rEqM K neg) (tVar j) (tLst tNil)) σ H Q := by
  rintro σ H Q ⟨ρ, own, d, ρ', h, R, k⟩
  obtain ⟨x, h3, h4⟩ := e1_some h
  unfold eNil at h3
  cases h0 : isOl ρ j with
  | none => simp only [h0] at h3; cases h3
  | some es =>
    simp only [h0] at h3
    split at h3
    · rename_i ok
      cases h3
      cases h4
      obtain ⟨a, xs, q1, q2, q3, _⟩ := R.ownAt (isOl_some h0)
      refine ⟨.ref a, q1, by show 0 ≤ sizeLine; exact Nat.zero_le _, fun p hp => ?_⟩
      refine ⟨.list es, .list [], dp_own (by rw [upd_ne (ne_of_none q2 hp)]; exact q2) (q3.up (.new hp)) (okEq_of ok).1, dp_own upd_same .nil rfl, ok, _, rfl, ?_⟩
      exact k own _ (R.goNew hp)
    · cases h3
theorem qt_eqNil (j : Nat) {y : Str} {p2 p3 : Pos} {kk : Nat} (hr : Room kk X.A) (hN : X.N[j]? = some y := by rfl) (hv : Vis X.env.scope y := by first | exact Or.inl rfl | exact Or.inr (Or.inl rfl) | exact Or.inr (Or.inr rfl))
    (hdy : (y == ("__debug__" : Str)) = false := by decide) (hcd : (y == ("__classdict__" : Str)) = false := by decide) (hm : behindInMarks .Eq (.List [] p3) = false := by first | exact nomark _ | rfl) : QT X g (.Compare (.Name y p2) [.Eq] [.List [] p3] pos) (e1 asB (eNil false j)) :=
  pt_conv (pt_cmpR (op_eqM hr.units) (pe_var hN hv hdy hcd) (pe_lst pa_nil) hm) nil_of
theorem qt_neNil (j : Nat) {y : Str} {p2 p3 : Pos} {kk : Nat} (hr : Room kk X.A) (hN : X.N[j]? = some y := by rfl) (hv : Vis X.env.scope y := by first | exact Or.inl rfl | exact Or.inr (Or.inl rfl) | exact Or.inr (Or.inr rfl))
    (hdy : (y == ("__debug__" : Str)) = false := by decide) (hcd : (y == ("__classdict__" : Str)) = false := by decide) (hm : behindInMarks .NotEq (.List [] p3) = false := by first | exact nomark _ | rfl) : QT X g (.Compare (.Name y p2) [.NotEq] [.List [] p3] pos) (e1 asB (eNil true j)) :=
  pt_conv (pt_cmpR (op_neM hr.units) (pe_var hN hv hdy hcd) (pe_lst pa_nil) hm) nil_of
/-! ### max(list) -/
def intsD : List D → Option (List Int)
  | [] => some []
  | .int i :: r => (match intsD r with | some l => some (i :: l) | none => none)
  | _ => none
theorem ints_ofD : ∀ {ds : List D} {l : List Int}, intsD ds = some l → ds = l.map .int
  | [], l, h => by cases h; rfl
  | .int i :: r, l, h => by
    unfold intsD at h
    split at h
    · rename_i l' h1
      cases h
      rw [ints_ofD h1]
      rfl
    · cases h
  | .none :: r, l, h => by cases h
  | .bool _ :: r, l, h => by cases h
  | .str _ :: r, l, h => by cases h
  | .list _ :: r, l, h => by cases h
  | .tuple _ :: r, l, h => by cases h
  | .dict _ :: r, l, h => by cases h
theorem im_intsV {K : KW} {H : Hp} : ∀ {l : List Int} {vs : List V}, ImAll K H vs (l.map .int) → vs = l.map V.int
  | [], _, h => by cases h; rfl
  | i :: r, _, h => by
    cases h with
    | cons h1 h2 => rw [h1.ofInt, im_intsV h2]; rfl
def fMaxL : List D → Option D
  | [.list ds] => (match intsD ds with
    | some (n :: ns) => some (.int (ns.foldl max n))
    | _ => none)
  | _ => none
theorem foldl_max : ∀ (ns : List Int) (n m : Int), (m = n ∨ m ∈ ns) → n ≤ m → (∀ y ∈ ns, y ≤ m) → ns.foldl max n = m
  | [], n, m, h, _, _ => by
    rcases h with rfl | h
    · rfl
    · cases h
  | x :: ns, n, m, h, h0, hy => by
    rw [List.foldl_cons]
    have hx := hy x (by simp)
    refine foldl_max ns (max n x) m ?_ (by omega) fun y h => hy y (List.mem_cons_of_mem _ h)
    rcases h with rfl | h
    · exact .inl (by omega)
    · rcases List.mem_cons.mp h with rfl | h
      · exact .inl (by omega)
      · exact .inr h
theorem f_maxL (hc : X.calm = true := by rfl) : Fn1 X (.builtin "max") fMaxL := ⟨_, cr_max hc, fun vs ds dz H Q i1 h q => by
  unfold fMaxL at h
  split at h
  · rename_i ds
    cases hi : intsD ds with
    | none => simp only [hi] at h; cases h
    | some l =>
      cases l with
      | nil => simp only [hi] at h; cases h
      | cons n ns =>
        simp only [hi] at h
        cases h
        have e := ints_ofD hi
        subst e
        match vs, i1 with
        | [v], .cons i1 .nil =>
          obtain ⟨a, xs, rfl, h1, h2⟩ := i1.ofLst
          have e := im_intsV h2
          subst e
          refine ⟨a, n :: ns, rfl, h1.sq, by simp, fun m hm hy => ?_⟩
          have := foldl_max ns n m (List.mem_cons.mp hm) (hy n (by simp)) (fun y h => hy y (List.mem_cons_of_mem _ h))
          rw [← this]
          exact q.int
  · cases h⟩
/-! ### xs[::-1] -/
def dRev : D → Option D
  | .list ds => some (.list ds.reverse)
  | _ => none
theorem ImAll.reverse {K : KW} {H : Hp} : ∀ {vs : List V} {ds : List D}, ImAll K H vs ds → ImAll K H vs.reverse ds.reverse
  | _, _, .nil => .nil
  | _, _, .cons h1 h2 => by
    rw [List.reverse_cons, List.reverse_cons]
    exact h2.reverse.append (.cons h1 .nil)
theorem q_rev {k : Nat} {p1 p2 p3 : Pos} {j1} (he : QE X g e f) : QE X g (.Subscript e (.Slice none none (some (.UnaryOp .USub (.Constant (.int 1) j1 p1) p2)) p3) pos) (e1 dRev f) := by
  refine pe_conv (pe_fz (pe_revL he)) ?_
  rintro σ H Q ⟨ρ, own, d, ρ', h, R, k⟩
  obtain ⟨x, h3, h4⟩ := e1_some h
  cases x with
  | list ds =>
    cases h4
    refine ⟨ρ, own, _, ρ', h3, R, fun v ow1 H1 k1 i1 => ?_⟩
    obtain ⟨a, xs, rfl, h1, h2⟩ := i1.ofLst
    exact ⟨a, xs, rfl, h1.sq, fun p hp => Out.lst (fun v H' s i => k v ow1 H' (k1.trans (k1.rel.goSame s)) i) hp h2.reverse⟩
  | _ => cases h4
/-! ### fresh lists -/
def fAdd (fa fb : M D) : M SV := fun ρ => match fa ρ with
  | some (.list xs, ρ1) => (match fb ρ1 with
    | some (.list ys, ρ2) => if xs.length + ys.length ≤ most then some (.ol (xs ++ ys), ρ2) else none
    | _ => none)
  | _ => none
theorem qf_add (ha : QE X g a fa) (hb : QE X g b fb) : QF X g (.BinOp a .Add b pos) (fAdd fa fb) := by
  refine pe_conv (pe_op op_catF ha hb) ?_
  rintro σ H Q ⟨ρ, own, sv, ρ', h, R, k⟩
  unfold fAdd at h
  split at h
  · rename_i xs ρ1 h1
    split at h
    · rename_i ys ρ2 h2
      split at h
      · rename_i hz
        cases h
        refine ⟨ρ, own, _, ρ1, h1, R, fun v ow1 H1 k1 i1 => ⟨ρ1, ow1, _, ρ', h2, k1.rel, fun w ow2 H2 k2 i2 => ?_⟩⟩
        obtain ⟨l, vs, rfl, q1, q2⟩ := (k2.im i1).ofLst
        obtain ⟨m, ws, rfl, q3, q4⟩ := i2.ofLst
        refine ⟨l, m, vs, ws, rfl, rfl, q1, q3, by rw [q2.len, q4.len]; exact Nat.le_trans hz most_line, fun p hp => ?_⟩
        have kt := k1.trans k2
        exact k _ ow2 _ [p] (kt.trans (kt.rel.goNew hp)) (.ol upd_same ((q2.append q4).up (.new hp))) (by simp) (fun a z => by rw [List.mem_singleton.mp z]; exact ⟨kt.kp.free hp, kt.rel.notIn hp⟩)
      · cases h
    · cases h
  · cases h
def fCallO (F : List D → Option (List D)) (fs : M (List D)) : M SV := fun ρ => match fs ρ with
  | some (ds, ρ1) => (match F ds with | some es => some (.ol es, ρ1) | none => none)
  | none => none
theorem qf_callO {y : Str} {p : Pos} {F : List D → Option (List D)} (hf : DefOk X y (spO (xkw X) g.T F)) (ha : QA X g (e :: es) fs) (hg : Gl X y := by rfl) (hdb : (y == ("__debug__" : Str)) = false := by decide)
    (he : starEach (e :: es) X.env = (false, eval e X.env) :: starEach es X.env := by rfl) (hpl : (backTo pos (starEach es X.env)).any (·.1) = false := by rfl) : QF X g (.Call (.Name y p) (e :: es) [] pos) (fCallO F fs) := by
  obtain ⟨k, f, fd, ps, F0, hr, hm, hk, hb⟩ := hf.ex
  refine pe_conv (pe_call F0 hr hg hm hk hb .nil pass0 ha hdb he hpl) ?_
  rintro σ H Q ⟨ρ, own, sv, ρ', h, R, k⟩
  unfold fCallO at h
  split at h
  · rename_i ds ρ1 h1
    cases h2 : F ds with
    | none => simp only [h2] at h; cases h
    | some es' =>
      simp only [h2] at h
      cases h
      refine ⟨ρ, own, ds, ρ', h1, R, fun vs ow1 H1 k1 i1 => ⟨ds, es', by simpa using i1, h2, k1.rel.tb, fun q xs H' kp tb nq hq im => ?_⟩⟩
      exact k _ ow1 H' [q] (k1.trans (k1.rel.go kp)) (.ol hq im) (by simp) (fun a z => by rw [List.mem_singleton.mp z]; exact ⟨k1.kp.free nq, k1.rel.notIn nq⟩)
  · cases h
end
end VS

namespace VS
open PySem PySem.Spec PyProof.Rows L2

/-! ### dict(list of pairs) -/
abbrev Pr := NestedKey × Addr × Value
def putAll (acc : List Pr) (prs : List Pr) : List Pr := prs.foldl (fun a p => storedH a p.1 p.2.1 p.2.2) acc
theorem storedH_len (xs : List Pr) (k : NestedKey) (b : Addr) (v : Value) : (storedH xs k b v).length ≤ xs.length + 1 := by
  unfold storedH
  split
  · rw [List.length_map]; omega
  · rw [List.length_append, List.length_cons, List.length_nil]; omega
/-- a pair at a place of the list -/
structure PairAt (h : Heap) (items : Array Value) (j : Nat) (p : Pr) (S I : Addr) : Prop where
  ex : ∃ b, items[j]? = some (.ref b) ∧ b ≠ S ∧ b ≠ I ∧ IsTup h b #[.ref p.2.1, p.2.2]
  key : NestedIs h p.1 (.ref p.2.1) ∧ p.1.depth ≤ 8
section
variable {prog : Program} {w : World} {A : Around} {E : Value → Shared → Prop}
theorem PairAt.keep {h h' : Heap} {items : Array Value} {j : Nat} {p : Pr} {S I : Addr} (x : PairAt h items j p S I) (k : ∀ b o vs n, h.get? b = some o → o.data = .seq vs n → h'.get? b = some o) : PairAt h' items j p S I := by
  obtain ⟨⟨b, h1, h2, h3, o, h4, h5, n, h6⟩, h7, h8⟩ := x
  exact ⟨⟨b, h1, h2, h3, o, k _ _ _ _ h4 h6, h5, n, h6⟩, NestedIs.at k _ _ h7, h8⟩
theorem upds {R : Result → Shared → Prop} {S I l : Addr} {items : Array Value} {res : Value} (hu : A.units + 9 < cLine) (hh : A.handled = none) (hlI : l ≠ I) (hSI : S ≠ I) (hSl : S ≠ l) :
    ∀ (rest : List Pr) (i : Nat) (acc : List Pr) (ix : Int) (t : Tok) (s : Shared), items.size = i + rest.length → acc.length + rest.length ≤ sizeLine → (∀ (j : Nat) (p : Pr), rest[j]? = some p → PairAt s.heap items (i + j) p S I) →
      s.heap.IsListIter I l i → s.heap.IsList l items → s.heap.DictOfH (nestedKind prog w) S acc →
      (∀ h' tk, h'.DictOfH (nestedKind prog w) S (putAll acc rest) → (∀ b o, b ≠ S → b ≠ I → s.heap.get? b = some o → h'.get? b = some o) → R (.ok (.ret res)) { s with heap := h', toks := tk }) →
      codeAny (model prog w) A (.builtin "dict.update.loop" ⟨[.ref S, .ref I, .int ix t, res], []⟩) R s
  | [], i, acc, ix, t, s, hsz, hln, ht, hit, hl, hm, hR => by
    refine codeAny_builtin ud_entry ?_
    rw [Around.under_plainId ud_plain _]
    show wpAny _ A.in1 (pyNext (.ref I) >>= _) _ _ s
    refine wpAny_bind (wpAny_pyNext_list_end (A := A.in1) hh hit hl (by first | exact Array.getElem?_eq_none (Nat.le_of_eq hsz) | (simp at hsz; simp; omega)) fun h' he => ?_)
    show wpAny _ A.in1 (Builtin.Dict.addKeywords S [] >>= _) _ _ _
    refine wpAny_bind (wpAny_pure (wpAny_pure ?_))
    obtain ⟨o, es, ep, g1, g2, g3, g4, g5, g6⟩ := hm
    refine hR h' s.toks ⟨o, es, ep, he _ _ hSI g1, g2, g3, g4, fun x hx => ⟨NestedIs.at (fun b o vs n e d => ?_) _ _ (g5 x hx).1, (g5 x hx).2⟩, g6⟩ fun b o _ hb e => he b o hb e
    refine he b o (fun z => ?_) e
    obtain ⟨oi, e1, _, e2⟩ := hit
    rw [z, e1] at e
    cases e
    rw [e2] at d
    cases d
  | q :: rest, i, acc, ix, t, s, hsz, hln, ht, hit, hl, hm, hR => by
    obtain ⟨⟨b, hb, hbS, hbI, htup⟩, hk⟩ := ht 0 q rfl
    rw [List.length_cons] at hsz hln
    refine codeAny_builtin ud_entry ?_
    rw [Around.under_plainId ud_plain _]
    show wpAny _ A.in1 (pyNext (.ref I) >>= _) _ _ s
    have nI : ∀ b o vs n, s.heap.get? b = some o → o.data = .seq vs n → b ≠ I := fun b o vs n e d z => by
      obtain ⟨oi, e1, _, e2⟩ := hit
      rw [z, e1] at e
      cases e
      rw [e2] at d
      cases d
    refine wpAny_bind (wpAny_pyNext_list_item (x := .ref b) hit hl (by simpa using hb) fun h1 hit1 hs1 => ?_)
    have k1 : ∀ b o vs n, s.heap.get? b = some o → o.data = .seq vs n → h1.get? b = some o := fun b o vs n e d => (hs1.2 b (nI b o vs n e d)).trans e
    have ht1 : IsTup h1 b #[.ref q.2.1, q.2.2] := htup.extBut hs1.extBut hbI
    have hl1 : h1.IsList l items := hl.extBut hs1.extBut hlI
    have hm1 : h1.DictOfH (nestedKind prog w) S acc := by
      obtain ⟨o, es, ep, g1, g2, g3, g4, g5, g6⟩ := hm
      exact ⟨o, es, ep, (hs1.2 _ hSI).trans g1, g2, g3, g4, fun x hx => ⟨NestedIs.at k1 _ _ (g5 x hx).1, (g5 x hx).2⟩, g6⟩
    obtain ⟨o, ho, hc, n, hd⟩ := id ht1
    show wpAny _ A.in1 (holding [Value.ref b] _ >>= _) _ _ _
    refine wpAny_bind (wpAny_holding ?_)
    refine wpAny_bind (wpAny_tryCatch ?_)
    unfold Builtin.Dict.pairItems
    refine wpAny_bind (wpAny_typeOf (T := "tuple") ⟨o, ho, hc⟩ ?_)
    rw [if_pos (by first | decide | rfl | simp)]
    refine wpAny_bind (wpAny_seqItems ho hd (wpAny_pure ?_))
    show wpAny _ A.in1 (holding [.ref q.2.1, q.2.2] (dictSet S (.ref q.2.1) q.2.2)) _ _ _
    have hkey : (nestedKind prog w).is h1 q.1 q.2.1 := ⟨NestedIs.at k1 _ _ hk.1, hk.2⟩
    refine wpAny_holding (wpAny_dictSet_heap (knd := nestedKind prog w) (show A.units + 1 + 8 < cLine by omega) hkey hm1 (fun h2 hm2 hs2 => ?_) (by omega))
    have k2 : ∀ b o vs n, h1.get? b = some o → o.data = .seq vs n → h2.get? b = some o := fun b o vs n e d => by
      refine (hs2.2 b fun z => ?_).trans e
      obtain ⟨od, es, ep, g1, g2, g3, _⟩ := hm1
      rw [z, g1] at e
      cases e
      rw [g3] at d
      cases d
    refine wpAny_pure ⟨plainId_quiet ud_plain _, upds (items := items) hu hh hlI hSI hSl rest (i + 1) (storedH acc q.1 q.2.1 q.2.2) (ix + 1) 0 _ (show items.size = i + 1 + rest.length by omega) ?_ (fun j q' e => ?_) ?_ ?_ hm2 fun h' tk hd' k => ?_⟩
    · have z := storedH_len acc q.1 q.2.1 q.2.2
      omega
    · have := ht (j + 1) q' (by simpa using e)
      rw [show i + (j + 1) = i + 1 + j by omega] at this
      exact (this.keep k1).keep k2
    · exact hit1.at fun o' e => hs2.extBut I o' (Ne.symm hSI) e
    · exact hl1.extBut hs2.extBut (Ne.symm hSl)
    · exact hR h' tk hd' fun c oc h3 h4 e => k c oc h3 h4 (hs2.extBut c oc h3 (hs1.extBut c oc h4 e))
theorem dict_prs {s : Shared} {l : Addr} {ol : Obj} {items : Array Value} {n : Nat} {prs : List Pr} {Q : Value → Shared → Prop} (hu : A.units + 10 < cLine) (hh : A.handled = none) (hl : s.heap.get? l = some ol) (hc : ol.cls = .type "list") (hd : ol.dict = none)
    (hdat : ol.data = .seq items n) (hsz : items.size = prs.length) (hln : prs.length ≤ sizeLine) (ht : ∀ (j : Nat) (p : Pr), prs[j]? = some p → ∃ b, items[j]? = some (.ref b) ∧ IsTup s.heap b #[.ref p.2.1, p.2.2] ∧ NestedIs s.heap p.1 (.ref p.2.1) ∧ p.1.depth ≤ 8)
    (h : ∀ h' tk, h'.DictOfH (nestedKind prog w) s.heap.objs.size (putAll [] prs) → (∀ b o, s.heap.get? b = some o → h'.get? b = some o) → Q (.ref s.heap.objs.size) { s with heap := h', toks := tk }) :
    wpAny (model prog w) A (call (.type "dict") [.ref l]) Q E s := by
  refine callType_codes (Q₁ := fun obj s₁ => obj = .ref s.heap.objs.size ∧ s₁ = { s with heap := s.heap.push { cls := .type "dict", data := .dict #[] } }) PySem.F.kt_called_dict (PySem.F.kt_typeCall_dict_1 _) PySem.F.entry_dict_init (kt_code_dict_new _ ⟨rfl, rfl⟩) ?_
  rintro obj s₁ ⟨rfl, rfl⟩
  have hnew : (s.heap.push { cls := .type "dict", data := .dict #[] }).DictOfH (nestedKind prog w) s.heap.objs.size [] := Heap.DictOfH.new s.heap
  have k0 : ∀ b o, s.heap.get? b = some o → (s.heap.push { cls := .type "dict", data := .dict #[] }).get? b = some o := fun b o e => Heap.get?_push_of_some _ e
  refine ⟨hnew.typeIs, PySem.F.args_dict_init_2 _ _, ?_⟩
  unfold Builtin.«dict.__init__»
  refine wpAny_bind ?_
  unfold Builtin.Dict.selfAndRest
  refine wpAny_bind (wpAny_notOrdered_dict hnew.typeIs (wpAny_pure ?_))
  show wpAny _ _ (Builtin.Dict.updateFrom "dict.__init__" s.heap.objs.size (.ref l) [] .none) _ _ _
  unfold Builtin.Dict.updateFrom
  refine wpAny_bind (wpAny_typeOf (T := "list") ⟨ol, k0 _ _ hl, hc⟩ ?_)
  rw [if_pos (by first | decide | rfl | simp)]
  refine wpAny_bind (miss_list (k0 _ _ hl) hc hdat hd hh fun h1 tk1 hk1 => ?_)
  rw [if_pos (show (none : Option Value).isNone = true from rfl)]
  refine wpAny_bind (wpAny_rule ?_)
  have hl1 : h1.IsList l items := ⟨ol, hk1 _ _ (k0 _ _ hl), hc, n, hdat⟩
  have e0 : (s.heap.push { cls := .type "dict", data := .dict #[] }).get? s.heap.objs.size = some { cls := .type "dict", data := .dict #[] } := Heap.get?_push_size _ rfl
  have hS1 : s.heap.objs.size < h1.objs.size := Heap.lt_size (hk1 _ _ e0)
  refine wpAny_bind (wpAny_pyIter_list hl1 ?_)
  have k2 : ∀ b o, h1.get? b = some o → (h1.push { cls := .type "list_iterator", data := .fields #[.ref l, .int 0 0] }).get? b = some o := fun b o e => Heap.get?_push_of_some _ e
  have kk : ∀ b o, s.heap.get? b = some o → (h1.push { cls := .type "list_iterator", data := .fields #[.ref l, .int 0 0] }).get? b = some o := fun b o e => k2 _ _ (hk1 _ _ (k0 _ _ e))
  have hlt : l < s.heap.objs.size := Heap.lt_size hl
  have key := upds (prog := prog) (w := w) (A := A.in1) (R := wants (fun r s₂ => r = .none ∧ Q (.ref s.heap.objs.size) s₂) E) (S := s.heap.objs.size) (I := h1.objs.size) (l := l) (items := items) (res := Value.none) (show A.units + 1 + 9 < cLine by omega) hh
    (Nat.ne_of_lt (Nat.lt_trans hlt hS1)) (Nat.ne_of_lt hS1) (Nat.ne_of_gt hlt) prs 0 [] 0 0
    { s with heap := h1.push { cls := .type "list_iterator", data := .fields #[.ref l, .int 0 0] }, toks := tk1 } (by rw [hsz, Nat.zero_add]) (by rw [List.length_nil, Nat.zero_add]; exact hln)
    (fun j q e => by
      obtain ⟨b, e1, e2, e3, e4⟩ := ht j q e
      have hb : b < s.heap.objs.size := e2.lt
      exact ⟨⟨b, by rw [Nat.zero_add]; exact e1, Nat.ne_of_lt hb, Nat.ne_of_lt (Nat.lt_trans hb hS1), e2.keeps kk⟩, NestedIs.at (fun b o _ _ e _ => kk b o e) _ _ e3, e4⟩)
    ⟨_, Heap.get?_push_size _ rfl, rfl, rfl⟩ (hl1.at fun o e => k2 _ _ e) ⟨_, _, _, k2 _ _ (hk1 _ _ e0), ⟨rfl, rfl, rfl⟩, rfl, rfl, And.intro (fun _ h => by simp at h) List.nodup_nil⟩
    (fun h' tk hd' k => ⟨rfl, h h' tk hd' fun b o e => k b o (Nat.ne_of_lt (Heap.lt_size e)) (Nat.ne_of_lt (Nat.lt_trans (Heap.lt_size e) hS1)) (kk _ _ e)⟩)
  first
    | exact wpAny_pure ⟨plainId_quiet ud_plain _, key⟩
    | exact wpAny_bind (wpAny_pure (wpAny_pure ⟨plainId_quiet ud_plain _, key⟩))
end
/-- by values: T the pair's tuple -/
abbrev PrV := Addr × NestedKey × Addr × V
def putEs (acc : List Ent) (prs : List PrV) : List Ent := prs.foldl (fun a p => putE a p.2.1 p.2.2.1 p.2.2.2) acc
def PrOk (K : KW) (H : Hp) (p : PrV) : Prop := SqT K H p.1 [.ref p.2.2.1, p.2.2.2] ∧ ∃ dk, keyD dk = some p.2.1 ∧ Im K H (.ref p.2.2.1) dk
section
variable {X : Cx}
theorem prs_of {pins : List (Addr × Obj)} {σ : L2.St} {H : Hp} {s : Shared} (I : Inv X pins σ H s) : ∀ {ps : List PrV}, (∀ p ∈ ps, PrOk (xkw X) H p) →
    ∃ prs : List Pr, prs.length = ps.length ∧ (∀ (j : Nat) (q : Pr), prs[j]? = some q → ∃ p, ps[j]? = some p ∧ IsTup s.heap p.1 #[.ref q.2.1, q.2.2] ∧ NestedIs s.heap q.1 (.ref q.2.1) ∧ q.1.depth ≤ 8) ∧ ∀ xs ys, EntP xs ys → EntP (putEs xs ps) (putAll ys prs)
  | [], _ => ⟨[], rfl, fun j q e => by simp at e, fun _ _ h => h⟩
  | p :: ps, h => by
    obtain ⟨h1, dk, h2, h3⟩ := h p (by simp)
    obtain ⟨prs, l, q, r⟩ := prs_of I (ps := ps) fun x hx => h x (List.mem_cons_of_mem _ hx)
    obtain ⟨its, rv, ht, _⟩ := I.tuple h1
    obtain ⟨u, y, ei, ru, ry⟩ := vals2 rv
    subst ei
    obtain rfl : u = Value.ref p.2.2.1 := ru
    obtain ⟨b, e1, e2, e3⟩ := key_is I h2 h3 rfl
    cases e1
    refine ⟨(p.2.1, p.2.2.1, y) :: prs, by rw [List.length_cons, List.length_cons, l], fun j z e => ?_, fun xs ys hr => r _ _ (hr.put p.2.1 p.2.2.1 ry)⟩
    cases j with
    | zero =>
      have e' := Option.some.inj e
      subst e'
      exact ⟨p, rfl, ht, e3⟩
    | succ j =>
      obtain ⟨p', e1, e2⟩ := q j z (by simpa using e)
      exact ⟨p', by simpa using e1, e2⟩
theorem putEs_len : ∀ (ps : List PrV) (xs : List Ent), (putEs xs ps).length ≤ xs.length + ps.length
  | [], xs => Nat.le_refl _
  | p :: ps, xs => by
    have h1 := putEs_len ps (putE xs p.2.1 p.2.2.1 p.2.2.2)
    have h2 := putE_len xs p.2.1 p.2.2.1 p.2.2.2
    rw [List.length_cons]
    exact Nat.le_trans h1 (by omega)
theorem call_dictPr (hcalm : X.calm = true) (hu : X.A.units + 10 < cLine) : CallR X (.type "dict") (fun xs H Q => ∃ (a : Addr) (ps : List PrV), xs = [.ref a] ∧ SqL X.K H a (ps.map fun p => V.ref p.1) ∧ (∀ p ∈ ps, PrOk (xkw X) H p) ∧
    ∀ p, H p = none → Q (.ref p) (upd H p (DO (xkw X) p (putEs [] ps)))) := by
  intro pins s σ H xs us Q I r ⟨a, ps, ex, hq, hp, q⟩
  subst ex
  obtain ⟨u, eu, rx⟩ := vals1 r
  subst eu
  cases rx
  obtain ⟨its, rv, pl, hz⟩ := I.list hq
  have e2 : (ps.map fun p => V.ref p.1) = (ps.map (·.1)).map V.ref := by rw [List.map_map]; rfl
  rw [e2] at rv
  have ei := refs_at rv
  subst ei
  rw [List.length_map] at hz
  obtain ⟨prs, hl, hpr, hrel⟩ := prs_of I hp
  obtain ⟨o, n, ho, hc, hd, hdat⟩ := pl
  refine dict_prs (prs := prs) hu (I.ok.hd hcalm) ho hc hd hdat (by simp [hl]) (by rw [hl]; exact hz) (fun j q' e => ?_) fun h' tk hd' k => ?_
  · obtain ⟨p, e1, e2, e3⟩ := hpr j q' e
    exact ⟨p.1, by simp [e1], e2, e3⟩
  · have hm : (s.heap.objs.size == sysModules) = false := beq_eq_false_iff_ne.mpr (Nat.ne_of_gt I.big)
    have hlen : (putEs [] ps).length ≤ sizeLine := Nat.le_trans (putEs_len ps []) (by rw [List.length_nil, Nat.zero_add]; exact hz)
    exact ⟨.ref s.heap.objs.size, _, I.laid (t' := tk) (o := DO (xkw X) s.heap.objs.size (putEs [] ps)) k (Nat.le_refl _) (dictO_ok rfl hlen hm (hrel [] [] .nil) hd'), rfl, q _ (I.hok.fresh (Nat.le_refl _))⟩
end
end VS

namespace VS
open PySem PySem.Spec PyProof.Rows L2

/-! ### dict([(x, []) for ..]) -/
def dedup1 (acc : List (D × List D)) (x : D) : List (D × List D) := match keyD x with
  | some k => if (lookD acc k).isSome then acc else acc ++ [(x, [])]
  | none => acc
def dedupK (acc : List (D × List D)) (xs : List D) : List (D × List D) := xs.foldl dedup1 acc
def isKey (x : D) : Option D := if (keyD x).isSome then some x else none
def fDictOf (it : M (List D)) (t : D → Rho → Option Rho) (ek : M D) (vs : List Nat) : M SV := fun ρ => match it ρ with
  | none => none
  | some (ds, ρ1) => if okW ρ1 vs then (match lcGo t tYesM (e1 isKey ek) vs ds (wipeR ρ1 vs) with
    | none => none
    | some (ys, ρ2) => if ys.length ≤ most then some (.odl (dedupK [] ys), restR ρ1 ρ2 vs) else none) else none
section
variable {K : KW} {H H' : Hp}
theorem DLst.repl0 {k : NestedKey} {l : Addr} (hl : H l = some (.lst [])) : ∀ {xs : List Ent} {kvs : List (D × List D)} {ls : List Addr}, DLst K H xs kvs ls → (∀ e ∈ kvs, e.2 = []) → (xs.map (·.1)).Nodup → ls.Nodup → l ∉ ls →
    ∃ ls', DLst K H (xs.map fun e => if e.1 = k then (e.1, e.2.1, .ref l) else e) kvs ls' ∧ (∀ a ∈ ls', a ∈ ls ∨ a = l) ∧ ls'.Nodup
  | _, _, _, .nil, _, _, _, _ => ⟨[], .nil, And.intro (fun a h => by simp at h) List.nodup_nil⟩
  | _, _, _, .cons (k := k0) (ka := ka) (l := l0) (ys := ys) (dk := dk) (ds := dv) (xs := xs) (kvs := kvs) (ls := ls) h1 h2 h3 h4 h6 h5, he, nk, nd, nl => by
    rw [List.map_cons, List.nodup_cons] at nk
    rw [List.nodup_cons] at nd
    rw [List.map_cons]
    by_cases e : k0 = k
    · subst e
      rw [if_pos rfl]
      have same : (xs.map fun e => if e.1 = k0 then (e.1, e.2.1, V.ref l) else e) = xs := by
        have : ∀ e ∈ xs, (if e.1 = k0 then (e.1, e.2.1, V.ref l) else e) = e := fun e hm => if_neg fun z => nk.1 (by have := List.mem_map_of_mem (f := fun (e : Ent) => e.1) hm; rw [z] at this; exact this)
        exact (List.map_congr_left this).trans (List.map_id' xs)
      rw [same]
      have dv0 : dv = [] := he (dk, dv) (by simp)
      subst dv0
      refine ⟨l :: ls, .cons h1 h2 h3 hl .nil h5, fun a ha => ?_, ?_⟩
      · rcases List.mem_cons.mp ha with ha | ha
        · exact .inr ha
        · exact .inl (List.mem_cons_of_mem _ ha)
      · rw [List.nodup_cons]
        exact ⟨fun z => nl (List.mem_cons_of_mem _ z), nd.2⟩
    · rw [if_neg e]
      obtain ⟨ls', d, sub, nd'⟩ := DLst.repl0 hl h5 (fun e he' => he e (List.mem_cons_of_mem _ he')) nk.2 nd.2 (fun z => nl (List.mem_cons_of_mem _ z))
      refine ⟨l0 :: ls', .cons h1 h2 h3 h4 h6 d, fun a ha => ?_, ?_⟩
      · rcases List.mem_cons.mp ha with ha | ha
        · exact .inl (by rw [ha]; simp)
        · exact (sub a ha).elim (fun z => .inl (List.mem_cons_of_mem _ z)) .inr
      · rw [List.nodup_cons]
        refine ⟨fun z => ?_, nd'⟩
        rcases sub l0 z with z | z
        · exact nd.1 z
        · exact nl (by rw [z]; simp)
theorem putE_keys {xs : List Ent} {k : NestedKey} {b : Addr} {v : V} (nk : (xs.map (·.1)).Nodup) : ((putE xs k b v).map (·.1)).Nodup := by
  unfold putE
  split
  · rw [List.map_map]
    have : ((fun (e : Ent) => e.1) ∘ fun e => if e.1 = k then (e.1, e.2.1, v) else e) = fun (e : Ent) => e.1 := by
      funext e
      show (if e.1 = k then (e.1, e.2.1, v) else e).1 = e.1
      split <;> rfl
    rw [this]
    exact nk
  · rename_i h
    rw [List.map_append, List.nodup_append]
    refine ⟨nk, by simp, fun c hc m hm e => ?_⟩
    have hm : m = k := by simpa using hm
    subst hm e
    obtain ⟨en, h1, h2⟩ := List.mem_map.mp hc
    refine h ?_
    unfold entAt
    rw [Option.isSome_map, List.find?_isSome]
    exact ⟨en, h1, by simp [h2]⟩
/-- the pairs of a list, as they stand -/
abbrev PsOk (K : KW) (H : Hp) : List PrV → List D → Prop := Paired fun (q : PrV) (x : D) => H q.1 = some (.tup [.ref q.2.2.1, q.2.2.2]) ∧ keyD x = some q.2.1 ∧ Im K H (.ref q.2.2.1) x ∧ ∃ l, q.2.2.2 = .ref l ∧ H l = some (.lst [])
def lsOf (ps : List PrV) : List Addr := ps.map fun q => match q.2.2.2 with | .ref l => l | _ => 0
theorem psok_dlst : ∀ {ps : List PrV} {ads : List D} {xs : List Ent} {kvs : List (D × List D)} {ls : List Addr}, PsOk K H ps ads → DLst K H xs kvs ls → (∀ e ∈ kvs, e.2 = []) → (xs.map (·.1)).Nodup → ls.Nodup → (lsOf ps).Nodup → (∀ a ∈ ls, a ∉ lsOf ps) →
    ∃ ls', DLst K H (putEs xs ps) (dedupK kvs ads) ls' ∧ (∀ a ∈ ls', a ∈ ls ∨ a ∈ lsOf ps) ∧ ls'.Nodup ∧ ((putEs xs ps).map (·.1)).Nodup
  | _, _, xs, kvs, ls, .nil, d, _, nk, nd, _, _ => ⟨ls, d, fun a h => .inl h, nd, nk⟩
  | _, _, xs, kvs, ls, .cons (a := q) (b := x) (l₁ := ps) (l₂ := ads) ⟨h1, h2, h3, l, h4, h5⟩ t, d, he, nk, nd, np, dj => by
    have el : lsOf (q :: ps) = l :: lsOf ps := by unfold lsOf; rw [List.map_cons, h4]
    rw [el] at np dj
    rw [List.nodup_cons] at np
    obtain ⟨_, e1, e2⟩ := keyD_some h2
    have nl : l ∉ ls := fun z => dj l z (by simp)
    have step : ∃ ls1, DLst K H (putE xs q.2.1 q.2.2.1 q.2.2.2) (dedup1 kvs x) ls1 ∧ (∀ a ∈ ls1, a ∈ ls ∨ a = l) ∧ ls1.Nodup ∧ ∀ e ∈ dedup1 kvs x, e.2 = [] := by
      unfold dedup1
      simp only [h2]
      have iso : (entAt xs q.2.1).isSome = (lookD kvs q.2.1).isSome := by
        rcases d.look q.2.1 with ⟨z1, z2⟩ | ⟨_, _, _, _, z1, z2, _⟩ <;> rw [z1, z2] <;> rfl
      unfold putE
      rw [iso, h4]
      by_cases c : (lookD kvs q.2.1).isSome = true
      · rw [if_pos c, if_pos c]
        obtain ⟨ls1, a1, a2, a3⟩ := d.repl0 (k := q.2.1) h5 he nk nd nl
        exact ⟨ls1, a1, a2, a3, he⟩
      · rw [if_neg c, if_neg c]
        refine ⟨ls ++ [l], d.snoc e1 e2 h3 h5 .nil, fun a ha => ?_, ?_, fun e hm => ?_⟩
        · exact (List.mem_append.mp ha).elim .inl (fun z => .inr (List.mem_singleton.mp z))
        · rw [List.nodup_append]
          exact ⟨nd, by simp, fun a ha b hb e => nl (by rw [← List.mem_singleton.mp hb, ← e]; exact ha)⟩
        · rcases List.mem_append.mp hm with hm | hm
          · exact he e hm
          · rw [List.mem_singleton.mp hm]
    obtain ⟨ls1, b1, b2, b3, b4⟩ := step
    obtain ⟨ls', c1, c2, c3, c4⟩ := psok_dlst t b1 b4 (putE_keys nk) b3 np.2 (fun a ha z => by
      rcases b2 a ha with ha | ha
      · exact dj a ha (List.mem_cons_of_mem _ z)
      · exact np.1 (by rw [← ha]; exact z))
    refine ⟨ls', c1, fun a ha => ?_, c3, c4⟩
    rw [el]
    rcases c2 a ha with z | z
    · rcases b2 a z with z | z
      · exact .inl z
      · exact .inr (by rw [z]; simp)
    · exact .inr (List.mem_cons_of_mem _ z)
theorem PsOk.up (k : ImKeep H H') : ∀ {ps : List PrV} {ads : List D}, PsOk K H ps ads → (∀ l ∈ lsOf ps, H l = some (.lst []) → H' l = some (.lst [])) → PsOk K H' ps ads
  | _, _, .nil, _ => .nil
  | _, _, .cons (a := q) (l₁ := ps) ⟨h1, h2, h3, l, h4, h5⟩ t, e => by
    have el : lsOf (q :: ps) = l :: lsOf ps := by unfold lsOf; rw [List.map_cons, h4]
    exact .cons ⟨k.tup _ _ h1, h2, h3.up k, l, h4, e l (by rw [el]; simp) h5⟩ (PsOk.up k t fun a ha => e a (by rw [el]; exact List.mem_cons_of_mem _ ha))
theorem PsOk.there : ∀ {ps : List PrV} {ads : List D}, PsOk K H ps ads → ∀ l ∈ lsOf ps, H l = some (.lst [])
  | _, _, .nil => fun l h => by simp [lsOf] at h
  | _, _, .cons (a := q) (l₁ := ps) ⟨h1, h2, h3, l, h4, h5⟩ t => fun a ha => by
    have el : lsOf (q :: ps) = l :: lsOf ps := by unfold lsOf; rw [List.map_cons, h4]
    rw [el] at ha
    rcases List.mem_cons.mp ha with rfl | ha
    · exact h5
    · exact PsOk.there t a ha
theorem PsOk.prs : ∀ {ps : List PrV} {ads : List D}, PsOk K H ps ads → ∀ p ∈ ps, PrOk K H p
  | _, _, .nil => fun l h => by cases h
  | _, _, .cons ⟨h1, h2, h3, l, h4, h5⟩ t => fun p hp => by
    rcases List.mem_cons.mp hp with rfl | hp
    · exact ⟨.of h1, _, h2, h3⟩
    · exact PsOk.prs t p hp
theorem lsOf_app (ps qs : List PrV) : lsOf (ps ++ qs) = lsOf ps ++ lsOf qs := by unfold lsOf; rw [List.map_append]
theorem isKey_some {x y : D} (h : isKey x = some y) : y = x ∧ ∃ k, keyD x = some k := by
  unfold isKey at h
  split at h
  · rename_i c
    cases h
    exact ⟨rfl, Option.isSome_iff_exists.mp c⟩
  · cases h
end
section
variable {X : Cx} {g : Gx}
theorem dictOf_of {fi : M (List D)} {t : D → Rho → Option Rho} {ts vs : List Nat} {ek : M D} (hts : ∀ i ∈ ts, i ∈ vs) :
    ∀ σ H Q, xF (xkw X) g (fDictOf fi t ek vs) σ H Q → tCB (fun vs H Q => ∃ (a : Addr) (ps : List PrV), vs = [.ref a] ∧ SqL X.K H a (ps.map fun p => V.ref p.1) ∧ (∀ p ∈ ps, PrOk (xkw X) H p) ∧ ∀ p, H p = none → Q (.ref p) (upd H p (DO (xkw X) p (putEs [] ps))))
      (tCons (tLc (xI (xkw X) g fi) (xG (xkw X) g t ts) (xT (xkw X) g tYesM) (tTup (tCons (xE (xkw X) g ek) (tCons (tLst tNil) tNil))) vs) tNil) σ H Q := by
  rintro σ H Q ⟨ρ, own, sv, ρ', h, R, k⟩
  unfold fDictOf at h
  split at h
  · cases h
  rename_i ds ρ1 h1
  split at h
  · rename_i hw
    split at h
    · cases h
    rename_i ys ρ2 h2
    split at h
    · rename_i hz
      cases h
      refine ⟨ρ, own, ds, ρ1, h1, R, fun J ow1 H1 k1 dr p hp => ?_⟩
      have r1 := k1.rel
      have rw1 := r1.wipe vs
      have np1 : ¬ InO ow1 p := r1.notIn hp
      refine ⟨fun i m H2 => m = ds.length - i ∧ i ≤ ds.length ∧ ∃ ρi ow2 ps ads yr, Go (xkw X) g (L2.wipe σ vs) ow1 H1 (L2.wipe σ vs) ρi ow2 H2 ∧ (∀ a ∈ p :: lsOf ps, ¬ InO ow2 a ∧ H1 a = none) ∧ H2 p = some (.lst (ps.map fun q => V.ref q.1)) ∧ PsOk (xkw X) H2 ps ads ∧ (p :: lsOf ps).Nodup ∧ lcGo t tYesM (e1 isKey ek) vs (ds.drop i) ρi = some (yr, ρ2) ∧ ads ++ yr = ys,
        ⟨_, rfl, Nat.zero_le _, wipeR ρ1 vs, wipeO ow1 vs, [], [], ys, ⟨.new hp, fun a z => .inl (wipeO_sub z), fun _ _ => rfl, (rw1.goNew hp).rel⟩, fun a ha => by rw [List.mem_singleton.mp ha]; exact ⟨fun z => np1 (wipeO_sub z), hp⟩, upd_same, .nil, (by show [p].Nodup; simp), h2, rfl⟩, ?_⟩
      rintro i m H2 ⟨rfl, hi, ρi, ow2, ps, ads, yr, k2, np, hp2, ia, nd, hg, ey⟩
      obtain ⟨dr1, dr2⟩ := dr H2 k2.kp.imm i
      cases hd : ds[i]? with
      | none =>
        refine .inl ⟨dr2 hd, ?_⟩
        have hl : ds.length ≤ i := List.getElem?_eq_none_iff.mp hd
        rw [List.drop_of_length_le hl] at hg
        cases hg
        rw [List.append_nil] at ey
        subst ey
        refine ⟨p, ps, rfl, .inl (.inl hp2), ia.prs, fun q hq => ?_⟩
        obtain ⟨ls', d, sub, nd', nk'⟩ := psok_dlst ia .nil (fun e h => by cases h) (by simp) List.nodup_nil (List.nodup_cons.mp nd).2 (fun a h => by cases h)
        have kn : Kp g.T B0 H2 (upd H2 q (DO (xkw X) q (putEs [] ps))) := .new hq
        have there : ∀ a ∈ ls', H2 a = some (.lst []) := fun a ha => (sub a ha).elim (fun z => by cases z) (ia.there a)
        have nq : q ∉ ls' := fun z => by have := there q z; rw [hq] at this; cases this
        have kt := k2.trans (k2.rel.goNew (o := DO (xkw X) q (putEs [] ps)) hq)
        refine k _ _ _ (q :: ls') ⟨k1.kp.trans kt.kp k1.sub, fun a z => ?_, fun _ _ => rfl, r1.rest hw kt.kp.imm kt.rel⟩ (.odl upd_same (d.up kn.imm fun a ha ys z => by rw [upd_ne (fun e => nq (by rw [← e]; exact ha))]; exact z) (by rw [List.nodup_cons]; exact ⟨nq, nd'⟩) nk') (by rw [List.nodup_cons]; exact ⟨nq, nd'⟩) (fun a z => ?_)
        · rcases kt.sub a (wipeO_sub z) with z | z
          · exact k1.sub a z
          · exact .inr (k1.kp.free z)
        · rcases List.mem_cons.mp z with rfl | z
          · exact ⟨k1.kp.free (k2.kp.free hq), fun z => k2.rel.notIn hq (wipeO_sub z)⟩
          · have za : a ∈ p :: lsOf ps := (sub a z).elim (fun z => by cases z) (fun z => List.mem_cons_of_mem _ z)
            exact ⟨k1.kp.free (np a za).2, fun z => (np a za).1 (wipeO_sub z)⟩
      | some d =>
        obtain ⟨go, yl⟩ := dr1 d hd
        have hlt : i < ds.length := (List.getElem?_eq_some_iff.mp hd).1
        rw [drop_get hd, lcGo] at hg
        cases ht : t d ρi with
        | none => simp only [ht] at hg; cases hg
        | some ρ3 =>
          simp only [ht, tYesM] at hg
          cases hv : e1 isKey ek ρ3 with
          | none => simp only [hv] at hg; cases hg
          | some q =>
            obtain ⟨yv, ρ5⟩ := q
            simp only [hv] at hg
            split at hg
            · cases hg
            · rename_i yr' ρ6 h6
              cases hg
              obtain ⟨x, hx1, hx2⟩ := e1_some hv
              obtain ⟨rfl, key, hkey⟩ := isKey_some hx2
              refine .inr ⟨go, fun H' => ∃ ρi ow2 ps ads yr, Go (xkw X) g (L2.wipe σ vs) ow1 H1 (L2.wipe σ vs) ρi ow2 H' ∧ (∀ a ∈ p :: lsOf ps, ¬ InO ow2 a ∧ H1 a = none) ∧ H' p = some (.lst (ps.map fun q => V.ref q.1)) ∧ PsOk (xkw X) H' ps ads ∧ (p :: lsOf ps).Nodup ∧ lcGo t tYesM (e1 isKey ek) vs (ds.drop (i + 1)) ρi = some (yr, ρ2) ∧ ads ++ yr = ys,
                fun H' n' => ⟨ds.length - (i + 1), by omega, rfl, by omega, n'⟩, fun z H3 yz => ?_⟩
              obtain ⟨sm, im⟩ := yl z H3 yz
              have s3 := k2.rel.goSame sm
              refine ⟨d, ρi, ow2, ρ3, ht, im, s3.rel, fun σ4 ow4 H4 k4 so => ?_⟩
              have ew := wipe_same hts so
              refine ⟨ew, ρ3, ow4, true, ρ3, rfl, k4.rel, fun ow5 H5 k5 => iteT ⟨ρ3, ow5, yv, ρ5, hx1, k5.rel, fun kv ow6 H6 k6 i6 => ⟨by show 0 ≤ sizeLine; exact Nat.zero_le _, fun l hl => ⟨by show 2 ≤ sizeLine; decide, fun T hT => ?_⟩⟩⟩⟩
              have k36 := ((s3.trans k4).trans k5).trans k6
              have kb : Go (xkw X) g (L2.wipe σ vs) ow2 H2 (L2.wipe σ vs) (wipeR ρ5 vs) (wipeO ow6 vs) H6 := ⟨k36.kp, fun a z => k36.sub a (wipeO_sub z), fun _ _ => rfl, by have := k36.rel.wipe vs; rw [ew] at this; exact this⟩
              have there : ∀ a ∈ p :: lsOf ps, ∃ o, H2 a = some o ∧ ∀ ps, o ≠ .tbl ps := fun a z => by
                rcases List.mem_cons.mp z with rfl | z
                · exact ⟨_, hp2, fun _ z => by cases z⟩
                · exact ⟨_, ia.there a z, fun _ z => by cases z⟩
              have np6 : ∀ a ∈ p :: lsOf ps, ¬ InO (wipeO ow6 vs) a := fun a ha z => (kb.sub a z).elim (np a ha).1 fun q => by
                obtain ⟨o, e, _⟩ := there a ha
                rw [e] at q
                cases q
              have nl : l ∉ p :: lsOf ps := fun z => by
                obtain ⟨o, e, nt⟩ := there l z
                have e' := kb.kp.ext l o e (np l z).1 nt
                rw [hl] at e'
                cases e'
              have hT6 : H6 T = none := by
                cases q : H6 T with
                | none => rfl
                | some o => rw [upd_ne (ne_of_none q hl), q] at hT; cases hT
              have nTl : T ≠ l := fun z => by rw [z, upd_same] at hT; cases hT
              obtain ⟨⟨dsk, ek'⟩, e1, e2⟩ := keyD_some hkey
              have i6' := i6
              rw [ek'] at i6'
              obtain ⟨bb, bs, rfl, _⟩ := i6'.ofTup
              have hpl : ∀ a ∈ p :: lsOf ps, a ≠ T := fun a ha z => by
                obtain ⟨o, e, nt⟩ := there a ha
                have e' := kb.kp.ext a o e (np a ha).1 nt
                rw [z, hT6] at e'
                cases e'
              have kl : Kp g.T B0 H6 (upd H6 l (.lst [])) := .new hl
              have kT : Kp g.T B0 (upd H6 l (.lst [])) (upd (upd H6 l (.lst [])) T (.tup [.ref bb, .ref l])) := .new hT
              have q6 : upd (upd H6 l (.lst [])) T (.tup [.ref bb, .ref l]) p = some (.lst (ps.map fun q => V.ref q.1)) := by
                rw [upd_ne (hpl p (by simp)), upd_ne (fun z => nl (by rw [← z]; simp))]
                exact kb.kp.ext p _ hp2 (np p (by simp)).1 (fun _ z => by cases z)
              refine ⟨_, q6, ?_, ?_⟩
              · rw [List.length_map]
                have : ps.length = ads.length := Paired.length ia
                rw [this]
                refine Nat.lt_of_lt_of_le (m := most) ?_ most_line
                rw [← ey, List.length_append, List.length_cons] at hz
                omega
              · have kk := (kb.trans (kb.rel.goNew (o := .lst []) hl)).trans ((kb.trans (kb.rel.goNew (o := .lst []) hl)).rel.goNew (o := .tup [.ref bb, .ref l]) hT)
                have kw : Kp g.T (B1 p) (upd (upd H6 l (.lst [])) T (.tup [.ref bb, .ref l])) (upd (upd (upd H6 l (.lst [])) T (.tup [.ref bb, .ref l])) p (.lst ((ps.map fun q => V.ref q.1) ++ [.ref T]))) := .write q6 trivial lst_code
                have kt := k2.trans kk
                have el : lsOf (ps ++ [(T, key, bb, .ref l)]) = lsOf ps ++ [l] := lsOf_app _ _
                refine ⟨_, _, ps ++ [(T, key, bb, .ref l)], ads ++ [yv], yr', ⟨kt.kp.trans kw fun b z => .inr (by rw [z]; exact hp), kt.sub, kt.pin, kt.rel.off (np6 p (by simp)) kw⟩, fun a ha => ?_, ?_, ?_, ?_, h6, ?_⟩
                · rw [el, ← List.cons_append] at ha
                  rcases List.mem_append.mp ha with ha | ha
                  · exact ⟨np6 a ha, (np a ha).2⟩
                  · rw [List.mem_singleton.mp ha]
                    exact ⟨kb.rel.notIn hl, k2.kp.free (kb.kp.free hl)⟩
                · rw [upd_same, List.map_append]; rfl
                · have nlp : l ≠ p := fun z => nl (by rw [z]; simp)
                  refine Paired.snoc (ia.up ((kk.kp.imm).trans kw.imm) fun a ha z => ?_) ⟨?_, hkey, ((i6.up kl.imm).up kT.imm).up kw.imm, l, rfl, ?_⟩
                  · rw [upd_ne (fun z => ?_), upd_ne (hpl a (List.mem_cons_of_mem _ ha)), upd_ne (fun z => nl (by rw [← z]; exact List.mem_cons_of_mem _ ha))]
                    · exact kb.kp.ext a _ z (np a (List.mem_cons_of_mem _ ha)).1 (fun _ z => by cases z)
                    · exact (List.nodup_cons.mp nd).1 (by rw [← z]; exact ha)
                  · rw [upd_ne (fun z => hpl p (by simp) z.symm), upd_same]
                  · rw [upd_ne nlp, upd_ne (Ne.symm nTl), upd_same]
                · rw [el, ← List.cons_append, List.nodup_append]
                  exact ⟨nd, by simp, fun a ha b hb e => nl (by rw [← List.mem_singleton.mp hb, ← e]; exact ha)⟩
                · rw [List.append_assoc]
                  exact ey
    · cases h
  · cases h
end
end VS

namespace VS
open PySem PySem.Spec PyProof.Rows L2

section
variable {X : Cx} {g : Gx} {pos : Pos} {e : Expr} {es : List Expr}
theorem qf_dictOf {kx tg iter : Expr} {scope : Scope} {fi : M (List D)} {t : D → Rho → Option Rho} {ts : List Nat} {fk : M D} {kk kt : Nat} {p p2 p3 pos2 : Pos} (hr : Room kk X.A) (own : List (Str × Nat)) (hm : X.mg "dict" = none) (hN : X.N.Nodup) (hi : QI X g tg iter fi) (ok : BlkOk X.N X.env.scope scope own) (hts : ∀ i ∈ ts, i ∈ own.map (·.2))
    (hg : ∀ (s : Shared) (H : Hp) (C : Addr) (cl : List (Str × Addr)) (fp : List Addr), QG (X.blk s H scope (compEnvC scope cl C X.env) fp) g tg t ts)
    (he : ∀ (s : Shared) (H : Hp) (C : Addr) (cl : List (Str × Addr)) (fp : List Addr), PE (X.blk s H scope (compEnvC scope cl C X.env) fp) (.Tuple [kx, .List [] p2] kt p3) (tTup (tCons (xE (xkw X) g fk) (tCons (tLst tNil) tNil))))
    (hc : X.calm = true := by rfl) (hs : ∀ x, foldedSetIterable iter X.env x = pure x := by intro _; rfl) (hgl : Gl X "dict" := by rfl)
    (hst : starEach [.ListComp (.Tuple [kx, .List [] p2] kt p3) [⟨tg, iter, [], 0⟩] scope pos2] X.env = (false, eval (.ListComp (.Tuple [kx, .List [] p2] kt p3) [⟨tg, iter, [], 0⟩] scope pos2) X.env) :: starEach [] X.env := by rfl) (hpl : (backTo pos (starEach [] X.env)).any (·.1) = false := by rfl) :
    QF X g (.Call (.Name "dict" p) [.ListComp (.Tuple [kx, .List [] p2] kt p3) [⟨tg, iter, [], 0⟩] scope pos2] [] pos) (fDictOf fi t fk (own.map (·.2))) :=
  pe_conv (pe_callTy (call_dictPr hc (by have := hr.un; omega)) hgl hm (by decide +kernel) (pa_cons (pe_lc hc hN hi ok hg (fun _ _ _ _ _ => qts_nil) he hs) pa_nil hst) (by decide) (by decide) hst hpl) (dictOf_of hts)
/-! ### functions as values -/
/-- a call of what slot i holds; kk: the greatest level that there is room for -/
def eCallV (kk i : Nat) (fs : M (List D)) : M D := fun ρ => match ρ[i]? with
  | some (some (.fn k G)) => if k ≤ kk then (match fs ρ with
    | some (ds, ρ1) => (match ρ1[i]? with
      | some (some (.fn _ _)) => (match G ds with | some d => some (d, ρ1) | none => none)
      | _ => none)
    | none => none) else none
  | _ => none
theorem RelE.fnAt {K : KW} {σ : L2.St} {ρ : Rho} {own : Own} {H : Hp} (r : RelE K g σ ρ own H) {j k : Nat} {G : List D → Option D} (h : ρ[j]? = some (some (.fn k G))) : ∃ v, σ[j]? = some (some v) ∧ K.cal k H v G := by
  have c := r.ct j
  rw [h] at c
  obtain ⟨v, e, rs⟩ := c
  generalize own j = oj at rs
  cases rs with
  | fn i => exact ⟨v, e, i⟩
theorem q_callV (i : Nat) {kk : Nat} {x : Str} {p : Pos} {fs : M (List D)} (hr : Room kk X.A) (ha : QA X g (e :: es) fs) (hN : X.N[i]? = some x := by rfl) (hv : Vis X.env.scope x := by first | exact Or.inl rfl | exact Or.inr (Or.inl rfl) | exact Or.inr (Or.inr rfl))
    (hd : (x == ("__debug__" : Str)) = false := by decide) (hcd : (x == ("__classdict__" : Str)) = false := by decide)
    (he : starEach (e :: es) X.env = (false, eval e X.env) :: starEach es X.env := by rfl) (hpl : (backTo pos (starEach es X.env)).any (·.1) = false := by rfl) : QE X g (.Call (.Name x p) (e :: es) [] pos) (eCallV kk i fs) := by
  refine ⟨fun pins s σ H Q I h => ?_⟩
  obtain ⟨ρ, own, d, ρ', h, R, k⟩ := h
  unfold eCallV at h
  split at h
  · rename_i kf G h0
    split at h
    · rename_i hk
      split at h
      · rename_i ds ρ1 h1
        split at h
        · rename_i h2
          cases h3 : G ds with
          | none => simp only [h3] at h; cases h
          | some d' =>
            simp only [h3] at h
            cases h
            obtain ⟨v, hs, f, rfl, cal1, cal2⟩ := R.fnAt h0
            refine wpAny_Call_Name_kw (thn ((pe_var (pos := p) hN hv hd hcd).run pins s σ H (fun v H1 => v = .ref f ∧ H1 = H) I ⟨.ref f, hs, rfl, rfl⟩) fun u s1 ⟨v, H1, I1, r1, q1⟩ => ?_)
            obtain ⟨ev, eH⟩ := q1
            subst ev
            rw [eH] at I1
            obtain rfl : u = Value.ref f := r1
            refine PySem.W.callWith_F (first := []) (cal1 _ _ _ _ (.refl H) I1.env0) (thn (ha.run pos pins s1 σ H (fun vs H2 => ∃ ow1, Go (xkw X) g σ own H σ ρ' ow1 H2 ∧ ImAll (xkw X) H2 vs ds) I1 ⟨ρ, own, ds, ρ', h1, R, fun vs ow1 H1 k1 i1 => ⟨ow1, k1, i1⟩⟩) fun us s2 ⟨vs, H2, I2, r2, ow1, k1, i1⟩ => ⟨cal1 _ _ _ _ k1.kp.imm I2.env0, ?_⟩) he hpl
            show wpAny _ _ (call (.ref f) us) _ _ _
            have run := cal2 g.T X.A X.stack s2 H2 Q (fun _ _ _ => False) us vs ds d k1.kp.imm (hr.mono hk) I2.env0 r2 (ImAll.cast (K := xkw X) (K' := kw0 X.prog X.w X.K) rfl rfl i1) h3 k1.rel.tb
              (fun v' H'' kp tb i => k v' ow1 H'' (k1.trans (k1.rel.go kp)) (Im.cast (K := kw0 X.prog X.w X.K) (K' := xkw X) rfl rfl i))
            refine wpAny_call (codeAny_mono run fun r s' hq => ?_)
            cases r with
            | error e => exact hq.elim
            | ok fl =>
              cases fl with
              | ret u => exact I2.after hq
              | next => exact False.elim hq
              | brk => exact False.elim hq
              | cont => exact False.elim hq
        · cases h
      · cases h
    · cases h
  · cases h
/-- a def as a value -/
theorem call_of_def {P : Program} {w : World} {F : PySem.W.Frag} {mg : Str → Option Value} {base : Heap} {k : Nat} {x qual : Str} {st : Stmt} {ps : List Str} {G : List D → Option D} (Dx : Df F mg x qual st ps) (D0 : ∀ T, DOk P w F mg base k x (spD (kw P w F mg base) T G)) {H : Hp} : ∃ f, mg x = some (.ref f) ∧ Callable P w F mg base k H (.ref f) G := by
  obtain ⟨f, fd, Fx, hm, hb⟩ := Dx.ex
  refine ⟨f, hm, f, rfl, fun A outer s H' i e0 => ?_, fun T A outer s H' Q E us vs ds d i hr e0 rv im hG tb q => ?_⟩
  · obtain ⟨oc, od, kV, doc, pm, an, cdv, ct, osl, rfl, lk, hcd⟩ := Fx.ex
    exact ⟨_, _, _, _, (e0.mod.kin.keeps fun b o e => (e0.bs b o e).1) _ _ lk⟩
  · obtain ⟨f', fd', ps', hf, hm', hk, hb'⟩ := (D0 T).ex
    rw [hm] at hm'
    cases hm'
    have sp : spD (kw P w F mg base) T G vs H' Q E := ⟨ds, d, ImAll.cast (K := kw0 P w F) (K' := kw P w F mg base) rfl rfl im, hG, tb, fun v H'' kp t i => q v H'' kp t (Im.cast (K := kw P w F mg base) (K' := kw0 P w F) rfl rfl i)⟩
    have hl := hf.len _ _ _ _ sp
    have bt := hb' s us (e0.mod.kin.keeps fun b o e => (e0.bs b o e).1) (by rw [List.append_nil, ← rv.length]; exact hl)
    rw [List.append_nil] at bt
    exact hf.run A outer s H' ⟨us, []⟩ us vs Q E hr e0 bt rv sp
def fFn (k : Nat) (G : List D → Option D) : M SV := fun ρ => some (.fn k G, ρ)
theorem qf_def {k : Nat} {x qual : Str} {st : Stmt} {ps : List Str} {G : List D → Option D} (Dx : Df X.K X.mg x qual st ps) (D0 : ∀ T, DOk X.prog X.w X.K X.mg X.base k x (spD (xkw X) T G)) (hg : Gl X x := by rfl) (hd : (x == ("__debug__" : Str)) = false := by decide) : QF X g (.Name x pos) (fFn k G) := by
  obtain ⟨f, hm, _⟩ := call_of_def (H := fun _ => none) Dx D0
  refine pe_conv (pe_glob (v := .ref f) hg hm rfl hd) ?_
  rintro σ H Q ⟨ρ, own, sv, ρ', h, R, k⟩
  cases h
  obtain ⟨f', hm', cal⟩ := call_of_def (H := H) Dx D0
  rw [hm] at hm'
  cases hm'
  exact k _ own H [] (.refl R) (.fn cal) .nil (fun a z => by cases z)
/-- a def that takes data and functions -/
def plainSV : SV → Bool
  | .dat _ => true
  | .fn _ _ => true
  | _ => false
def spS (K : KW) (T : Tb) (F : List SV → Option D) : Sp := fun vs H Q _ => ∃ svs d, RelSs K H vs svs (svs.map fun _ => []) ∧ F svs = some d ∧ LamX.Tabs T H ∧ ∀ v H', Kp T B0 H H' → LamX.Tabs T H' → Im K H' v d → Q v H'
def argsS (n : Nat) (svs : List SV) : Rho := svs.map some ++ List.replicate (n - svs.length) none
def callS (N n : Nat) (b : MS) : List SV → Option D := fun svs => if svs.length = n then (match b (argsS N svs) with
  | some (.rt d, _) => some d
  | some (.nx, _) => some .none
  | _ => none) else none
theorem relss_get {K : KW} {H : Hp} : ∀ {svs : List SV} {vs : List V} {i : Nat} {sv : SV}, RelSs K H vs svs (svs.map fun _ => []) → svs[i]? = some sv → ∃ v, vs[i]? = some v ∧ RelS K H v sv []
  | [], _, i, sv, h, e => by simp at e
  | x :: xs, _ :: _, 0, sv, .cons h1 h2, e => by cases e; exact ⟨_, rfl, h1⟩
  | x :: xs, _ :: vs, i + 1, sv, .cons h1 h2, e => relss_get (svs := xs) (vs := vs) (i := i) h2 e
theorem rel_startS {K : KW} {N : List Str} {vs : List V} {svs : List SV} {H : Hp} {T : Tb} {nn pn : Nat} (hN : N.length = nn) (im : RelSs K H vs svs (svs.map fun _ => [])) (tb : LamX.Tabs T H) (hl : vs.length ≤ N.length) : RelE K ⟨T, nn, pn⟩ (L2.start N vs) (argsS nn svs) (fun _ => []) H := by
  subst hN
  refine ⟨tb, start_len hl, fun i j a h => absurd h (by simp), fun i => ?_⟩
  unfold Holds
  split
  · rename_i sv h
    unfold argsS at h
    by_cases hi : i < svs.length
    · rw [List.getElem?_append_left (by simpa using hi), List.getElem?_map] at h
      have hd : svs[i]? = some svs[i] := List.getElem?_eq_getElem hi
      rw [hd] at h
      cases h
      obtain ⟨v, h1, h2⟩ := relss_get im hd
      refine ⟨v, ?_, h2⟩
      unfold L2.start
      rw [List.getElem?_append_left (by simpa [im.len] using hi), List.getElem?_map, h1]
      rfl
    · rw [List.getElem?_append_right (by simpa using hi), List.getElem?_replicate] at h
      split at h <;> cases h
  · rfl
theorem callS_some {nn n : Nat} {body : MS} {ds : List SV} {d : D} (h : callS nn n body ds = some d) : ds.length = n ∧ ∃ fl ρ', body (argsS nn ds) = some (fl, ρ') ∧ (fl = .rt d ∨ (fl = .nx ∧ d = .none)) := by
  unfold callS at h
  split at h
  · rename_i hl
    refine ⟨hl, ?_⟩
    cases hb : body (argsS nn ds) with
    | none => simp only [hb] at h; cases h
    | some z =>
      obtain ⟨fl, ρ'⟩ := z
      cases fl with
      | rt d' => simp only [hb] at h; cases h; exact ⟨_, _, rfl, .inl rfl⟩
      | nx => simp only [hb] at h; cases h; exact ⟨_, _, rfl, .inr ⟨rfl, rfl⟩⟩
      | _ => simp only [hb] at h; cases h
  · cases h
theorem dok_dataS {P : Program} {w : World} {K : PySem.W.Frag} {mg : Str → Option Value} {base : Heap} {x qual : Str} {st : Stmt} {N ps : List Str} {k nn n : Nat} {T : Tb} {body : MS} (Dx : Df K mg x qual st ps) (S : FnScope N ps (defScope st)) (hN : N.length = nn) (hn : ps.length = n)
    (hb : ∀ (f : Addr) (cdv : Value) (A : Around) (outer : List Env) (s : Shared) (H : Hp) (E : XK), Room k (A.deeper (envOfC qual (defScope st) s.heap.objs.size f cdv)) → QSs (cx0 P w K mg base N qual st f cdv A outer s H E) ⟨T, nn, 0⟩ (defBody st) body) :
    DOk P w K mg base (k + 1) x (spS (kw P w K mg base) T (callS nn n body)) := by
  obtain ⟨f, fd, F, hm, hB⟩ := Dx.ex
  have hpl : ps.length ≤ N.length := by have := congrArg List.length S.pre; rw [List.length_take] at this; omega
  refine ⟨f, fd, ps, F.ok S (fun vs H Q E h => ?_) (fun cdv A outer s H vs Q E hr h => ⟨_, hb f cdv A outer s H E hr, ?_⟩), hm, F.kp, hB⟩
  · obtain ⟨ds, d, im, hF, _⟩ := h
    rw [im.len, (callS_some hF).1, hn]
  · obtain ⟨ds, d, im, hF, tb, q⟩ := h
    obtain ⟨hl, fl, ρ', h1, h2⟩ := callS_some hF
    refine ⟨_, _, fl, ρ', h1, rel_startS hN im tb (by rw [im.len, hl, ← hn]; exact hpl), fun σ' ow H' go => ?_⟩
    have kp : Kp T B0 H H' := go.kp.sub fun b z => (not_in0 z).elim
    rcases h2 with rfl | ⟨rfl, rfl⟩
    · exact fun v i => q v H' kp go.rel.tb i
    · exact q _ H' kp go.rel.tb .non
def eCallS (F : List SV → Option D) (fs : M (List SV)) : M D := fun ρ => match fs ρ with
  | some (svs, ρ1) => if svs.all plainSV then (match F svs with | some d => some (d, ρ1) | none => none) else none
  | none => none
theorem relss_plain {K : KW} {H : Hp} : ∀ {vs : List V} {svs : List SV} {ows : List (List Addr)}, RelSs K H vs svs ows → svs.all plainSV = true → RelSs K H vs svs (svs.map fun _ => [])
  | _, _, _, .nil, _ => .nil
  | _, _, _, .cons h1 h2, h => by
    rw [List.all_cons, Bool.and_eq_true] at h
    refine .cons ?_ (relss_plain h2 h.2)
    cases h1 with
    | dat i => exact .dat i
    | fn i => exact .fn i
    | _ => cases h.1
theorem q_callS {x : Str} {p : Pos} {F : List SV → Option D} {fs : M (List SV)} (hf : DefOk X x (spS (xkw X) g.T F)) (ha : QFs X g (e :: es) fs) (hg : Gl X x := by rfl) (hdb : (x == ("__debug__" : Str)) = false := by decide)
    (he : starEach (e :: es) X.env = (false, eval e X.env) :: starEach es X.env := by rfl) (hpl : (backTo pos (starEach es X.env)).any (·.1) = false := by rfl) : QE X g (.Call (.Name x p) (e :: es) [] pos) (eCallS F fs) := by
  obtain ⟨k, f, fd, ps, F0, hr, hm, hk, hb⟩ := hf.ex
  refine pe_conv (pe_call F0 hr hg hm hk hb .nil pass0 ha hdb he hpl) ?_
  rintro σ H Q ⟨ρ, own, d, ρ', h, R, k⟩
  unfold eCallS at h
  split at h
  · rename_i svs ρ1 h1
    split at h
    · rename_i hpn
      cases h2 : F svs with
      | none => simp only [h2] at h; cases h
      | some d' =>
        simp only [h2] at h
        cases h
        refine ⟨ρ, own, svs, ρ', h1, R, fun vs ow1 H1 ows k1 i1 _ _ => ?_⟩
        exact ⟨svs, d, by simpa using relss_plain i1 hpn, h2, k1.rel.tb, fun v H' kp tb im => k v ow1 H' (k1.trans (k1.rel.go kp)) im⟩
    · cases h
  · cases h
end
end VS

namespace VS
open PySem PySem.Spec PyProof.Rows L2
theorem Room.low {k : Nat} {A : Around} (h : Room k A) : A.units + 9 < cLine := by have := h.un; omega
section
variable {X : Cx} {g : Gx} {pos : Pos} {e o : Expr} {es : List Expr} {f : M D} {fs : M (List D)}
/-- (a dict that is data).get(x, y) -/
def eDDGet (f : M D) (fs : M (List D)) : M D := fun ρ => match f ρ with
  | some (.dict kvs, ρ1) => (match fs ρ1 with
    | some ([d], ρ2) => (match keyD d with | some k => some ((lookD kvs k).getD .none, ρ2) | none => none)
    | some ([d, z], ρ2) => (match keyD d with | some k => some ((lookD kvs k).getD z, ρ2) | none => none)
    | _ => none)
  | _ => none
theorem eDDGet_some {ρ ρ' : Rho} {d : D} (h : eDDGet f fs ρ = some (d, ρ')) : ∃ kvs ρ1 x more k, f ρ = some (.dict kvs, ρ1) ∧ fs ρ1 = some (x :: more, ρ') ∧ (more = [] ∨ ∃ z, more = [z]) ∧ keyD x = some k ∧ d = (lookD kvs k).getD (more.headD .none) := by
  unfold eDDGet at h
  split at h
  · rename_i kvs ρ1 h0
    split at h
    · rename_i x ρ2 h1
      cases hk : keyD x with
      | none => simp only [hk] at h; cases h
      | some k => simp only [hk] at h; cases h; exact ⟨kvs, ρ1, x, [], k, h0, h1, .inl rfl, hk, rfl⟩
    · rename_i x z ρ2 h1
      cases hk : keyD x with
      | none => simp only [hk] at h; cases h
      | some k => simp only [hk] at h; cases h; exact ⟨kvs, ρ1, x, [z], k, h0, h1, .inr ⟨z, rfl⟩, hk, rfl⟩
    · cases h
  · cases h
theorem q_ddGet {apos cpos : Pos} {kk : Nat} (hr : Room kk X.A) (ho : QE X g o f) (ha : QA X g (e :: es) fs)
    (hs : ∀ {to : TE} {t : TA}, PE X o to → PA X (e :: es) t → PE X (.Call (.Attribute o "get" apos) (e :: es) [] cpos) (tBD (xkw X) (rDGet (xkw X)) to t)) :
    QE X g (.Call (.Attribute o "get" apos) (e :: es) [] cpos) (eDDGet f fs) := by
  refine pe_conv (hs ho ha) ?_
  rintro σ H Q ⟨ρ, own, d, ρ', h, R, k⟩
  obtain ⟨kvs, ρ1, x, more, key, h0, h1, hm, h3, rfl⟩ := eDDGet_some h
  refine ⟨ρ, own, _, ρ1, h0, R, fun v ow1 H1 k1 i1 => ?_⟩
  obtain ⟨a, ob, xs, rfl, q1, q2⟩ := i1.ofDct
  refine ⟨⟨a, xs, rfl, .inr ⟨ob, q1⟩⟩, ρ1, ow1, _, ρ', h1, k1.rel, fun vs ow2 H2 k2 i2 => ?_⟩
  have p2 := k2.kp.imm.frz _ _ _ q1
  have p3 : DEnt (xkw X) H2 xs kvs := q2.up k2.kp.imm
  cases i2 with
  | @cons v vs _ _ i1 i2 =>
    refine ⟨a, xs, key, x, v, vs, rfl, rfl, ?_, .inr ⟨ob, p2⟩, p3.keys, h3, i1, ?_⟩
    · rcases hm with rfl | ⟨z, rfl⟩
      · cases i2; exact .inl rfl
      · match vs, i2 with
        | [w], _ => exact .inr ⟨w, rfl⟩
    · refine k _ ow2 H2 (k1.trans k2) ?_
      rcases p3.look key with ⟨z1, z2⟩ | ⟨d', ka, w, z1, z2, z3⟩
      · rw [z1, z2]
        rcases hm with rfl | ⟨z, rfl⟩
        · cases i2; exact .non
        · match vs, i2 with
          | [w], .cons iw _ => exact iw
      · rw [z1, z2]
        exact z3
end
end VS

namespace VS
open PySem PySem.Spec PyProof.Rows L2

/-! ### cells that are held still -/
def hidA (A : List Addr) (H : Hp) : Hp := fun b => if b ∈ A then none else H b
def cellO (h : Heap) (b : Addr) : Option HO := (h.get? b).map fun o => .frz o (.own 0)
def plusA (A : List Addr) (h : Heap) (H : Hp) : Hp := fun b => if b ∈ A then cellO h b else H b
def backA (A : List Addr) (H H2 : Hp) : Hp := fun b => (H2 b).or (if b ∈ A then H b else none)
theorem hid_ne {A : List Addr} {H : Hp} {b : Addr} (h : b ∉ A) : hidA A H b = H b := if_neg h
theorem hid_in {A : List Addr} {H : Hp} {b : Addr} (h : b ∈ A) : hidA A H b = none := if_pos h
theorem hid_some {A : List Addr} {H : Hp} {b : Addr} {o : HO} (h : hidA A H b = some o) : b ∉ A ∧ H b = some o := by
  unfold hidA at h
  split at h
  · cases h
  · rename_i q; exact ⟨q, h⟩
theorem plus_ne {A : List Addr} {h : Heap} {H : Hp} {b : Addr} (n : b ∉ A) : plusA A h H b = H b := if_neg n
theorem plus_in {A : List Addr} {h : Heap} {H : Hp} {b : Addr} {o : Obj} (n : b ∈ A) (e : h.get? b = some o) : plusA A h H b = some (.frz o (.own 0)) := by
  unfold plusA cellO
  rw [if_pos n, e]; rfl
/-- all at A is held still -/
def Still (A : List Addr) (H : Hp) : Prop := ∀ c ∈ A, ∃ o, H c = some (.frz o (.own 0))
/-- what data leans on -/
structure Keep0 (H H' : Hp) : Prop where
  tup : ∀ b xs, H b = some (.tup xs) → H' b = some (.tup xs)
  frz : ∀ b o u, u ≠ .own 0 → H b = some (.frz o u) → H' b = some (.frz o u)
theorem Still.keep {A : List Addr} {H : Hp} (h : Still A H) : Keep0 H (hidA A H) :=
  ⟨fun b xs e => by rw [hid_ne fun z => by obtain ⟨o, q⟩ := h b z; rw [e] at q; cases q]; exact e,
    fun b o u n e => by rw [hid_ne fun z => by obtain ⟨o, q⟩ := h b z; rw [e] at q; cases q; exact n rfl]; exact e⟩
section
variable {K : KW} {H H' : Hp}
theorem sqT_mono0 (k : Keep0 H H') {a : Addr} {xs : List V} (h : SqT K H a xs) : SqT K H' a xs := by
  rcases h with (h | ⟨o, h⟩) | h
  · exact .inl (.inl (k.tup _ _ h))
  · exact .inl (.inr ⟨o, k.frz _ _ _ (fun z => by cases z) h⟩)
  · exact .inr h
theorem fzL_mono0 (k : Keep0 H H') {a : Addr} {xs : List V} (h : FzL K H a xs) : FzL K H' a xs := by
  rcases h with ⟨o, h⟩ | h
  · exact .inl ⟨o, k.frz _ _ _ (fun z => by cases z) h⟩
  · exact .inr h
mutual
theorem Im.mono0 (k : Keep0 H H') : ∀ {v : V} {d : D}, Im K H v d → Im K H' v d
  | _, _, .non => .non
  | _, _, .bl b => .bl b
  | _, _, .int b => .int b
  | _, _, .str b => .str b
  | _, _, .lst h1 h2 => .lst (fzL_mono0 k h1) (ImAll.mono0 k h2)
  | _, _, .tup h1 h2 => .tup (sqT_mono0 k h1) (ImAll.mono0 k h2)
  | _, _, .dct h1 h2 => .dct (k.frz _ _ _ (fun z => by cases z) h1) (DEnt.mono0 k h2)
theorem ImAll.mono0 (k : Keep0 H H') : ∀ {vs : List V} {ds : List D}, ImAll K H vs ds → ImAll K H' vs ds
  | _, _, .nil => .nil
  | _, _, .cons h1 h2 => .cons (Im.mono0 k h1) (ImAll.mono0 k h2)
theorem DEnt.mono0 (k : Keep0 H H') : ∀ {xs : List Ent} {kvs : List (D × D)}, DEnt K H xs kvs → DEnt K H' xs kvs
  | _, _, .nil => .nil
  | _, _, .cons h1 h2 h3 h4 h5 => .cons h1 h2 (Im.mono0 k h3) (Im.mono0 k h4) (DEnt.mono0 k h5)
end
theorem Tabs.hid {T : Tb} {A : List Addr} (h : Still A H) (t : LamX.Tabs T H) : LamX.Tabs T (hidA A H) := fun p hp => by
  have nx : ∀ b o, H b = some o → (∀ ob, o ≠ .frz ob (.own 0)) → hidA A H b = some o := fun b o e n => by
    rw [hid_ne fun z => by obtain ⟨ob, q⟩ := h b z; rw [e] at q; exact n ob (Option.some.inj q)]; exact e
  obtain ⟨ps, h1, h2, h3⟩ := t p hp
  refine ⟨ps, nx _ _ h1 (fun _ z => by cases z), h2, fun pos cv hc => ?_⟩
  obtain ⟨c, e1, e2⟩ := h3 pos cv hc
  exact ⟨c, e1, nx _ _ e2 (fun _ z => by unfold LamX.CodeO at z; cases z)⟩
theorem HOk.hid {P : Program} {w : World} {h : Heap} {A : List Addr} (s : Still A H) (x : HOk P w H h) : HOk P w (hidA A H) h := fun b o e => by
  obtain ⟨_, e'⟩ := hid_some e
  refine (x b o e').stay (fun _ _ _ q => q) (fun c q => ?_) fun c xs q => ?_
  · rw [hid_ne fun z => by obtain ⟨ob, q'⟩ := s c z; rw [q] at q'; cases q']; exact q
  · rw [hid_ne fun z => by obtain ⟨ob, q'⟩ := s c z; rw [q] at q'; cases q']; exact q
end
/-! ### a call while cells are held still -/
section
variable {P : Program} {w : World} {K : PySem.W.Frag} {mg : Str → Option Value} {base : Heap} {A : Around} {outer : List Env} {s s' : Shared} {H : Hp} {Q : VK} {u : Value} {C : List Addr}
/-- cells of a frame: there, not tracked, no frame, not of the base -/
structure Cells (base : Heap) (outer : List Env) (C : List Addr) (h : Heap) (H : Hp) : Prop where
  at' : ∀ c ∈ C, ∃ o, h.get? c = some o
  no : ∀ c ∈ C, H c = none
  fr : ∀ c ∈ C, c ∉ frs outer
  bs : ∀ c ∈ C, base.get? c = none
theorem Cells.still (c : Cells base outer C s.heap H) : Still C (plusA C s.heap H) := fun a ha => by
  obtain ⟨o, e⟩ := c.at' a ha
  exact ⟨o, plus_in ha e⟩
theorem Cells.ext (c : Cells base outer C s.heap H) : ∀ b o, H b = some o → plusA C s.heap H b = some o := fun b o e => by
  rw [plus_ne fun z => by rw [c.no b z] at e; cases e]; exact e
theorem Cells.env0 (c : Cells base outer C s.heap H) (e : Env0 P w K mg base A outer s H) : Env0 P w K mg base A outer s (plusA C s.heap H) := by
  refine ⟨e.frames, e.mod, fun b o q => ⟨(e.bs b o q).1, ?_⟩, e.bsz, e.funs, fun b hb => ?_, fun b o q => ?_, e.bare⟩
  · rw [plus_ne fun z => by rw [c.bs b z] at q; cases q]; exact (e.bs b o q).2
  · rw [plus_ne fun z => c.fr b z hb]; exact e.frf b hb
  · by_cases hb : b ∈ C
    · obtain ⟨ob, q'⟩ := c.at' b hb
      rw [plus_in hb q'] at q
      cases q
      exact ⟨q', ob, q'⟩
    · rw [plus_ne hb] at q
      exact (e.hok b o q).stay (fun _ _ _ q => q) (fun d q => c.ext _ _ q) fun d xs q => c.ext _ _ q
theorem Cells.ce (c : Cells base outer C s.heap H) (h : CE outer P w (plusA C s.heap H) s (fun v H' => Q v (hidA C H')) u s') : CE outer P w H s Q u s' := by
  obtain ⟨v, H', os, bare, un, hok, r, q⟩ := h
  have st : Still C H' := fun a ha => by
    obtain ⟨o, e⟩ := c.still a ha
    exact ⟨o, un.frzs a o _ e⟩
  have ne : ∀ b o, H b = some o → b ∉ C := fun b o e z => by rw [c.no b z] at e; cases e
  refine ⟨v, hidA C H', os, bare, ⟨fun b o e n hf hx => ?_, fun b o e n hf hx => ?_, fun b o e n hx => ?_, fun b o e hx => un.there b o e hx, fun b xs e => ?_, fun b o x e => ?_, fun b ps e => ?_⟩, VS.HOk.hid st hok, r, q⟩
  · by_cases hb : b ∈ C
    · have h1 := plus_in (H := H) hb e
      exact (hok b _ (un.frzs b o _ h1)).1
    · exact un.keep b o e (by rw [plus_ne hb]; exact n) hf hx
  · by_cases hb : b ∈ C
    · exact absurd hf (c.fr b hb)
    · exact un.slot b o e (by rw [plus_ne hb]; exact n) hf hx
  · by_cases hb : b ∈ C
    · exact hid_in hb
    · rw [hid_ne hb]; exact un.free b o e (by rw [plus_ne hb]; exact n) hx
  · have hb := ne b _ e
    rw [hid_ne hb]; exact un.tups b xs (by rw [plus_ne hb]; exact e)
  · have hb := ne b _ e
    rw [hid_ne hb]; exact un.frzs b o x (by rw [plus_ne hb]; exact e)
  · have hb := ne b _ e
    obtain ⟨m, q⟩ := un.tbls b ps (by rw [plus_ne hb]; exact e)
    exact ⟨m, by rw [hid_ne hb]; exact q⟩
theorem Cells.kp {T : Tb} {H' : Hp} (c : Cells base outer C s.heap H) (k : Kp T B0 (plusA C s.heap H) H') : Kp T B0 H (hidA C H') := by
  have ne : ∀ b o, H b = some o → b ∉ C := fun b o e z => by rw [c.no b z] at e; cases e
  have st : Still C H' := fun a ha => by
    obtain ⟨o, e⟩ := c.still a ha
    exact ⟨o, k.imm.frz a o _ e⟩
  have up : ∀ b o, H b = some o → plusA C s.heap H b = some o := c.ext
  refine ⟨fun b ps e => ?_, fun b o e n m => ?_, fun b o e => ?_, ⟨fun b xs e => ?_, fun b o x e => ?_, fun b q e => ?_⟩, fun t => Tabs.hid st (k.tb (LamX.Tabs.ext t up))⟩
  · obtain ⟨m, q⟩ := k.tbl b ps (up b _ e)
    exact ⟨m, by rw [hid_ne (ne b _ e)]; exact q⟩
  · rw [hid_ne (ne b _ e)]; exact k.ext b o (up b _ e) n m
  · obtain ⟨o', q⟩ := k.there b o (up b _ e)
    exact ⟨o', by rw [hid_ne (ne b _ e)]; exact q⟩
  · rw [hid_ne (ne b _ e)]; exact k.imm.tup b xs (up b _ e)
  · rw [hid_ne (ne b _ e)]; exact k.imm.frz b o x (up b _ e)
  · rw [hid_ne (ne b _ e)]; exact k.imm.code b q (up b _ e)
/-! ### a call within which cells are hidden -/
theorem hid_env0 (st : Still C H) (e : Env0 P w K mg base A outer s H) : Env0 P w K mg base A outer s (hidA C H) := by
  have sub : ∀ b, H b = none → hidA C H b = none := fun b n => by
    by_cases hb : b ∈ C
    · exact hid_in hb
    · rw [hid_ne hb]; exact n
  exact ⟨e.frames, e.mod, fun b o q => ⟨(e.bs b o q).1, sub b (e.bs b o q).2⟩, e.bsz, e.funs, fun b hb => sub b (e.frf b hb), VS.HOk.hid st e.hok, e.bare⟩
theorem hid_ce (st : Still C H) (e0 : Env0 P w K mg base A outer s H) (h : CE outer P w (hidA C H) s (fun v H2 => (∀ c ∈ C, H2 c = none) → Q v (backA C H H2)) u s') : CE outer P w H s Q u s' := by
  obtain ⟨v, H2, os, bare, un, hok, r, q⟩ := h
  have at' : ∀ c ∈ C, ∃ o, s.heap.get? c = some o ∧ H c = some (.frz o (.own 0)) := fun c hc => by
    obtain ⟨o, e⟩ := st c hc
    exact ⟨o, (e0.hok c _ e).1, e⟩
  have hn : ∀ c ∈ C, H2 c = none := fun c hc => by
    obtain ⟨o, e, _⟩ := at' c hc
    exact un.free c o e (hid_in hc) (by simp)
  have hfr : ∀ c ∈ C, c ∉ frs outer := fun c hc z => by
    obtain ⟨o, _, e⟩ := at' c hc
    rw [e0.frf c z] at e; cases e
  have nb : ∀ b, H b = none → b ∉ C := fun b n z => by
    obtain ⟨o, _, e⟩ := at' b z
    rw [n] at e; cases e
  have b1 : ∀ b, b ∉ C → backA C H H2 b = H2 b := fun b hb => by unfold backA; rw [if_neg hb]; simp
  have b2 : ∀ b, b ∈ C → backA C H H2 b = H b := fun b hb => by unfold backA; rw [if_pos hb, hn b hb]; rfl
  refine ⟨v, backA C H H2, os, bare, ⟨fun b o e n hf hx => un.keep b o e (by rw [hid_ne (nb b n)]; exact n) hf hx, fun b o e n hf hx => un.slot b o e (by rw [hid_ne (nb b n)]; exact n) hf hx, fun b o e n hx => by rw [b1 b (nb b n)]; exact un.free b o e (by rw [hid_ne (nb b n)]; exact n) hx,
    un.there, fun b xs e => ?_, fun b o x e => ?_, fun b ps e => ?_⟩, fun b o e => ?_, r, q hn⟩
  · by_cases hb : b ∈ C
    · rw [b2 b hb]; exact e
    · rw [b1 b hb]; exact un.tups b xs (by rw [hid_ne hb]; exact e)
  · by_cases hb : b ∈ C
    · rw [b2 b hb]; exact e
    · rw [b1 b hb]; exact un.frzs b o x (by rw [hid_ne hb]; exact e)
  · by_cases hb : b ∈ C
    · obtain ⟨o, _, z⟩ := at' b hb
      rw [e] at z; cases z
    · obtain ⟨m, z⟩ := un.tbls b ps (by rw [hid_ne hb]; exact e)
      exact ⟨m, by rw [b1 b hb]; exact z⟩
  · by_cases hb : b ∈ C
    · rw [b2 b hb] at e
      obtain ⟨ob, z1, z2⟩ := at' b hb
      rw [z2] at e
      cases e
      have := un.keep b ob z1 (hid_in hb) (hfr b hb) (by simp)
      exact ⟨this, ob, this⟩
    · rw [b1 b hb] at e
      refine (hok b o e).stay (fun _ _ _ q => q) (fun c q => ?_) fun c xs q => ?_
      · rw [b1 c fun z => by rw [hn c z] at q; cases q]; exact q
      · rw [b1 c fun z => by rw [hn c z] at q; cases q]; exact q
theorem hid_kp {T : Tb} {H2 : Hp} (st : Still C H) (k : Kp T B0 (hidA C H) H2) (hn : ∀ c ∈ C, H2 c = none) : Kp T B0 H (backA C H H2) ∧ ImKeep H2 (backA C H H2) := by
  have b1 : ∀ b, b ∉ C → backA C H H2 b = H2 b := fun b hb => by unfold backA; rw [if_neg hb]; simp
  have b2 : ∀ b, b ∈ C → backA C H H2 b = H b := fun b hb => by unfold backA; rw [if_pos hb, hn b hb]; rfl
  have up : ∀ b o, H2 b = some o → backA C H H2 b = some o := fun b o e => by rw [b1 b fun z => by rw [hn b z] at e; cases e]; exact e
  refine ⟨⟨fun b ps e => ?_, fun b o e n m => ?_, fun b o e => ?_, ⟨fun b xs e => ?_, fun b o x e => ?_, fun b q e => ?_⟩, fun t => LamX.Tabs.ext (k.tb (Tabs.hid st t)) up⟩, ⟨fun b xs e => up _ _ e, fun b o x e => up _ _ e, fun b q e => up _ _ e⟩⟩
  · by_cases hb : b ∈ C
    · obtain ⟨o, z⟩ := st b hb
      rw [e] at z; cases z
    · obtain ⟨m, q⟩ := k.tbl b ps (by rw [hid_ne hb]; exact e)
      exact ⟨m, by rw [b1 b hb]; exact q⟩
  · by_cases hb : b ∈ C
    · rw [b2 b hb]; exact e
    · rw [b1 b hb]; exact k.ext b o (by rw [hid_ne hb]; exact e) n m
  · by_cases hb : b ∈ C
    · exact ⟨o, by rw [b2 b hb]; exact e⟩
    · obtain ⟨o', q⟩ := k.there b o (by rw [hid_ne hb]; exact e)
      exact ⟨o', by rw [b1 b hb]; exact q⟩
  · by_cases hb : b ∈ C
    · rw [b2 b hb]; exact e
    · rw [b1 b hb]; exact k.imm.tup b xs (by rw [hid_ne hb]; exact e)
  · by_cases hb : b ∈ C
    · rw [b2 b hb]; exact e
    · rw [b1 b hb]; exact k.imm.frz b o x (by rw [hid_ne hb]; exact e)
  · by_cases hb : b ∈ C
    · rw [b2 b hb]; exact e
    · rw [b1 b hb]; exact k.imm.code b q (by rw [hid_ne hb]; exact e)
end
end VS

namespace VS
open PySem PySem.Spec PyProof.Rows L2

/-! ### lambdas of two parameters -/
structure LamP (scope : Scope) (a b : Str) (cap : List Str) : Prop where
  kind : scope.kind = .function
  co : scope.isCoroutine = false
  gen : scope.isGenerator = false
  own : ∀ y ∈ scope.names, y.2 ≠ .cell
  pa : scope.names.lookup a = some .local
  pb : scope.names.lookup b = some .local
  ne : a ≠ b
  cap : ∀ y ∈ cap, scope.names.lookup y = some .free
  loc : ∀ y, scope.names.lookup y = some .local → y = a ∨ y = b
def lamC (P : Program) (w : World) (K : PySem.W.Frag) (mg : Str → Option Value) (base : Heap) (N : List Str) (qual : Str) (scope : Scope) (cl : List (Str × Addr)) (A : Around) (outer : List Env) (s : Shared) (H : Hp) (f c' : Addr) : Cx where
  prog := P
  w := w
  K := K
  mg := mg
  base := base
  A := A.deeper (PySem.W.envX qual scope s.heap.objs.size f (.ref c') cl)
  N := N
  s_0 := s
  H_0 := H
  env := PySem.W.envX qual scope s.heap.objs.size f (.ref c') cl
  outer := outer
  stack := PySem.W.envX qual scope s.heap.objs.size f (.ref c') cl :: outer
  ex := []
  fn := fun _ => false
  calm := true
  pn := []
  xe := fun _ _ => False
/-- what a lambda gives: its body's meaning, the captured values behind the parameters -/
def lamG (nn : Nat) (f : M D) (wd : List D) : List D → Option D := fun ds => if ds.length = 2 then (match f (args0 nn (ds ++ wd)) with | some (d, _) => some d | none => none) else none
section
variable {P : Program} {w : World} {K : PySem.W.Frag} {mg : Str → Option Value} {base : Heap}
theorem look2 {a b x : Str} {u1 u2 : Value} (ne : a ≠ b) : [(a, u1), (b, u2)].reverse.lookup x = if x = b then some u2 else if x = a then some u1 else none := by
  show [(b, u2), (a, u1)].lookup x = _
  simp only [List.lookup_cons, List.lookup_nil]
  by_cases h1 : x = b
  · subst h1; simp
  · have q1 : (x == b) = false := by simpa using h1
    rw [q1, if_neg h1]
    by_cases h2 : x = a
    · subst h2; simp
    · have q2 : (x == a) = false := by simpa using h2
      simp [q2, h2]
theorem lam_start3 {A : Around} {outer : List Env} {s : Shared} {H : Hp} {scope : Scope} {qual a b : Str} {cap : List Str} {cl : List (Str × Addr)} {f c' : Addr} {h₁ : Heap} {tk : Nat} {v1 v2 : V} {u1 u2 : Value} {wv : List V} (L : LamP scope a b cap) (e0 : Env0 P w K mg base A outer s H) (hd : A.handled = none)
    (hinj : ∀ x y c, cl.lookup x = some c → cl.lookup y = some c → x = y) (hfree : ∀ y, scope.names.lookup y = some .free → ∃ c, cl.lookup y = some c)
    (hcell : ∀ y c, cl.lookup y = some c → H c = none ∧ ∃ v, s.heap.IsCell c v) (hl : cap.length = wv.length)
    (hcap : ∀ (i : Nat) (y : Str) (v : V), cap[i]? = some y → wv[i]? = some v → ∃ c u, cl.lookup y = some c ∧ RelV v u ∧ s.heap.IsCell c (some u))
    (hns : h₁.Ns s.heap.objs.size fun y => [(a, u1), (b, u2)].reverse.lookup y) (kp : ∀ b o, s.heap.get? b = some o → h₁.get? b = some o) (r1 : RelV v1 u1) (r2 : RelV v2 u2) :
    Inv (lamC P w K mg base (a :: b :: cap) qual scope cl A outer s H f c') [] (some v1 :: some v2 :: wv.map some) H { s with heap := h₁, toks := tk } := by
  have cellK : ∀ {c : Addr} {v : Option Value}, s.heap.IsCell c v → h₁.IsCell c v := fun {c v} ⟨o, ho, hd⟩ => ⟨_, kp _ _ ho, hd⟩
  refine ⟨⟨e0.mod, L.kind, rfl, rfl, Nat.le_refl _, hinj, fun y hy => ?_, fun y c z _ => ?_, fun _ => hd, Around.frames_deeper e0.frames, .inr ⟨rfl, rfl⟩, fun b z => absurd z (by simp [lamC]), e0.bs, e0.bsz, fun b _ _ z => absurd z (by simp [lamC]),
      fun b z => absurd z (by simp [lamC]), e0.funs, e0.frf⟩,
    rfl, e0.bare, Un.kept kp, ⟨_, hns, fun i y v e1 e2 e3 => ?_⟩, fun y c e => ?_, e0.hok.fresh (Nat.le_refl _), fun y c e => (hcell y c e).1, fun q hq => absurd (show q ∈ ([] : List (Addr × Obj)) ++ [] from hq) (by simp), e0.hok.kept kp, by simp [lamC, hl]⟩
  · have hy : scope.names.lookup y = some .cell ∨ scope.names.lookup y = some .free := hy
    rcases hy with hy | hy
    · exact absurd rfl (L.own _ (PySem.mem_of_lookup hy))
    · exact hfree y hy
  · have z : false = true := z
    cases z
  · have e3 : Vis scope y := e3
    have e1 : (a :: b :: cap)[i]? = some y := e1
    match i with
    | 0 =>
      cases e1; cases e2
      exact ⟨u1, r1, .inl ⟨L.pa, (look2 L.ne).trans (by rw [if_neg L.ne, if_pos rfl])⟩⟩
    | 1 =>
      cases e1; cases e2
      exact ⟨u2, r2, .inl ⟨L.pb, (look2 L.ne).trans (by rw [if_pos rfl])⟩⟩
    | j + 2 =>
      have e1 : cap[j]? = some y := e1
      have e2 : (wv.map some)[j]? = some (some v) := e2
      rw [List.getElem?_map] at e2
      cases hw : wv[j]? with
      | none => rw [hw] at e2; cases e2
      | some v' =>
        rw [hw] at e2
        cases e2
        obtain ⟨c, u, h1, h2, h3⟩ := hcap j y v e1 hw
        exact ⟨u, h2, .inr ⟨.inr (L.cap y (List.mem_of_getElem? e1)), c, h1, cellK h3⟩⟩
  · obtain ⟨_, v, z⟩ := hcell y c e
    exact ⟨v, cellK z⟩
theorem lam_callable {k nn : Nat} {H : Hp} {f c' : Addr} {qual a b : Str} {params : Arguments} {body : Expr} {scope : Scope} {cl : List (Str × Addr)} {pm ctv : Value} {cap : List Str} {wv : List V} {wd : List D} {fm : M D} (L : LamP scope a b cap)
    (hf : H f = some (.frz (PySem.W.kla_obj "<lambda>" qual params body scope cl pm c' ctv) (.own 0))) (hc : H c' = some (LamX.CodeO c' qual))
    (hinj : ∀ x y c, cl.lookup x = some c → cl.lookup y = some c → x = y) (hfree : ∀ y, scope.names.lookup y = some .free → ∃ c, cl.lookup y = some c)
    (hcell : ∀ y c, cl.lookup y = some c → ∃ o, H c = some (.frz o (.own 0)) ∧ ∃ v, o.data = .cell v) (hl : cap.length = wv.length) (him : ImAll (kw0 P w K) H wv wd) (hnn : 2 + cap.length = nn)
    (hcap : ∀ (i : Nat) (y : Str) (v : V), cap[i]? = some y → wv[i]? = some v → ∃ c o u, cl.lookup y = some c ∧ RelV v u ∧ H c = some (.frz o (.own 0)) ∧ o.data = .cell (some u))
    (hbind : ∀ (u1 u2 : Value), bindArgs (PySem.W.kla_fn "<lambda>" qual params body scope cl pm (.ref c') ctv) ⟨[u1, u2], []⟩ = pure [(a, u1), (b, u2)])
    (hbody : ∀ (T : Tb) (A : Around) (outer : List Env) (s : Shared) (H : Hp), Room k (A.deeper (PySem.W.envX qual scope s.heap.objs.size f (.ref c') cl)) → QE (lamC P w K mg base (a :: b :: cap) qual scope cl A outer s H f c') ⟨T, nn, 0⟩ body fm) :
    Callable P w K mg base (k + 1) H (.ref f) (lamG nn fm wd) := by
  refine ⟨f, rfl, fun A outer s H' i e0 => ?_, fun T A outer s H' Q E us vs ds d i hr e0 rv im hG tb q => ?_⟩
  · have h1 := (e0.hok f _ (i.frz _ _ _ hf)).1
    exact ⟨_, _, _, _, h1⟩
  · have of1 := (e0.hok f _ (i.frz _ _ _ hf)).1
    obtain ⟨⟨oc, vs', t, hoc, hdc, hvc⟩, _, _⟩ := e0.hok c' _ (i.code _ _ hc)
    have memC : ∀ c ∈ cl.map (·.2), ∃ y, cl.lookup y = some c ∨ True := fun c _ => ⟨default, .inr trivial⟩
    let C : List Addr := (cl.filter fun p => decide (cl.lookup p.1 = some p.2)).map (·.2)
    have hC : ∀ c ∈ C, ∃ y, cl.lookup y = some c := fun c hc => by
      obtain ⟨p, hp, rfl⟩ := List.mem_map.mp hc
      exact ⟨p.1, by simpa using (List.mem_filter.mp hp).2⟩
    have hC2 : ∀ y c, cl.lookup y = some c → c ∈ C := fun y c e => List.mem_map.mpr ⟨(y, c), List.mem_filter.mpr ⟨PySem.mem_of_lookup e, by simpa using e⟩, rfl⟩
    have st : Still C H' := fun c hc => by
      obtain ⟨y, e⟩ := hC c hc
      obtain ⟨o, h1, _⟩ := hcell y c e
      exact ⟨o, i.frz _ _ _ h1⟩
    have e1 := hid_env0 st e0
    -- the arguments
    unfold lamG at hG
    split at hG
    · rename_i hlen
      split at hG
      · rename_i d' ρ' hfm
        cases hG
        obtain ⟨d1, d2, rfl⟩ : ∃ d1 d2, ds = [d1, d2] := by
          match ds, hlen with
          | [d1, d2], _ => exact ⟨d1, d2, rfl⟩
        obtain ⟨v1, v2, rfl, i1, i2⟩ : ∃ v1 v2, vs = [v1, v2] ∧ Im (kw0 P w K) H' v1 d1 ∧ Im (kw0 P w K) H' v2 d2 := by
          cases im with
          | cons h1 h2 => cases h2 with
            | cons h2 h3 => cases h3; exact ⟨_, _, rfl, h1, h2⟩
        obtain ⟨u1, u2, rfl, r1, r2⟩ : ∃ u1 u2, us = [u1, u2] ∧ RelV v1 u1 ∧ RelV v2 u2 := by
          cases rv with
          | cons h1 h2 => cases h2 with
            | cons h2 h3 => cases h3; exact ⟨_, _, rfl, h1, h2⟩
        have main : codeAny (model P w) A (.call (.ref f) ⟨[u1, u2], []⟩) (CR CX0 outer P w (hidA C H') s (fun v H2 => (∀ c ∈ C, H2 c = none) → Q v (backA C H' H2)) E) s := by
          refine PySem.W.kla_callFunE hr.depth of1 rfl L.co L.gen rfl ⟨c', oc, vs', t, rfl, hoc, hdc, hvc⟩ ?_
          rw [hbind]
          refine wpAny_pure (wpAny_newFunctionEnv (fun y hy => L.own y hy) (fun y hy => ?_) (fun h₁ hns hsb => ⟨(e0.mod.nolimit.keeps fun b o e => (e0.bs b o e).1).fresh _ hsb, ?_⟩) L.kind)
          · rcases List.mem_cons.mp hy with rfl | hy
            · exact L.pa
            · rw [List.mem_singleton.mp hy]; exact L.pb
          show codeAny _ _ (.expr body (PySem.W.envX qual scope s.heap.objs.size f (.ref c') cl)) _ _
          have kp : ∀ b o, s.heap.get? b = some o → h₁.get? b = some o := fun b o e => hsb.extBut b o (Nat.ne_of_lt (Heap.lt_size e)) (Heap.get?_push_of_some _ e)
          have J : Inv (lamC P w K mg base (a :: b :: cap) qual scope cl A outer s (hidA C H') f c') [] (some v1 :: some v2 :: wv.map some) (hidA C H') { s with heap := h₁, toks := s.toks + [(a, u1), (b, u2)].length } :=
            lam_start3 L e1 hr.hd hinj hfree (fun y c e => ⟨hid_in (hC2 y c e), by
              obtain ⟨o, h1, v, h2⟩ := hcell y c e
              exact ⟨v, o, (e0.hok c _ (i.frz _ _ _ h1)).1, h2⟩⟩) hl (fun j y v h1 h2 => by
              obtain ⟨c, o, u, g1, g2, g3, g4⟩ := hcap j y v h1 h2
              exact ⟨c, u, g1, g2, o, (e0.hok c _ (i.frz _ _ _ g3)).1, g4⟩) hns kp r1 r2
          have hstart : L2.start (a :: b :: cap) (v1 :: v2 :: wv) = some v1 :: some v2 :: wv.map some := by
            unfold L2.start
            simp [hl]
          have ht : xE (xkw (lamC P w K mg base (a :: b :: cap) qual scope cl A outer s (hidA C H') f c')) ⟨T, nn, 0⟩ fm (some v1 :: some v2 :: wv.map some) (hidA C H') (fun v H2 => (∀ c ∈ C, H2 c = none) → Q v (backA C H' H2)) := by
            refine ⟨_, fun _ => [], d, ρ', hfm, ?_, fun v own' H2 go hi hn => ?_⟩
            · rw [← hstart]
              have im2 : ImAll (kw0 P w K) H' (v1 :: v2 :: wv) ([d1, d2] ++ wd) := .cons i1 (.cons i2 (him.up i))
              refine rel_start (K := xkw (lamC P w K mg base (a :: b :: cap) qual scope cl A outer s (hidA C H') f c')) (by simp; omega) (ImAll.cast (K := kw0 P w K) (K' := xkw (lamC P w K mg base (a :: b :: cap) qual scope cl A outer s (hidA C H') f c')) rfl rfl (ImAll.mono0 st.keep im2)) (Tabs.hid st tb) (by simp [hl])
            · have kp2 : Kp T B0 (hidA C H') H2 := go.kp.sub fun b z => (not_in0 z).elim
              obtain ⟨k1, k2⟩ := hid_kp st kp2 hn
              exact q v _ k1 (k1.tb tb) ((Im.cast (K := xkw (lamC P w K mg base (a :: b :: cap) qual scope cl A outer s (hidA C H') f c')) (K' := kw0 P w K) rfl rfl hi).up k2)
          refine PySem.W.kla_codeExpr (wpAny_mono ((hbody T A outer s (hidA C H') (hr.deeper _)).run [] _ _ _ _ J ht) (fun v s' hq => ?_) fun e s' hq => hq.elim)
          obtain ⟨w', H'', J', rv', q'⟩ := hq
          exact ⟨w', H'', J'.os, J'.bare, J'.base, J'.hok, rv', q'⟩
        refine codeAny_mono main fun r s' hq => ?_
        cases r with
        | error e => exact hq
        | ok fl =>
          cases fl with
          | ret u => exact hid_ce st e0 hq
          | next => exact False.elim hq
          | brk => exact False.elim hq
          | cont => exact False.elim hq
      · cases hG
    · cases hG
end
end VS

namespace VS
open PySem PySem.Spec PyProof.Rows L2

section
variable {X : Cx} {pins : List (Addr × Obj)} {σ : L2.St} {H : Hp} {s : Shared}
abbrev lamQ (X : Cx) : Str := X.env.qual ++ "<lambda>"
abbrev lamO (X : Cx) (params : Arguments) (body : Expr) (scope : Scope) (pm : Value) (c' : Addr) (ctv : Value) : Obj := PySem.W.kla_obj "<lambda>" (lamQ X) params body scope (cloFrom X.env.cells scope.names []) pm c' ctv
/-- the lambda is made, and known from then on -/
theorem lam_make3 {T : Tb} {c P : Addr} {params : Arguments} {body : Expr} {scope : Scope} {pos : Pos} {E : Value → Shared → Prop} {Q : Value → Shared → Prop} (I : Inv X pins σ H s) (TB : LamX.TabB X.base X.mg c P) (hcode : X.env.code = .ref c)
    (hm : (P, lamQ X) ∈ T) (hu : ∀ p ∈ T, p.1 = P → p.2 = lamQ X) (hT : LamX.Tabs T H) (hdef : defaultsOf params X.env = ([], [])) (hfree : ∀ y ∈ scope.names, y.2 = .free → ∃ c, X.env.cells.lookup y.1 = some c)
    (h : ∀ (f c' : Addr) (pm ctv : Value) (H1 : Hp) (s' : Shared), Inv X pins σ H1 s' → Kp T B0 H H1 → H1 f = some (.frz (lamO X params body scope pm c' ctv) (.own 0)) → H1 c' = some (LamX.CodeO c' (lamQ X)) → Q (.ref f) s') :
    wpAny (model X.prog X.w) X.A (eval (.Lambda params body scope pos) X.env) Q E s := by
  obtain ⟨ps, hP, ht, ha⟩ := hT _ hm
  refine PySem.W.kla_eval hdef ?_
  have bP : s.heap.BuiltinsAt X.mg P := TB.bm.keeps I.bk
  have hP' : s.heap.get? P = some { cls := .none, data := .fields ps } := I.hok P _ hP
  cases hc : codeAmong pos ps.toList with
  | some cv =>
    obtain ⟨c', e, hco⟩ := ha pos cv hc
    subst e
    refine PySem.W.kla_makeFunctionHit (mg := X.mg) (c := c) (P := P) (ps := ps) (closure_ok hfree) I.ok.glob (I.mod.glob.keeps I.bk) hcode (TB.code.keeps I.bk) hP' ht hc bP fun ctv h' tk hx hsz => ?_
    have nf : H h'.objs.size = none := I.hok.fresh hsz
    have I1 := I.laid (a := h'.objs.size) (o := .frz (lamO X params body scope ((X.mg "__name__").getD .none) c' ctv) (.own 0)) (h' := h'.push (lamO X params body scope ((X.mg "__name__").getD .none) c' ctv)) (t' := tk)
      (fun b o e => Heap.get?_push_of_some _ (hx b o e)) hsz ⟨Heap.get?_push_size _ rfl, _, Heap.get?_push_size _ rfl⟩
    exact h h'.objs.size c' ((X.mg "__name__").getD .none) ctv _ _ I1 (.new nf) upd_same (by rw [upd_ne (ne_of_none hco nf)]; exact hco)
  | none =>
    refine PySem.W.kla_makeFunction (mg := X.mg) (c := c) (P := P) (ps := ps) (closure_ok hfree) I.ok.glob (I.mod.glob.keeps I.bk) hcode (TB.code.keeps I.bk) hP' ht hc TB.gP bP fun c' ctv h' tk hx hge hlt hrec htb => ?_
    obtain ⟨c2, oc, vs, t, e2, hoc, hd, hv⟩ := hrec
    cases e2
    have hsz : s.heap.objs.size ≤ h'.objs.size := Nat.le_trans hge (Nat.le_of_lt hlt)
    have nC : H c' = none := I.hok.fresh hge
    have I1 := LamX.inv_table (t' := tk) (more := #[rawInt pos.line, rawInt pos.col, .ref c']) (h' := h') I hP (fun b o hb e => hx b o hb e) htb hge ⟨oc, vs, t, hoc, hd, hv⟩
    have nP : P ≠ c' := ne_of_none hP nC
    let Ht : Hp := upd (upd H P (.tbl (ps ++ #[rawInt pos.line, rawInt pos.col, .ref c']))) c' (LamX.CodeO c' (lamQ X))
    have at' : ∀ b o, H b = some o → (∀ ps, o ≠ .tbl ps) → Ht b = some o := fun b o e n => by
      show upd (upd H P _) c' _ b = some o
      rw [upd_ne (ne_of_none e nC), upd_ne fun z => n ps (by rw [z, hP] at e; exact (Option.some.inj e).symm)]
      exact e
    have tP : Ht P = some (.tbl (ps ++ #[rawInt pos.line, rawInt pos.col, .ref c'])) := by
      show upd (upd H P _) c' _ P = _
      rw [upd_ne nP, upd_same]
    have atp : ∀ b ps', H b = some (.tbl ps') → b ≠ P → Ht b = some (.tbl ps') := fun b ps' e n => by
      show upd (upd H P _) c' _ b = _
      rw [upd_ne (ne_of_none e nC), upd_ne n]
      exact e
    have eL : (ps ++ #[rawInt pos.line, rawInt pos.col, .ref c']).toList = ps.toList ++ [rawInt pos.line, rawInt pos.col, .ref c'] := by simp
    have kt : Kp T B0 H Ht := by
      refine ⟨fun b ps' e => ?_, fun b o e _ m => at' b o e m, fun b o e => ?_, .ofExt fun b o e n => at' b o e n, fun t p hp => ?_⟩
      · by_cases q : b = P
        · subst q
          rw [hP] at e
          cases e
          exact ⟨_, tP⟩
        · exact ⟨#[], by rw [Array.append_empty]; exact atp b ps' e q⟩
      · by_cases q : b = P
        · subst q
          exact ⟨_, tP⟩
        · exact ⟨o, by show upd (upd H P _) c' _ b = _; rw [upd_ne (ne_of_none e nC), upd_ne q]; exact e⟩
      · obtain ⟨ps', a1, a2, a3⟩ := t p hp
        by_cases q : p.1 = P
        · rw [hu p hp q, q]
          refine ⟨_, tP, by rw [eL]; exact PySem.TriplesOk_snoc _ _ _ _ ht, fun p' cv hcv => ?_⟩
          rw [eL] at hcv
          rcases LamX.among_app _ ht hcv with z | z
          · obtain ⟨c0, e1, e2⟩ := ha p' cv z
            exact ⟨c0, e1, at' _ _ e2 LamX.codeO_ne⟩
          · exact ⟨c', z, upd_same⟩
        · refine ⟨ps', atp _ _ a1 q, a2, fun p' cv hcv => ?_⟩
          obtain ⟨c0, e1, e2⟩ := a3 p' cv hcv
          exact ⟨c0, e1, at' _ _ e2 LamX.codeO_ne⟩
    have nf : Ht h'.objs.size = none := by
      show upd (upd H P _) c' _ _ = none
      rw [upd_ne (Nat.ne_of_gt hlt), upd_ne (Nat.ne_of_gt (Nat.lt_of_lt_of_le (Heap.lt_size hP') hsz))]
      exact I.hok.fresh hsz
    have I2 := I1.laid (a := h'.objs.size) (o := .frz (lamO X params body scope ((X.mg "__name__").getD .none) c' ctv) (.own 0)) (h' := h'.push (lamO X params body scope ((X.mg "__name__").getD .none) c' ctv)) (t' := tk)
      (fun b o e => Heap.get?_push_of_some _ e) (Nat.le_refl _) ⟨Heap.get?_push_size _ rfl, _, Heap.get?_push_size _ rfl⟩
    refine h h'.objs.size c' ((X.mg "__name__").getD .none) ctv _ _ I2 (kt.trans (.new nf) fun c z => .inl z) upd_same ?_
    have hc1 : Ht c' = some (LamX.CodeO c' (lamQ X)) := upd_same
    rw [upd_ne (ne_of_none hc1 nf)]
    exact hc1
end
/-! ### arguments with lambdas among them -/
/-- a lambda's form in its maker's context: its names, the slots js that it captures, its level, its meaning -/
structure LamFit (X : Cx) (params : Arguments) (body : Expr) (scope : Scope) (a b : Str) (cap : List Str) (k nn : Nat) (fm : M D) (js : List Nat) : Prop where
  L : LamP scope a b cap
  hn : 2 + cap.length = nn
  jl : js.length = cap.length
  at' : ∀ (i j : Nat) (y : Str), js[i]? = some j → cap[i]? = some y → X.N[j]? = some y
  kd : ∀ y ∈ cap, X.env.kindOf y = some .cell ∨ X.env.kindOf y = some .free
  fr : ∀ y ∈ scope.names, y.2 = .free → X.env.kindOf y.1 = some .cell ∨ X.env.kindOf y.1 = some .free
  df : defaultsOf params X.env = ([], [])
  bind : ∀ (q : Str) (cl : List (Str × Addr)) (pm cv ctv u1 u2 : Value), bindArgs (PySem.W.kla_fn "<lambda>" q params body scope cl pm cv ctv) ⟨[u1, u2], []⟩ = pure [(a, u1), (b, u2)]
  body : ∀ (T : Tb) (A : Around) (outer : List Env) (s : Shared) (H : Hp) (cl : List (Str × Addr)) (f c' : Addr), Room k (A.deeper (PySem.W.envX (lamQ X) scope s.heap.objs.size f (.ref c') cl)) → QE (lamC X.prog X.w X.K X.mg X.base (a :: b :: cap) (lamQ X) scope cl A outer s H f c') ⟨T, nn, 0⟩ body fm
inductive LM where
  | dat (d : D)
  | lam (k nn : Nat) (fm : M D) (js : List Nat)
def LArg (X : Cx) (H : Hp) (v : V) : LM → Prop
  | .dat d => Im (xkw X) H v d
  | .lam k nn fm js => ∃ params body scope a b cap f c' pm ctv, v = .ref f ∧ H f = some (.frz (lamO X params body scope pm c' ctv) (.own 0)) ∧ H c' = some (LamX.CodeO c' (lamQ X)) ∧ LamFit X params body scope a b cap k nn fm js
theorem LArg.up {X : Cx} {H H' : Hp} {v : V} {a : LM} (k : ImKeep H H') (h : LArg X H v a) : LArg X H' v a := by
  cases a with
  | dat d => exact Im.up h k
  | lam kk nn fm js =>
    obtain ⟨params, body, scope, a, b, cap, f, c', pm, ctv, e, h1, h2, h3⟩ := h
    exact ⟨params, body, scope, a, b, cap, f, c', pm, ctv, e, k.frz _ _ _ h1, k.code _ _ h2, h3⟩
inductive LArgs (X : Cx) (H : Hp) : List V → List LM → Prop
  | nil : LArgs X H [] []
  | cons {v : V} {vs : List V} {a : LM} {as : List LM} : LArg X H v a → LArgs X H vs as → LArgs X H (v :: vs) (a :: as)
def lsNil : M (List LM) := fun ρ => some ([], ρ)
def lsDat (f : M D) (r : M (List LM)) : M (List LM) := fun ρ => match f ρ with
  | some (d, ρ1) => (match r ρ1 with | some (as, ρ2) => some (.dat d :: as, ρ2) | none => none)
  | none => none
def lsLam (k nn : Nat) (fm : M D) (js : List Nat) (r : M (List LM)) : M (List LM) := fun ρ => match r ρ with
  | some (as, ρ2) => some (.lam k nn fm js :: as, ρ2)
  | none => none
def xLs (X : Cx) (g : Gx) (fs : M (List LM)) : TA := fun σ H Q => ∃ ρ own as ρ', fs ρ = some (as, ρ') ∧ RelE (xkw X) g σ ρ own H ∧ ∀ vs own' H', Go (xkw X) g σ own H σ ρ' own' H' → LArgs X H' vs as → Q vs H'
abbrev QLs (X : Cx) (g : Gx) (es : List Expr) (fs : M (List LM)) : Prop := PA X es (xLs X g fs)
section
variable {X : Cx} {g : Gx} {e : Expr} {es : List Expr} {f : M D} {r : M (List LM)}
theorem qls_nil : QLs X g [] lsNil := by
  refine pa_conv pa_nil ?_
  rintro σ H Q ⟨ρ, own, as, ρ', h, R, k⟩
  cases h
  exact k [] own H (.refl R) .nil
theorem qls_dat (he : QE X g e f) (hr : QLs X g es r) (hst : starEach (e :: es) X.env = (false, eval e X.env) :: starEach es X.env := by rfl) : QLs X g (e :: es) (lsDat f r) := by
  refine pa_conv (pa_cons he hr hst) ?_
  rintro σ H Q ⟨ρ, own, as, ρ', h, R, k⟩
  unfold lsDat at h
  split at h
  · rename_i d ρ1 h1
    split at h
    · rename_i as' ρ2 h2
      cases h
      refine ⟨ρ, own, d, ρ1, h1, R, fun v ow1 H1 k1 i1 => ⟨ρ1, ow1, as', ρ', h2, k1.rel, fun vs ow2 H2 k2 i2 => ?_⟩⟩
      exact k (v :: vs) ow2 H2 (k1.trans k2) (.cons (k2.im i1) i2)
    · cases h
  · cases h
/-- what the making of a lambda asks of the def -/
structure LamD (X : Cx) (g : Gx) : Prop where
  ex : ∃ c P, LamX.TabB X.base X.mg c P ∧ X.env.code = .ref c ∧ (P, lamQ X) ∈ g.T ∧ ∀ p ∈ g.T, p.1 = P → p.2 = lamQ X
theorem pe_lam {params : Arguments} {body : Expr} {scope : Scope} {a b : Str} {cap : List Str} {k nn : Nat} {fm : M D} {js : List Nat} {pos : Pos} (LD : LamD X g) (fit : LamFit X params body scope a b cap k nn fm js) :
    PE X (.Lambda params body scope pos) (fun σ H Q => LamX.Tabs g.T H ∧ ∀ v H', Kp g.T B0 H H' → LArg X H' v (.lam k nn fm js) → Q v H') := by
  refine ⟨fun pins s σ H Q I h => ?_⟩
  obtain ⟨c, P, TB, hcode, hm, hu⟩ := LD.ex
  refine lam_make3 I TB hcode hm hu h.1 fit.df (fun y hy e => I.ok.has _ (fit.fr y hy e)) fun f c' pm ctv H1 s' I1 kp hf hc => ?_
  exact ⟨.ref f, H1, I1, rfl, h.2 _ H1 kp ⟨params, body, scope, a, b, cap, f, c', pm, ctv, rfl, hf, hc, fit⟩⟩
theorem qls_lam {params : Arguments} {body : Expr} {scope : Scope} {a b : Str} {cap : List Str} {k nn : Nat} {fm : M D} {js : List Nat} {pos : Pos} (LD : LamD X g) (fit : LamFit X params body scope a b cap k nn fm js) (hr : QLs X g es r)
    (hst : starEach (.Lambda params body scope pos :: es) X.env = (false, eval (.Lambda params body scope pos) X.env) :: starEach es X.env := by rfl) : QLs X g (.Lambda params body scope pos :: es) (lsLam k nn fm js r) := by
  refine pa_conv (pa_cons (pe_lam LD fit) hr hst) ?_
  rintro σ H Q ⟨ρ, own, as, ρ', h, R, k⟩
  unfold lsLam at h
  split at h
  · rename_i as' ρ2 h2
    cases h
    refine ⟨R.tb, fun v H1 kp la => ?_⟩
    have g1 := R.go kp
    refine ⟨ρ, own, as', ρ', h2, g1.rel, fun vs ow2 H2 k2 i2 => ?_⟩
    exact k (v :: vs) ow2 H2 (g1.trans k2) (.cons (la.up k2.kp.imm) i2)
  · cases h
/-! ### f(.., lambda a, b: ..) -/
def datsAt (ρ : Rho) : List Nat → Option (List D)
  | [] => some []
  | j :: js => match ρ[j]? with
    | some (some (.dat d)) => (match datsAt ρ js with | some ds => some (d :: ds) | none => none)
    | _ => none
def svOf (ρ : Rho) : LM → Option SV
  | .dat d => some (.dat d)
  | .lam k nn fm js => match datsAt ρ js with | some wd => some (.fn (k + 1) (lamG nn fm wd)) | none => none
def svsOf (ρ : Rho) : List LM → Option (List SV)
  | [] => some []
  | a :: as => match svOf ρ a with
    | some sv => (match svsOf ρ as with | some svs => some (sv :: svs) | none => none)
    | none => none
def eCallL (F : List SV → Option D) (fs : M (List LM)) : M D := fun ρ => match fs ρ with
  | some (as, ρ1) => (match svsOf ρ1 as with | some svs => (match F svs with | some d => some (d, ρ1) | none => none) | none => none)
  | none => none
def cellsOf (X : Cx) : List Addr := (X.env.cells.filter fun p => decide (X.env.cells.lookup p.1 = some p.2)).map (·.2)
theorem cellsOf_mem {c : Addr} (h : c ∈ cellsOf X) : ∃ y, X.env.cells.lookup y = some c := by
  obtain ⟨p, hp, rfl⟩ := List.mem_map.mp h
  exact ⟨p.1, by simpa using (List.mem_filter.mp hp).2⟩
theorem cellsOf_has {y : Str} {c : Addr} (e : X.env.cells.lookup y = some c) : c ∈ cellsOf X := List.mem_map.mpr ⟨(y, c), List.mem_filter.mpr ⟨PySem.mem_of_lookup e, by simpa using e⟩, rfl⟩
theorem cells_ok {pins : List (Addr × Obj)} {σ : L2.St} {H : Hp} {s : Shared} (hfn : ∀ y, X.fn y = true) (I : Inv X pins σ H s) : Cells X.base X.stack (cellsOf X) s.heap H := by
  refine ⟨fun c hc => ?_, fun c hc => ?_, fun c hc z => ?_, fun c hc => ?_⟩
  · obtain ⟨y, e⟩ := cellsOf_mem hc
    obtain ⟨v, o, ho, _⟩ := I.cell y c e
    exact ⟨o, ho⟩
  · obtain ⟨y, e⟩ := cellsOf_mem hc
    exact I.freeC y c e
  · obtain ⟨y, e⟩ := cellsOf_mem hc
    have hge := I.ok.cab y c (hfn y) e
    have no : c ∉ X.fs := fun z => by
      obtain ⟨_, o, ho, _⟩ := I.ok.funs.mem z
      exact absurd (Nat.lt_of_lt_of_le (Heap.lt_size ho) hge) (Nat.lt_irrefl _)
    rcases I.ok.stk with q | ⟨q, q2⟩
    · rw [q] at z; exact no z
    · rw [q] at z
      have z' : c ∈ (X.env :: X.outer).filterMap (·.frame) := z
      rw [List.filterMap_cons, q2] at z'
      rcases List.mem_cons.mp z' with rfl | z'
      · obtain ⟨m, ⟨o, es, ep, h1, h2, _⟩, _⟩ := I.loc
        obtain ⟨v, o', h3, h4⟩ := I.cell y _ e
        rw [h1] at h3
        cases h3
        rw [h2] at h4
        cases h4
      · exact no z'
  · obtain ⟨y, e⟩ := cellsOf_mem hc
    have hge := Nat.le_trans I.ok.bsz (I.ok.cab y c (hfn y) e)
    cases q : X.base.get? c with
    | none => rfl
    | some o => exact absurd (Nat.lt_of_lt_of_le (Heap.lt_size q) hge) (Nat.lt_irrefl _)
theorem clo_some {scope : Scope} {y : Str} {c : Addr} (has : ∀ y ∈ scope.names, y.2 = .free → ∃ c, X.env.cells.lookup y.1 = some c) (e : (cloFrom X.env.cells scope.names []).lookup y = some c) : X.env.cells.lookup y = some c := by
  rcases cloFrom_mem (PySem.mem_of_lookup e) with hm | ⟨h1, h2⟩
  · cases hm
  · obtain ⟨c1, hc⟩ := has _ h1 rfl
    have hc : X.env.cells.lookup y = some c1 := hc
    rw [h2, hc]; rfl
theorem clo_has {scope : Scope} {y : Str} (e : scope.names.lookup y = some .free) : ∃ c, (cloFrom X.env.cells scope.names []).lookup y = some c := mem_lookup (cloFrom_has (cells := X.env.cells) (acc := []) (PySem.mem_of_lookup e))
theorem dats_get {ρ : Rho} : ∀ {js : List Nat} {wd : List D}, datsAt ρ js = some wd → js.length = wd.length ∧ ∀ (i j : Nat) (d : D), js[i]? = some j → wd[i]? = some d → ρ[j]? = some (some (.dat d))
  | [], wd, h => by cases h; exact ⟨rfl, fun i j d e => by simp at e⟩
  | j0 :: js, wd, h => by
    unfold datsAt at h
    split at h
    · rename_i d0 h0
      split at h
      · rename_i ds h1
        cases h
        obtain ⟨l1, l2⟩ := dats_get h1
        refine ⟨by simp [l1], fun i j d e1 e2 => ?_⟩
        cases i with
        | zero => cases e1; cases e2; exact h0
        | succ i => exact l2 i j d e1 e2
      · cases h
    · cases h
/-- the captured values -/
theorem cap_vals {pins : List (Addr × Obj)} {σ : L2.St} {H : Hp} {s : Shared} {ρ : Rho} {own : Own} (I : Inv X pins σ H s) (R : RelE (xkw X) g σ ρ own H) : ∀ {js : List Nat} {cap : List Str} {wd : List D}, datsAt ρ js = some wd → js.length = cap.length →
    (∀ (i j : Nat) (y : Str), js[i]? = some j → cap[i]? = some y → X.N[j]? = some y) → (∀ y ∈ cap, X.env.kindOf y = some .cell ∨ X.env.kindOf y = some .free) →
    ∃ wv : List V, cap.length = wv.length ∧ ImAll (xkw X) H wv wd ∧ ∀ (i : Nat) (y : Str) (v : V), cap[i]? = some y → wv[i]? = some v → ∃ c u, X.env.cells.lookup y = some c ∧ RelV v u ∧ s.heap.IsCell c (some u)
  | [], [], wd, h, _, _, _ => by cases h; exact ⟨[], rfl, .nil, fun i y v e => by simp at e⟩
  | j :: js, y :: cap, wd, h, hl, ha, hk => by
    unfold datsAt at h
    split at h
    · rename_i d0 h0
      split at h
      · rename_i ds h1
        cases h
        obtain ⟨wv, l1, l2, l3⟩ := cap_vals I R h1 (by simpa using hl) (fun i j' y' e1 e2 => ha (i + 1) j' y' e1 e2) fun z hz => hk z (.tail _ hz)
        obtain ⟨v, e1, i1⟩ := R.dat h0
        obtain ⟨m, hn, hlk⟩ := I.loc
        have hN := ha 0 j y rfl rfl
        have hky := hk y (.head _)
        have hvis : Vis X.env.scope y := .inr hky
        obtain ⟨u, r, q⟩ := hlk j y v hN e1 hvis
        refine ⟨v :: wv, by simp [l1], .cons i1 l2, fun i y' v' g1 g2 => ?_⟩
        cases i with
        | zero =>
          cases g1; cases g2
          rcases q with ⟨k', _⟩ | ⟨_, c, e', z⟩
          · rcases hky with k2 | k2 <;> rw [k2] at k' <;> cases k'
          · exact ⟨c, u, e', r, z⟩
        | succ i => exact l3 i y' v' g1 g2
      · cases h
    · cases h
theorem larg_rel {pins : List (Addr × Obj)} {σ : L2.St} {H : Hp} {s : Shared} {ρ : Rho} {own : Own} (hfn : ∀ y, X.fn y = true) (I : Inv X pins σ H s) (R : RelE (xkw X) g σ ρ own H) {v : V} {a : LM} {sv : SV} (h : LArg X H v a) (e : svOf ρ a = some sv) :
    RelS (xkw X) (plusA (cellsOf X) s.heap H) v sv [] := by
  have cs := cells_ok hfn I
  have ik : ImKeep H (plusA (cellsOf X) s.heap H) := .ofSame fun b o q => cs.ext b o q
  cases a with
  | dat d => cases e; exact .dat (Im.up h ik)
  | lam k nn fm js =>
    obtain ⟨params, body, scope, a, b, cap, f, c', pm, ctv, rfl, h1, h2, fit⟩ := h
    cases hwd : datsAt ρ js with
    | none => simp [svOf, hwd] at e
    | some wd =>
      simp only [svOf, hwd, Option.some.injEq] at e
      subst e
      have has : ∀ y ∈ scope.names, y.2 = .free → ∃ c, X.env.cells.lookup y.1 = some c := fun y hy z => I.ok.has _ (fit.fr y hy z)
      obtain ⟨wv, l1, l2, l3⟩ := cap_vals I R hwd fit.jl fit.at' fit.kd
      have plusC : ∀ {y c} {v : Option Value}, X.env.cells.lookup y = some c → s.heap.IsCell c v → ∃ o, plusA (cellsOf X) s.heap H c = some (.frz o (.own 0)) ∧ o.data = .cell v := fun {y c v} e ⟨o, ho, hd⟩ => ⟨o, plus_in (cellsOf_has e) ho, hd⟩
      refine .fn (show Callable X.prog X.w X.K X.mg X.base (k + 1) _ (.ref f) _ from lam_callable fit.L (cs.ext _ _ h1) (cs.ext _ _ h2) (fun x y c e1 e2 => I.ok.inj x y c (clo_some has e1) (clo_some has e2)) (fun y e => clo_has e) (fun y c e => ?_) l1 (ImAll.up (ImAll.cast (K := xkw X) (K' := kw0 X.prog X.w X.K) rfl rfl l2) ik) fit.hn (fun i y v g1 g2 => ?_) (fun u1 u2 => fit.bind _ _ _ _ _ u1 u2) fun T A outer s H hr => fit.body T A outer s H _ f c' hr)
      · have e' := clo_some has e
        obtain ⟨v, z⟩ := I.cell y c e'
        obtain ⟨o, q1, q2⟩ := plusC e' z
        exact ⟨o, q1, v, q2⟩
      · obtain ⟨c, u, q1, q2, q3⟩ := l3 i y v g1 g2
        obtain ⟨c2, q4⟩ := clo_has (X := X) (fit.L.cap y (List.mem_of_getElem? g1))
        have q5 := clo_some has q4
        rw [q1] at q5
        cases q5
        obtain ⟨o, q6, q7⟩ := plusC q1 q3
        exact ⟨c, o, u, q4, q2, q6, q7⟩
theorem largs_rel {pins : List (Addr × Obj)} {σ : L2.St} {H : Hp} {s : Shared} {ρ : Rho} {own : Own} (hfn : ∀ y, X.fn y = true) (I : Inv X pins σ H s) (R : RelE (xkw X) g σ ρ own H) : ∀ {vs : List V} {as : List LM} {svs : List SV}, LArgs X H vs as → svsOf ρ as = some svs →
    RelSs (xkw X) (plusA (cellsOf X) s.heap H) vs svs (svs.map fun _ => [])
  | _, _, svs, .nil, e => by cases e; exact .nil
  | _, _, svs, .cons (a := a) h1 h2, e => by
    unfold svsOf at e
    split at e
    · rename_i sv hsv
      split at e
      · rename_i svs' hs
        cases e
        exact .cons (larg_rel hfn I R h1 hsv) (largs_rel hfn I R h2 hs)
      · cases e
    · cases e
theorem q_callL {x : Str} {p pos : Pos} {F : List SV → Option D} {fs : M (List LM)} (hf : DefOk X x (spS (xkw X) g.T F)) (ha : QLs X g (e :: es) fs) (hfn : ∀ y, X.fn y = true := by exact fun _ => rfl) (hg : Gl X x := by rfl) (hdb : (x == ("__debug__" : Str)) = false := by decide)
    (he : starEach (e :: es) X.env = (false, eval e X.env) :: starEach es X.env := by rfl) (hpl : (backTo pos (starEach es X.env)).any (·.1) = false := by rfl) : QE X g (.Call (.Name x p) (e :: es) [] pos) (eCallL F fs) := by
  obtain ⟨k0, f, fd, ps, F0, hr, hm, hk, hb⟩ := hf.ex
  refine ⟨fun pins s σ H Q I h => ?_⟩
  obtain ⟨ρ, own, d, ρ', h, R, k⟩ := h
  unfold eCallL at h
  split at h
  · rename_i as ρ1 h1
    split at h
    · rename_i svs hsv
      split at h
      · rename_i d' hF
        cases h
        refine wpAny_Call_Name_kw (ld_glob I hg hm ?_ hdb)
        refine PySem.W.callWith_K (h₀ := X.base) I.ok.mod.kin hk (thn (ha.run pos pins s σ H (fun vs H1 => ∃ ow1, Go (xkw X) g σ own H σ ρ' ow1 H1 ∧ LArgs X H1 vs as) I ⟨ρ, own, as, ρ', h1, R, fun vs ow1 H1 k1 i1 => ⟨ow1, k1, i1⟩⟩) fun us s1 ⟨vs, H1, I1, r, ow1, k1, i1⟩ => ⟨I1.kIn, ?_⟩) he hpl
        have cs := cells_ok hfn I1
        have rel := largs_rel hfn I1 k1.rel i1 hsv
        have sp : spS (xkw X) g.T F vs (plusA (cellsOf X) s1.heap H1) (fun v H' => Q v (hidA (cellsOf X) H')) E0 := by
          refine ⟨svs, d, rel, hF, LamX.Tabs.ext k1.rel.tb cs.ext, fun v H' kp tb im => ?_⟩
          have kp2 := cs.kp kp
          have st : Still (cellsOf X) H' := fun a ha => by
            obtain ⟨o, e⟩ := cs.still a ha
            exact ⟨o, kp.imm.frz a o _ e⟩
          exact k v ow1 _ (k1.trans (k1.rel.go kp2)) (Im.mono0 st.keep im)
        have hl : (us ++ []).length = ps.length := by rw [List.append_nil, ← r.length]; exact F0.len _ _ _ _ sp
        have bt := hb s1 us I1.kIn hl
        rw [List.append_nil] at bt
        refine wpAny_call (codeAny_mono (F0.run X.A X.stack s1 _ ⟨us, []⟩ us vs _ E0 hr (cs.env0 I1.env0) bt r sp) fun r s' hq => ?_)
        cases r with
        | error e => exact hq.elim
        | ok fl =>
          cases fl with
          | ret u => exact I1.after (cs.ce hq)
          | next => exact False.elim hq
          | brk => exact False.elim hq
          | cont => exact False.elim hq
      · cases h
    · cases h
  · cases h
end
end VS

namespace VS
open PySem PySem.Spec PyProof.Rows L2

/-! ### a def that makes lambdas -/
structure DfL (K : PySem.W.Frag) (mg : Str → Option Value) (base : Heap) (T : Tb) (x qual : Str) (st : Stmt) (ps : List Str) : Prop where
  ex : ∃ (f : Addr) (oc : Value) (od : Option Addr) (kV doc pm : Value) (an : Option Addr) (c P : Addr) (ct : Value) (osl : Array (Option Value)),
    K.lookup f = some ⟨oc, od, .func (PySem.W.fnOf x qual (defArgs st) (defBody st) (defScope st) .none kV doc pm an (.ref c) ct), osl⟩ ∧ PySem.W.codeIn K (.ref c) qual = true ∧ PySem.W.keepIn K (.ref f) = true ∧ mg x = some (.ref f) ∧
    Binds K (PySem.W.fnOf x qual (defArgs st) (defBody st) (defScope st) .none kV doc pm an (.ref c) ct) ps [] ∧ LamX.TabB base mg c P ∧ (P, (qual ++ ".<locals>.") ++ "<lambda>") ∈ T ∧ ∀ p ∈ T, p.1 = P → p.2 = (qual ++ ".<locals>.") ++ "<lambda>"
section
variable {P : Program} {w : World} {K : PySem.W.Frag} {mg : Str → Option Value} {base : Heap}
theorem dok_dataL {x qual : Str} {st : Stmt} {N ps : List Str} {k nn n : Nat} {T : Tb} {body : MS} (Dx : DfL K mg base T x qual st ps) (S : FnScope N ps (defScope st)) (hN : N.length = nn) (hn : ps.length = n)
    (hb : ∀ (f : Addr) (cdv : Value) (A : Around) (outer : List Env) (s : Shared) (H : Hp) (E : XK), LamD (cx0 P w K mg base N qual st f cdv A outer s H E) ⟨T, nn, 0⟩ → Room k (A.deeper (envOfC qual (defScope st) s.heap.objs.size f cdv)) → QSs (cx0 P w K mg base N qual st f cdv A outer s H E) ⟨T, nn, 0⟩ (defBody st) body) :
    DOk P w K mg base (k + 1) x (spD (kw P w K mg base) T (callD nn n body)) := by
  obtain ⟨f, oc, od, kV, doc, pm, an, c, Pt, ct, osl, lk, hcd, kp, hm, hB, TB, hT, hu⟩ := Dx.ex
  have hpl : ps.length ≤ N.length := by have := congrArg List.length S.pre; rw [List.length_take] at this; omega
  refine ⟨f, _, ps, fn_of lk hcd S (fun vs H Q E h => ?_) (fun A outer s H vs Q E hr h => ?_), hm, kp, hB⟩
  · obtain ⟨ds, d, im, hF, _⟩ := h
    rw [im.len, (callD_some hF).1, hn]
  · have hq := hb f (.ref c) A outer s H E ⟨c, Pt, TB, rfl, hT, hu⟩ hr
    obtain ⟨ds, d, im, hF, tb, q⟩ := h
    obtain ⟨hl, fl, ρ', h1, h2⟩ := callD_some hF
    refine ⟨_, hq.nox, ?_⟩
    refine ⟨_, _, fl, ρ', h1, rel_start hN im tb (by rw [im.len, hl, ← hn]; exact hpl), fun σ' ow H' go => ?_⟩
    have kp : Kp T B0 H H' := go.kp.sub fun b z => (not_in0 z).elim
    rcases h2 with rfl | ⟨rfl, rfl⟩
    · exact fun v i => q v H' kp go.rel.tb i
    · exact q _ H' kp go.rel.tb .non
end
/-! ### the end with tables -/
section
variable {P : Program} {w : World} {K : PySem.W.Frag} {mg : Str → Option Value} {base : Heap}
theorem frz_env0 {A : Around} {outer : List Env} {s : Shared} {H : Hp} {a : Addr} {xs : List V} {o : Obj} (e : Env0 P w K mg base A outer s H) (h : H a = some (.lst xs)) (ho : s.heap.get? a = some o) : Env0 P w K mg base A outer s (upd H a (.frz o (.lst xs))) := by
  have na : ∀ b, H b = none → b ≠ a := fun b n z => by rw [z, h] at n; cases n
  refine ⟨e.frames, e.mod, fun b u q => ⟨(e.bs b u q).1, by rw [upd_ne (na b (e.bs b u q).2)]; exact (e.bs b u q).2⟩, e.bsz, e.funs, fun b hb => by rw [upd_ne (na b (e.frf b hb))]; exact e.frf b hb, fun b u q => ?_, e.bare⟩
  have up : ∀ b u, H b = some u → (∀ ys, u ≠ .lst ys) → upd H a (.frz o (.lst xs)) b = some u := fun b u q n => by rw [upd_ne fun z => by rw [z, h] at q; cases q; exact n _ rfl]; exact q
  have stay : ∀ b u, H b = some u → ObjOk P w (upd H a (.frz o (.lst xs))) s.heap b u := fun b u q => (e.hok b u q).stay (fun _ _ _ q => q) (fun d q => up d _ q fun ys z => by cases z) fun d ys q => up d _ q fun ys z => by cases z
  by_cases hb : b = a
  · subst hb
    rw [upd_same] at q
    cases q
    exact ⟨ho, stay b _ h⟩
  · rw [upd_ne hb] at q
    exact stay b u q
theorem frz_ce {outer : List Env} {s s' : Shared} {H : Hp} {a : Addr} {xs : List V} {o : Obj} {Q : VK} {u : Value} (h : H a = some (.lst xs)) (c : CE outer P w (upd H a (.frz o (.lst xs))) s Q u s') : CE outer P w H s Q u s' := by
  obtain ⟨v, H', os, bare, un, hok, r, q⟩ := c
  have na : ∀ b, H b = none → upd H a (.frz o (.lst xs)) b = none := fun b n => by rw [upd_ne fun z => by rw [z, h] at n; cases n]; exact n
  have up : ∀ b u, H b = some u → (∀ ys, u ≠ .lst ys) → upd H a (.frz o (.lst xs)) b = some u := fun b u q n => by rw [upd_ne fun z => by rw [z, h] at q; cases q; exact n _ rfl]; exact q
  exact ⟨v, H', os, bare, ⟨fun b u e n hf hx => un.keep b u e (na b n) hf hx, fun b u e n hf hx => un.slot b u e (na b n) hf hx, fun b u e n hx => un.free b u e (na b n) hx, un.there, fun b ys e => un.tups b ys (up b _ e fun ys z => by cases z), fun b ob x e => un.frzs b ob x (up b _ e fun ys z => by cases z), fun b ps e => un.tbls b ps (up b _ e fun ys z => by cases z)⟩, hok, r, q⟩
/-- the script's list as it is met: frozen, of the law's own, or to be frozen -/
def spFz (sp : Sp) (a : Addr) : Sp := fun vs H Q E => sp vs H Q E ∨ ∃ xs, H a = some (.lst xs) ∧ ∀ o, sp vs (upd H a (.frz o (.lst xs))) Q E
theorem fn_frz {k : Nat} {f a : Addr} {fd : FuncData} {ps : List Str} {sp : Sp} (F : FnOk P w K mg base CX0 k f fd ps sp) : FnOk P w K mg base CX0 k f fd ps (spFz sp a) := by
  refine ⟨fun vs H Q E h => ?_, fun A outer s H args us vs Q E hr e0 hb hv h => ?_⟩
  · rcases h with h | ⟨xs, _, h⟩
    · exact F.len _ _ _ _ h
    · exact F.len _ _ _ _ (h { cls := .none, data := .fields #[] })
  · rcases h with h | ⟨xs, h1, h⟩
    · exact F.run A outer s H args us vs Q E hr e0 hb hv h
    · obtain ⟨_, its, n, _, ho⟩ := e0.hok a _ h1
      refine codeAny_mono (F.run A outer s _ args us vs Q E hr (frz_env0 e0 h1 ho) hb hv (h _)) fun r s' hq => ?_
      cases r with
      | error e => exact hq
      | ok fl =>
        cases fl with
        | ret u => exact frz_ce h1 hq
        | next => exact hq
        | brk => exact hq
        | cont => exact hq
theorem sp_lawT {h : Heap} {H : Hp} {a : Addr} {vs : List Value} {ns : List Int} {T : Tb} {F : List D → Option D} {E : XK} (hF : F [.list (ns.map .int)] = some (.bool true)) (KX : K.In h) (ho : h.get? a = some { cls := .type "list", data := .seq vs.toArray }) (hT : LamX.Tabs T H) (hT2 : ∀ xs o, H a = some (.lst xs) → LamX.Tabs T (upd H a (.frz o (.lst xs)))) (hS : SqL K H a (ns.map V.int)) :
    spFz (spD (kw0 P w K) T F) a [.ref a] H (fun v _ => v = .bl true) E := by
  rcases hS with (h1 | ⟨o, h1⟩) | ⟨o, its, n, k1, k2, k3, k4, k5, k6⟩
  · exact .inr ⟨_, h1, fun o => ⟨_, _, .cons (.lst (.inl ⟨o, upd_same⟩) (im_ints ns)) .nil, hF, hT2 _ o h1, fun v H' _ _ i => i.ofBool⟩⟩
  · exact .inl ⟨_, _, .cons (.lst (.inl ⟨o, h1⟩) (im_ints ns)) .nil, hF, hT, fun v H' _ _ i => i.ofBool⟩
  · refine .inl ⟨_, _, .cons ?_ .nil, hF, hT, fun v H' _ _ i => i.ofBool⟩
    refine .lst ?_ (im_ints ns)
    have e := KX a o k1
    rw [ho] at e
    have e' := Option.some.inj e
    subst e'
    cases k4
    exact .inr ⟨vs, _, k1, by simpa using k5, by simpa using k6⟩
end
/-- the law's promise, with tables: cs, the makers' code objects and their tables -/
def LawT (l : PySem.W.OpenLaw) (w : World) (K : PySem.W.Frag) (k : Nat) (x : Str) (F : List D → Option D) (mg : Str → Option Value) (fa : Addr) (h : Heap) : Prop :=
  ∃ (fd : FuncData) (cs : List (Addr × Addr)) (T : Tb), (∀ p ∈ cs, h.get? p.2 = some { cls := .none, data := .fields #[] }) ∧ (∀ p ∈ cs, K.lookup p.2 = none) ∧ (∀ p ∈ cs, PySem.W.CodeHd h p.1 p.2) ∧ (∀ t ∈ T, ∃ p ∈ cs, t.1 = p.2) ∧ (∀ (s : Shared) (u : Value), BindsTo s fd ⟨[u], []⟩ [(x, u)]) ∧
    ∀ base : Heap, K.In base → base.Ns mainGlobals mg → (∀ p ∈ cs, LamX.TabB base mg p.1 p.2) → FnOk l.prog w K mg base CX0 k fa fd [x] (spD (kw l.prog w K mg base) T F)
theorem walk_endT {l : PySem.W.OpenLaw} {n k : Nat} {q : Program} {loose : List Str} {XP : (Str → Option Value) → Heap → Prop} {YP : World → Heap → Prop} {d : DefRec} {K : Params → PySem.W.Frag} {F : List D → Option D} {x : Str}
    (hn : l.most = some n) (hn2 : n ≤ sizeLine) (hdf : d.params.defaults = []) (hr : Room k callerA)
    (hF : ∀ ns : List Int, F [.list (ns.map .int)] = some (.bool true))
    (hY : ∀ (w : World) (h : Heap), YP w h → (K w.params).In h)
    (hL : ∀ (w : World) (mg : Str → Option Value) (fa : Addr) (h : Heap), YP w h → (K w.params).In h → h.Ns mainGlobals mg → mg d.name = some (.ref fa) → LawT l w (K w.params) k x F mg fa h) :
    PySem.W.WalkO q loose XP YP l.row.toRowW d [] (fun f vs => PySem.call f vs) := by
  refine Att.attach_call hn hdf fun w s₀ s₁ mg mb fa o pm cd doc a vs ns G Y ho hd hcd hmg hobj hints hlen hg => ?_
  have KX := hY w _ Y
  obtain ⟨fd, cs, T, hT, nT, C, hTc, hb, hF'⟩ := hL w mg fa _ Y KX G.T.g hmg
  have tabs : ∀ H : Hp, (∀ p ∈ cs, H p.2 = some (.tbl #[])) → LamX.Tabs T H := fun H h t ht => by
    obtain ⟨p, hp, e⟩ := hTc t ht
    exact LamX.TabS.nil (by rw [e]; exact h p hp)
  refine LamX.law_callTs (CX := CX0) (sp := spFz (spD (kw0 l.prog w (K w.params)) T F) a) KX G.T.g G.T.b G.T.builtins G.T.nolimit hg hT nT C G.T.bmain hobj hints (Nat.le_trans hlen hn2) hr
    (fun base i n t => fn_frz ((hF' base i n t).imp fun vs H Q E h => spD_cast h)) hb (fun H hH hS => ?_) fun H e s' h => h
  refine sp_lawT (hF ns) KX hobj (tabs H hH) (fun xs o e => tabs _ fun p hp => ?_) hS
  rw [upd_ne fun z => by have := hH p hp; rw [z, e] at this; cases this]
  exact hH p hp
theorem dfl_mk {K : PySem.W.Frag} {mg : Str → Option Value} {base h : Heap} {T : Tb} {x : Str} {st : Stmt} {ps : List Str} {f : Addr} {oc : Value} {od an : Option Addr} {osl : Array (Option Value)} {kV doc pm ct : Value} {c P : Addr} (X : K.In h) (G : h.Ns mainGlobals mg)
    (hb : ∀ (kV doc pm : Value) (an : Option Addr) (cdv ct : Value) (us : List Value), us.length = ps.length → bindArgs (PySem.W.fnOf x x (defArgs st) (defBody st) (defScope st) .none kV doc pm an cdv ct) ⟨us, []⟩ = pure (ps.zip us))
    (a : PySem.W.nsIn K mainGlobals x = some (some (.ref f))) (l : K.lookup f = some ⟨oc, od, .func (PySem.W.fnOf x x (defArgs st) (defBody st) (defScope st) .none kV doc pm an (.ref c) ct), osl⟩)
    (cc : PySem.W.codeIn K (.ref c) x = true) (k : PySem.W.keepIn K (.ref f) = true) (tb : LamX.TabB base mg c P) (hT : (P, (x ++ ".<locals>.") ++ "<lambda>") ∈ T) (hu : ∀ p ∈ T, p.1 = P → p.2 = (x ++ ".<locals>.") ++ "<lambda>") : DfL K mg base T x x st ps :=
  ⟨f, oc, od, kV, doc, pm, an, c, P, ct, osl, l, cc, k, PySem.W.mg_of X G a, .all (hb kV doc pm an (.ref c) ct), tb, hT, hu⟩
/-- how the law's argument binds -/
abbrev Binds1 (fd : FuncData) (x : Str) : Prop := ∀ (s : Shared) (u : Value), BindsTo s fd ⟨[u], []⟩ [(x, u)]
/-- the law's own def -/
theorem law_at {K : PySem.W.Frag} {mg : Str → Option Value} {h : Heap} {x : Str} {st : Stmt} {fa f : Addr} {oc : Value} {od an : Option Addr} {osl : Array (Option Value)} {kV doc pm cdv ct : Value} (X : K.In h) (G : h.Ns mainGlobals mg) (hfa : mg "law" = some (.ref fa))
    (hb : ∀ (kV doc pm : Value) (an : Option Addr) (cdv ct : Value) (us : List Value), us.length = [x].length → bindArgs (PySem.W.fnOf "law" "law" (defArgs st) (defBody st) (defScope st) .none kV doc pm an cdv ct) ⟨us, []⟩ = pure ([x].zip us))
    (a : PySem.W.nsIn K mainGlobals "law" = some (some (.ref f))) (l : K.lookup f = some ⟨oc, od, .func (PySem.W.fnOf "law" "law" (defArgs st) (defBody st) (defScope st) .none kV doc pm an cdv ct), osl⟩)
    (c : PySem.W.codeIn K cdv "law" = true) (kp : PySem.W.keepIn K (.ref f) = true) : ∃ fd : FuncData, Fun K "law" "law" st fa fd ∧ Binds1 fd x := by
  have e := hfa.symm.trans (PySem.W.mg_of X G a)
  cases e
  exact ⟨_, fun_mk l c kp, fun s u => .of_eq (hb _ _ _ _ _ _ [u] rfl)⟩
/-! ### a lambda's form, looked at -/
def lamPB (scope : Scope) (a b : Str) (cap : List Str) : Bool :=
  decide (scope.kind = .function) && !scope.isCoroutine && !scope.isGenerator && scope.names.all (fun y => !decide (y.2 = .cell) && (!decide (y.2 = .local) || decide (y.1 = a) || decide (y.1 = b))) &&
    decide (scope.names.lookup a = some .local) && decide (scope.names.lookup b = some .local) && !decide (a = b) && cap.all fun y => decide (scope.names.lookup y = some .free)
theorem lamP_by {scope : Scope} {a b : Str} {cap : List Str} (h : lamPB scope a b cap = true) : LamP scope a b cap := by
  unfold lamPB at h
  simp only [Bool.and_eq_true, Bool.or_eq_true, Bool.not_eq_true', decide_eq_true_eq, decide_eq_false_iff_not, List.all_eq_true] at h
  obtain ⟨⟨⟨⟨⟨⟨⟨h1, h2⟩, h3⟩, h4⟩, h5⟩, h6⟩, h7⟩, h8⟩ := h
  refine ⟨h1, h2, h3, fun y hy => (h4 y hy).1, h5, h6, h7, h8, fun y hy => ?_⟩
  have hm := PySem.mem_of_lookup hy
  rcases (h4 _ hm).2 with (z | z) | z
  · exact absurd rfl z
  · exact .inl z
  · exact .inr z
def lamFB (sc scope : Scope) (N : List Str) (a b : Str) (cap : List Str) (nn : Nat) (js : List Nat) : Bool :=
  lamPB scope a b cap && decide (2 + cap.length = nn) && decide (js.length = cap.length) && ((js.zip cap).all fun p => decide (N[p.1]? = some p.2)) && (cap.all fun y => decide (sc.names.lookup y = some .cell) || decide (sc.names.lookup y = some .free)) &&
    scope.names.all fun y => !decide (y.2 = .free) || decide (sc.names.lookup y.1 = some .cell) || decide (sc.names.lookup y.1 = some .free)
theorem lamFit_by {P : Program} {w : World} {K : PySem.W.Frag} {mg : Str → Option Value} {base : Heap} {N : List Str} {qual : Str} {st : Stmt} {f : Addr} {cdv : Value} {A : Around} {outer : List Env} {s : Shared} {H : Hp} {E : XK} {params : Arguments} {body : Expr} {scope : Scope} {a b : Str} {cap : List Str} {k nn : Nat} {fm : M D} {js : List Nat}
    (h : lamFB (defScope st) scope N a b cap nn js = true)
    (hbody : ∀ (T : Tb) (A' : Around) (outer' : List Env) (s' : Shared) (H' : Hp) (cl : List (Str × Addr)) (f' c' : Addr), Room k (A'.deeper (PySem.W.envX (lamQ (cx0 P w K mg base N qual st f cdv A outer s H E)) scope s'.heap.objs.size f' (.ref c') cl)) →
      QE (lamC P w K mg base (a :: b :: cap) (lamQ (cx0 P w K mg base N qual st f cdv A outer s H E)) scope cl A' outer' s' H' f' c') ⟨T, nn, 0⟩ body fm)
    (df : defaultsOf params (cx0 P w K mg base N qual st f cdv A outer s H E).env = ([], []) := by rfl)
    (bind : ∀ (q : Str) (cl : List (Str × Addr)) (pm cv ctv u1 u2 : Value), bindArgs (PySem.W.kla_fn "<lambda>" q params body scope cl pm cv ctv) ⟨[u1, u2], []⟩ = pure [(a, u1), (b, u2)] := by intros; rfl) :
    LamFit (cx0 P w K mg base N qual st f cdv A outer s H E) params body scope a b cap k nn fm js := by
  unfold lamFB at h
  simp only [Bool.and_eq_true, decide_eq_true_eq, List.all_eq_true, Bool.or_eq_true, Bool.not_eq_true', decide_eq_false_iff_not] at h
  obtain ⟨⟨⟨⟨⟨h1, h2⟩, h3⟩, h4⟩, h5⟩, h6⟩ := h
  refine ⟨lamP_by h1, h2, h3, fun i j y e1 e2 => ?_, fun y hy => h5 y hy, fun y hy e => ?_, df, bind, hbody⟩
  · refine h4 (j, y) (List.mem_of_getElem? (i := i) ?_)
    rw [List.getElem?_zip_eq_some]
    exact ⟨e1, e2⟩
  · rcases h6 y hy with (z | z) | z
    · exact absurd e z
    · exact .inl z
    · exact .inr z
/-- a function that was got is passed on -/
def fVar (i : Nat) : M SV := fun ρ => match ρ[i]? with
  | some (some (.fn k G)) => some (.fn k G, ρ)
  | _ => none
theorem qf_var {X : Cx} {g : Gx} {pos : Pos} (i : Nat) {x : Str} (hN : X.N[i]? = some x := by rfl) (hv : Vis X.env.scope x := by first | exact Or.inl rfl | exact Or.inr (Or.inl rfl) | exact Or.inr (Or.inr rfl)) (hd : (x == ("__debug__" : Str)) = false := by decide)
    (hcd : (x == ("__classdict__" : Str)) = false := by decide) : QF X g (.Name x pos) (fVar i) := by
  refine pe_conv (pe_var hN hv hd hcd) ?_
  rintro σ H Q ⟨ρ, own, sv, ρ', h, R, k⟩
  unfold fVar at h
  split at h
  · rename_i kf G h0
    cases h
    obtain ⟨v, e, cal⟩ := R.fnAt h0
    exact ⟨v, e, k v own H [] (.refl R) (.fn cal) .nil (fun a z => by cases z)⟩
  · cases h
end VS

namespace VS
open PySem PySem.Spec PyProof.Rows L2
def fuel : Nat := 100000
def c_HEARINGS : D := (.tuple [(.str (Str.ofString "none")), (.str (Str.ofString "torn")), (.str (Str.ofString "whole"))])
def c_MOST_CHOICES : D := (.int 60)
def c_MOST_SIZE : D := (.int 10000)
def c_QUIET : D := (.str (Str.ofString "quiet"))
def c_SPEAKS : D := (.str (Str.ofString "speaks"))
def c_WISHES : D := (.tuple [(.str (Str.ofString "apart")), (.str (Str.ofString "heard"))])
/-- is_within(value, low, high); slots: 0 value 1 low 2 high -/
def B_is_within : MS :=
  (sRet (eAnd (e1 (dIsi .int) (eVar 0)) (eAnd (e1 dNot (e1 (dIsi .bool) (eVar 0))) (eChain dLe dLe (eVar 1) (eVar 0) (eVar 2)))))
def F_is_within : List D → Option D := callD 3 3 (B_is_within)
/-- is_span(value, low, high); slots: 0 value 1 low 2 high -/
def B_is_span : MS :=
  (sSeq (sIf (tOrM (e1 tNotB (e1 asB (e1 (dIsi .tup) (eVar 0)))) (e1 asB (e2 dNe (e1 fLen (aCons (eVar 0) aNil)) (eC (.int 2))))) (sRet (eC (.bool false))) sNx)
  (sRet (eAnd (e1 F_is_within (aCons (e2 dIx (eVar 0) (eC (.int 0))) (aCons (eVar 1) (aCons (eVar 2) aNil)))) (e1 F_is_within (aCons (e2 dIx (eVar 0) (eC (.int 1))) (aCons (e2 dIx (eVar 0) (eC (.int 0))) (aCons (eVar 2) aNil)))))))
def F_is_span : List D → Option D := callD 3 3 (B_is_span)
/-- is_habit(value); slots: 0 value -/
def B_is_habit : MS :=
  (sSeq (sIf (tOrM (e1 tNotB (e1 asB (e1 (dIsi .tup) (eVar 0)))) (e1 asB (e2 dNe (e1 fLen (aCons (eVar 0) aNil)) (eC (.int 4))))) (sRet (eC (.bool false))) sNx)
  (sSeq (sIf (tOrM (e1 tNotB (e1 asB (e1 F_is_span (aCons (e2 dIx (eVar 0) (eC (.int 0))) (aCons (eC (.int 2)) (aCons (eC (.int 4)) aNil)))))) (e1 tNotB (e1 asB (e1 F_is_span (aCons (e2 dIx (eVar 0) (eC (.int 1))) (aCons (eC (.int 1)) (aCons (eC (.int 6)) aNil))))))) (sRet (eC (.bool false))) sNx)
  (sRet (eAnd (e1 (dIsi .bool) (e2 dIx (eVar 0) (eC (.int 2)))) (e1 (dIsi .bool) (e2 dIx (eVar 0) (eC (.int 3))))))))
def F_is_habit : List D → Option D := callD 1 1 (B_is_habit)
/-- size_of(plan); slots: 0 plan 1 found 2 delay 3 sentence 4 wait 5 stops 6 eager -/
def B_size_of : MS :=
  (sSeq (sAsg (eC (.int 1)) (gName 1))
  (sSeq (sFor (e1 iZ (aCons (e2 dIx (eVar 0) (eC (.int 0))) (aCons (e2 dIx (eVar 0) (eC (.int 1))) aNil))) (gTup (gsCons (gTup (gsCons (gName 3) (gsCons (gName 4) (gsCons (gName 5) (gsCons (gName 6) gsNil))))) (gsCons (gName 2) gsNil))) (sAsg (e2 dMul (e2 dMul (e2 dMul (eVar 1) (eC (.int 3))) (e2 dAdd (e2 dAdd (e2 dIx (eVar 4) (eC (.int 1))) (e2 dIx (eVar 3) (eC (.int 1)))) (eC (.int 1)))) (e2 dAdd (e2 dMul (eC (.int 2)) (eVar 2)) (eC (.int 1)))) (gName 1)))
  (sRet (eVar 1))))
def F_size_of : List D → Option D := callD 7 1 (B_size_of)
/-- is_plan(value); slots: 0 value 1 part 2 habit 3 delay -/
def B_is_plan : MS :=
  (sSeq (sIf (tOrM (e1 tNotB (e1 asB (e1 (dIsi .tup) (eVar 0)))) (tOrM (e1 asB (e2 dNe (e1 fLen (aCons (eVar 0) aNil)) (eC (.int 3)))) (e1 tNotB (e1 asB (e1 (dIsi .bool) (e2 dIx (eVar 0) (eC (.int 2)))))))) (sRet (eC (.bool false))) sNx)
  (sSeq (sIf (e1 tNotB (e1 asB (e1 fAll (aCons (eLc (e1 iSeq (eSl (eVar 0) oNone (oSome (eC (.int 2))))) (gName 1) tYesM (eAnd (e1 (dIsi .tup) (eVar 1)) (e2 dEq (e1 fLen (aCons (eVar 1) aNil)) (eC (.int 2)))) [1]) aNil)))) (sRet (eC (.bool false))) sNx)
  (sSeq (sIf (e1 tNotB (e1 asB (e1 fAll (aCons (eLc (e1 iSeq (e2 dIx (eVar 0) (eC (.int 0)))) (gName 2) tYesM (e1 F_is_habit (aCons (eVar 2) aNil)) [2]) aNil)))) (sRet (eC (.bool false))) sNx)
  (sRet (eAnd (e1 fAll (aCons (eLc (e1 iSeq (e2 dIx (eVar 0) (eC (.int 1)))) (gName 3) tYesM (e1 F_is_within (aCons (eVar 3) (aCons (eC (.int 1)) (aCons (eC (.int 3)) aNil)))) [3]) aNil)) (e2 dLe (e1 F_size_of (aCons (eVar 0) aNil)) (eC c_MOST_SIZE)))))))
def F_is_plan : List D → Option D := callD 4 1 (B_is_plan)
/-- look_at_plan(plan); slots: 0 plan -/
def B_look_at_plan : MS :=
  (sIf (e1 tNotB (e1 asB (e1 F_is_plan (aCons (eVar 0) aNil)))) sNever sNx)
def F_look_at_plan : List D → Option D := callD 1 1 (B_look_at_plan)
/-- begin_of(plan); slots: 0 plan 1 delay -/
def B_begin_of : MS :=
  (sRet (e1 mkT (aCons (e2 dMul (e1 mkT (aCons (e1 mkT (aCons (eC c_QUIET) (aCons (eC (.int 0)) (aCons (eC (.str (Str.ofString "none"))) aNil)))) aNil)) (eC (.int 2))) (aCons (e1 fTuple (aCons (eLc (e1 iSeq (e2 dIx (eVar 0) (eC (.int 1)))) (gName 1) tYesM (e2 dMul (e1 mkT (aCons (eC (.int 0)) aNil)) (eVar 1)) [1]) aNil)) aNil))))
def F_begin_of : List D → Option D := callD 2 1 (B_begin_of)
/-- first_stand(plan); slots: 0 plan -/
def B_first_stand : MS :=
  (sSeq (sDrop (e1 F_look_at_plan (aCons (eVar 0) aNil)))
  (sRet (e1 F_begin_of (aCons (eVar 0) aNil))))
def F_first_stand : List D → Option D := callD 1 1 (B_first_stand)
/-- is_part(habit, value); slots: 0 habit 1 value 2 at -/
def B_is_part : MS :=
  (sSeq (sIf (tOrM (e1 tNotB (e1 asB (e1 (dIsi .tup) (eVar 1)))) (tOrM (e1 asB (e2 dNe (e1 fLen (aCons (eVar 1) aNil)) (eC (.int 3)))) (e1 tNotB (e1 asB (e1 fAll (aCons (eLc (e1 iSeq (e1 mkT (aCons (eC (.int 0)) (aCons (eC (.int 2)) aNil)))) (gName 2) tYesM (e1 (dIsi .str) (e2 dIx (eVar 1) (eVar 2))) [2]) aNil)))))) (sRet (eC (.bool false))) sNx)
  (sSeq (sIf (tOrM (e1 asB (e2 (dIn true) (e2 dIx (eVar 1) (eC (.int 2))) (eC c_HEARINGS))) (e1 asB (e2 (dIn true) (e2 dIx (eVar 1) (eC (.int 0))) (e1 mkT (aCons (eC c_QUIET) (aCons (eC c_SPEAKS) aNil)))))) (sRet (eC (.bool false))) sNx)
  (sSeq (sIf (e1 asB (e2 dEq (e2 dIx (eVar 1) (eC (.int 0))) (eC c_QUIET))) (sRet (e1 F_is_within (aCons (e2 dIx (eVar 1) (eC (.int 1))) (aCons (eC (.int 0)) (aCons (e2 dIx (e2 dIx (eVar 0) (eC (.int 1))) (eC (.int 1))) aNil))))) sNx)
  (sRet (e1 F_is_within (aCons (e2 dIx (eVar 1) (eC (.int 1))) (aCons (eC (.int 1)) (aCons (e2 iSub (e2 dIx (e2 dIx (eVar 0) (eC (.int 0))) (eC (.int 1))) (eC (.int 1))) aNil))))))))
def F_is_part : List D → Option D := callD 3 2 (B_is_part)
/-- is_line(delay, value); slots: 0 delay 1 value 2 sign -/
def B_is_line : MS :=
  (sRet (eAnd (e1 (dIsi .tup) (eVar 1)) (eAnd (e2 dEq (e1 fLen (aCons (eVar 1) aNil)) (eVar 0)) (e1 fAll (aCons (eLc (e1 iSeq (eVar 1)) (gName 2) tYesM (e1 F_is_within (aCons (eVar 2) (aCons (eC (.int 0)) (aCons (eC (.int 3)) aNil)))) [2]) aNil)))))
def F_is_line : List D → Option D := callD 3 2 (B_is_line)
/-- fits(plan, value); slots: 0 plan 1 value 2 part 3 delay 4 line 5 habit -/
def B_fits : MS :=
  (sSeq (sIf (tOrM (e1 tNotB (e1 asB (e1 (dIsi .tup) (eVar 1)))) (e1 asB (e2 dNe (e1 fLen (aCons (eVar 1) aNil)) (eC (.int 2))))) (sRet (eC (.bool false))) sNx)
  (sSeq (sIf (e1 tNotB (e1 asB (e1 fAll (aCons (eLc (e1 iSeq (eVar 1)) (gName 2) tYesM (eAnd (e1 (dIsi .tup) (eVar 2)) (e2 dEq (e1 fLen (aCons (eVar 2) aNil)) (eC (.int 2)))) [2]) aNil)))) (sRet (eC (.bool false))) sNx)
  (sSeq (sIf (e1 tNotB (e1 asB (e1 fAll (aCons (eLc (e1 iZ (aCons (e2 dIx (eVar 0) (eC (.int 0))) (aCons (e2 dIx (eVar 1) (eC (.int 0))) aNil))) (gTup (gsCons (gName 5) (gsCons (gName 2) gsNil))) tYesM (e1 F_is_part (aCons (eVar 5) (aCons (eVar 2) aNil))) [5, 2]) aNil)))) (sRet (eC (.bool false))) sNx)
  (sRet (e1 fAll (aCons (eLc (e1 iZ (aCons (e2 dIx (eVar 0) (eC (.int 1))) (aCons (e2 dIx (eVar 1) (eC (.int 1))) aNil))) (gTup (gsCons (gName 3) (gsCons (gName 4) gsNil))) tYesM (e1 F_is_line (aCons (eVar 3) (aCons (eVar 4) aNil))) [3, 4]) aNil))))))
def F_fits : List D → Option D := callD 6 2 (B_fits)
/-- is_stand(plan, value); slots: 0 plan 1 value -/
def B_is_stand : MS :=
  (sSeq (sDrop (e1 F_look_at_plan (aCons (eVar 0) aNil)))
  (sRet (e1 F_fits (aCons (eVar 0) (aCons (eVar 1) aNil)))))
def F_is_stand : List D → Option D := callD 2 2 (B_is_stand)
/-- _law_spring(script, at); slots: 0 script 1 at 2 cell 3 mixed -/
def B__law_spring : MS :=
  (sSeq (sAsg (eC (.int 7)) (gName 2))
  (sSeq (sIf (e1 asB (e2 dLt (eVar 1) (e1 fLen (aCons (eVar 0) aNil)))) (sAsg (e1 fAbs (aCons (e2 dIx (eVar 0) (eVar 1)) aNil)) (gName 2)) sNx)
  (sSeq (sAsg (e2 iMod (e1 fInt (aCons (e2 dAdd (e2 dAdd (e2 dMul (eVar 2) (eC (.int 863))) (e2 dMul (eC (.int 524287)) (eVar 1))) (eC (.int 1))) aNil)) (eC (.int 999999999989))) (gName 3))
  (sRetO (aCons (eIf (e1 asB (e2 dGe (eVar 2) (e2 iPow (eC (.int 10)) (eC (.int 18))))) (eVar 2) (eC (.int 0))) (aCons (eVar 3) aNil))))))
def F__law_spring : List D → Option (List D) := callO 4 2 (B__law_spring)
/-- _law_pick(spring, many); slots: 0 spring 1 many 2 digit -/
def B__law_pick : MS :=
  (sSeq (sIf (e1 asB (e2 dGt (eIxO 0 (eC (.int 0))) (eC (.int 0)))) (sSeq (sAsg (e2 iMod (e1 fInt (aCons (eIxO 0 (eC (.int 0))) aNil)) (eVar 1)) (gName 2))
  (sSeq (sSetO 0 (e2 iDiv (eIxO 0 (eC (.int 0))) (eVar 1)) (eC (.int 0)))
  (sRet (eVar 2)))) sNx)
  (sSeq (sSetO 0 (e2 iMod (e1 fInt (aCons (e2 dAdd (e2 dMul (eIxO 0 (eC (.int 1))) (eC (.int 393555900739))) (eC (.int 8191))) aNil)) (eC (.int 999999999989))) (eC (.int 1)))
  (sRet (e2 iMod (e1 fInt (aCons (e2 iDiv (eIxO 0 (eC (.int 1))) (eC (.int 4093))) aNil)) (eVar 1)))))
def F__law_pick : List D → List D → Option (D × List D) := callB 3 2 (B__law_pick)
/-- _law_kind(value); slots: 0 value -/
def B__law_kind : MS :=
  (sSeq (sIf (tOrM (e1 asB (e2 (dIsN false) (eVar 0) (eC .none))) (e1 asB (e1 (dIsi .bool) (eVar 0)))) (sRet (eIf (e1 asB (e2 (dIsN false) (eVar 0) (eC .none))) (eC (.int 0)) (eC (.int 1)))) sNx)
  (sSeq (sIf (e1 asB (e1 (dIsi2 .lst .tup) (eVar 0))) (sRet (eIf (e1 asB (e1 (dIsi .lst) (eVar 0))) (eC (.int 2)) (eC (.int 3)))) sNx)
  (sRet (eIf (e1 asB (e1 (dIsi .int) (eVar 0))) (eC (.int 4)) (eIf (e1 asB (e1 (dIsi .str) (eVar 0))) (eC (.int 5)) (eC (.int 6)))))))
def F__law_kind : List D → Option D := callD 1 1 (B__law_kind)
/-- _law_twins(one, other); slots: 0 one 1 other 2 a 3 b -/
def B__law_twins (Fr : List D → Option D) : MS :=
  (sSeq (sIf (e1 asB (e2 dNe (e1 F__law_kind (aCons (eVar 0) aNil)) (e1 F__law_kind (aCons (eVar 1) aNil)))) (sRet (eC (.bool false))) sNx)
  (sSeq (sIf (e1 asB (e2 (dIn false) (e1 F__law_kind (aCons (eVar 0) aNil)) (e1 mkL (aCons (eC (.int 2)) (aCons (eC (.int 3)) aNil))))) (sRet (eAnd (e2 dEq (e1 fLen (aCons (eVar 0) aNil)) (e1 fLen (aCons (eVar 1) aNil))) (e2 dEq (eLc (e1 iZ (aCons (eVar 0) (aCons (eVar 1) aNil))) (gTup (gsCons (gName 2) (gsCons (gName 3) gsNil))) (e1 tNotB (e1 asB (e1 Fr (aCons (eVar 2) (aCons (eVar 3) aNil))))) (eC (.int 1)) [2, 3]) (e1 mkL aNil)))) sNx)
  (sRet (e2 dEq (eVar 0) (eVar 1)))))
def F__law_twins : Nat → List D → Option D
  | 0 => fun _ => none
  | n + 1 => callD 4 2 (B__law_twins (F__law_twins n))
/-- _law_habit(spring, most); slots: 0 spring 1 most 2 low 3 sentence 4 pause -/
def B__law_habit : MS :=
  (sSeq (sAsg (e2 dAdd (eC (.int 2)) (eBor 0 F__law_pick (aCons (eC (.int 2)) aNil))) (gName 2))
  (sSeq (sAsg (e1 mkT (aCons (eVar 2) (aCons (e1 fMin2 (aCons (eC (.int 4)) (aCons (e2 dAdd (eVar 2) (e2 dIx (e1 mkL (aCons (eC (.int 0)) (aCons (eC (.int 0)) (aCons (eC (.int 1)) aNil)))) (eBor 0 F__law_pick (aCons (eC (.int 3)) aNil)))) aNil))) aNil))) (gName 3))
  (sSeq (sAsg (e2 dAdd (eC (.int 1)) (eBor 0 F__law_pick (aCons (eVar 1) aNil))) (gName 2))
  (sSeq (sAsg (e1 mkT (aCons (eVar 2) (aCons (e1 fMin2 (aCons (eC (.int 6)) (aCons (e2 dAdd (eVar 2) (e2 dIx (e1 mkL (aCons (eC (.int 0)) (aCons (eC (.int 0)) (aCons (eC (.int 1)) (aCons (eC (.int 2)) aNil))))) (eBor 0 F__law_pick (aCons (eC (.int 4)) aNil)))) aNil))) aNil))) (gName 4))
  (sRet (e1 mkT (aCons (eVar 3) (aCons (eVar 4) (aCons (e2 dGt (eBor 0 F__law_pick (aCons (eC (.int 3)) aNil)) (eC (.int 0))) (aCons (e2 dGt (eBor 0 F__law_pick (aCons (eC (.int 3)) aNil)) (eC (.int 0))) aNil))))))))))
def F__law_habit : List D → List D → Option (D × List D) := callB 5 2 (B__law_habit)
/-- _law_size(plan); slots: 0 plan 1 size 2 habit 3 delay -/
def B__law_size : MS :=
  (sSeq (sAsg (eC (.int 1)) (gName 1))
  (sSeq (sFor (e1 iZ (aCons (e2 dIx (eVar 0) (eC (.int 0))) (aCons (e2 dIx (eVar 0) (eC (.int 1))) aNil))) (gTup (gsCons (gName 2) (gsCons (gName 3) gsNil))) (sAsg (e2 dMul (e2 dMul (e2 dMul (eVar 1) (eC (.int 3))) (e2 dAdd (e2 dAdd (e2 dIx (e2 dIx (eVar 2) (eC (.int 0))) (eC (.int 1))) (e2 dIx (e2 dIx (eVar 2) (eC (.int 1))) (eC (.int 1)))) (eC (.int 1)))) (e2 dAdd (eC (.int 1)) (e2 dMul (eC (.int 2)) (eVar 3)))) (gName 1)))
  (sRet (eVar 1))))
def F__law_size : List D → Option D := callD 4 1 (B__law_size)
/-- _law_plan(spring, bound); slots: 0 spring 1 bound 2 habits 3 delays 4 plan -/
def B__law_plan : MS :=
  (sSeq (sAsg (e1 mkT (aCons (eBor 0 F__law_habit (aCons (eC (.int 4)) aNil)) (aCons (eBor 0 F__law_habit (aCons (eC (.int 4)) aNil)) aNil))) (gName 2))
  (sSeq (sAsg (e1 mkT (aCons (e2 dAdd (eC (.int 1)) (eBor 0 F__law_pick (aCons (eC (.int 2)) aNil))) (aCons (e2 dAdd (eC (.int 1)) (eBor 0 F__law_pick (aCons (eC (.int 2)) aNil))) aNil))) (gName 3))
  (sSeq (sAsg (e1 mkT (aCons (eVar 2) (aCons (eVar 3) (aCons (e2 dEq (eBor 0 F__law_pick (aCons (eC (.int 3)) aNil)) (eC (.int 0))) aNil)))) (gName 4))
  (sSeq (sIf (e1 asB (e2 dGt (e1 F__law_size (aCons (eVar 4) aNil)) (eVar 1))) (sAsg (e1 mkT (aCons (eVar 2) (aCons (e1 mkT (aCons (eC (.int 1)) (aCons (eC (.int 1)) aNil))) (aCons (e2 dIx (eVar 4) (eC (.int 2))) aNil)))) (gName 4)) sNx)
  (sSeq (sIf (e1 asB (e2 dGt (e1 F__law_size (aCons (eVar 4) aNil)) (eVar 1))) (sAsg (e1 mkT (aCons (e1 mkT (aCons (e2 dIx (eVar 2) (eC (.int 0))) (aCons (e1 mkT (aCons (e1 mkT (aCons (eC (.int 2)) (aCons (eC (.int 2)) aNil))) (aCons (e1 mkT (aCons (eC (.int 2)) (aCons (eC (.int 2)) aNil))) (aCons (e2 dIx (e2 dIx (eVar 2) (eC (.int 1))) (eC (.int 2))) (aCons (eC (.bool true)) aNil))))) aNil))) (aCons (e1 mkT (aCons (eC (.int 1)) (aCons (eC (.int 1)) aNil))) (aCons (e2 dIx (eVar 4) (eC (.int 2))) aNil)))) (gName 4)) sNx)
  (sSeq (sIf (e1 asB (e2 dGt (e1 F__law_size (aCons (eVar 4) aNil)) (eVar 1))) (sAsg (e1 mkT (aCons (e1 mkT (aCons (e1 mkT (aCons (e1 mkT (aCons (eC (.int 2)) (aCons (eC (.int 2)) aNil))) (aCons (e1 mkT (aCons (eC (.int 1)) (aCons (eC (.int 2)) aNil))) (aCons (eC (.bool true)) (aCons (eC (.bool false)) aNil))))) (aCons (e2 dIx (e2 dIx (eVar 4) (eC (.int 0))) (eC (.int 1))) aNil))) (aCons (e1 mkT (aCons (eC (.int 1)) (aCons (eC (.int 1)) aNil))) (aCons (e2 dIx (eVar 4) (eC (.int 2))) aNil)))) (gName 4)) sNx)
  (sRet (eVar 4))))))))
def F__law_plan : List D → List D → Option (D × List D) := callB 5 2 (B__law_plan)
/-- _law_first(plan); slots: 0 plan -/
def B__law_first : MS :=
  (sRet (e1 mkT (aCons (e1 mkT (aCons (e1 mkT (aCons (eC (.str (Str.ofString "quiet"))) (aCons (eC (.int 0)) (aCons (eC (.str (Str.ofString "none"))) aNil)))) (aCons (e1 mkT (aCons (eC (.str (Str.ofString "quiet"))) (aCons (eC (.int 0)) (aCons (eC (.str (Str.ofString "none"))) aNil)))) aNil))) (aCons (e1 mkT (aCons (e2 dMul (e1 mkT (aCons (eC (.int 0)) aNil)) (e2 dIx (e2 dIx (eVar 0) (eC (.int 1))) (eC (.int 0)))) (aCons (e2 dMul (e1 mkT (aCons (eC (.int 0)) aNil)) (e2 dIx (e2 dIx (eVar 0) (eC (.int 1))) (eC (.int 1)))) aNil))) aNil))))
def F__law_first : List D → Option D := callD 1 1 (B__law_first)
/-- _law_options(habit, part); slots: 0 habit 1 part 2 length 3 stay -/
def B__law_options : MS :=
  (sSeq (sIf (e1 asB (e2 dEq (e2 dIx (eVar 1) (eC (.int 0))) (eC (.str (Str.ofString "quiet"))))) (sSeq (sAsg (e1 dNot (eAnd (e2 dIx (eVar 0) (eC (.int 3))) (e2 dEq (e2 dIx (eVar 1) (eC (.int 1))) (e2 dIx (e2 dIx (eVar 0) (eC (.int 1))) (eC (.int 1)))))) (gName 3))
  (sRet (e2 dAdd (e2 dMul (e1 mkL (aCons (eC (.bool false)) aNil)) (e1 fInt (aCons (eVar 3) aNil))) (e2 dMul (e1 mkL (aCons (eC (.bool true)) aNil)) (e1 fInt (aCons (e2 dGe (e2 dIx (eVar 1) (eC (.int 1))) (e2 dIx (e2 dIx (eVar 0) (eC (.int 1))) (eC (.int 0)))) aNil)))))) sNx)
  (sSeq (sAsg (e2 dAdd (e2 dIx (eVar 1) (eC (.int 1))) (eC (.int 1))) (gName 2))
  (sRet (e2 dAdd (e2 dMul (e1 mkL (aCons (eC (.bool false)) aNil)) (e1 fInt (aCons (e2 dNe (eVar 2) (e2 dIx (e2 dIx (eVar 0) (eC (.int 0))) (eC (.int 1)))) aNil))) (e2 dMul (e1 mkL (aCons (eC (.bool true)) aNil)) (e1 fInt (aCons (e2 dLe (e2 dIx (e2 dIx (eVar 0) (eC (.int 0))) (eC (.int 0))) (eVar 2)) aNil)))))))
def F__law_options : List D → Option D := callD 4 2 (B__law_options)
/-- _law_choices(plan, stand); slots: 0 plan 1 stand 2 found 3 one 4 other -/
def L__law_choices_0 : MS :=
  (sAsg (e2 dAdd (eVar 2) (eLc (e1 iSeq (e1 F__law_options (aCons (e2 dIx (e2 dIx (eVar 0) (eC (.int 0))) (eC (.int 1))) (aCons (e2 dIx (e2 dIx (eVar 1) (eC (.int 0))) (eC (.int 1))) aNil)))) (gName 4) tYesM (e1 mkT (aCons (eVar 3) (aCons (eVar 4) aNil))) [4])) (gName 2))
def B__law_choices : MS :=
  (sSeq (sAsg (e1 mkL aNil) (gName 2))
  (sSeq (sFor (e1 iSeq (e1 F__law_options (aCons (e2 dIx (e2 dIx (eVar 0) (eC (.int 0))) (eC (.int 0))) (aCons (e2 dIx (e2 dIx (eVar 1) (eC (.int 0))) (eC (.int 0))) aNil)))) (gName 3) L__law_choices_0)
  (sRet (eVar 2))))
def F__law_choices : List D → Option D := callD 5 2 (B__law_choices)
/-- _law_voice(part, chosen); slots: 0 part 1 chosen -/
def B__law_voice : MS :=
  (sRet (e2 dIx (e2 dIx (e1 mkL (aCons (e1 mkL (aCons (eC (.int 0)) (aCons (eC (.int 1)) aNil))) (aCons (e1 mkL (aCons (eC (.int 2)) (aCons (eC (.int 3)) aNil))) aNil))) (e1 fInt (aCons (e2 dEq (e2 dIx (eVar 0) (eC (.int 0))) (eC (.str (Str.ofString "speaks")))) aNil))) (e1 fInt (aCons (eVar 1) aNil))))
def F__law_voice : List D → Option D := callD 2 2 (B__law_voice)
/-- _law_led(habit, part, voice, ear, over); slots: 0 habit 1 part 2 voice 3 ear 4 over 5 done 6 got 7 mode 8 count -/
def B__law_led : MS :=
  (sSeq (sAsg (eVar 1) (gTup (gsCons (gName 7) (gsCons (gName 8) (gsCons (gName 6) gsNil)))))
  (sSeq (sIf (e1 asB (e2 dEq (eVar 3) (eC (.int 0)))) (sAsg (eC (.str (Str.ofString "none"))) (gName 6)) (sIf (tOrM (e1 asB (e2 dGt (eVar 2) (eC (.int 0)))) (tAndM (e1 asB (e2 dGt (eVar 3) (eC (.int 1)))) (e1 asB (e2 dEq (eVar 6) (eC (.str (Str.ofString "none"))))))) (sAsg (eC (.str (Str.ofString "torn"))) (gName 6)) (sIf (e1 asB (e2 dEq (eVar 3) (eC (.int 1)))) (sAsg (eC (.str (Str.ofString "whole"))) (gName 6)) sNx)))
  (sSeq (sAsg (eAnd (e2 dEq (eVar 3) (eC (.int 3))) (e2 dEq (eVar 6) (eC (.str (Str.ofString "whole"))))) (gName 5))
  (sSeq (sAsg (eIf (e1 asB (e2 dEq (eVar 3) (eC (.int 3)))) (eC (.str (Str.ofString "none"))) (eVar 6)) (gName 6))
  (sSeq (sIf (tOrM (e1 asB (e2 dEq (eVar 2) (eC (.int 3)))) (tAndM (e1 asB (e2 dGt (eVar 2) (eC (.int 0)))) (tAndM (e1 asB (e2 dIx (eVar 0) (eC (.int 2)))) (e1 asB (e2 dGt (eVar 3) (eC (.int 0))))))) (sRet (e1 mkT (aCons (e1 mkT (aCons (eC (.str (Str.ofString "quiet"))) (aCons (eC (.int 0)) (aCons (eVar 6) aNil)))) (aCons (eVar 5) aNil)))) sNx)
  (sSeq (sIf (e1 asB (e2 dGt (eVar 2) (eC (.int 0)))) (sRet (e1 mkT (aCons (e1 mkT (aCons (eC (.str (Str.ofString "speaks"))) (aCons (eIf (e1 asB (e2 dEq (eVar 7) (eC (.str (Str.ofString "quiet"))))) (eC (.int 1)) (e2 dAdd (eVar 8) (eC (.int 1)))) (aCons (eVar 6) aNil)))) (aCons (eVar 5) aNil)))) sNx)
  (sSeq (sIf (e1 asB (e2 dEq (eVar 3) (eC (.int 0)))) (sRet (e1 mkT (aCons (e1 mkT (aCons (eC (.str (Str.ofString "quiet"))) (aCons (e1 fMin2 (aCons (e2 dAdd (eVar 8) (eC (.int 1))) (aCons (e2 dIx (e2 dIx (eVar 0) (eC (.int 1))) (eC (.int 1))) aNil))) (aCons (eVar 6) aNil)))) (aCons (eVar 5) aNil)))) sNx)
  (sRet (e1 mkT (aCons (e1 mkT (aCons (eC (.str (Str.ofString "quiet"))) (aCons (e2 dMul (e2 dIx (e2 dIx (eVar 0) (eC (.int 1))) (eC (.int 0))) (e1 fInt (aCons (eAnd (eVar 5) (eVar 4)) aNil))) (aCons (eVar 6) aNil)))) (aCons (eVar 5) aNil)))))))))))
def F__law_led : List D → Option D := callD 9 5 (B__law_led)
/-- _law_tick(plan, stand, choice); slots: 0 plan 1 stand 2 choice 3 voices 4 lines 5 one 6 got 7 other 8 given 9 line 10 back -/
def B__law_tick : MS :=
  (sSeq (sAsg (eVar 1) (gTup (gsCons (gTup (gsCons (gName 5) (gsCons (gName 7) gsNil))) (gsCons (gTup (gsCons (gName 9) (gsCons (gName 10) gsNil))) gsNil))))
  (sSeq (sAsg (e1 mkT (aCons (e1 F__law_voice (aCons (eVar 5) (aCons (e2 dIx (eVar 2) (eC (.int 0))) aNil))) (aCons (e1 F__law_voice (aCons (eVar 7) (aCons (e2 dIx (eVar 2) (eC (.int 1))) aNil))) aNil))) (gName 3))
  (sSeq (sAsg (e1 F__law_led (aCons (e2 dIx (e2 dIx (eVar 0) (eC (.int 0))) (eC (.int 0))) (aCons (eVar 5) (aCons (e2 dIx (eVar 3) (eC (.int 0))) (aCons (e2 dIx (eVar 10) (eC (.int 0))) (aCons (e2 dIx (eVar 0) (eC (.int 2))) aNil)))))) (gTup (gsCons (gName 5) (gsCons (gName 6) gsNil))))
  (sSeq (sAsg (e1 F__law_led (aCons (e2 dIx (e2 dIx (eVar 0) (eC (.int 0))) (eC (.int 1))) (aCons (eVar 7) (aCons (e2 dIx (eVar 3) (eC (.int 1))) (aCons (e2 dIx (eVar 9) (eC (.int 0))) (aCons (e2 dIx (eVar 0) (eC (.int 2))) aNil)))))) (gTup (gsCons (gName 7) (gsCons (gName 8) gsNil))))
  (sSeq (sAsg (e1 mkT (aCons (e2 dAdd (eSl (eVar 9) (oSome (eC (.int 1))) oNone) (eSl (eVar 3) oNone (oSome (eC (.int 1))))) (aCons (e2 dAdd (eSl (eVar 10) (oSome (eC (.int 1))) oNone) (eSl (eVar 3) (oSome (eC (.int 1))) oNone)) aNil))) (gName 4))
  (sRet (e1 mkT (aCons (e1 mkT (aCons (e1 mkT (aCons (eVar 5) (aCons (eVar 7) aNil))) (aCons (eVar 4) aNil))) (aCons (eVar 3) (aCons (e2 dAdd (e2 dMul (e1 mkT (aCons (eC (.int 0)) aNil)) (e1 fInt (aCons (eVar 8) aNil))) (e2 dMul (e1 mkT (aCons (eC (.int 1)) aNil)) (e1 fInt (aCons (eVar 6) aNil)))) aNil))))))))))
def F__law_tick : List D → Option D := callD 11 3 (B__law_tick)
/-- _law_int(value, low, high); slots: 0 value 1 low 2 high -/
def B__law_int : MS :=
  (sRet (eAnd (e1 (dIsi .int) (eVar 0)) (eAnd (e1 dNot (e1 (dIsi .bool) (eVar 0))) (eChain dLe dLe (eVar 1) (eVar 0) (eVar 2)))))
def F__law_int : List D → Option D := callD 3 3 (B__law_int)
/-- _law_made(value, many); slots: 0 value 1 many -/
def B__law_made : MS :=
  (sRet (eAnd (e1 (dIsi .tup) (eVar 0)) (e2 dEq (e1 fLen (aCons (eVar 0) aNil)) (eVar 1))))
def F__law_made : List D → Option D := callD 2 2 (B__law_made)
/-- _law_good_habit(value); slots: 0 value 1 span 2 low 3 high -/
def B__law_good_habit : MS :=
  (sSeq (sIf (tOrM (e1 tNotB (e1 asB (e1 F__law_made (aCons (eVar 0) (aCons (eC (.int 4)) aNil))))) (tOrM (e1 tNotB (e1 asB (e1 (dIsi .bool) (e2 dIx (eVar 0) (eC (.int 2)))))) (e1 tNotB (e1 asB (e1 (dIsi .bool) (e2 dIx (eVar 0) (eC (.int 3)))))))) (sRet (eC (.bool false))) sNx)
  (sSeq (sFor (e1 iSeq (e1 mkL (aCons (e1 mkT (aCons (e2 dIx (eVar 0) (eC (.int 0))) (aCons (eC (.int 2)) (aCons (eC (.int 4)) aNil)))) (aCons (e1 mkT (aCons (e2 dIx (eVar 0) (eC (.int 1))) (aCons (eC (.int 1)) (aCons (eC (.int 6)) aNil)))) aNil)))) (gTup (gsCons (gName 1) (gsCons (gName 2) (gsCons (gName 3) gsNil)))) (sIf (tOrM (e1 tNotB (e1 asB (e1 F__law_made (aCons (eVar 1) (aCons (eC (.int 2)) aNil))))) (tOrM (e1 tNotB (e1 asB (e1 F__law_int (aCons (e2 dIx (eVar 1) (eC (.int 0))) (aCons (eVar 2) (aCons (eVar 3) aNil)))))) (e1 tNotB (e1 asB (e1 F__law_int (aCons (e2 dIx (eVar 1) (eC (.int 1))) (aCons (e2 dIx (eVar 1) (eC (.int 0))) (aCons (eVar 3) aNil)))))))) (sRet (eC (.bool false))) sNx))
  (sRet (eC (.bool true)))))
def F__law_good_habit : List D → Option D := callD 4 1 (B__law_good_habit)
/-- _law_good_plan(value); slots: 0 value -/
def B__law_good_plan : MS :=
  (sSeq (sIf (tOrM (e1 tNotB (e1 asB (e1 F__law_made (aCons (eVar 0) (aCons (eC (.int 3)) aNil))))) (tOrM (e1 tNotB (e1 asB (e1 F__law_made (aCons (e2 dIx (eVar 0) (eC (.int 0))) (aCons (eC (.int 2)) aNil))))) (e1 tNotB (e1 asB (e1 F__law_made (aCons (e2 dIx (eVar 0) (eC (.int 1))) (aCons (eC (.int 2)) aNil))))))) (sRet (eC (.bool false))) sNx)
  (sSeq (sIf (tOrM (e1 tNotB (e1 asB (e1 (dIsi .bool) (e2 dIx (eVar 0) (eC (.int 2)))))) (tOrM (e1 tNotB (e1 asB (e1 F__law_good_habit (aCons (e2 dIx (e2 dIx (eVar 0) (eC (.int 0))) (eC (.int 0))) aNil)))) (e1 tNotB (e1 asB (e1 F__law_good_habit (aCons (e2 dIx (e2 dIx (eVar 0) (eC (.int 0))) (eC (.int 1))) aNil)))))) (sRet (eC (.bool false))) sNx)
  (sSeq (sIf (tOrM (e1 tNotB (e1 asB (e1 F__law_int (aCons (e2 dIx (e2 dIx (eVar 0) (eC (.int 1))) (eC (.int 0))) (aCons (eC (.int 1)) (aCons (eC (.int 3)) aNil)))))) (e1 tNotB (e1 asB (e1 F__law_int (aCons (e2 dIx (e2 dIx (eVar 0) (eC (.int 1))) (eC (.int 1))) (aCons (eC (.int 1)) (aCons (eC (.int 3)) aNil))))))) (sRet (eC (.bool false))) sNx)
  (sRet (e2 dLe (e1 F__law_size (aCons (eVar 0) aNil)) (eC (.int 10000)))))))
def F__law_good_plan : List D → Option D := callD 1 1 (B__law_good_plan)
/-- _law_good_stand(plan, value); slots: 0 plan 1 value 2 habit 3 part 4 bounds 5 delay 6 line 7 sign -/
def L__law_good_stand_0 : MS :=
  (sSeq (sIf (tOrM (e1 tNotB (e1 asB (e1 F__law_made (aCons (eVar 3) (aCons (eC (.int 3)) aNil))))) (tOrM (e1 tNotB (e1 asB (e1 (dIsi .str) (e2 dIx (eVar 3) (eC (.int 0)))))) (e1 tNotB (e1 asB (e1 (dIsi .str) (e2 dIx (eVar 3) (eC (.int 2)))))))) (sRet (eC (.bool false))) sNx)
  (sSeq (sIf (tOrM (e1 asB (e2 (dIn true) (e2 dIx (eVar 3) (eC (.int 0))) (e1 mkL (aCons (eC (.str (Str.ofString "quiet"))) (aCons (eC (.str (Str.ofString "speaks"))) aNil))))) (e1 asB (e2 (dIn true) (e2 dIx (eVar 3) (eC (.int 2))) (e1 mkL (aCons (eC (.str (Str.ofString "none"))) (aCons (eC (.str (Str.ofString "torn"))) (aCons (eC (.str (Str.ofString "whole"))) aNil))))))) (sRet (eC (.bool false))) sNx)
  (sSeq (sAsg (eIf (e1 asB (e2 dEq (e2 dIx (eVar 3) (eC (.int 0))) (eC (.str (Str.ofString "quiet"))))) (e1 mkT (aCons (eC (.int 0)) (aCons (e2 dIx (e2 dIx (eVar 2) (eC (.int 1))) (eC (.int 1))) aNil))) (e1 mkT (aCons (eC (.int 1)) (aCons (e2 iSub (e2 dIx (e2 dIx (eVar 2) (eC (.int 0))) (eC (.int 1))) (eC (.int 1))) aNil)))) (gName 4))
  (sIf (e1 tNotB (e1 asB (e1 F__law_int (aCons (e2 dIx (eVar 3) (eC (.int 1))) (aCons (e2 dIx (eVar 4) (eC (.int 0))) (aCons (e2 dIx (eVar 4) (eC (.int 1))) aNil)))))) (sRet (eC (.bool false))) sNx))))
def L__law_good_stand_1 : MS :=
  (sIf (tOrM (e1 tNotB (e1 asB (e1 F__law_made (aCons (eVar 6) (aCons (eVar 5) aNil))))) (e1 asB (e2 dNe (eLc (e1 iSeq (eVar 6)) (gName 7) (e1 tNotB (e1 asB (e1 F__law_int (aCons (eVar 7) (aCons (eC (.int 0)) (aCons (eC (.int 3)) aNil)))))) (eC (.int 1)) [7]) (e1 mkL aNil)))) (sRet (eC (.bool false))) sNx)
def B__law_good_stand : MS :=
  (sSeq (sIf (tOrM (e1 tNotB (e1 asB (e1 F__law_made (aCons (eVar 1) (aCons (eC (.int 2)) aNil))))) (tOrM (e1 tNotB (e1 asB (e1 F__law_made (aCons (e2 dIx (eVar 1) (eC (.int 0))) (aCons (eC (.int 2)) aNil))))) (e1 tNotB (e1 asB (e1 F__law_made (aCons (e2 dIx (eVar 1) (eC (.int 1))) (aCons (eC (.int 2)) aNil))))))) (sRet (eC (.bool false))) sNx)
  (sSeq (sFor (e1 iZ (aCons (e2 dIx (eVar 0) (eC (.int 0))) (aCons (e2 dIx (eVar 1) (eC (.int 0))) aNil))) (gTup (gsCons (gName 2) (gsCons (gName 3) gsNil))) L__law_good_stand_0)
  (sSeq (sFor (e1 iZ (aCons (e2 dIx (eVar 0) (eC (.int 1))) (aCons (e2 dIx (eVar 1) (eC (.int 1))) aNil))) (gTup (gsCons (gName 5) (gsCons (gName 6) gsNil))) L__law_good_stand_1)
  (sRet (eC (.bool true))))))
def F__law_good_stand : List D → Option D := callD 8 2 (B__law_good_stand)
/-- _law_bent(spring, value); slots: 0 spring 1 value 2 some 3 at 4 way -/
def B__law_bent (Fr : List D → List D → Option (D × List D)) : MS :=
  (sSeq (sIf (tAndM (e1 asB (e1 (dIsi .tup) (eVar 1))) (tAndM (e1 asB (e2 dNe (eVar 1) (e1 mkT aNil))) (e1 asB (e2 dGt (eBor 0 F__law_pick (aCons (eC (.int 6)) aNil)) (eC (.int 0)))))) (sSeq (sPar [3, 4] (aCons (eBor 0 F__law_pick (aCons (e1 fLen (aCons (eVar 1) aNil)) aNil)) (aCons (eBor 0 F__law_pick (aCons (eC (.int 7)) aNil)) aNil)))
  (sSeq (sIf (e1 asB (e2 dEq (eVar 4) (eC (.int 0)))) (sRet (e2 dAdd (eSl (eVar 1) oNone (oSome (eVar 3))) (eSl (eVar 1) (oSome (e2 dAdd (eVar 3) (eC (.int 1)))) oNone))) sNx)
  (sSeq (sIf (e1 asB (e2 dEq (eVar 4) (eC (.int 1)))) (sRet (e2 dAdd (e2 dAdd (eSl (eVar 1) oNone (oSome (eVar 3))) (eSl (eVar 1) (oSome (eVar 3)) (oSome (e2 dAdd (eVar 3) (eC (.int 1)))))) (eSl (eVar 1) (oSome (eVar 3)) oNone))) sNx)
  (sRet (e2 dAdd (e2 dAdd (eSl (eVar 1) oNone (oSome (eVar 3))) (e1 mkT (aCons (eBor 0 Fr (aCons (e2 dIx (eVar 1) (eVar 3)) aNil)) aNil))) (eSl (eVar 1) (oSome (e2 dAdd (eVar 3) (eC (.int 1)))) oNone)))))) sNx)
  (sSeq (sAsg (e1 mkL (aCons (eC .none) (aCons (eC (.bool true)) (aCons (eC (.bool false)) (aCons (eC (.int 0)) (aCons (eC (.int 1)) (aCons (eC (.int 2)) (aCons (eC (.int 3)) (aCons (eC (.int 4)) (aCons (eC (.int 5)) (aCons (eC (.int 6)) (aCons (eC (.int 7)) (aCons (e1 dNeg (eC (.int 1))) (aCons (e2 iPow (eC (.int 10)) (eC (.int 30))) (aCons (eC (.str (Str.ofString "quiet"))) (aCons (eC (.str (Str.ofString "speaks"))) (aCons (eC (.str (Str.ofString "torn"))) (aCons (eC (.str (Str.ofString "whole"))) (aCons (eC (.str (Str.ofString "none"))) (aCons (eC (.str (Str.ofString ""))) aNil)))))))))))))))))))) (gName 2))
  (sSeq (sAsg (e2 dAdd (eVar 2) (e1 mkL (aCons (e1 mkT aNil) (aCons (e1 mkL aNil) (aCons (e1 mkT (aCons (eC (.int 1)) (aCons (eC (.int 1)) aNil))) (aCons (e1 mkT (aCons (eC (.int 2)) (aCons (eC (.int 2)) aNil))) (aCons (e1 mkT (aCons (eC (.int 4)) (aCons (eC (.int 2)) aNil))) (aCons (e1 mkT (aCons (eC (.int 2)) (aCons (eC (.int 4)) aNil))) (aCons (e1 mkT (aCons (eC (.int 6)) (aCons (eC (.int 6)) aNil))) (aCons (e1 mkT (aCons (eC (.int 0)) aNil)) (aCons (e1 mkT (aCons (eC (.str (Str.ofString "quiet"))) (aCons (eC (.int 0)) (aCons (eC (.str (Str.ofString "none"))) aNil)))) (aCons (e1 mkL (aCons (eC (.int 0)) aNil)) aNil)))))))))))) (gName 2))
  (sRet (e2 dIx (eVar 2) (eBor 0 F__law_pick (aCons (e1 fLen (aCons (eVar 2) aNil)) aNil)))))))
def F__law_bent : Nat → List D → List D → Option (D × List D)
  | 0 => fun _ _ => none
  | n + 1 => callB 5 2 (B__law_bent (F__law_bent n))
/-- look_at_stand(plan, stand); slots: 0 plan 1 stand -/
def B_look_at_stand : MS :=
  (sIf (e1 tNotB (e1 asB (e1 F_fits (aCons (eVar 0) (aCons (eVar 1) aNil))))) sNever sNx)
def F_look_at_stand : List D → Option D := callD 2 2 (B_look_at_stand)
/-- ways_of(habit, part); slots: 0 habit 1 part 2 sentence 3 wait 4 stops 5 eager 6 no 7 yes -/
def B_ways_of : MS :=
  (sSeq (sAsg (eVar 0) (gTup (gsCons (gName 2) (gsCons (gName 3) (gsCons (gName 4) (gsCons (gName 5) gsNil))))))
  (sSeq (sIf (e1 asB (e2 dEq (e2 dIx (eVar 1) (eC (.int 0))) (eC c_QUIET))) (sPar [6, 7] (aCons (eOr (e1 dNot (eVar 5)) (e2 dLt (e2 dIx (eVar 1) (eC (.int 1))) (e2 dIx (eVar 3) (eC (.int 1))))) (aCons (e2 dGe (e2 dIx (eVar 1) (eC (.int 1))) (e2 dIx (eVar 3) (eC (.int 0)))) aNil))) (sPar [6, 7] (aCons (e2 dLt (e2 dAdd (e2 dIx (eVar 1) (eC (.int 1))) (eC (.int 1))) (e2 dIx (eVar 2) (eC (.int 1)))) (aCons (e2 dGe (e2 dAdd (e2 dIx (eVar 1) (eC (.int 1))) (eC (.int 1))) (e2 dIx (eVar 2) (eC (.int 0)))) aNil))))
  (sRet (e2 dAdd (e2 dMul (e1 mkL (aCons (eC (.bool false)) aNil)) (e1 fInt (aCons (eVar 6) aNil))) (e2 dMul (e1 mkL (aCons (eC (.bool true)) aNil)) (e1 fInt (aCons (eVar 7) aNil)))))))
def F_ways_of : List D → Option D := callD 8 2 (B_ways_of)
/-- choices_of(plan, stand); slots: 0 plan 1 stand 2 first 3 second 4 one 5 other 6 habit 7 part -/
def B_choices_of : MS :=
  (sSeq (sAsg (eLc (e1 iZ (aCons (e2 dIx (eVar 0) (eC (.int 0))) (aCons (e2 dIx (eVar 1) (eC (.int 0))) aNil))) (gTup (gsCons (gName 6) (gsCons (gName 7) gsNil))) tYesM (e1 F_ways_of (aCons (eVar 6) (aCons (eVar 7) aNil))) [6, 7]) (gLst (gsCons (gName 2) (gsCons (gName 3) gsNil))))
  (sRet (eLc2 (e1 iSeq (eVar 2)) (gName 4) (e1 iSeq (eVar 3)) (gName 5) (e1 mkT (aCons (eVar 4) (aCons (eVar 5) aNil))) [4, 5] [5])))
def F_choices_of : List D → Option D := callD 8 2 (B_choices_of)
/-- sign_of(part, chosen); slots: 0 part 1 chosen -/
def B_sign_of : MS :=
  (sSeq (sIf (e1 asB (e2 dEq (e2 dIx (eVar 0) (eC (.int 0))) (eC c_QUIET))) (sRet (e1 fInt (aCons (eVar 1) aNil))) sNx)
  (sRet (eIf (e1 asB (eVar 1)) (eC (.int 3)) (eC (.int 2)))))
def F_sign_of : List D → Option D := callD 2 2 (B_sign_of)
/-- signs_of(stand, choice); slots: 0 stand 1 choice 2 part 3 chosen -/
def B_signs_of : MS :=
  (sRet (e1 fTuple (aCons (eLc (e1 iZ (aCons (e2 dIx (eVar 0) (eC (.int 0))) (aCons (eVar 1) aNil))) (gTup (gsCons (gName 2) (gsCons (gName 3) gsNil))) tYesM (e1 F_sign_of (aCons (eVar 2) (aCons (eVar 3) aNil))) [2, 3]) aNil)))
def F_signs_of : List D → Option D := callD 4 2 (B_signs_of)
/-- heard_by(stand); slots: 0 stand -/
def B_heard_by : MS :=
  (sRet (e1 mkT (aCons (e2 dIx (e2 dIx (e2 dIx (eVar 0) (eC (.int 1))) (eC (.int 1))) (eC (.int 0))) (aCons (e2 dIx (e2 dIx (e2 dIx (eVar 0) (eC (.int 1))) (eC (.int 0))) (eC (.int 0))) aNil))))
def F_heard_by : List D → Option D := callD 1 1 (B_heard_by)
/-- hearing_of(before, said, heard); slots: 0 before 1 said 2 heard -/
def B_hearing_of : MS :=
  (sSeq (sIf (e1 asB (e2 dEq (eVar 2) (eC (.int 0)))) (sRet (eC (.str (Str.ofString "none")))) sNx)
  (sSeq (sIf (e1 asB (e2 dNe (eVar 1) (eC (.int 0)))) (sRet (eC (.str (Str.ofString "torn")))) sNx)
  (sSeq (sIf (e1 asB (e2 dEq (eVar 2) (eC (.int 1)))) (sRet (eC (.str (Str.ofString "whole")))) sNx)
  (sRet (eIf (e1 asB (e2 dEq (eVar 0) (eC (.str (Str.ofString "none"))))) (eC (.str (Str.ofString "torn"))) (eVar 0))))))
def F_hearing_of : List D → Option D := callD 3 3 (B_hearing_of)
/-- is_whole(part, said, heard); slots: 0 part 1 said 2 heard -/
def B_is_whole : MS :=
  (sRet (eAnd (e2 dEq (eVar 2) (eC (.int 3))) (e2 dEq (e1 F_hearing_of (aCons (e2 dIx (eVar 0) (eC (.int 2))) (aCons (eVar 1) (aCons (eVar 2) aNil)))) (eC (.str (Str.ofString "whole"))))))
def F_is_whole : List D → Option D := callD 3 3 (B_is_whole)
/-- talker_behind(habit, part, said, heard, over); slots: 0 habit 1 part 2 said 3 heard 4 over 5 hearing 6 sentence 7 wait 8 stops 9 eager -/
def B_talker_behind : MS :=
  (sSeq (sAsg (eVar 0) (gTup (gsCons (gName 6) (gsCons (gName 7) (gsCons (gName 8) (gsCons (gName 9) gsNil))))))
  (sSeq (sAsg (eIf (e1 asB (e2 dEq (eVar 3) (eC (.int 3)))) (eC (.str (Str.ofString "none"))) (e1 F_hearing_of (aCons (e2 dIx (eVar 1) (eC (.int 2))) (aCons (eVar 2) (aCons (eVar 3) aNil))))) (gName 5))
  (sSeq (sIf (e1 asB (e2 dNe (eVar 2) (eC (.int 0)))) (sSeq (sIf (tOrM (e1 asB (e2 dEq (eVar 2) (eC (.int 3)))) (tAndM (e1 asB (eVar 8)) (e1 asB (e2 dNe (eVar 3) (eC (.int 0)))))) (sRet (e1 mkT (aCons (eC c_QUIET) (aCons (eC (.int 0)) (aCons (eVar 5) aNil))))) sNx)
  (sRet (e1 mkT (aCons (eC c_SPEAKS) (aCons (eIf (e1 asB (e2 dEq (eVar 2) (eC (.int 1)))) (eC (.int 1)) (e2 dAdd (e2 dIx (eVar 1) (eC (.int 1))) (eC (.int 1)))) (aCons (eVar 5) aNil)))))) sNx)
  (sSeq (sIf (e1 asB (e2 dEq (eVar 3) (eC (.int 0)))) (sRet (e1 mkT (aCons (eC c_QUIET) (aCons (e1 fMin2 (aCons (e2 dIx (eVar 7) (eC (.int 1))) (aCons (e2 dAdd (e2 dIx (eVar 1) (eC (.int 1))) (eC (.int 1))) aNil))) (aCons (eVar 5) aNil))))) sNx)
  (sRet (e1 mkT (aCons (eC c_QUIET) (aCons (eIf (tAndM (e1 asB (eVar 4)) (e1 asB (e1 F_is_whole (aCons (eVar 1) (aCons (eVar 2) (aCons (eVar 3) aNil)))))) (e2 dIx (eVar 7) (eC (.int 0))) (eC (.int 0))) (aCons (eVar 5) aNil)))))))))
def F_talker_behind : List D → Option D := callD 10 5 (B_talker_behind)
/-- behind(plan, stand, choice); slots: 0 plan 1 stand 2 choice 3 number 4 said 5 heard 6 found 7 line 8 sign -/
def B_behind : MS :=
  (sSeq (sPar3O 4 5 6 (aCons (e1 F_signs_of (aCons (eVar 1) (aCons (eVar 2) aNil))) (aCons (e1 F_heard_by (aCons (eVar 1) aNil)) aNil)))
  (sSeq (sFor (e1 iR1 (aCons (eC (.int 2)) aNil)) (gName 3) (sApp 6 (e1 F_talker_behind (aCons (e2 dIx (e2 dIx (eVar 0) (eC (.int 0))) (eVar 3)) (aCons (e2 dIx (e2 dIx (eVar 1) (eC (.int 0))) (eVar 3)) (aCons (e2 dIx (eVar 4) (eVar 3)) (aCons (e2 dIx (eVar 5) (eVar 3)) (aCons (e2 dIx (eVar 0) (eC (.int 2))) aNil))))))))
  (sRet (e1 mkT (aCons (e1 fTuple (aCons (eTake 6) aNil)) (aCons (e1 fTuple (aCons (eLc (e1 iZ (aCons (e2 dIx (eVar 1) (eC (.int 1))) (aCons (eVar 4) aNil))) (gTup (gsCons (gName 7) (gsCons (gName 8) gsNil))) tYesM (e2 dAdd (eSl (eVar 7) (oSome (eC (.int 1))) oNone) (e1 mkT (aCons (eVar 8) aNil))) [7, 8]) aNil)) aNil))))))
def F_behind : List D → Option D := callD 9 3 (B_behind)
/-- whole_by(stand, choice); slots: 0 stand 1 choice 2 said 3 heard 4 number -/
def B_whole_by : MS :=
  (sSeq (sAsg (e1 mkT (aCons (e1 F_signs_of (aCons (eVar 0) (aCons (eVar 1) aNil))) (aCons (e1 F_heard_by (aCons (eVar 0) aNil)) aNil))) (gTup (gsCons (gName 2) (gsCons (gName 3) gsNil))))
  (sRet (e1 fTuple (aCons (eLc (e1 iSeq (e1 mkT (aCons (eC (.int 1)) (aCons (eC (.int 0)) aNil)))) (gName 4) (e1 asB (e1 F_is_whole (aCons (e2 dIx (e2 dIx (eVar 0) (eC (.int 0))) (eVar 4)) (aCons (e2 dIx (eVar 2) (eVar 4)) (aCons (e2 dIx (eVar 3) (eVar 4)) aNil))))) (e2 iSub (eC (.int 1)) (eVar 4)) [4]) aNil))))
def F_whole_by : List D → Option D := callD 5 2 (B_whole_by)
/-- is_like(value, some); slots: 0 value 1 some 2 part -/
def B_is_like : MS :=
  (sRet (eAnd (e1 (dIsi .tup) (eVar 0)) (eAnd (e1 fAll (aCons (eLc (e1 iSeq (eVar 0)) (gName 2) tYesM (e1 (dIsi .bool) (eVar 2)) [2]) aNil)) (e2 (dIn false) (eVar 0) (eVar 1)))))
def F_is_like : List D → Option D := callD 3 2 (B_is_like)
/-- stands_of(plan, stand, choices); slots: 0 plan 1 stand 2 choices 3 found 4 choice -/
def L_stands_of_0 : MS :=
  (sSeq (sIf (e1 tNotB (e1 asB (e1 F_is_like (aCons (eVar 4) (aCons (e1 F_choices_of (aCons (eVar 0) (aCons (eIxO 3 (e1 dNeg (eC (.int 1)))) aNil))) aNil))))) (sRet (eTake 3)) sNx)
  (sApp 3 (e1 F_behind (aCons (eVar 0) (aCons (eIxO 3 (e1 dNeg (eC (.int 1)))) (aCons (eVar 4) aNil))))))
def B_stands_of : MS :=
  (sSeq (sOwn 3 (aCons (eVar 1) aNil))
  (sSeq (sFor (e1 iSeq (eVar 2)) (gName 4) L_stands_of_0)
  (sRet (eTake 3))))
def F_stands_of : List D → Option D := callD 5 3 (B_stands_of)
/-- fits_run(plan, value); slots: 0 plan 1 value -/
def B_fits_run : MS :=
  (sSeq (sIf (tOrM (e1 tNotB (e1 asB (e1 (dIsi .tup) (eVar 1)))) (e1 asB (e2 dGt (e1 fLen (aCons (eVar 1) aNil)) (eC c_MOST_CHOICES)))) (sRet (eC (.bool false))) sNx)
  (sRet (e2 dEq (e1 fLen (aCons (e1 F_stands_of (aCons (eVar 0) (aCons (e1 F_begin_of (aCons (eVar 0) aNil)) (aCons (eVar 1) aNil)))) aNil)) (e2 dAdd (e1 fLen (aCons (eVar 1) aNil)) (eC (.int 1))))))
def F_fits_run : List D → Option D := callD 2 2 (B_fits_run)
/-- look_at_choice(plan, stand, choice); slots: 0 plan 1 stand 2 choice -/
def B_look_at_choice : MS :=
  (sIf (e1 tNotB (e1 asB (e1 F_is_like (aCons (eVar 2) (aCons (e1 F_choices_of (aCons (eVar 0) (aCons (eVar 1) aNil))) aNil))))) sNever sNx)
def F_look_at_choice : List D → Option D := callD 3 3 (B_look_at_choice)
/-- choices_at(plan, stand); slots: 0 plan 1 stand -/
def B_choices_at : MS :=
  (sSeq (sDrop (e1 F_look_at_plan (aCons (eVar 0) aNil)))
  (sSeq (sDrop (e1 F_look_at_stand (aCons (eVar 0) (aCons (eVar 1) aNil))))
  (sRet (e1 F_choices_of (aCons (eVar 0) (aCons (eVar 1) aNil))))))
def F_choices_at : List D → Option D := callD 2 2 (B_choices_at)
/-- said(plan, stand, choice); slots: 0 plan 1 stand 2 choice -/
def B_said : MS :=
  (sSeq (sDrop (e1 F_look_at_plan (aCons (eVar 0) aNil)))
  (sSeq (sDrop (e1 F_look_at_stand (aCons (eVar 0) (aCons (eVar 1) aNil))))
  (sSeq (sDrop (e1 F_look_at_choice (aCons (eVar 0) (aCons (eVar 1) (aCons (eVar 2) aNil)))))
  (sRet (e1 F_signs_of (aCons (eVar 1) (aCons (eVar 2) aNil)))))))
def F_said : List D → Option D := callD 3 3 (B_said)
/-- heard(plan, stand); slots: 0 plan 1 stand -/
def B_heard : MS :=
  (sSeq (sDrop (e1 F_look_at_plan (aCons (eVar 0) aNil)))
  (sSeq (sDrop (e1 F_look_at_stand (aCons (eVar 0) (aCons (eVar 1) aNil))))
  (sRet (e1 F_heard_by (aCons (eVar 1) aNil)))))
def F_heard : List D → Option D := callD 2 2 (B_heard)
/-- after(plan, stand, choice); slots: 0 plan 1 stand 2 choice -/
def B_after : MS :=
  (sSeq (sDrop (e1 F_look_at_plan (aCons (eVar 0) aNil)))
  (sSeq (sDrop (e1 F_look_at_stand (aCons (eVar 0) (aCons (eVar 1) aNil))))
  (sSeq (sDrop (e1 F_look_at_choice (aCons (eVar 0) (aCons (eVar 1) (aCons (eVar 2) aNil)))))
  (sRet (e1 F_behind (aCons (eVar 0) (aCons (eVar 1) (aCons (eVar 2) aNil))))))))
def F_after : List D → Option D := callD 3 3 (B_after)
/-- whole(plan, stand, choice); slots: 0 plan 1 stand 2 choice -/
def B_whole : MS :=
  (sSeq (sDrop (e1 F_look_at_plan (aCons (eVar 0) aNil)))
  (sSeq (sDrop (e1 F_look_at_stand (aCons (eVar 0) (aCons (eVar 1) aNil))))
  (sSeq (sDrop (e1 F_look_at_choice (aCons (eVar 0) (aCons (eVar 1) (aCons (eVar 2) aNil)))))
  (sRet (e1 F_whole_by (aCons (eVar 1) (aCons (eVar 2) aNil)))))))
def F_whole : List D → Option D := callD 3 3 (B_whole)
/-- is_run(plan, value); slots: 0 plan 1 value -/
def B_is_run : MS :=
  (sSeq (sDrop (e1 F_look_at_plan (aCons (eVar 0) aNil)))
  (sRet (e1 F_fits_run (aCons (eVar 0) (aCons (eVar 1) aNil)))))
def F_is_run : List D → Option D := callD 2 2 (B_is_run)
/-- stand_behind(plan, run); slots: 0 plan 1 run -/
def B_stand_behind : MS :=
  (sSeq (sDrop (e1 F_look_at_plan (aCons (eVar 0) aNil)))
  (sSeq (sIf (e1 tNotB (e1 asB (e1 F_fits_run (aCons (eVar 0) (aCons (eVar 1) aNil))))) sNever sNx)
  (sRet (e2 dIx (e1 F_stands_of (aCons (eVar 0) (aCons (e1 F_begin_of (aCons (eVar 0) aNil)) (aCons (eVar 1) aNil)))) (e1 dNeg (eC (.int 1)))))))
def F_stand_behind : List D → Option D := callD 2 2 (B_stand_behind)
/-- _law_any_part(spring, habit); slots: 0 spring 1 habit 2 got -/
def B__law_any_part : MS :=
  (sSeq (sAsg (e2 dIx (e1 mkL (aCons (eC (.str (Str.ofString "none"))) (aCons (eC (.str (Str.ofString "torn"))) (aCons (eC (.str (Str.ofString "whole"))) aNil)))) (eBor 0 F__law_pick (aCons (eC (.int 3)) aNil))) (gName 2))
  (sSeq (sIf (e1 asB (e2 dEq (eBor 0 F__law_pick (aCons (eC (.int 2)) aNil)) (eC (.int 0)))) (sRet (e1 mkT (aCons (eC (.str (Str.ofString "quiet"))) (aCons (eBor 0 F__law_pick (aCons (e2 dAdd (e2 dIx (e2 dIx (eVar 1) (eC (.int 1))) (eC (.int 1))) (eC (.int 1))) aNil)) (aCons (eVar 2) aNil))))) sNx)
  (sRet (e1 mkT (aCons (eC (.str (Str.ofString "speaks"))) (aCons (e2 dAdd (eC (.int 1)) (eBor 0 F__law_pick (aCons (e2 iSub (e2 dIx (e2 dIx (eVar 1) (eC (.int 0))) (eC (.int 1))) (eC (.int 1))) aNil))) (aCons (eVar 2) aNil)))))))
def F__law_any_part : List D → List D → Option (D × List D) := callB 3 2 (B__law_any_part)
/-- is_clash(stand, choice); slots: 0 stand 1 choice -/
def B_is_clash : MS :=
  (sRet (e2 (dIn true) (eC (.int 0)) (e1 F_signs_of (aCons (eVar 0) (aCons (eVar 1) aNil)))))
def F_is_clash : List D → Option D := callD 2 2 (B_is_clash)
/-- ways_by(plan); slots: 0 plan 1 first 2 found 3 waiting 4 at 5 stand 6 choice 7 there -/
def L_ways_by_0 : MS :=
  (sSeq (sAsg (e1 F_behind (aCons (eVar 0) (aCons (eVar 5) (aCons (eVar 6) aNil)))) (gName 7))
  (sIf (e1 asB (eDIn true 2 (eVar 7))) (sSeq (sAsg (e2 dAdd (eDIx 2 (eVar 5)) (e1 mkT (aCons (eVar 6) aNil))) (gDSet 2 (eVar 7)))
  (sApp 3 (eVar 7))) sNx))
def L_ways_by_1 : MS :=
  (sSeq (sAsg (eIxO 3 (eVar 4)) (gName 5))
  (sSeq (sAsg (e2 dAdd (eVar 4) (eC (.int 1))) (gName 4))
  (sFor (e1 iSeq (e1 F_choices_of (aCons (eVar 0) (aCons (eVar 5) aNil)))) (gName 6) L_ways_by_0)))
def B_ways_by : MS :=
  (sSeq (sAsg (e1 F_begin_of (aCons (eVar 0) aNil)) (gName 1))
  (sSeq (sPutF [2, 3, 4] (fsCons (fD1 (eVar 1) (e1 mkT aNil)) (fsCons (fLst (aCons (eVar 1) aNil)) (fsCons (fDat (eC (.int 0))) fsNil))))
  (sSeq (sWhile fuel (e1 asB (e2 dLt (eVar 4) (eLenO 3))) L_ways_by_1)
  (sRet (eDTake 2)))))
def F_ways_by : List D → Option D := callD 8 1 (B_ways_by)
/-- clash_by(plan); slots: 0 plan 1 stand 2 run 3 choice -/
def L_clash_by_0 : MS :=
  (sFor (e1 iSeq (e1 F_choices_of (aCons (eVar 0) (aCons (eVar 1) aNil)))) (gName 3) (sIf (e1 asB (e1 F_is_clash (aCons (eVar 1) (aCons (eVar 3) aNil)))) (sRet (e2 dAdd (eVar 2) (e1 mkT (aCons (eVar 3) aNil)))) sNx))
def B_clash_by : MS :=
  (sSeq (sFor (e1 iIt (e1 F_ways_by (aCons (eVar 0) aNil))) (gTup (gsCons (gName 1) (gsCons (gName 2) gsNil))) L_clash_by_0)
  (sRet (eC .none)))
def F_clash_by : List D → Option D := callD 4 1 (B_clash_by)
/-- longest_way(nexts); slots: 0 nexts 1 stand 2 open_ways 3 many 4 left 5 back 6 waiting 7 done 8 there 9 other -/
def L_longest_way_0 : MS :=
  (sAsg (eLc (e1 iSeq (e2 dIxD (eVar 0) (eVar 1))) (gName 8) (e1 asB (e2 (dInD false) (eVar 8) (eVar 0))) (eVar 8) [8]) (gDSet 4 (eVar 1)))
def L_longest_way_1 : MS :=
  (sSeq (sAsg (e1 fInt (aCons (e2 dGt (e1 fLen (aCons (e2 dIxD (eVar 0) (eVar 1)) aNil)) (eC (.int 0))) aNil)) (gDSet 3 (eVar 1)))
  (sSeq (sFor (e1 iSeq (eDIx 4 (eVar 1))) (gName 8) (sDApp 5 (pVar 8) (pVar 1)))
  (sIf (e1 asB (e2 dEq (eDIx 4 (eVar 1)) (e1 mkL aNil))) (sApp 6 (eVar 1)) sNx)))
def L_longest_way_2 : MS :=
  (sSeq (sAsg (e1 fMax2 (aCons (eDIx 3 (eVar 9)) (aCons (e2 dAdd (eDIx 3 (eVar 1)) (eC (.int 1))) aNil))) (gDSet 3 (eVar 9)))
  (sSeq (sAsg (e2 iSub (eDIx 2 (eVar 9)) (eC (.int 1))) (gDSet 2 (eVar 9)))
  (sIf (e1 asB (e2 dEq (eDIx 2 (eVar 9)) (eC (.int 0)))) (sApp 6 (eVar 9)) sNx)))
def L_longest_way_3 : MS :=
  (sSeq (sAsg (ePop 6) (gName 1))
  (sSeq (sAsg (e2 dAdd (eVar 7) (eC (.int 1))) (gName 7))
  (sFor (e1 iSeq (eDIx 5 (eVar 1))) (gName 9) L_longest_way_2)))
def B_longest_way : MS :=
  (sSeq (sPutF [3, 4] (fsCons (fDc (e1 iKy (eVar 0)) (gName 1) (eVar 1) (eC (.int 0)) [1]) (fsCons fD0 fsNil)))
  (sSeq (sFor (e1 iKy (eVar 0)) (gName 1) L_longest_way_0)
  (sSeq (sPutF [5, 6, 7] (fsCons (fDcL (e1 iKy (eVar 0)) (gName 1) (eVar 1) [1]) (fsCons (fLst aNil) (fsCons (fDat (eC (.int 0))) fsNil))))
  (sSeq (sFor (e1 iKy (eVar 0)) (gName 1) L_longest_way_1)
  (sSeq (sThaw 5 (sPutF [2] (fsCons (fDc (e1 iKy (eVar 0)) (gName 1) (eVar 1) (e1 fLen (aCons (eDIx 4 (eVar 1)) aNil)) [1]) fsNil)))
  (sSeq (sWhile fuel (e1 asB (eNil true 6)) L_longest_way_3)
  (sRet (eIf (e1 asB (e2 dLt (eVar 7) (e1 fLenD (aCons (eVar 0) aNil)))) (eC .none) (e1 fMaxL (aCons (e2 dAdd (e1 mkL (aCons (eC (.int 0)) aNil)) (e1 dVals (eDTake 3))) aNil))))))))))
def F_longest_way : List D → Option D := callD 10 1 (B_longest_way)
/-- steps_by(plan, good); slots: 0 plan 1 good 2 found 3 stand 4 choice -/
def L_steps_by_0 : MS :=
  (sAsg (eLc (e1 iSeq (e1 F_choices_of (aCons (eVar 0) (aCons (eVar 3) aNil)))) (gName 4) (e1 asB (eCallV 6 1 (aCons (eVar 3) (aCons (eVar 4) aNil)))) (e1 F_behind (aCons (eVar 0) (aCons (eVar 3) (aCons (eVar 4) aNil)))) [4]) (gDSet 2 (eVar 3)))
def B_steps_by : MS :=
  (sSeq (sPutF [2] (fsCons fD0 fsNil))
  (sSeq (sFor (e1 iKy (e1 F_ways_by (aCons (eVar 0) aNil))) (gName 3) L_steps_by_0)
  (sRet (eDTake 2))))
def F_steps_by : List SV → Option D := callS 5 2 (B_steps_by)
/-- count_stands(plan); slots: 0 plan -/
def B_count_stands : MS :=
  (sSeq (sDrop (e1 F_look_at_plan (aCons (eVar 0) aNil)))
  (sRet (e1 fLenD (aCons (e1 F_ways_by (aCons (eVar 0) aNil)) aNil))))
def F_count_stands : List D → Option D := callD 1 1 (B_count_stands)
/-- run_to(plan, stand); slots: 0 plan 1 stand -/
def B_run_to : MS :=
  (sSeq (sDrop (e1 F_look_at_plan (aCons (eVar 0) aNil)))
  (sSeq (sDrop (e1 F_look_at_stand (aCons (eVar 0) (aCons (eVar 1) aNil))))
  (sRet (eDDGet (e1 F_ways_by (aCons (eVar 0) aNil)) (aCons (eVar 1) aNil)))))
def F_run_to : List D → Option D := callD 2 2 (B_run_to)
/-- first_clash(plan); slots: 0 plan -/
def B_first_clash : MS :=
  (sSeq (sDrop (e1 F_look_at_plan (aCons (eVar 0) aNil)))
  (sRet (e1 F_clash_by (aCons (eVar 0) aNil))))
def F_first_clash : List D → Option D := callD 1 1 (B_first_clash)
/-- longest_clash(plan); slots: 0 plan -/
def B_longest_clash : MS :=
  (sSeq (sDrop (e1 F_look_at_plan (aCons (eVar 0) aNil)))
  (sRet (e1 F_longest_way (aCons (eCallS F_steps_by (fsCons (fDat (eVar 0)) (fsCons (fFn 3 F_is_clash) fsNil))) aNil))))
def F_longest_clash : List D → Option D := callD 1 1 (B_longest_clash)
/-- _law_ways(plan); slots: 0 plan 1 begin 2 found 3 queue 4 at 5 stand 6 choice 7 there -/
def L__law_ways_0 : MS :=
  (sSeq (sAsg (e2 dIx (e1 F__law_tick (aCons (eVar 0) (aCons (eVar 5) (aCons (eVar 6) aNil)))) (eC (.int 0))) (gName 7))
  (sIf (e1 asB (eDIn true 2 (eVar 7))) (sSeq (sAsg (e2 dAdd (eDIx 2 (eVar 5)) (e1 mkT (aCons (eVar 6) aNil))) (gDSet 2 (eVar 7)))
  (sApp 3 (eVar 7))) sNx))
def L__law_ways_1 : MS :=
  (sSeq (sAsg (eIxO 3 (eVar 4)) (gName 5))
  (sSeq (sAsg (e2 dAdd (eVar 4) (eC (.int 1))) (gName 4))
  (sFor (e1 iSeq (e1 F__law_choices (aCons (eVar 0) (aCons (eVar 5) aNil)))) (gName 6) L__law_ways_0)))
def B__law_ways : MS :=
  (sSeq (sAsg (e1 F__law_first (aCons (eVar 0) aNil)) (gName 1))
  (sSeq (sPutF [2, 3, 4] (fsCons (fD1 (eVar 1) (e1 mkT aNil)) (fsCons (fLst (aCons (eVar 1) aNil)) (fsCons (fDat (eC (.int 0))) fsNil))))
  (sSeq (sWhile fuel (e1 asB (e2 dLt (eVar 4) (eLenO 3))) L__law_ways_1)
  (sRet (eDTake 2)))))
def F__law_ways : List D → Option D := callD 8 1 (B__law_ways)
/-- _law_edges(plan); slots: 0 plan 1 found 2 stand 3 choice -/
def L__law_edges_0 : MS :=
  (sFor (e1 iSeq (e1 F__law_choices (aCons (eVar 0) (aCons (eVar 2) aNil)))) (gName 3) (sApp 1 (e2 dAdd (e1 mkT (aCons (eVar 2) (aCons (eVar 3) aNil))) (e1 F__law_tick (aCons (eVar 0) (aCons (eVar 2) (aCons (eVar 3) aNil)))))))
def B__law_edges : MS :=
  (sSeq (sOwn 1 aNil)
  (sSeq (sFor (e1 iKy (e1 F__law_ways (aCons (eVar 0) aNil))) (gName 2) L__law_edges_0)
  (sRet (eTake 1))))
def F__law_edges : List D → Option D := callD 4 1 (B__law_edges)
/-- _law_longest(edges); slots: 0 edges 1 edge 2 left 3 many 4 ends 5 stand 6 there -/
def L__law_longest_0 : MS :=
  (sAsg (e2 dAdd (eC (.int 1)) (e1 fMaxL (aCons (e2 dAdd (e1 mkL (aCons (eC (.int 0)) aNil)) (eLc (e1 iSeq (eDIx 2 (eVar 5))) (gName 6) tYesM (eDGet 3 (aCons (eVar 6) (aCons (eC (.int 0)) aNil))) [6])) aNil))) (gDSet 3 (eVar 5)))
def L__law_longest_1 : MS :=
  (sSeq (sLockD 2 (sAsg (eLc (e1 iKy (eVar 2)) (gName 5) (e1 asB (e2 dEq (eLc (e1 iSeq (e2 dIxD (eVar 2) (eVar 5))) (gName 6) (e1 asB (e2 (dInD false) (eVar 6) (eVar 2))) (eVar 6) [6]) (e1 mkL aNil))) (eVar 5) [5]) (gName 4)))
  (sSeq (sIf (e1 asB (e2 dEq (eVar 4) (e1 mkL aNil))) (sRet (eIf (e1 asB (eDEmpty 2)) (e1 fMaxL (aCons (e2 dAdd (e1 mkL (aCons (eC (.int 0)) aNil)) (e1 dVals (eDTake 3))) aNil)) (eC .none))) sNx)
  (sSeq (sFor (e1 iSeq (eVar 4)) (gName 5) L__law_longest_0)
  (sFor (e1 iSeq (eVar 4)) (gName 5) (sDrop (eDPop 2 (eVar 5)))))))
def B__law_longest : MS :=
  (sSeq (sPutF [2, 3] (fsCons (fDictOf (e1 iSeq (eVar 0)) (gName 1) (e2 dIx (eVar 1) (eC (.int 0))) [1]) (fsCons fD0 fsNil)))
  (sSeq (sFor (e1 iSeq (eVar 0)) (gName 1) (sDApp 2 (p2 dIx (pVar 1) (pC (.int 0))) (p2 dIx (pVar 1) (pC (.int 2)))))
  (sThaw 2 (sWhile fuel (e1 asB (eC (.bool true))) L__law_longest_1))))
def F__law_longest : List D → Option D := callD 7 1 (B__law_longest)
/-- look_at_talker(talker); slots: 0 talker -/
def B_look_at_talker : MS :=
  (sIf (e1 tNotB (e1 asB (e1 F_is_within (aCons (eVar 0) (aCons (eC (.int 0)) (aCons (eC (.int 1)) aNil)))))) sNever sNx)
def F_look_at_talker : List D → Option D := callD 1 1 (B_look_at_talker)
/-- unheard_by(plan, talker); slots: 0 plan 1 talker -/
def Lm_unheard_by_0 : M D :=
  (e2 (dIn true) (eVar 2) (e1 F_whole_by (aCons (eVar 0) (aCons (eVar 1) aNil))))
def B_unheard_by : MS :=
  (sRet (e1 F_longest_way (aCons (eCallL F_steps_by (lsDat (eVar 0) (lsLam 3 3 Lm_unheard_by_0 [1] lsNil))) aNil)))
def F_unheard_by : List D → Option D := callD 2 2 (B_unheard_by)
/-- longest_unheard(plan, talker); slots: 0 plan 1 talker -/
def B_longest_unheard : MS :=
  (sSeq (sDrop (e1 F_look_at_plan (aCons (eVar 0) aNil)))
  (sSeq (sDrop (e1 F_look_at_talker (aCons (eVar 1) aNil)))
  (sRet (e1 F_unheard_by (aCons (eVar 0) (aCons (eVar 1) aNil))))))
def F_longest_unheard : List D → Option D := callD 2 2 (B_longest_unheard)
/-- _law_stretches(spring, plan); slots: 0 spring 1 plan 2 turn 3 stand 4 soon 5 rows 6 most 7 some 8 marks 9 voices 10 done 11 row 12 mark 13 old -/
def L__law_stretches_0 : MS :=
  (sSeq (sAsg (e1 F__law_choices (aCons (eVar 1) (aCons (eVar 3) aNil))) (gName 7))
  (sSeq (sAsg (e1 F__law_tick (aCons (eVar 1) (aCons (eVar 3) (aCons (e2 dIx (eVar 7) (eBor 0 F__law_pick (aCons (e1 fLen (aCons (eVar 7) aNil)) aNil))) aNil)))) (gTup (gsCons (gName 3) (gsCons (gName 9) (gsCons (gName 10) gsNil)))))
  (sSeq (sIf (tAndM (e1 asB (e2 (dIn true) (eC (.int 0)) (eVar 9))) (e1 asB (e2 (dIsN false) (eVar 4) (eC .none)))) (sAsg (eVar 2) (gName 4)) sNx)
  (sSeq (sAsg (e1 mkL (aCons (e2 (dIn true) (eC (.int 0)) (eVar 9)) (aCons (e2 (dIn true) (eC (.int 0)) (eVar 10)) (aCons (e2 (dIn true) (eC (.int 1)) (eVar 10)) aNil)))) (gName 8))
  (sSeq (sAsg (eLc (e1 iZ (aCons (eVar 5) (aCons (eVar 8) aNil))) (gTup (gsCons (gName 11) (gsCons (gName 12) gsNil))) tYesM (eIf (e1 asB (eVar 12)) (e2 dAdd (eVar 11) (eC (.int 1))) (eC (.int 0))) [11, 12]) (gName 5))
  (sAsg (eLc (e1 iZ (aCons (eVar 5) (aCons (eVar 6) aNil))) (gTup (gsCons (gName 11) (gsCons (gName 13) gsNil))) tYesM (e1 fMax2 (aCons (eVar 11) (aCons (eVar 13) aNil))) [11, 13]) (gName 6)))))))
def B__law_stretches : MS :=
  (sSeq (sAsg (e1 mkT (aCons (e1 F__law_first (aCons (eVar 1) aNil)) (aCons (eC .none) (aCons (e1 mkL (aCons (eC (.int 0)) (aCons (eC (.int 0)) (aCons (eC (.int 0)) aNil)))) (aCons (e1 mkL (aCons (eC (.int 0)) (aCons (eC (.int 0)) (aCons (eC (.int 0)) aNil)))) aNil))))) (gTup (gsCons (gName 3) (gsCons (gName 4) (gsCons (gName 5) (gsCons (gName 6) gsNil))))))
  (sSeq (sFor (e1 iR1 (aCons (eC (.int 100)) aNil)) (gName 2) L__law_stretches_0)
  (sRet (e2 dAdd (e1 mkL (aCons (eVar 4) aNil)) (eVar 6)))))
def F__law_stretches : List D → List D → Option (D × List D) := callB 14 2 (B__law_stretches)
/-- over_saves(plan, talker); slots: 0 plan 1 talker 2 over -/
def B_over_saves : MS :=
  (sSeq (sDrop (e1 F_look_at_plan (aCons (eVar 0) aNil)))
  (sSeq (sDrop (e1 F_look_at_talker (aCons (eVar 1) aNil)))
  (sRet (e1 fTuple (aCons (eLc (e1 iSeq (e1 mkT (aCons (eC (.bool false)) (aCons (eC (.bool true)) aNil)))) (gName 2) tYesM (e1 F_unheard_by (aCons (e2 dAdd (eSl (eVar 0) oNone (oSome (eC (.int 2)))) (e1 mkT (aCons (eVar 2) aNil))) (aCons (eVar 1) aNil))) [2]) aNil)))))
def F_over_saves : List D → Option D := callD 3 2 (B_over_saves)
/-- _law_unheard(plan, talker); slots: 0 plan 1 talker 2 edge -/
def B__law_unheard : MS :=
  (sRet (e1 F__law_longest (aCons (eLc (e1 iSeq (e1 F__law_edges (aCons (eVar 0) aNil))) (gName 2) (e1 asB (e2 (dIn true) (eVar 1) (e2 dIx (eVar 2) (eC (.int 4))))) (eVar 2) [2]) aNil)))
def F__law_unheard : List D → Option D := callD 3 2 (B__law_unheard)
/-- look_at_wish(wish); slots: 0 wish -/
def B_look_at_wish : MS :=
  (sIf (tOrM (e1 tNotB (e1 asB (e1 (dIsi .str) (eVar 0)))) (e1 asB (e2 (dIn true) (eVar 0) (eC c_WISHES)))) sNever sNx)
def F_look_at_wish : List D → Option D := callD 1 1 (B_look_at_wish)
/-- keeps(plan, wish); slots: 0 plan 1 wish -/
def B_keeps : MS :=
  (sSeq (sIf (e1 asB (e2 dEq (eVar 1) (eC (.str (Str.ofString "apart"))))) (sRet (e2 (dIsN false) (e1 F_clash_by (aCons (eVar 0) aNil)) (eC .none))) sNx)
  (sRet (eAnd (e2 (dIsN true) (e1 F_unheard_by (aCons (eVar 0) (aCons (eC (.int 0)) aNil))) (eC .none)) (e2 (dIsN true) (e1 F_unheard_by (aCons (eVar 0) (aCons (eC (.int 1)) aNil))) (eC .none)))))
def F_keeps : List D → Option D := callD 2 2 (B_keeps)
/-- with_wait(plan, talker, wait); slots: 0 plan 1 talker 2 wait 3 habit 4 habits -/
def B_with_wait : MS :=
  (sSeq (sAsg (e2 dIx (e2 dIx (eVar 0) (eC (.int 0))) (eVar 1)) (gName 3))
  (sSeq (sAsg (e2 dAdd (e2 dAdd (eSl (e2 dIx (eVar 0) (eC (.int 0))) oNone (oSome (eVar 1))) (e1 mkT (aCons (e2 dAdd (e1 mkT (aCons (e2 dIx (eVar 3) (eC (.int 0))) (aCons (eVar 2) aNil))) (eSl (eVar 3) (oSome (eC (.int 2))) oNone)) aNil))) (eSl (e2 dIx (eVar 0) (eC (.int 0))) (oSome (e2 dAdd (eVar 1) (eC (.int 1)))) oNone)) (gName 4))
  (sRet (e2 dAdd (e1 mkT (aCons (eVar 4) aNil)) (eSl (eVar 0) (oSome (eC (.int 1))) oNone)))))
def F_with_wait : List D → Option D := callD 5 3 (B_with_wait)
/-- good_waits(plan, talker, wish); slots: 0 plan 1 talker 2 wish 3 found 4 low 5 high 6 other -/
def L_good_waits_0 : MS :=
  (sSeq (sAsg (e1 F_with_wait (aCons (eVar 0) (aCons (eVar 1) (aCons (e1 mkT (aCons (eVar 4) (aCons (eVar 5) aNil))) aNil)))) (gName 6))
  (sIf (tAndM (e1 asB (e1 F_is_plan (aCons (eVar 6) aNil))) (e1 asB (e1 F_keeps (aCons (eVar 6) (aCons (eVar 2) aNil))))) (sApp 3 (e1 mkT (aCons (eVar 4) (aCons (eVar 5) aNil)))) sNx))
def L_good_waits_1 : MS :=
  (sFor (e1 iR2 (aCons (eVar 4) (aCons (eC (.int 7)) aNil))) (gName 5) L_good_waits_0)
def B_good_waits : MS :=
  (sSeq (sDrop (e1 F_look_at_plan (aCons (eVar 0) aNil)))
  (sSeq (sDrop (e1 F_look_at_talker (aCons (eVar 1) aNil)))
  (sSeq (sDrop (e1 F_look_at_wish (aCons (eVar 2) aNil)))
  (sSeq (sOwn 3 aNil)
  (sSeq (sFor (e1 iR2 (aCons (eC (.int 1)) (aCons (eC (.int 7)) aNil))) (gName 4) L_good_waits_1)
  (sRet (eTake 3)))))))
def F_good_waits : List D → Option D := callD 7 3 (B_good_waits)
/-- good_delays(plan, wish); slots: 0 plan 1 wish 2 some 3 delay 4 other -/
def B_good_delays : MS :=
  (sSeq (sDrop (e1 F_look_at_plan (aCons (eVar 0) aNil)))
  (sSeq (sDrop (e1 F_look_at_wish (aCons (eVar 1) aNil)))
  (sSeq (sAsg (eLc (e1 iR2 (aCons (eC (.int 1)) (aCons (eC (.int 4)) aNil))) (gName 3) tYesM (e1 mkT (aCons (eVar 3) (aCons (e1 mkT (aCons (e2 dIx (eVar 0) (eC (.int 0))) (aCons (e1 mkT (aCons (eVar 3) (aCons (eVar 3) aNil))) (aCons (e2 dIx (eVar 0) (eC (.int 2))) aNil)))) aNil))) [3]) (gName 2))
  (sRet (eLc (e1 iSeq (eVar 2)) (gTup (gsCons (gName 3) (gsCons (gName 4) gsNil))) (tAndM (e1 asB (e1 F_is_plan (aCons (eVar 4) aNil))) (e1 asB (e1 F_keeps (aCons (eVar 4) (aCons (eVar 1) aNil))))) (eVar 3) [3, 4])))))
def F_good_delays : List D → Option D := callD 5 2 (B_good_delays)
/-- _law_kept(plan, wish); slots: 0 plan 1 wish 2 edges 3 one 4 edge -/
def L__law_kept_0 : MS :=
  (sIf (e1 asB (e2 (dIsN false) (e1 F__law_longest (aCons (eLc (e1 iSeq (eVar 2)) (gName 4) (e1 asB (e2 (dIn true) (eVar 3) (e2 dIx (eVar 4) (eC (.int 4))))) (eVar 4) [4]) aNil)) (eC .none))) (sRet (eC (.bool false))) sNx)
def B__law_kept : MS :=
  (sSeq (sIf (e1 asB (e2 dGt (e1 F__law_size (aCons (eVar 0) aNil)) (eC (.int 10000)))) (sRet (eC (.bool false))) sNx)
  (sSeq (sAsg (e1 F__law_edges (aCons (eVar 0) aNil)) (gName 2))
  (sSeq (sIf (e1 asB (e2 dEq (eVar 1) (eC (.str (Str.ofString "apart"))))) (sRet (e2 dEq (eLc (e1 iSeq (eVar 2)) (gName 4) (e1 asB (e2 (dIn true) (eC (.int 0)) (e2 dIx (eVar 4) (eC (.int 3))))) (eVar 4) [4]) (e1 mkL aNil))) sNx)
  (sSeq (sFor (e1 iR1 (aCons (eC (.int 2)) aNil)) (gName 3) L__law_kept_0)
  (sRet (eC (.bool true)))))))
def F__law_kept : List D → Option D := callD 5 2 (B__law_kept)
/-- edges_by(plan, is_let); slots: 0 plan 1 is_let 2 found 3 stand 4 choice -/
def L_edges_by_0 : MS :=
  (sSeq (sDSetL 2 (pVar 3))
  (sFor (e1 iSeq (e1 F_choices_of (aCons (eVar 0) (aCons (eVar 3) aNil)))) (gName 4) (sIf (e1 asB (eCallV 6 1 (aCons (eVar 3) (aCons (eVar 4) aNil)))) (sDApp 2 (pVar 3) (pA mkT (pCons (pVar 4) (pCons (pA F_behind (pCons (pVar 0) (pCons (pVar 3) (pCons (pVar 4) pNil)))) pNil)))) sNx)))
def B_edges_by : MS :=
  (sSeq (sPutF [2] (fsCons fDL0 fsNil))
  (sSeq (sFor (e1 iKy (e1 F_ways_by (aCons (eVar 0) aNil))) (gName 3) L_edges_by_0)
  (sThaw 2 (sRet (eDTake 2)))))
def F_edges_by : List SV → Option D := callS 5 2 (B_edges_by)
/-- finished(edges); slots: 0 edges 1 begin 2 order 3 known 4 line 5 stand 6 at 7 there -/
def L_finished_0 : MS :=
  (sSeq (sAsg (ePop 4) (gTup (gsCons (gName 5) (gsCons (gName 6) gsNil))))
  (sIf (e1 asB (e2 dEq (eVar 6) (e1 fLen (aCons (e2 dIxD (eVar 0) (eVar 5)) aNil)))) (sApp 2 (eVar 5)) (sSeq (sApp 4 (e1 mkT (aCons (eVar 5) (aCons (e2 dAdd (eVar 6) (eC (.int 1))) aNil))))
  (sSeq (sAsg (e2 dIx (e2 dIx (e2 dIxD (eVar 0) (eVar 5)) (eVar 6)) (eC (.int 1))) (gName 7))
  (sIf (e1 asB (eDIn true 3 (eVar 7))) (sSeq (sAsg (eC (.bool true)) (gDSet 3 (eVar 7)))
  (sApp 4 (e1 mkT (aCons (eVar 7) (aCons (eC (.int 0)) aNil))))) sNx)))))
def L_finished_1 : MS :=
  (sSeq (sPutF [4] (fsCons (fIf (e1 asB (eDIn true 3 (eVar 1))) (fLst (aCons (e1 mkT (aCons (eVar 1) (aCons (eC (.int 0)) aNil))) aNil)) (fLst aNil)) fsNil))
  (sSeq (sAsg (eC (.bool true)) (gDSet 3 (eVar 1)))
  (sWhile fuel (e1 asB (eNil true 4)) L_finished_0)))
def B_finished : MS :=
  (sSeq (sPutF [2, 3] (fsCons (fLst aNil) (fsCons fD0 fsNil)))
  (sSeq (sFor (e1 iKy (eVar 0)) (gName 1) L_finished_1)
  (sRet (eTake 2))))
def F_finished : List D → Option D := callD 8 1 (B_finished)
/-- parts_by(edges); slots: 0 edges 1 stand 2 begin 3 back 4 found 5 line 6 choice 7 there 8 other -/
def L_parts_by_0 : MS :=
  (sFor (e1 iSeq (e2 dIxD (eVar 0) (eVar 1))) (gTup (gsCons (gName 6) (gsCons (gName 7) gsNil))) (sDApp 3 (pVar 7) (pVar 1)))
def L_parts_by_1 : MS :=
  (sSeq (sAsg (ePop 5) (gName 1))
  (sIf (e1 asB (eDIn true 4 (eVar 1))) (sSeq (sAsg (eVar 2) (gDSet 4 (eVar 1)))
  (sPutF [5] (fsCons (fAdd (eTake 5) (eLc (e1 iSeq (eDIx 3 (eVar 1))) (gName 8) (e1 asB (eDIn true 4 (eVar 8))) (eVar 8) [8])) fsNil))) sNx))
def L_parts_by_2 : MS :=
  (sSeq (sPutF [5] (fsCons (fIf (e1 asB (eDIn true 4 (eVar 2))) (fLst (aCons (eVar 2) aNil)) (fLst aNil)) fsNil))
  (sWhile fuel (e1 asB (eNil true 5)) L_parts_by_1))
def B_parts_by : MS :=
  (sSeq (sPutF [3, 4] (fsCons (fDcL (e1 iKy (eVar 0)) (gName 1) (eVar 1) [1]) (fsCons fD0 fsNil)))
  (sSeq (sFor (e1 iKy (eVar 0)) (gName 1) L_parts_by_0)
  (sSeq (sThaw 3 (sFor (e1 iSeq (e1 dRev (e1 F_finished (aCons (eVar 0) aNil)))) (gName 2) L_parts_by_2))
  (sRet (eDTake 4)))))
def F_parts_by : List D → Option D := callD 9 1 (B_parts_by)
/-- way_between(edges, begin, goal); slots: 0 edges 1 begin 2 goal 3 found 4 waiting 5 at 6 stand 7 choice 8 there -/
def L_way_between_0 : MS :=
  (sIf (e1 asB (eDIn true 3 (eVar 8))) (sSeq (sAsg (e2 dAdd (eDIx 3 (eVar 6)) (e1 mkT (aCons (eVar 7) aNil))) (gDSet 3 (eVar 8)))
  (sApp 4 (eVar 8))) sNx)
def L_way_between_1 : MS :=
  (sSeq (sAsg (eIxO 4 (eVar 5)) (gName 6))
  (sSeq (sAsg (e2 dAdd (eVar 5) (eC (.int 1))) (gName 5))
  (sFor (e1 iSeq (e2 dIxD (eVar 0) (eVar 6))) (gTup (gsCons (gName 7) (gsCons (gName 8) gsNil))) L_way_between_0)))
def B_way_between : MS :=
  (sSeq (sPutF [3, 4, 5] (fsCons (fD1 (eVar 1) (e1 mkT aNil)) (fsCons (fLst (aCons (eVar 1) aNil)) (fsCons (fDat (eC (.int 0))) fsNil))))
  (sSeq (sWhile fuel (e1 asB (eDIn true 3 (eVar 2))) L_way_between_1)
  (sRet (eDIx 3 (eVar 2)))))
def F_way_between : List D → Option D := callD 9 3 (B_way_between)
/-- ring_with(plan, is_let, is_meant); slots: 0 plan 1 is_let 2 is_meant 3 edges 4 parts 5 stand 6 choice 7 there -/
def L_ring_with_0 : MS :=
  (sFor (e1 iSeq (e2 dIxD (eVar 3) (eVar 5))) (gTup (gsCons (gName 6) (gsCons (gName 7) gsNil))) (sIf (tAndM (e1 asB (eCallV 6 2 (aCons (eVar 5) (aCons (eVar 6) aNil)))) (e1 asB (e2 dEq (e2 dIxD (eVar 4) (eVar 7)) (e2 dIxD (eVar 4) (eVar 5))))) (sRet (e1 mkT (aCons (e2 dIxD (e1 F_ways_by (aCons (eVar 0) aNil)) (eVar 5)) (aCons (e2 dAdd (e1 mkT (aCons (eVar 6) aNil)) (e1 F_way_between (aCons (eVar 3) (aCons (eVar 7) (aCons (eVar 5) aNil))))) aNil)))) sNx))
def B_ring_with : MS :=
  (sSeq (sAsg (eCallS F_edges_by (fsCons (fDat (eVar 0)) (fsCons (fVar 1) fsNil))) (gName 3))
  (sSeq (sAsg (e1 F_parts_by (aCons (eVar 3) aNil)) (gName 4))
  (sSeq (sFor (e1 iKy (eVar 3)) (gName 5) L_ring_with_0)
  (sRet (eC .none)))))
def F_ring_with : List SV → Option D := callS 8 3 (B_ring_with)
/-- unheard_ring(plan, talker); slots: 0 plan 1 talker -/
def Lm_unheard_ring_0 : M D :=
  (e2 dNe (e2 dIx (e1 F_signs_of (aCons (eVar 0) (aCons (eVar 1) aNil))) (eVar 2)) (eC (.int 0)))
def Lm_unheard_ring_1 : M D :=
  (e2 (dIn true) (eVar 2) (e1 F_whole_by (aCons (eVar 0) (aCons (eVar 1) aNil))))
def B_unheard_ring : MS :=
  (sSeq (sDrop (e1 F_look_at_plan (aCons (eVar 0) aNil)))
  (sSeq (sDrop (e1 F_look_at_talker (aCons (eVar 1) aNil)))
  (sRet (eCallL F_ring_with (lsDat (eVar 0) (lsLam 3 3 Lm_unheard_ring_1 [1] (lsLam 2 3 Lm_unheard_ring_0 [1] lsNil)))))))
def F_unheard_ring : List D → Option D := callD 2 2 (B_unheard_ring)
/-- silent_ring(plan, talker); slots: 0 plan 1 talker -/
def Lm_silent_ring_0 : M D :=
  (e2 dNe (e2 dIx (e1 F_signs_of (aCons (eVar 0) (aCons (eVar 1) aNil))) (e2 iSub (eC (.int 1)) (eVar 2))) (eC (.int 0)))
def Lm_silent_ring_1 : M D :=
  (e2 dEq (e2 dIx (e1 F_signs_of (aCons (eVar 0) (aCons (eVar 1) aNil))) (eVar 2)) (eC (.int 0)))
def B_silent_ring : MS :=
  (sSeq (sDrop (e1 F_look_at_plan (aCons (eVar 0) aNil)))
  (sSeq (sDrop (e1 F_look_at_talker (aCons (eVar 1) aNil)))
  (sRet (eCallL F_ring_with (lsDat (eVar 0) (lsLam 2 3 Lm_silent_ring_1 [1] (lsLam 2 3 Lm_silent_ring_0 [1] lsNil)))))))
def F_silent_ring : List D → Option D := callD 2 2 (B_silent_ring)
/-- still_ring(plan); slots: 0 plan -/
def Lm_still_ring_0 : M D :=
  (eC (.bool true))
def Lm_still_ring_1 : M D :=
  (e2 dEq (e1 F_signs_of (aCons (eVar 0) (aCons (eVar 1) aNil))) (e1 mkT (aCons (eC (.int 0)) (aCons (eC (.int 0)) aNil))))
def B_still_ring : MS :=
  (sSeq (sDrop (e1 F_look_at_plan (aCons (eVar 0) aNil)))
  (sRet (eCallL F_ring_with (lsDat (eVar 0) (lsLam 2 2 Lm_still_ring_1 [] (lsLam 0 2 Lm_still_ring_0 [] lsNil))))))
def F_still_ring : List D → Option D := callD 1 1 (B_still_ring)
end VS

namespace VS
open PySem PySem.Spec PyProof.Rows L2

/-! ### plain: places, lengths -/
theorem mkT_ok {ds : List D} (h : ds.length ≤ 100000) : mkT ds = some (.tuple ds) := if_pos h
theorem mkL_ok {ds : List D} (h : ds.length ≤ 100000) : mkL ds = some (.list ds) := if_pos h
theorem atI_nn {ds : List D} {d : D} {i : Int} (h0 : 0 ≤ i) (h : ds[i.toNat]? = some d) : atI ds i = some d := by
  have hl : i.toNat < ds.length := by
    rcases Nat.lt_or_ge i.toNat ds.length with h1 | h1
    · exact h1
    · rw [List.getElem?_eq_none h1] at h; cases h
  unfold atI ixN
  rw [if_pos h0, if_pos (by omega)]
  exact h
theorem orE_some {f f' : D → D → Option D} {x y z : D} (h : f x y = some z) : orE f f' x y = some z := by unfold orE; rw [h]
theorem orE_none {f f' : D → D → Option D} {x y : D} (h : f x y = none) : orE f f' x y = f' x y := by unfold orE; rw [h]
theorem ixT {ds : List D} {d : D} {i : Int} (h0 : 0 ≤ i) (h : ds[i.toNat]? = some d) : dIx (.tuple ds) (.int i) = some d := orE_some (atI_nn h0 h)
theorem ixL {ds : List D} {d : D} {i : Int} (h0 : 0 ≤ i) (h : ds[i.toNat]? = some d) : dIx (.list ds) (.int i) = some d := (orE_none rfl).trans (orE_some (atI_nn h0 h))
@[simp] theorem ixT0 {a : D} {l : List D} : dIx (.tuple (a :: l)) (.int 0) = some a := ixT (by decide) rfl
@[simp] theorem ixT1 {a b : D} {l : List D} : dIx (.tuple (a :: b :: l)) (.int 1) = some b := ixT (by decide) rfl
@[simp] theorem ixT2 {a b c : D} {l : List D} : dIx (.tuple (a :: b :: c :: l)) (.int 2) = some c := ixT (by decide) rfl
@[simp] theorem ixT3 {a b c d : D} {l : List D} : dIx (.tuple (a :: b :: c :: d :: l)) (.int 3) = some d := ixT (by decide) rfl
@[simp] theorem ixL0 {a : D} {l : List D} : dIx (.list (a :: l)) (.int 0) = some a := ixL (by decide) rfl
@[simp] theorem ixL1 {a b : D} {l : List D} : dIx (.list (a :: b :: l)) (.int 1) = some b := ixL (by decide) rfl
@[simp] theorem ixL2 {a b c : D} {l : List D} : dIx (.list (a :: b :: c :: l)) (.int 2) = some c := ixL (by decide) rfl
@[simp] theorem ixL3 {a b c d : D} {l : List D} : dIx (.list (a :: b :: c :: d :: l)) (.int 3) = some d := ixL (by decide) rfl
@[simp] theorem ixL4 {a b c d e : D} {l : List D} : dIx (.list (a :: b :: c :: d :: e :: l)) (.int 4) = some e := ixL (by decide) rfl
@[simp] theorem lenT {l : List D} : fLen [.tuple l] = some (.int l.length) := rfl
@[simp] theorem lenL {l : List D} : fLen [.list l] = some (.int l.length) := rfl
@[simp] theorem addI {i j : Int} : dAdd (.int i) (.int j) = some (.int (i + j)) := rfl
@[simp] theorem subI {i j : Int} : iSub (.int i) (.int j) = some (.int (i - j)) := rfl
@[simp] theorem eqI {i j : Int} : dEq (.int i) (.int j) = some (.bool (decide (i = j))) := by simp [dEq, okEq, PyData.canLay0, PyData.depth, PyData.eqv]; exact Bool.beq_eq_decide_eq _ _
@[simp] theorem neI {i j : Int} : dNe (.int i) (.int j) = some (.bool (!decide (i = j))) := by simp [dNe, okEq, PyData.canLay0, PyData.depth, PyData.eqv]; exact Bool.beq_eq_decide_eq _ _
@[simp] theorem leI {i j : Int} : dLe (.int i) (.int j) = some (.bool (decide (i ≤ j))) := rfl
@[simp] theorem ltI {i j : Int} : dLt (.int i) (.int j) = some (.bool (decide (i < j))) := rfl
@[simp] theorem geI {i j : Int} : dGe (.int i) (.int j) = some (.bool (decide (j ≤ i))) := rfl
@[simp] theorem gtI {i j : Int} : dGt (.int i) (.int j) = some (.bool (decide (j < i))) := rfl
@[simp] theorem mkT0 : mkT [] = some (.tuple []) := rfl
@[simp] theorem mkT1 {a : D} : mkT [a] = some (.tuple [a]) := rfl
@[simp] theorem mkT2 {a b : D} : mkT [a, b] = some (.tuple [a, b]) := rfl
@[simp] theorem mkT3 {a b c : D} : mkT [a, b, c] = some (.tuple [a, b, c]) := rfl
@[simp] theorem mkT4 {a b c d : D} : mkT [a, b, c, d] = some (.tuple [a, b, c, d]) := rfl
@[simp] theorem mkL0 : mkL [] = some (.list []) := rfl
@[simp] theorem mkL1 {a : D} : mkL [a] = some (.list [a]) := rfl
@[simp] theorem mkL2 {a b : D} : mkL [a, b] = some (.list [a, b]) := rfl
@[simp] theorem mkL3 {a b c : D} : mkL [a, b, c] = some (.list [a, b, c]) := rfl
@[simp] theorem mkL4 {a b c d : D} : mkL [a, b, c, d] = some (.list [a, b, c, d]) := rfl
@[simp] theorem seqL {l : List D} : iSeq (.list l) = some l := rfl
@[simp] theorem seqT {l : List D} : iSeq (.tuple l) = some l := rfl
@[simp] theorem zT {l m : List D} : iZ [.tuple l, .tuple m] = some (zipD l m) := rfl
@[simp] theorem zL {l m : List D} : iZ [.list l, .list m] = some (zipD l m) := rfl
@[simp] theorem zip0 {m : List D} : zipD [] m = [] := rfl
@[simp] theorem zip1 {a : D} {m : List D} : zipD (a :: m) [] = [] := rfl
@[simp] theorem zip2 {a b : D} {l m : List D} : zipD (a :: l) (b :: m) = .tuple [a, b] :: zipD l m := rfl
theorem mulI {i j : Int} (h : (-(2 ^ 64) < i ∧ i < 2 ^ 64) ∨ (-(2 ^ 64) < j ∧ j < 2 ^ 64)) : dMul (.int i) (.int j) = some (.int (i * j)) := orE_some (if_pos (by omega))

@[simp] theorem is_int_none : Ty5.is .int .none = false := rfl
@[simp] theorem is_int_bool {b : Bool} : Ty5.is .int (.bool b) = true := rfl
@[simp] theorem is_int_int {i : Int} : Ty5.is .int (.int i) = true := rfl
@[simp] theorem is_int_str {x : Str} : Ty5.is .int (.str x) = false := rfl
@[simp] theorem is_int_list {l : List D} : Ty5.is .int (.list l) = false := rfl
@[simp] theorem is_int_tuple {l : List D} : Ty5.is .int (.tuple l) = false := rfl
@[simp] theorem is_int_dict {l : List (D × D)} : Ty5.is .int (.dict l) = false := rfl
@[simp] theorem is_bool_none : Ty5.is .bool .none = false := rfl
@[simp] theorem is_bool_bool {b : Bool} : Ty5.is .bool (.bool b) = true := rfl
@[simp] theorem is_bool_int {i : Int} : Ty5.is .bool (.int i) = false := rfl
@[simp] theorem is_bool_str {x : Str} : Ty5.is .bool (.str x) = false := rfl
@[simp] theorem is_bool_list {l : List D} : Ty5.is .bool (.list l) = false := rfl
@[simp] theorem is_bool_tuple {l : List D} : Ty5.is .bool (.tuple l) = false := rfl
@[simp] theorem is_bool_dict {l : List (D × D)} : Ty5.is .bool (.dict l) = false := rfl
@[simp] theorem is_tup_none : Ty5.is .tup .none = false := rfl
@[simp] theorem is_tup_bool {b : Bool} : Ty5.is .tup (.bool b) = false := rfl
@[simp] theorem is_tup_int {i : Int} : Ty5.is .tup (.int i) = false := rfl
@[simp] theorem is_tup_str {x : Str} : Ty5.is .tup (.str x) = false := rfl
@[simp] theorem is_tup_list {l : List D} : Ty5.is .tup (.list l) = false := rfl
@[simp] theorem is_tup_tuple {l : List D} : Ty5.is .tup (.tuple l) = true := rfl
@[simp] theorem is_tup_dict {l : List (D × D)} : Ty5.is .tup (.dict l) = false := rfl
@[simp] theorem is_lst_none : Ty5.is .lst .none = false := rfl
@[simp] theorem is_lst_bool {b : Bool} : Ty5.is .lst (.bool b) = false := rfl
@[simp] theorem is_lst_int {i : Int} : Ty5.is .lst (.int i) = false := rfl
@[simp] theorem is_lst_str {x : Str} : Ty5.is .lst (.str x) = false := rfl
@[simp] theorem is_lst_list {l : List D} : Ty5.is .lst (.list l) = true := rfl
@[simp] theorem is_lst_tuple {l : List D} : Ty5.is .lst (.tuple l) = false := rfl
@[simp] theorem is_lst_dict {l : List (D × D)} : Ty5.is .lst (.dict l) = false := rfl
@[simp] theorem is_str_none : Ty5.is .str .none = false := rfl
@[simp] theorem is_str_bool {b : Bool} : Ty5.is .str (.bool b) = false := rfl
@[simp] theorem is_str_int {i : Int} : Ty5.is .str (.int i) = false := rfl
@[simp] theorem is_str_str {x : Str} : Ty5.is .str (.str x) = true := rfl
@[simp] theorem is_str_list {l : List D} : Ty5.is .str (.list l) = false := rfl
@[simp] theorem is_str_tuple {l : List D} : Ty5.is .str (.tuple l) = false := rfl
@[simp] theorem is_str_dict {l : List (D × D)} : Ty5.is .str (.dict l) = false := rfl
/-! ### plain: what is good -/
def inB (lo hi : Int) : D → Bool
  | .int i => decide (lo ≤ i) && decide (i ≤ hi)
  | _ => false
@[simp] theorem inB_int {lo hi i : Int} : inB lo hi (.int i) = (decide (lo ≤ i) && decide (i ≤ hi)) := rfl
@[simp] theorem is_within_eq (v : D) (lo hi : Int) : F_is_within [v, .int lo, .int hi] = some (.bool (inB lo hi v)) := by
  cases v <;> simp [F_is_within, B_is_within, inB, callD, callB, callO, args0, sSeq, sIf, sRet, sRetN, sRetO, sDrop, sAsg, sPar, sNx, sBk, sCt, sNever, eVar, eC, e1, e2, eIf, asB, eAnd, eOr, tAndM, tOrM, dNot, tNotB, aNil, aCons, mkT_ok, mkL_ok, gName, gsNil, gsCons, gTup, gLst, eChain, oNone, oSome, eSl, dIsi, dIsi2, tYesM]
  rename_i i
  by_cases h : lo ≤ i <;> simp [h]
@[simp] theorem law_int_eq (v : D) (lo hi : Int) : F__law_int [v, .int lo, .int hi] = some (.bool (inB lo hi v)) := is_within_eq v lo hi

def spanB (lo hi : Int) : D → Bool
  | .tuple [a, b] => inB lo hi a && (match a with | .int i => inB i hi b | _ => false)
  | _ => false
def len2 (ds : List D) : (∃ a b, ds = [a, b]) ∨ ((ds.length : Int) ≠ 2 ∧ ds.length ≠ 2) := by
  match ds with
  | [a, b] => exact .inl ⟨a, b, rfl⟩
  | [] => exact .inr (by simp)
  | [_] => exact .inr (by simp)
  | _ :: _ :: _ :: _ => exact .inr (by simp; omega)
def len3 (ds : List D) : (∃ a b c, ds = [a, b, c]) ∨ ((ds.length : Int) ≠ 3 ∧ ds.length ≠ 3) := by
  match ds with
  | [a, b, c] => exact .inl ⟨a, b, c, rfl⟩
  | [] => exact .inr (by simp)
  | [_] => exact .inr (by simp)
  | [_, _] => exact .inr (by simp)
  | _ :: _ :: _ :: _ :: _ => exact .inr (by simp; omega)
def len4 (ds : List D) : (∃ a b c d, ds = [a, b, c, d]) ∨ ((ds.length : Int) ≠ 4 ∧ ds.length ≠ 4) := by
  match ds with
  | [a, b, c, d] => exact .inl ⟨a, b, c, d, rfl⟩
  | [] => exact .inr (by simp)
  | [_] => exact .inr (by simp)
  | [_, _] => exact .inr (by simp)
  | [_, _, _] => exact .inr (by simp)
  | _ :: _ :: _ :: _ :: _ :: _ => exact .inr (by simp; omega)
@[simp] theorem spanB_len {lo hi : Int} {ds : List D} (h : ds.length ≠ 2) : spanB lo hi (.tuple ds) = false := by
  unfold spanB; split
  · rename_i a b e; cases e; exact absurd rfl h
  · rfl
@[simp] theorem is_span_eq (v : D) (lo hi : Int) : F_is_span [v, .int lo, .int hi] = some (.bool (spanB lo hi v)) := by
  cases v with
  | tuple ds =>
    rcases len2 ds with ⟨a, b, rfl⟩ | ⟨h, h'⟩
    · cases a <;> simp [F_is_span, B_is_span, spanB, callD, callB, callO, args0, sSeq, sIf, sRet, sRetN, sRetO, sDrop, sAsg, sPar, sNx, sBk, sCt, sNever, eVar, eC, e1, e2, eIf, asB, eAnd, eOr, tAndM, tOrM, dNot, tNotB, aNil, aCons, mkT_ok, mkL_ok, gName, gsNil, gsCons, gTup, gLst, eChain, oNone, oSome, eSl, dIsi, dIsi2, tYesM, inB]
      rename_i i
      by_cases h : lo ≤ i <;> by_cases h2 : i ≤ hi <;> simp [h, h2]
      cases b <;> rfl
    · simp [F_is_span, B_is_span, callD, callB, callO, args0, sSeq, sIf, sRet, sRetN, sRetO, sDrop, sAsg, sPar, sNx, sBk, sCt, sNever, eVar, eC, e1, e2, eIf, asB, eAnd, eOr, tAndM, tOrM, dNot, tNotB, aNil, aCons, mkT_ok, mkL_ok, gName, gsNil, gsCons, gTup, gLst, eChain, oNone, oSome, eSl, dIsi, dIsi2, tYesM, h, h']
  | _ => simp [F_is_span, B_is_span, spanB, callD, callB, callO, args0, sSeq, sIf, sRet, sRetN, sRetO, sDrop, sAsg, sPar, sNx, sBk, sCt, sNever, eVar, eC, e1, e2, eIf, asB, eAnd, eOr, tAndM, tOrM, dNot, tNotB, aNil, aCons, mkT_ok, mkL_ok, gName, gsNil, gsCons, gTup, gLst, eChain, oNone, oSome, eSl, dIsi, dIsi2, tYesM]
abbrev isB (d : D) : Bool := Ty5.is .bool d
def habB : D → Bool
  | .tuple [s, w, x, y] => spanB 2 4 s && spanB 1 6 w && isB x && isB y
  | _ => false
@[simp] theorem habB_len {ds : List D} (h : ds.length ≠ 4) : habB (.tuple ds) = false := by
  unfold habB; split
  · rename_i a b c d e; cases e; exact absurd rfl h
  · rfl
def isN (n : Int) : D → Bool
  | .tuple ds => decide ((ds.length : Int) = n)
  | _ => false
@[simp] theorem law_made_eq (v : D) (n : Int) : F__law_made [v, .int n] = some (.bool (isN n v)) := by
  cases v <;> simp [F__law_made, B__law_made, isN, callD, callB, callO, args0, sSeq, sIf, sRet, sRetN, sRetO, sDrop, sAsg, sPar, sNx, sBk, sCt, sNever, eVar, eC, e1, e2, eIf, asB, eAnd, eOr, tAndM, tOrM, dNot, tNotB, aNil, aCons, mkT_ok, mkL_ok, gName, gsNil, gsCons, gTup, gLst, eChain, oNone, oSome, eSl, dIsi, dIsi2, tYesM]
theorem is_habit_eq (v : D) : F_is_habit [v] = some (.bool (habB v)) := by
  cases v with
  | tuple ds =>
    rcases len4 ds with ⟨a, b, c, d, rfl⟩ | ⟨h, h'⟩
    · cases h1 : spanB 2 4 a <;> cases h2 : spanB 1 6 b <;> cases h3 : isB c <;> simp [F_is_habit, B_is_habit, habB, callD, callB, callO, args0, sSeq, sIf, sRet, sRetN, sRetO, sDrop, sAsg, sPar, sNx, sBk, sCt, sNever, eVar, eC, e1, e2, eIf, asB, eAnd, eOr, tAndM, tOrM, dNot, tNotB, aNil, aCons, mkT_ok, mkL_ok, gName, gsNil, gsCons, gTup, gLst, eChain, oNone, oSome, eSl, dIsi, dIsi2, tYesM, h1, h2, h3]
    · simp [F_is_habit, B_is_habit, callD, callB, callO, args0, sSeq, sIf, sRet, sRetN, sRetO, sDrop, sAsg, sPar, sNx, sBk, sCt, sNever, eVar, eC, e1, e2, eIf, asB, eAnd, eOr, tAndM, tOrM, dNot, tNotB, aNil, aCons, mkT_ok, mkL_ok, gName, gsNil, gsCons, gTup, gLst, eChain, oNone, oSome, eSl, dIsi, dIsi2, tYesM, h, h']
  | _ => simp [F_is_habit, B_is_habit, habB, callD, callB, callO, args0, sSeq, sIf, sRet, sRetN, sRetO, sDrop, sAsg, sPar, sNx, sBk, sCt, sNever, eVar, eC, e1, e2, eIf, asB, eAnd, eOr, tAndM, tOrM, dNot, tNotB, aNil, aCons, mkT_ok, mkL_ok, gName, gsNil, gsCons, gTup, gLst, eChain, oNone, oSome, eSl, dIsi, dIsi2, tYesM]
theorem spanB_iff {lo hi : Int} {v : D} : spanB lo hi v = true ↔ ∃ i j, v = .tuple [.int i, .int j] ∧ lo ≤ i ∧ i ≤ hi ∧ i ≤ j ∧ j ≤ hi := by
  constructor
  · intro h
    unfold spanB at h
    split at h
    · rename_i a b
      cases a <;> simp [inB] at h
      rename_i i
      cases b <;> simp at h
      exact ⟨_, _, rfl, h.1.1, h.1.2, h.2.1, h.2.2⟩
    · cases h
  · rintro ⟨i, j, rfl, h1, h2, h3, h4⟩
    simp [spanB, h1, h2, h3, h4]
@[simp] theorem isN2 {a b : D} : isN 2 (.tuple [a, b]) = true := rfl
@[simp] theorem isN3 {a b c : D} : isN 3 (.tuple [a, b, c]) = true := rfl
@[simp] theorem isN4 {a b c d : D} : isN 4 (.tuple [a, b, c, d]) = true := rfl
theorem isN2_no {v : D} (h : isN 2 v = false) {lo hi : Int} : spanB lo hi v = false := by
  cases v with
  | tuple ds =>
    simp [isN] at h
    exact spanB_len (by omega)
  | _ => rfl
theorem isN2_or (v : D) : (∃ a b, v = .tuple [a, b]) ∨ isN 2 v = false := by
  cases v with
  | tuple ds =>
    rcases len2 ds with ⟨a, b, rfl⟩ | ⟨h, h'⟩
    · exact .inl ⟨a, b, rfl⟩
    · exact .inr (by simp [isN, h])
  | _ => exact .inr rfl
theorem isN3_or (v : D) : (∃ a b c, v = .tuple [a, b, c]) ∨ isN 3 v = false := by
  cases v with
  | tuple ds =>
    rcases len3 ds with ⟨a, b, c, rfl⟩ | ⟨h, h'⟩
    · exact .inl ⟨a, b, c, rfl⟩
    · exact .inr (by simp [isN, h])
  | _ => exact .inr rfl
theorem isN4_or (v : D) : (∃ a b c d, v = .tuple [a, b, c, d]) ∨ isN 4 v = false := by
  cases v with
  | tuple ds =>
    rcases len4 ds with ⟨a, b, c, d, rfl⟩ | ⟨h, h'⟩
    · exact .inl ⟨a, b, c, d, rfl⟩
    · exact .inr (by simp [isN, h])
  | _ => exact .inr rfl
theorem span_cases (lo hi : Int) (v : D) : isN 2 v = false ∨ ∃ a b, v = .tuple [a, b] ∧ spanB lo hi v = (inB lo hi a && (match a with | .int i => inB i hi b | _ => false)) := by
  rcases isN2_or v with ⟨a, b, rfl⟩ | h
  · exact .inr ⟨a, b, rfl, rfl⟩
  · exact .inl h
theorem inB_some {lo hi : Int} {v : D} (h : inB lo hi v = true) : ∃ i, v = .int i ∧ lo ≤ i ∧ i ≤ hi := by
  cases v <;> simp [inB] at h
  exact ⟨_, rfl, h.1, h.2⟩
theorem spanB_t {lo hi : Int} {a b : D} : spanB lo hi (.tuple [a, b]) = (inB lo hi a && (match a with | .int i => inB i hi b | _ => false)) := rfl
theorem law_good_habit_eq (v : D) : F__law_good_habit [v] = some (.bool (habB v)) := by
  rcases isN4_or v with ⟨a, b, c, d, rfl⟩ | h
  · cases hc : isB c
    · simp [F__law_good_habit, B__law_good_habit, habB, callD, callB, callO, args0, sSeq, sIf, sRet, sRetN, sRetO, sDrop, sAsg, sPar, sNx, sBk, sCt, sNever, eVar, eC, e1, e2, eIf, asB, eAnd, eOr, tAndM, tOrM, dNot, tNotB, aNil, aCons, mkT_ok, mkL_ok, gName, gsNil, gsCons, gTup, gLst, eChain, oNone, oSome, eSl, dIsi, dIsi2, tYesM, hc]
    cases hd : isB d
    · simp [F__law_good_habit, B__law_good_habit, habB, callD, callB, callO, args0, sSeq, sIf, sRet, sRetN, sRetO, sDrop, sAsg, sPar, sNx, sBk, sCt, sNever, eVar, eC, e1, e2, eIf, asB, eAnd, eOr, tAndM, tOrM, dNot, tNotB, aNil, aCons, mkT_ok, mkL_ok, gName, gsNil, gsCons, gTup, gLst, eChain, oNone, oSome, eSl, dIsi, dIsi2, tYesM, hc, hd]
    rcases isN2_or a with ⟨a0, a1, rfl⟩ | ha
    · rcases isN2_or b with ⟨b0, b1, rfl⟩ | hb
      · cases h1 : inB 2 4 a0
        · simp [F__law_good_habit, B__law_good_habit, habB, callD, callB, callO, args0, sSeq, sIf, sRet, sRetN, sRetO, sDrop, sAsg, sPar, sNx, sBk, sCt, sNever, eVar, eC, e1, e2, eIf, asB, eAnd, eOr, tAndM, tOrM, dNot, tNotB, aNil, aCons, mkT_ok, mkL_ok, gName, gsNil, gsCons, gTup, gLst, eChain, oNone, oSome, eSl, dIsi, dIsi2, tYesM, sFor, forGo, hc, hd, h1, spanB_t]
        · obtain ⟨i, rfl, hi1, hi2⟩ := inB_some h1
          cases h2 : inB i 4 a1
          · simp [F__law_good_habit, B__law_good_habit, habB, callD, callB, callO, args0, sSeq, sIf, sRet, sRetN, sRetO, sDrop, sAsg, sPar, sNx, sBk, sCt, sNever, eVar, eC, e1, e2, eIf, asB, eAnd, eOr, tAndM, tOrM, dNot, tNotB, aNil, aCons, mkT_ok, mkL_ok, gName, gsNil, gsCons, gTup, gLst, eChain, oNone, oSome, eSl, dIsi, dIsi2, tYesM, sFor, forGo, hc, hd, hi1, hi2, h2, spanB_t]
          · cases h3 : inB 1 6 b0
            · simp [F__law_good_habit, B__law_good_habit, habB, callD, callB, callO, args0, sSeq, sIf, sRet, sRetN, sRetO, sDrop, sAsg, sPar, sNx, sBk, sCt, sNever, eVar, eC, e1, e2, eIf, asB, eAnd, eOr, tAndM, tOrM, dNot, tNotB, aNil, aCons, mkT_ok, mkL_ok, gName, gsNil, gsCons, gTup, gLst, eChain, oNone, oSome, eSl, dIsi, dIsi2, tYesM, sFor, forGo, hc, hd, hi1, hi2, h2, h3, spanB_t]
            · obtain ⟨j, rfl, hj1, hj2⟩ := inB_some h3
              cases h4 : inB j 6 b1 <;> simp [F__law_good_habit, B__law_good_habit, habB, callD, callB, callO, args0, sSeq, sIf, sRet, sRetN, sRetO, sDrop, sAsg, sPar, sNx, sBk, sCt, sNever, eVar, eC, e1, e2, eIf, asB, eAnd, eOr, tAndM, tOrM, dNot, tNotB, aNil, aCons, mkT_ok, mkL_ok, gName, gsNil, gsCons, gTup, gLst, eChain, oNone, oSome, eSl, dIsi, dIsi2, tYesM, sFor, forGo, hc, hd, hi1, hi2, h2, hj1, hj2, h4, spanB_t]
      · cases h1 : inB 2 4 a0
        · simp [F__law_good_habit, B__law_good_habit, habB, callD, callB, callO, args0, sSeq, sIf, sRet, sRetN, sRetO, sDrop, sAsg, sPar, sNx, sBk, sCt, sNever, eVar, eC, e1, e2, eIf, asB, eAnd, eOr, tAndM, tOrM, dNot, tNotB, aNil, aCons, mkT_ok, mkL_ok, gName, gsNil, gsCons, gTup, gLst, eChain, oNone, oSome, eSl, dIsi, dIsi2, tYesM, sFor, forGo, hc, hd, h1, spanB_t]
        · obtain ⟨i, rfl, hi1, hi2⟩ := inB_some h1
          cases h2 : inB i 4 a1 <;> simp [F__law_good_habit, B__law_good_habit, habB, callD, callB, callO, args0, sSeq, sIf, sRet, sRetN, sRetO, sDrop, sAsg, sPar, sNx, sBk, sCt, sNever, eVar, eC, e1, e2, eIf, asB, eAnd, eOr, tAndM, tOrM, dNot, tNotB, aNil, aCons, mkT_ok, mkL_ok, gName, gsNil, gsCons, gTup, gLst, eChain, oNone, oSome, eSl, dIsi, dIsi2, tYesM, sFor, forGo, hc, hd, hi1, hi2, h2, spanB_t, hb, isN2_no hb]
    · simp [F__law_good_habit, B__law_good_habit, habB, callD, callB, callO, args0, sSeq, sIf, sRet, sRetN, sRetO, sDrop, sAsg, sPar, sNx, sBk, sCt, sNever, eVar, eC, e1, e2, eIf, asB, eAnd, eOr, tAndM, tOrM, dNot, tNotB, aNil, aCons, mkT_ok, mkL_ok, gName, gsNil, gsCons, gTup, gLst, eChain, oNone, oSome, eSl, dIsi, dIsi2, tYesM, sFor, forGo, hc, hd, ha, isN2_no ha]
  · have : habB v = false := by
      cases v with
      | tuple ds => simp [isN] at h; exact habB_len (by omega)
      | _ => rfl
    simp [F__law_good_habit, B__law_good_habit, callD, callB, callO, args0, sSeq, sIf, sRet, sRetN, sRetO, sDrop, sAsg, sPar, sNx, sBk, sCt, sNever, eVar, eC, e1, e2, eIf, asB, eAnd, eOr, tAndM, tOrM, dNot, tNotB, aNil, aCons, mkT_ok, mkL_ok, gName, gsNil, gsCons, gTup, gLst, eChain, oNone, oSome, eSl, dIsi, dIsi2, tYesM, h, this]
end VS

namespace VS
open PySem PySem.Spec PyProof.Rows L2

structure Hab where
  (s0 s1 w0 w1 : Int)
  (st eg : Bool)
structure Pln where
  (a b : Hab)
  (x y : Int)
  (ov : Bool)
def Hab.d (h : Hab) : D := .tuple [.tuple [.int h.s0, .int h.s1], .tuple [.int h.w0, .int h.w1], .bool h.st, .bool h.eg]
def Pln.d (p : Pln) : D := .tuple [.tuple [p.a.d, p.b.d], .tuple [.int p.x, .int p.y], .bool p.ov]
structure Hab.Ok (h : Hab) : Prop where
  a1 : 2 ≤ h.s0
  a2 : h.s0 ≤ h.s1
  a3 : h.s1 ≤ 4
  b1 : 1 ≤ h.w0
  b2 : h.w0 ≤ h.w1
  b3 : h.w1 ≤ 6
def Pln.size (p : Pln) : Int := 3 * (p.a.w1 + p.a.s1 + 1) * (2 * p.x + 1) * 3 * (p.b.w1 + p.b.s1 + 1) * (2 * p.y + 1)
structure Pln.Sh (p : Pln) : Prop where
  a : p.a.Ok
  b : p.b.Ok
  x1 : 1 ≤ p.x
  x2 : p.x ≤ 3
  y1 : 1 ≤ p.y
  y2 : p.y ≤ 3
structure Pln.Ok (p : Pln) : Prop extends Pln.Sh p where
  size : p.size ≤ 10000
theorem habB_iff {v : D} : habB v = true ↔ ∃ h : Hab, h.Ok ∧ v = h.d := by
  constructor
  · intro q
    unfold habB at q
    split at q
    · rename_i a b c d
      simp only [Bool.and_eq_true] at q
      obtain ⟨⟨⟨q1, q2⟩, q3⟩, q4⟩ := q
      obtain ⟨i, j, rfl, h1⟩ := spanB_iff.mp q1
      obtain ⟨k, l, rfl, h2⟩ := spanB_iff.mp q2
      cases c <;> simp at q3
      cases d <;> simp at q4
      exact ⟨⟨i, j, k, l, _, _⟩, ⟨h1.1, h1.2.2.1, h1.2.2.2, h2.1, h2.2.2.1, h2.2.2.2⟩, rfl⟩
    · cases q
  · rintro ⟨h, o, rfl⟩
    have h1 : spanB 2 4 (.tuple [.int h.s0, .int h.s1]) = true := spanB_iff.mpr ⟨_, _, rfl, o.a1, by have := o.a2; have := o.a3; omega, o.a2, o.a3⟩
    have h2 : spanB 1 6 (.tuple [.int h.w0, .int h.w1]) = true := spanB_iff.mpr ⟨_, _, rfl, o.b1, by have := o.b2; have := o.b3; omega, o.b2, o.b3⟩
    simp [habB, Hab.d, h1, h2]
@[simp] theorem hab_ok {h : Hab} (o : h.Ok) : habB h.d = true := habB_iff.mpr ⟨h, o, rfl⟩
theorem mulSmall {i j : Int} (h1 : 0 ≤ j) (h2 : j < 1000) : dMul (.int i) (.int j) = some (.int (i * j)) := mulI (.inr (by omega))
theorem mulSmallL {i j : Int} (h1 : 0 ≤ i) (h2 : i < 1000) : dMul (.int i) (.int j) = some (.int (i * j)) := mulI (.inl (by omega))
@[simp] theorem mul3 {i : Int} : dMul (.int i) (.int 3) = some (.int (i * 3)) := mulSmall (by decide) (by decide)
@[simp] theorem twoMul {i : Int} : dMul (.int 2) (.int i) = some (.int (2 * i)) := mulSmallL (by decide) (by decide)
theorem size_of_eq {p : Pln} (s : p.Sh) : F_size_of [p.d] = some (.int p.size) := by
  obtain ⟨⟨a1, a2, a3, b1, b2, b3⟩, ⟨c1, c2, c3, d1, d2, d3⟩, x1, x2, y1, y2⟩ := s
  have m1 : ∀ i, dMul (.int i) (.int (p.a.w1 + p.a.s1 + 1)) = some (.int (i * (p.a.w1 + p.a.s1 + 1))) := fun i => mulSmall (by omega) (by omega)
  have m2 : ∀ i, dMul (.int i) (.int (p.b.w1 + p.b.s1 + 1)) = some (.int (i * (p.b.w1 + p.b.s1 + 1))) := fun i => mulSmall (by omega) (by omega)
  have m3 : ∀ i, dMul (.int i) (.int (2 * p.x + 1)) = some (.int (i * (2 * p.x + 1))) := fun i => mulSmall (by omega) (by omega)
  have m4 : ∀ i, dMul (.int i) (.int (2 * p.y + 1)) = some (.int (i * (2 * p.y + 1))) := fun i => mulSmall (by omega) (by omega)
  simp [F_size_of, B_size_of, callD, callB, callO, args0, sSeq, sIf, sRet, sRetN, sRetO, sDrop, sAsg, sPar, sNx, sBk, sCt, sNever, eVar, eC, e1, e2, eIf, asB, eAnd, eOr, tAndM, tOrM, dNot, tNotB, aNil, aCons, mkT_ok, mkL_ok, gName, gsNil, gsCons, gTup, gLst, eChain, oNone, oSome, eSl, dIsi, dIsi2, tYesM, most, eLc, okW, isOl, lcGo, wipeR, restR, fAll, boolsD, sFor, forGo, Pln.d, Hab.d, Pln.size, m1, m2, m3, m4]
theorem law_size_eq {p : Pln} (s : p.Sh) : F__law_size [p.d] = some (.int p.size) := by
  obtain ⟨⟨a1, a2, a3, b1, b2, b3⟩, ⟨c1, c2, c3, d1, d2, d3⟩, x1, x2, y1, y2⟩ := s
  have m1 : ∀ i, dMul (.int i) (.int (p.a.s1 + p.a.w1 + 1)) = some (.int (i * (p.a.s1 + p.a.w1 + 1))) := fun i => mulSmall (by omega) (by omega)
  have m2 : ∀ i, dMul (.int i) (.int (p.b.s1 + p.b.w1 + 1)) = some (.int (i * (p.b.s1 + p.b.w1 + 1))) := fun i => mulSmall (by omega) (by omega)
  have m3 : ∀ i, dMul (.int i) (.int (1 + 2 * p.x)) = some (.int (i * (1 + 2 * p.x))) := fun i => mulSmall (by omega) (by omega)
  have m4 : ∀ i, dMul (.int i) (.int (1 + 2 * p.y)) = some (.int (i * (1 + 2 * p.y))) := fun i => mulSmall (by omega) (by omega)
  simp [F__law_size, B__law_size, callD, callB, callO, args0, sSeq, sIf, sRet, sRetN, sRetO, sDrop, sAsg, sPar, sNx, sBk, sCt, sNever, eVar, eC, e1, e2, eIf, asB, eAnd, eOr, tAndM, tOrM, dNot, tNotB, aNil, aCons, mkT_ok, mkL_ok, gName, gsNil, gsCons, gTup, gLst, eChain, oNone, oSome, eSl, dIsi, dIsi2, tYesM, most, eLc, okW, isOl, lcGo, wipeR, restR, fAll, boolsD, sFor, forGo, Pln.d, Hab.d, m1, m2, m3, m4]
  unfold Pln.size
  rw [Int.add_comm p.a.w1 p.a.s1, Int.add_comm p.b.w1 p.b.s1, Int.add_comm (2 * p.x) 1, Int.add_comm (2 * p.y) 1]
/-! ### plans -/
def planB (v : D) : Prop := ∃ p : Pln, p.Ok ∧ v = p.d
theorem both2 {v : D} : isN 2 v = false → (eAnd (e1 (dIsi .tup) (eC v)) (e2 dEq (e1 fLen (aCons (eC v) aNil)) (eC (.int 2)))) = eC (.bool false) := by
  intro h
  funext ρ
  cases v <;> simp [callD, callB, callO, args0, sSeq, sIf, sRet, sRetN, sRetO, sDrop, sAsg, sPar, sNx, sBk, sCt, sNever, eVar, eC, e1, e2, eIf, asB, eAnd, eOr, tAndM, tOrM, dNot, tNotB, aNil, aCons, mkT_ok, mkL_ok, gName, gsNil, gsCons, gTup, gLst, eChain, oNone, oSome, eSl, dIsi, dIsi2, tYesM] 
  simpa [isN] using h
@[simp] theorem cut2 {a b c : D} : dSl (.tuple [a, b, c]) none (some 2) = some (.tuple [a, b]) := rfl
theorem is_plan_no (v : D) (h : ¬ planB v) : F_is_plan [v] = some (.bool false) := by
  rcases isN3_or v with ⟨a, b, c, rfl⟩ | h3
  · cases hc : isB c
    · simp [F_is_plan, B_is_plan, callD, callB, callO, args0, sSeq, sIf, sRet, sRetN, sRetO, sDrop, sAsg, sPar, sNx, sBk, sCt, sNever, eVar, eC, e1, e2, eIf, asB, eAnd, eOr, tAndM, tOrM, dNot, tNotB, aNil, aCons, mkT_ok, mkL_ok, gName, gsNil, gsCons, gTup, gLst, eChain, oNone, oSome, eSl, dIsi, dIsi2, tYesM, most, eLc, okW, isOl, lcGo, wipeR, restR, fAll, boolsD, sFor, forGo, hc]
    · cases c <;> simp at hc
      rename_i ov
      rcases isN2_or a with ⟨h1, h2, rfl⟩ | ha
      · rcases isN2_or b with ⟨d1, d2, rfl⟩ | hb
        · cases hh1 : habB h1
          · cases hh2 : habB h2 <;> simp [F_is_plan, B_is_plan, callD, callB, callO, args0, sSeq, sIf, sRet, sRetN, sRetO, sDrop, sAsg, sPar, sNx, sBk, sCt, sNever, eVar, eC, e1, e2, eIf, asB, eAnd, eOr, tAndM, tOrM, dNot, tNotB, aNil, aCons, mkT_ok, mkL_ok, gName, gsNil, gsCons, gTup, gLst, eChain, oNone, oSome, eSl, dIsi, dIsi2, tYesM, most, eLc, okW, isOl, lcGo, wipeR, restR, fAll, boolsD, sFor, forGo, hh1, hh2, is_habit_eq]
          · cases hh2 : habB h2
            · simp [F_is_plan, B_is_plan, callD, callB, callO, args0, sSeq, sIf, sRet, sRetN, sRetO, sDrop, sAsg, sPar, sNx, sBk, sCt, sNever, eVar, eC, e1, e2, eIf, asB, eAnd, eOr, tAndM, tOrM, dNot, tNotB, aNil, aCons, mkT_ok, mkL_ok, gName, gsNil, gsCons, gTup, gLst, eChain, oNone, oSome, eSl, dIsi, dIsi2, tYesM, most, eLc, okW, isOl, lcGo, wipeR, restR, fAll, boolsD, sFor, forGo, hh1, hh2, is_habit_eq]
            · obtain ⟨p, po, rfl⟩ := habB_iff.mp hh1
              obtain ⟨q, qo, rfl⟩ := habB_iff.mp hh2
              cases hd1 : inB 1 3 d1
              · cases hd2 : inB 1 3 d2 <;> simp [F_is_plan, B_is_plan, callD, callB, callO, args0, sSeq, sIf, sRet, sRetN, sRetO, sDrop, sAsg, sPar, sNx, sBk, sCt, sNever, eVar, eC, e1, e2, eIf, asB, eAnd, eOr, tAndM, tOrM, dNot, tNotB, aNil, aCons, mkT_ok, mkL_ok, gName, gsNil, gsCons, gTup, gLst, eChain, oNone, oSome, eSl, dIsi, dIsi2, tYesM, most, eLc, okW, isOl, lcGo, wipeR, restR, fAll, boolsD, sFor, forGo, hh1, hh2, is_habit_eq, hd1, hd2]
              · cases hd2 : inB 1 3 d2
                · simp [F_is_plan, B_is_plan, callD, callB, callO, args0, sSeq, sIf, sRet, sRetN, sRetO, sDrop, sAsg, sPar, sNx, sBk, sCt, sNever, eVar, eC, e1, e2, eIf, asB, eAnd, eOr, tAndM, tOrM, dNot, tNotB, aNil, aCons, mkT_ok, mkL_ok, gName, gsNil, gsCons, gTup, gLst, eChain, oNone, oSome, eSl, dIsi, dIsi2, tYesM, most, eLc, okW, isOl, lcGo, wipeR, restR, fAll, boolsD, sFor, forGo, hh1, hh2, is_habit_eq, hd1, hd2]
                · obtain ⟨x, rfl, x1, x2⟩ := inB_some hd1
                  obtain ⟨y, rfl, y1, y2⟩ := inB_some hd2
                  have sh : Pln.Sh ⟨p, q, x, y, ov⟩ := ⟨po, qo, x1, x2, y1, y2⟩
                  have e := size_of_eq sh
                  have ng : ¬ (Pln.size ⟨p, q, x, y, ov⟩ ≤ 10000) := fun z => h ⟨_, ⟨sh, z⟩, rfl⟩
                  simp only [Pln.d] at e
                  simp [F_is_plan, B_is_plan, callD, callB, callO, args0, sSeq, sIf, sRet, sRetN, sRetO, sDrop, sAsg, sPar, sNx, sBk, sCt, sNever, eVar, eC, e1, e2, eIf, asB, eAnd, eOr, tAndM, tOrM, dNot, tNotB, aNil, aCons, mkT_ok, mkL_ok, gName, gsNil, gsCons, gTup, gLst, eChain, oNone, oSome, eSl, dIsi, dIsi2, tYesM, most, eLc, okW, isOl, lcGo, wipeR, restR, fAll, boolsD, sFor, forGo, hh1, hh2, is_habit_eq, x1, x2, y1, y2, e, c_MOST_SIZE, ng]
        · cases b with
          | tuple ds => 
            simp [isN] at hb
            simp [F_is_plan, B_is_plan, callD, callB, callO, args0, sSeq, sIf, sRet, sRetN, sRetO, sDrop, sAsg, sPar, sNx, sBk, sCt, sNever, eVar, eC, e1, e2, eIf, asB, eAnd, eOr, tAndM, tOrM, dNot, tNotB, aNil, aCons, mkT_ok, mkL_ok, gName, gsNil, gsCons, gTup, gLst, eChain, oNone, oSome, eSl, dIsi, dIsi2, tYesM, most, eLc, okW, isOl, lcGo, wipeR, restR, fAll, boolsD, sFor, forGo, hb]
          | _ => simp [F_is_plan, B_is_plan, callD, callB, callO, args0, sSeq, sIf, sRet, sRetN, sRetO, sDrop, sAsg, sPar, sNx, sBk, sCt, sNever, eVar, eC, e1, e2, eIf, asB, eAnd, eOr, tAndM, tOrM, dNot, tNotB, aNil, aCons, mkT_ok, mkL_ok, gName, gsNil, gsCons, gTup, gLst, eChain, oNone, oSome, eSl, dIsi, dIsi2, tYesM, most, eLc, okW, isOl, lcGo, wipeR, restR, fAll, boolsD, sFor, forGo]
      · have : ∀ ρ, lcGo (gName 1) tYesM (eAnd (e1 (dIsi .tup) (eVar 1)) (e2 dEq (e1 fLen (aCons (eVar 1) aNil)) (eC (.int 2)))) [1] [b] [some (.dat ρ), none, none, none] = some ([.bool (isN 2 b)], [some (.dat ρ), none, none, none]) := by
          intro ρ
          cases b <;> simp [callD, callB, callO, args0, sSeq, sIf, sRet, sRetN, sRetO, sDrop, sAsg, sPar, sNx, sBk, sCt, sNever, eVar, eC, e1, e2, eIf, asB, eAnd, eOr, tAndM, tOrM, dNot, tNotB, aNil, aCons, mkT_ok, mkL_ok, gName, gsNil, gsCons, gTup, gLst, eChain, oNone, oSome, eSl, dIsi, dIsi2, tYesM, most, eLc, okW, isOl, lcGo, wipeR, restR, fAll, boolsD, sFor, forGo, isN]
        cases a with
        | tuple ds => 
          simp [isN] at ha
          cases b <;> simp [F_is_plan, B_is_plan, callD, callB, callO, args0, sSeq, sIf, sRet, sRetN, sRetO, sDrop, sAsg, sPar, sNx, sBk, sCt, sNever, eVar, eC, e1, e2, eIf, asB, eAnd, eOr, tAndM, tOrM, dNot, tNotB, aNil, aCons, mkT_ok, mkL_ok, gName, gsNil, gsCons, gTup, gLst, eChain, oNone, oSome, eSl, dIsi, dIsi2, tYesM, most, eLc, okW, isOl, lcGo, wipeR, restR, fAll, boolsD, sFor, forGo, ha]
        | _ => cases b <;> simp [F_is_plan, B_is_plan, callD, callB, callO, args0, sSeq, sIf, sRet, sRetN, sRetO, sDrop, sAsg, sPar, sNx, sBk, sCt, sNever, eVar, eC, e1, e2, eIf, asB, eAnd, eOr, tAndM, tOrM, dNot, tNotB, aNil, aCons, mkT_ok, mkL_ok, gName, gsNil, gsCons, gTup, gLst, eChain, oNone, oSome, eSl, dIsi, dIsi2, tYesM, most, eLc, okW, isOl, lcGo, wipeR, restR, fAll, boolsD, sFor, forGo]
  · cases v with
    | tuple ds =>
      simp [isN] at h3
      have : ds.length ≠ 3 := by omega
      simp [F_is_plan, B_is_plan, callD, callB, callO, args0, sSeq, sIf, sRet, sRetN, sRetO, sDrop, sAsg, sPar, sNx, sBk, sCt, sNever, eVar, eC, e1, e2, eIf, asB, eAnd, eOr, tAndM, tOrM, dNot, tNotB, aNil, aCons, mkT_ok, mkL_ok, gName, gsNil, gsCons, gTup, gLst, eChain, oNone, oSome, eSl, dIsi, dIsi2, tYesM, h3, this]
    | _ => simp [F_is_plan, B_is_plan, callD, callB, callO, args0, sSeq, sIf, sRet, sRetN, sRetO, sDrop, sAsg, sPar, sNx, sBk, sCt, sNever, eVar, eC, e1, e2, eIf, asB, eAnd, eOr, tAndM, tOrM, dNot, tNotB, aNil, aCons, mkT_ok, mkL_ok, gName, gsNil, gsCons, gTup, gLst, eChain, oNone, oSome, eSl, dIsi, dIsi2, tYesM]
theorem is_plan_yes {p : Pln} (o : p.Ok) : F_is_plan [p.d] = some (.bool true) := by
  have e := size_of_eq o.toSh
  have h1 := hab_ok o.a
  have h2 := hab_ok o.b
  simp only [Pln.d] at e
  simp [F_is_plan, B_is_plan, callD, callB, callO, args0, sSeq, sIf, sRet, sRetN, sRetO, sDrop, sAsg, sPar, sNx, sBk, sCt, sNever, eVar, eC, e1, e2, eIf, asB, eAnd, eOr, tAndM, tOrM, dNot, tNotB, aNil, aCons, mkT_ok, mkL_ok, gName, gsNil, gsCons, gTup, gLst, eChain, oNone, oSome, eSl, dIsi, dIsi2, tYesM, most, eLc, okW, isOl, lcGo, wipeR, restR, fAll, boolsD, sFor, forGo, Pln.d, h1, h2, is_habit_eq, o.x1, o.x2, o.y1, o.y2, e, c_MOST_SIZE, o.size]
theorem law_good_plan_no (v : D) (h : ¬ planB v) : F__law_good_plan [v] = some (.bool false) := by
  rcases isN3_or v with ⟨a, b, c, rfl⟩ | h3
  · rcases isN2_or a with ⟨h1, h2, rfl⟩ | ha
    · rcases isN2_or b with ⟨d1, d2, rfl⟩ | hb
      · cases hc : isB c
        · simp [F__law_good_plan, B__law_good_plan, callD, callB, callO, args0, sSeq, sIf, sRet, sRetN, sRetO, sDrop, sAsg, sPar, sNx, sBk, sCt, sNever, eVar, eC, e1, e2, eIf, asB, eAnd, eOr, tAndM, tOrM, dNot, tNotB, aNil, aCons, mkT_ok, mkL_ok, gName, gsNil, gsCons, gTup, gLst, eChain, oNone, oSome, eSl, dIsi, dIsi2, tYesM, hc]
        · cases c <;> simp at hc
          rename_i ov
          cases hh1 : habB h1
          · simp [F__law_good_plan, B__law_good_plan, callD, callB, callO, args0, sSeq, sIf, sRet, sRetN, sRetO, sDrop, sAsg, sPar, sNx, sBk, sCt, sNever, eVar, eC, e1, e2, eIf, asB, eAnd, eOr, tAndM, tOrM, dNot, tNotB, aNil, aCons, mkT_ok, mkL_ok, gName, gsNil, gsCons, gTup, gLst, eChain, oNone, oSome, eSl, dIsi, dIsi2, tYesM, hh1, law_good_habit_eq]
          · cases hh2 : habB h2
            · simp [F__law_good_plan, B__law_good_plan, callD, callB, callO, args0, sSeq, sIf, sRet, sRetN, sRetO, sDrop, sAsg, sPar, sNx, sBk, sCt, sNever, eVar, eC, e1, e2, eIf, asB, eAnd, eOr, tAndM, tOrM, dNot, tNotB, aNil, aCons, mkT_ok, mkL_ok, gName, gsNil, gsCons, gTup, gLst, eChain, oNone, oSome, eSl, dIsi, dIsi2, tYesM, hh1, hh2, law_good_habit_eq]
            · obtain ⟨p, po, rfl⟩ := habB_iff.mp hh1
              obtain ⟨q, qo, rfl⟩ := habB_iff.mp hh2
              cases hd1 : inB 1 3 d1
              · simp [F__law_good_plan, B__law_good_plan, callD, callB, callO, args0, sSeq, sIf, sRet, sRetN, sRetO, sDrop, sAsg, sPar, sNx, sBk, sCt, sNever, eVar, eC, e1, e2, eIf, asB, eAnd, eOr, tAndM, tOrM, dNot, tNotB, aNil, aCons, mkT_ok, mkL_ok, gName, gsNil, gsCons, gTup, gLst, eChain, oNone, oSome, eSl, dIsi, dIsi2, tYesM, hh1, hh2, law_good_habit_eq, hd1]
              · cases hd2 : inB 1 3 d2
                · simp [F__law_good_plan, B__law_good_plan, callD, callB, callO, args0, sSeq, sIf, sRet, sRetN, sRetO, sDrop, sAsg, sPar, sNx, sBk, sCt, sNever, eVar, eC, e1, e2, eIf, asB, eAnd, eOr, tAndM, tOrM, dNot, tNotB, aNil, aCons, mkT_ok, mkL_ok, gName, gsNil, gsCons, gTup, gLst, eChain, oNone, oSome, eSl, dIsi, dIsi2, tYesM, hh1, hh2, law_good_habit_eq, hd1, hd2]
                · obtain ⟨x, rfl, x1, x2⟩ := inB_some hd1
                  obtain ⟨y, rfl, y1, y2⟩ := inB_some hd2
                  have sh : Pln.Sh ⟨p, q, x, y, ov⟩ := ⟨po, qo, x1, x2, y1, y2⟩
                  have e := law_size_eq sh
                  have ng : ¬ (Pln.size ⟨p, q, x, y, ov⟩ ≤ 10000) := fun z => h ⟨_, ⟨sh, z⟩, rfl⟩
                  simp only [Pln.d] at e
                  simp [F__law_good_plan, B__law_good_plan, callD, callB, callO, args0, sSeq, sIf, sRet, sRetN, sRetO, sDrop, sAsg, sPar, sNx, sBk, sCt, sNever, eVar, eC, e1, e2, eIf, asB, eAnd, eOr, tAndM, tOrM, dNot, tNotB, aNil, aCons, mkT_ok, mkL_ok, gName, gsNil, gsCons, gTup, gLst, eChain, oNone, oSome, eSl, dIsi, dIsi2, tYesM, hh1, hh2, law_good_habit_eq, x1, x2, y1, y2, e, ng]
      · simp [F__law_good_plan, B__law_good_plan, callD, callB, callO, args0, sSeq, sIf, sRet, sRetN, sRetO, sDrop, sAsg, sPar, sNx, sBk, sCt, sNever, eVar, eC, e1, e2, eIf, asB, eAnd, eOr, tAndM, tOrM, dNot, tNotB, aNil, aCons, mkT_ok, mkL_ok, gName, gsNil, gsCons, gTup, gLst, eChain, oNone, oSome, eSl, dIsi, dIsi2, tYesM, hb]
    · simp [F__law_good_plan, B__law_good_plan, callD, callB, callO, args0, sSeq, sIf, sRet, sRetN, sRetO, sDrop, sAsg, sPar, sNx, sBk, sCt, sNever, eVar, eC, e1, e2, eIf, asB, eAnd, eOr, tAndM, tOrM, dNot, tNotB, aNil, aCons, mkT_ok, mkL_ok, gName, gsNil, gsCons, gTup, gLst, eChain, oNone, oSome, eSl, dIsi, dIsi2, tYesM, ha]
  · simp [F__law_good_plan, B__law_good_plan, callD, callB, callO, args0, sSeq, sIf, sRet, sRetN, sRetO, sDrop, sAsg, sPar, sNx, sBk, sCt, sNever, eVar, eC, e1, e2, eIf, asB, eAnd, eOr, tAndM, tOrM, dNot, tNotB, aNil, aCons, mkT_ok, mkL_ok, gName, gsNil, gsCons, gTup, gLst, eChain, oNone, oSome, eSl, dIsi, dIsi2, tYesM, h3]
theorem law_good_plan_yes {p : Pln} (o : p.Ok) : F__law_good_plan [p.d] = some (.bool true) := by
  have e := law_size_eq o.toSh
  have h1 := hab_ok o.a
  have h2 := hab_ok o.b
  simp only [Pln.d] at e
  simp [F__law_good_plan, B__law_good_plan, callD, callB, callO, args0, sSeq, sIf, sRet, sRetN, sRetO, sDrop, sAsg, sPar, sNx, sBk, sCt, sNever, eVar, eC, e1, e2, eIf, asB, eAnd, eOr, tAndM, tOrM, dNot, tNotB, aNil, aCons, mkT_ok, mkL_ok, gName, gsNil, gsCons, gTup, gLst, eChain, oNone, oSome, eSl, dIsi, dIsi2, tYesM, Pln.d, h1, h2, law_good_habit_eq, o.x1, o.x2, o.y1, o.y2, e, o.size]
open Classical in
theorem is_plan_eq (v : D) : F_is_plan [v] = some (.bool (decide (planB v))) := by
  by_cases h : planB v
  · obtain ⟨p, o, rfl⟩ := h
    rw [is_plan_yes o, decide_eq_true ⟨p, o, rfl⟩]
  · rw [is_plan_no v h, decide_eq_false h]
open Classical in
theorem law_good_plan_eq (v : D) : F__law_good_plan [v] = some (.bool (decide (planB v))) := by
  by_cases h : planB v
  · obtain ⟨p, o, rfl⟩ := h
    rw [law_good_plan_yes o, decide_eq_true ⟨p, o, rfl⟩]
  · rw [law_good_plan_no v h, decide_eq_false h]
@[simp] theorem look_at_plan_yes {p : Pln} (o : p.Ok) : F_look_at_plan [p.d] = some .none := by
  simp [F_look_at_plan, B_look_at_plan, callD, callB, callO, args0, sSeq, sIf, sRet, sRetN, sRetO, sDrop, sAsg, sPar, sNx, sBk, sCt, sNever, eVar, eC, e1, e2, eIf, asB, eAnd, eOr, tAndM, tOrM, dNot, tNotB, aNil, aCons, mkT_ok, mkL_ok, gName, gsNil, gsCons, gTup, gLst, eChain, oNone, oSome, eSl, dIsi, dIsi2, tYesM, is_plan_yes o]
end VS

namespace VS
open PySem PySem.Spec PyProof.Rows L2

/-! ### draws -/
def Spr (es : List D) : Prop := ∃ a b, es = [.int a, .int b]
@[simp] theorem intI {i : Int} : fInt [.int i] = some (.int i) := rfl
@[simp] theorem intB {b : Bool} : fInt [.bool b] = some (.int (if b then 1 else 0)) := by cases b <;> rfl
theorem modI {i j : Int} (h : 0 < j) : iMod (.int i) (.int j) = some (.int (i % j)) := if_pos h
theorem divI {i j : Int} (h : 0 < j) (h2 : j < 1073741824) : iDiv (.int i) (.int j) = some (.int (i / j)) := if_pos ⟨h, by omega⟩
@[simp] theorem mix1 {i : Int} : dMul (.int i) (.int 393555900739) = some (.int (i * 393555900739)) := mulI (.inr (by decide))
@[simp] theorem mix2 {i : Int} : dMul (.int i) (.int 863) = some (.int (i * 863)) := mulI (.inr (by decide))
@[simp] theorem mix3 {i : Int} : dMul (.int 524287) (.int i) = some (.int (524287 * i)) := mulI (.inl (by decide))
@[simp] theorem mix4 {i : Int} : iMod (.int i) (.int 999999999989) = some (.int (i % 999999999989)) := modI (by decide)
@[simp] theorem mix5 {i : Int} : iDiv (.int i) (.int 4093) = some (.int (i / 4093)) := divI (by decide) (by decide)
@[simp] theorem atI0 {a : D} {l : List D} : atI (a :: l) 0 = some a := atI_nn (by decide) rfl
@[simp] theorem atI1 {a b : D} {l : List D} : atI (a :: b :: l) 1 = some b := atI_nn (by decide) rfl
@[simp] theorem ixN20 : ixN 2 0 = some 0 := rfl
@[simp] theorem ixN21 : ixN 2 1 = some 1 := rfl
theorem pick_ok {es : List D} (hs : Spr es) (m : Int) (h1 : 0 < m) (h2 : m < 1073741824) : ∃ r es', F__law_pick es [.int m] = some (.int r, es') ∧ 0 ≤ r ∧ r < m ∧ Spr es' := by
  obtain ⟨a, b, rfl⟩ := hs
  have n1 := Int.emod_nonneg
  by_cases h : 0 < a
  · refine ⟨a % m, [.int (a / m), .int b], ?_, Int.emod_nonneg _ (by omega), Int.emod_lt_of_pos _ h1, _, _, rfl⟩
    simp [F__law_pick, B__law_pick, callD, callB, callO, args0, sSeq, sIf, sRet, sRetN, sRetO, sDrop, sAsg, sPar, sNx, sBk, sCt, sNever, eVar, eC, e1, e2, eIf, asB, eAnd, eOr, tAndM, tOrM, dNot, tNotB, aNil, aCons, mkT_ok, mkL_ok, gName, gsNil, gsCons, gTup, gLst, eChain, oNone, oSome, eSl, dIsi, dIsi2, tYesM, isOl, eIxO, sSetO, h, modI h1, divI h1 h2]
  · refine ⟨(b * 393555900739 + 8191) % 999999999989 / 4093 % m, [.int a, .int ((b * 393555900739 + 8191) % 999999999989)], ?_, Int.emod_nonneg _ (by omega), Int.emod_lt_of_pos _ h1, _, _, rfl⟩
    simp [F__law_pick, B__law_pick, callD, callB, callO, args0, sSeq, sIf, sRet, sRetN, sRetO, sDrop, sAsg, sPar, sNx, sBk, sCt, sNever, eVar, eC, e1, e2, eIf, asB, eAnd, eOr, tAndM, tOrM, dNot, tNotB, aNil, aCons, mkT_ok, mkL_ok, gName, gsNil, gsCons, gTup, gLst, eChain, oNone, oSome, eSl, dIsi, dIsi2, tYesM, isOl, eIxO, sSetO, h, modI h1, divI h1 h2]
theorem atI_of {ds : List D} {i : Int} (h0 : 0 ≤ i) (h1 : i < ds.length) : ∃ d, atI ds i = some d ∧ d ∈ ds := by
  have hl : i.toNat < ds.length := by omega
  exact ⟨ds[i.toNat], atI_nn h0 (List.getElem?_eq_getElem hl), List.getElem_mem hl⟩
theorem ixL_of {ds : List D} {i : Int} (h0 : 0 ≤ i) (h1 : i < ds.length) : ∃ d, dIx (.list ds) (.int i) = some d ∧ d ∈ ds := by
  obtain ⟨d, h, m⟩ := atI_of h0 h1
  exact ⟨d, (orE_none rfl).trans (orE_some h), m⟩
theorem ixT_of {ds : List D} {i : Int} (h0 : 0 ≤ i) (h1 : i < ds.length) : ∃ d, dIx (.tuple ds) (.int i) = some d ∧ d ∈ ds := by
  obtain ⟨d, h, m⟩ := atI_of h0 h1
  exact ⟨d, orE_some h, m⟩
def scrD (script : List Int) : D := .list (script.map .int)
@[simp] theorem pow18 : iPow (.int 10) (.int 18) = some (.int (10 ^ 18)) := rfl
theorem spring_ok (script : List Int) (at' : Int) (h0 : 0 ≤ at') : ∃ es, F__law_spring [scrD script, .int at'] = some es ∧ Spr es := by
  by_cases h : at' < script.length
  · obtain ⟨d, e, m⟩ := ixL_of (ds := script.map .int) h0 (by simpa using h)
    obtain ⟨i, hi, rfl⟩ := List.mem_map.mp m
    obtain ⟨j, hj⟩ : ∃ j, fAbs [.int i] = some (.int j) := ⟨_, rfl⟩
    by_cases h2 : (1000000000000000000 : Int) ≤ j <;> exact ⟨_, by simp [F__law_spring, B__law_spring, callD, callB, callO, args0, sSeq, sIf, sRet, sRetN, sRetO, sDrop, sAsg, sPar, sNx, sBk, sCt, sNever, eVar, eC, e1, e2, eIf, asB, eAnd, eOr, tAndM, tOrM, dNot, tNotB, aNil, aCons, mkT_ok, mkL_ok, gName, gsNil, gsCons, gTup, gLst, eChain, oNone, oSome, eSl, dIsi, dIsi2, tYesM, most, eLc, okW, isOl, lcGo, wipeR, restR, fAll, boolsD, sFor, forGo, scrD, h, e, hj, h2]; exact ⟨rfl, rfl⟩, _, _, rfl⟩
  · exact ⟨_, by simp [F__law_spring, B__law_spring, callD, callB, callO, args0, sSeq, sIf, sRet, sRetN, sRetO, sDrop, sAsg, sPar, sNx, sBk, sCt, sNever, eVar, eC, e1, e2, eIf, asB, eAnd, eOr, tAndM, tOrM, dNot, tNotB, aNil, aCons, mkT_ok, mkL_ok, gName, gsNil, gsCons, gTup, gLst, eChain, oNone, oSome, eSl, dIsi, dIsi2, tYesM, most, eLc, okW, isOl, lcGo, wipeR, restR, fAll, boolsD, sFor, forGo, scrD, h]; exact ⟨rfl, rfl⟩, _, _, rfl⟩
@[simp] theorem min2I {i j : Int} : fMin2 [.int i, .int j] = some (.int (if j < i then j else i)) := rfl
theorem cases3 {r : Int} (h0 : 0 ≤ r) (h1 : r < 3) : r = 0 ∨ r = 1 ∨ r = 2 := by omega
theorem cases4 {r : Int} (h0 : 0 ≤ r) (h1 : r < 4) : r = 0 ∨ r = 1 ∨ r = 2 ∨ r = 3 := by omega
theorem idx3 {r : Int} (h0 : 0 ≤ r) (h1 : r < 3) : ∃ q, dIx (.list [.int 0, .int 0, .int 1]) (.int r) = some (.int q) ∧ 0 ≤ q := by
  rcases cases3 h0 h1 with rfl | rfl | rfl
  · exact ⟨0, rfl, by decide⟩
  · exact ⟨0, rfl, by decide⟩
  · exact ⟨1, rfl, by decide⟩
theorem idx4 {r : Int} (h0 : 0 ≤ r) (h1 : r < 4) : ∃ q, dIx (.list [.int 0, .int 0, .int 1, .int 2]) (.int r) = some (.int q) ∧ 0 ≤ q := by
  rcases cases4 h0 h1 with rfl | rfl | rfl | rfl
  · exact ⟨0, rfl, by decide⟩
  · exact ⟨0, rfl, by decide⟩
  · exact ⟨1, rfl, by decide⟩
  · exact ⟨2, rfl, by decide⟩
theorem habit_ok {es : List D} (hs : Spr es) (m : Int) (h1 : 0 < m) (h2 : m ≤ 6) : ∃ (h : Hab) (es' : List D), F__law_habit es [.int m] = some (h.d, es') ∧ h.Ok ∧ Spr es' := by
  obtain ⟨r1, es1, e1', a1, b1, s1⟩ := pick_ok hs 2 (by decide) (by decide)
  obtain ⟨r2, es2, e2', a2, b2, s2⟩ := pick_ok s1 3 (by decide) (by decide)
  obtain ⟨r3, es3, e3, a3, b3, s3⟩ := pick_ok s2 m h1 (by omega)
  obtain ⟨r4, es4, e4, a4, b4, s4⟩ := pick_ok s3 4 (by decide) (by decide)
  obtain ⟨r5, es5, e5, a5, b5, s5⟩ := pick_ok s4 3 (by decide) (by decide)
  obtain ⟨r6, es6, e6, a6, b6, s6⟩ := pick_ok s5 3 (by decide) (by decide)
  obtain ⟨q, eq, hq⟩ := idx3 a2 b2
  obtain ⟨q', eq', hq'⟩ := idx4 a4 b4
  refine ⟨⟨2 + r1, if 2 + r1 + q < 4 then 2 + r1 + q else 4, 1 + r3, if 1 + r3 + q' < 6 then 1 + r3 + q' else 6, decide (0 < r5), decide (0 < r6)⟩, es6, ?_, ⟨?_, ?_, ?_, ?_, ?_, ?_⟩, s6⟩
  · simp [F__law_habit, B__law_habit, callD, callB, callO, args0, sSeq, sIf, sRet, sRetN, sRetO, sDrop, sAsg, sPar, sNx, sBk, sCt, sNever, eVar, eC, e1, e2, eIf, asB, eAnd, eOr, tAndM, tOrM, dNot, tNotB, aNil, aCons, mkT_ok, mkL_ok, gName, gsNil, gsCons, gTup, gLst, eChain, oNone, oSome, eSl, dIsi, dIsi2, tYesM, eBor, isOl, e1', e2', e3, e4, e5, e6, eq, eq', Hab.d]
  · show 2 ≤ 2 + r1; omega
  · show 2 + r1 ≤ if 2 + r1 + q < 4 then 2 + r1 + q else 4; split <;> omega
  · show (if 2 + r1 + q < 4 then 2 + r1 + q else 4) ≤ 4; split <;> omega
  · show 1 ≤ 1 + r3; omega
  · show 1 + r3 ≤ if 1 + r3 + q' < 6 then 1 + r3 + q' else 6; split <;> omega
  · show (if 1 + r3 + q' < 6 then 1 + r3 + q' else 6) ≤ 6; split <;> omega
theorem plan_okB {es : List D} (hs : Spr es) (bound : Int) (hb : 2025 ≤ bound) : ∃ (p : Pln) (es' : List D), F__law_plan es [.int bound] = some (p.d, es') ∧ p.Sh ∧ p.size ≤ bound ∧ Spr es' ∧ p.x ≤ 2 ∧ p.y ≤ 2 := by
  obtain ⟨h, es1, e1', o1, s1⟩ := habit_ok hs 4 (by decide) (by decide)
  obtain ⟨k, es2, e2', o2, s2⟩ := habit_ok s1 4 (by decide) (by decide)
  obtain ⟨r3, es3, e3, a3, b3, s3⟩ := pick_ok s2 2 (by decide) (by decide)
  obtain ⟨r4, es4, e4, a4, b4, s4⟩ := pick_ok s3 2 (by decide) (by decide)
  obtain ⟨r5, es5, e5, a5, b5, s5⟩ := pick_ok s4 3 (by decide) (by decide)
  have sh1 : Pln.Sh ⟨h, k, 1 + r3, 1 + r4, decide (r5 = 0)⟩ := ⟨o1, o2, by show 1 ≤ 1 + r3; omega, by show 1 + r3 ≤ 3; omega, by show 1 ≤ 1 + r4; omega, by show 1 + r4 ≤ 3; omega⟩
  have sh2 : Pln.Sh ⟨h, k, 1, 1, decide (r5 = 0)⟩ := ⟨o1, o2, by simp, by simp, by simp, by simp⟩
  have sh3 : Pln.Sh ⟨h, ⟨2, 2, 2, 2, k.st, true⟩, 1, 1, decide (r5 = 0)⟩ := ⟨o1, (by constructor <;> simp), by simp, by simp, by simp, by simp⟩
  have sh4 : Pln.Sh ⟨⟨2, 2, 1, 2, true, false⟩, ⟨2, 2, 2, 2, k.st, true⟩, 1, 1, decide (r5 = 0)⟩ := ⟨(by constructor <;> simp), (by constructor <;> simp), by simp, by simp, by simp, by simp⟩
  have z1 := law_size_eq sh1
  have z2 := law_size_eq sh2
  have z3 := law_size_eq sh3
  simp only [Pln.d] at z1 z2 z3
  have ek : k.d = .tuple [.tuple [.int k.s0, .int k.s1], .tuple [.int k.w0, .int k.w1], .bool k.st, .bool k.eg] := rfl
  have k2 : dIx k.d (.int 2) = some (.bool k.st) := by rw [ek]; exact ixT2
  have d3 : Hab.d ⟨2, 2, 2, 2, k.st, true⟩ = .tuple [.tuple [.int 2, .int 2], .tuple [.int 2, .int 2], .bool k.st, .bool true] := rfl
  rw [d3] at z3
  by_cases c1 : bound < Pln.size ⟨h, k, 1 + r3, 1 + r4, decide (r5 = 0)⟩
  · by_cases c2 : bound < Pln.size ⟨h, k, 1, 1, decide (r5 = 0)⟩
    · by_cases c3 : bound < Pln.size ⟨h, ⟨2, 2, 2, 2, k.st, true⟩, 1, 1, decide (r5 = 0)⟩
      · refine ⟨_, es5, ?_, sh4, Int.le_trans (b := 2025) ?_ hb, s5, by show (1 : Int) ≤ 2; decide, by show (1 : Int) ≤ 2; decide⟩
        · simp [F__law_plan, B__law_plan, callD, callB, callO, args0, sSeq, sIf, sRet, sRetN, sRetO, sDrop, sAsg, sPar, sNx, sBk, sCt, sNever, eVar, eC, e1, e2, eIf, asB, eAnd, eOr, tAndM, tOrM, dNot, tNotB, aNil, aCons, mkT_ok, mkL_ok, gName, gsNil, gsCons, gTup, gLst, eChain, oNone, oSome, eSl, dIsi, dIsi2, tYesM, eBor, isOl, e1', e2', e3, e4, e5, z1, z2, z3, c1, c2, c3, k2, Pln.d, d3]
          rfl
        · exact Int.le_of_eq rfl
      · refine ⟨_, es5, ?_, sh3, Int.not_lt.mp c3, s5, by show (1 : Int) ≤ 2; decide, by show (1 : Int) ≤ 2; decide⟩
        simp [F__law_plan, B__law_plan, callD, callB, callO, args0, sSeq, sIf, sRet, sRetN, sRetO, sDrop, sAsg, sPar, sNx, sBk, sCt, sNever, eVar, eC, e1, e2, eIf, asB, eAnd, eOr, tAndM, tOrM, dNot, tNotB, aNil, aCons, mkT_ok, mkL_ok, gName, gsNil, gsCons, gTup, gLst, eChain, oNone, oSome, eSl, dIsi, dIsi2, tYesM, eBor, isOl, e1', e2', e3, e4, e5, z1, z2, z3, c1, c2, c3, k2, Pln.d, d3]
    · refine ⟨_, es5, ?_, sh2, Int.not_lt.mp c2, s5, by show (1 : Int) ≤ 2; decide, by show (1 : Int) ≤ 2; decide⟩
      simp [F__law_plan, B__law_plan, callD, callB, callO, args0, sSeq, sIf, sRet, sRetN, sRetO, sDrop, sAsg, sPar, sNx, sBk, sCt, sNever, eVar, eC, e1, e2, eIf, asB, eAnd, eOr, tAndM, tOrM, dNot, tNotB, aNil, aCons, mkT_ok, mkL_ok, gName, gsNil, gsCons, gTup, gLst, eChain, oNone, oSome, eSl, dIsi, dIsi2, tYesM, eBor, isOl, e1', e2', e3, e4, e5, z1, z2, c1, c2, k2, Pln.d]
  · refine ⟨_, es5, ?_, sh1, Int.not_lt.mp c1, s5, by show 1 + r3 ≤ 2; omega, by show 1 + r4 ≤ 2; omega⟩
    simp [F__law_plan, B__law_plan, callD, callB, callO, args0, sSeq, sIf, sRet, sRetN, sRetO, sDrop, sAsg, sPar, sNx, sBk, sCt, sNever, eVar, eC, e1, e2, eIf, asB, eAnd, eOr, tAndM, tOrM, dNot, tNotB, aNil, aCons, mkT_ok, mkL_ok, gName, gsNil, gsCons, gTup, gLst, eChain, oNone, oSome, eSl, dIsi, dIsi2, tYesM, eBor, isOl, e1', e2', e3, e4, e5, z1, c1, k2, Pln.d]
theorem plan_ok {es : List D} (hs : Spr es) (bound : Int) (hb : 2025 ≤ bound) : ∃ (p : Pln) (es' : List D), F__law_plan es [.int bound] = some (p.d, es') ∧ p.Sh ∧ p.size ≤ bound ∧ Spr es' := by
  obtain ⟨p, es', h1, h2, h3, h4, _⟩ := plan_okB hs bound hb
  exact ⟨p, es', h1, h2, h3, h4⟩
end VS

namespace VS
open PySem PySem.Spec PyProof.Rows L2

/-! ### stands -/
inductive Hg where
  | none | torn | whole
  deriving DecidableEq
abbrev sQ : Str := Str.ofString "quiet"
abbrev sP : Str := Str.ofString "speaks"
abbrev sNo : Str := Str.ofString "none"
abbrev sTo : Str := Str.ofString "torn"
abbrev sWh : Str := Str.ofString "whole"
def Hg.s : Hg → Str
  | .none => sNo
  | .torn => sTo
  | .whole => sWh
def modeS (sp : Bool) : Str := if sp then sP else sQ
structure Prt where
  (sp : Bool)
  (n : Int)
  (g : Hg)
  deriving DecidableEq
structure Std where
  (p q : Prt)
  (l m : List Int)
  deriving DecidableEq
def lineD (l : List Int) : D := .tuple (l.map .int)
def Prt.d (p : Prt) : D := .tuple [.str (modeS p.sp), .int p.n, .str p.g.s]
def Std.d (s : Std) : D := .tuple [.tuple [s.p.d, s.q.d], .tuple [lineD s.l, lineD s.m]]
def Prt.Ok (h : Hab) (p : Prt) : Prop := if p.sp then 1 ≤ p.n ∧ p.n ≤ h.s1 - 1 else 0 ≤ p.n ∧ p.n ≤ h.w1
def lineOk (n : Int) (l : List Int) : Prop := (l.length : Int) = n ∧ ∀ i ∈ l, 0 ≤ i ∧ i ≤ 3
structure Std.Ok (p : Pln) (s : Std) : Prop where
  okp : s.p.Ok p.a
  okq : s.q.Ok p.b
  okl : lineOk p.x s.l
  okm : lineOk p.y s.m

theorem ne_QP : ¬ (sQ = sP) := by decide +kernel
theorem ne_PQ : ¬ (sP = sQ) := by decide +kernel
theorem ok_Q : PyData.strOk sQ = true := by decide +kernel
theorem ok_P : PyData.strOk sP = true := by decide +kernel
theorem ok_No : PyData.strOk sNo = true := by decide +kernel
theorem ok_To : PyData.strOk sTo = true := by decide +kernel
theorem ok_Wh : PyData.strOk sWh = true := by decide +kernel
@[simp] theorem ok_mode {b : Bool} : PyData.strOk (modeS b) = true := by cases b <;> first | exact ok_Q | exact ok_P
@[simp] theorem ok_hg {g : Hg} : PyData.strOk g.s = true := by cases g <;> first | exact ok_No | exact ok_To | exact ok_Wh
@[simp] theorem mode_inj {a b : Bool} : modeS a = modeS b ↔ a = b := by
  cases a <;> cases b <;> simp [modeS, ne_QP, ne_PQ]
theorem hg_ne1 : ¬ (sNo = sTo) := by decide +kernel
theorem hg_ne2 : ¬ (sNo = sWh) := by decide +kernel
theorem hg_ne3 : ¬ (sTo = sWh) := by decide +kernel
@[simp] theorem hg_inj {a b : Hg} : a.s = b.s ↔ a = b := by
  have h1 := hg_ne1
  have h2 := hg_ne2
  have h3 := hg_ne3
  have h4 : ¬ (sTo = sNo) := fun z => h1 z.symm
  have h5 : ¬ (sWh = sNo) := fun z => h2 z.symm
  have h6 : ¬ (sWh = sTo) := fun z => h3 z.symm
  cases a <;> cases b <;> simp [Hg.s, h1, h2, h3, h4, h5, h6]
theorem eqS {x y : Str} (h1 : PyData.strOk x = true) (h2 : PyData.strOk y = true) : dEq (.str x) (.str y) = some (.bool (decide (x = y))) := by
  simp [dEq, okEq, PyData.canLay0, PyData.depth, PyData.eqv, h1, h2]; exact Bool.beq_eq_decide_eq _ _
theorem strQ : (.str (Str.ofString "quiet") : D) = .str (modeS false) := rfl
theorem strP : (.str (Str.ofString "speaks") : D) = .str (modeS true) := rfl
theorem strNo : (.str (Str.ofString "none") : D) = .str (Hg.s .none) := rfl
theorem strTo : (.str (Str.ofString "torn") : D) = .str (Hg.s .torn) := rfl
theorem strWh : (.str (Str.ofString "whole") : D) = .str (Hg.s .whole) := rfl
theorem c_QUIET_eq : c_QUIET = .str (modeS false) := rfl
theorem c_SPEAKS_eq : c_SPEAKS = .str (modeS true) := rfl
theorem c_HEARINGS_eq : c_HEARINGS = .tuple [.str (Hg.s .none), .str (Hg.s .torn), .str (Hg.s .whole)] := rfl
@[simp] theorem eqMode {a b : Bool} : dEq (.str (modeS a)) (.str (modeS b)) = some (.bool (decide (a = b))) := by rw [eqS ok_mode ok_mode]; simp
@[simp] theorem eqHg {a b : Hg} : dEq (.str a.s) (.str b.s) = some (.bool (decide (a = b))) := by rw [eqS ok_hg ok_hg]; simp
def mode? (x : Str) : Option Bool := if x = modeS false then some false else if x = modeS true then some true else none
def hg? (x : Str) : Option Hg := if x = Hg.s .none then some .none else if x = Hg.s .torn then some .torn else if x = Hg.s .whole then some .whole else none
theorem mode_some {x : Str} {b : Bool} (h : mode? x = some b) : x = modeS b := by
  unfold mode? at h; split at h
  · cases h; assumption
  · split at h
    · cases h; assumption
    · cases h
theorem hg_some {x : Str} {g : Hg} (h : hg? x = some g) : x = g.s := by
  unfold hg? at h; split at h
  · cases h; assumption
  · split at h
    · cases h; assumption
    · split at h
      · cases h; assumption
      · cases h
@[simp] theorem mode_of {b : Bool} : mode? (modeS b) = some b := by cases b <;> simp [mode?]
@[simp] theorem hg_of {g : Hg} : hg? g.s = some g := by cases g <;> simp [hg?]
theorem inMode {neg : Bool} {x : Str} : dIn neg (.str x) (.tuple [.str (modeS false), .str (modeS true)]) = some (.bool (neg ^^ (mode? x).isSome)) := by
  refine orE_some ?_
  simp only [fIn, flatD, List.all_cons, List.all_nil, Bool.and_self, if_pos, List.any_cons, List.any_nil, PyData.eqv, Bool.or_false, Bool.beq_eq_decide_eq]
  unfold mode?
  by_cases h1 : x = modeS false
  · simp [h1]
  · by_cases h2 : x = modeS true
    · simp [h2]
    · simp [h1, h2, Ne.symm h1, Ne.symm h2]
theorem inModeL {neg : Bool} {x : Str} : dIn neg (.str x) (.list [.str (modeS false), .str (modeS true)]) = some (.bool (neg ^^ (mode? x).isSome)) := by
  refine Eq.trans ?_ (inMode (neg := neg) (x := x))
  refine (orE_some (z := .bool (neg ^^ (mode? x).isSome)) ?_).trans inMode.symm
  have := inMode (neg := neg) (x := x)
  simpa [dIn, orE, fIn, flatD] using this
theorem inHg {neg : Bool} {x : Str} : dIn neg (.str x) (.tuple [.str (Hg.s .none), .str (Hg.s .torn), .str (Hg.s .whole)]) = some (.bool (neg ^^ (hg? x).isSome)) := by
  refine orE_some ?_
  simp only [fIn, flatD, List.all_cons, List.all_nil, Bool.and_self, if_pos, List.any_cons, List.any_nil, PyData.eqv, Bool.or_false, Bool.beq_eq_decide_eq]
  unfold hg?
  by_cases h1 : x = Hg.s .none
  · simp [h1]
  · by_cases h2 : x = Hg.s .torn
    · simp [h2]
    · by_cases h3 : x = Hg.s .whole
      · simp [h3]
      · simp [h1, h2, h3, Ne.symm h1, Ne.symm h2, Ne.symm h3]
theorem inHgL {neg : Bool} {x : Str} : dIn neg (.str x) (.list [.str (Hg.s .none), .str (Hg.s .torn), .str (Hg.s .whole)]) = some (.bool (neg ^^ (hg? x).isSome)) := by
  refine (orE_some (z := .bool (neg ^^ (hg? x).isSome)) ?_)
  have := inHg (neg := neg) (x := x)
  simpa [dIn, orE, fIn, flatD] using this

/-! ### parts -/
def partB (h : Hab) (v : D) : Prop := ∃ p : Prt, p.Ok h ∧ v = p.d
open Classical in
theorem is_part_eq (h : Hab) (v : D) : F_is_part [h.d, v] = some (.bool (decide (partB h v))) := by
  have no : ∀ v, ¬ partB h v → decide (partB h v) = false := fun v h => decide_eq_false h
  rcases isN3_or v with ⟨a, b, c, rfl⟩ | h3
  · cases ha : Ty5.is .str a
    · rw [no _ (by rintro ⟨p, _, e⟩; cases e; cases ha)]
      cases hc : Ty5.is .str c <;> simp [F_is_part, B_is_part, callD, callB, callO, args0, sSeq, sIf, sRet, sRetN, sRetO, sDrop, sAsg, sPar, sNx, sBk, sCt, sNever, eVar, eC, e1, e2, eIf, asB, eAnd, eOr, tAndM, tOrM, dNot, tNotB, aNil, aCons, mkT_ok, mkL_ok, gName, gsNil, gsCons, gTup, gLst, eChain, oNone, oSome, eSl, dIsi, dIsi2, tYesM, most, eLc, okW, isOl, lcGo, wipeR, restR, fAll, boolsD, sFor, forGo, ha, hc]
    cases hc : Ty5.is .str c
    · rw [no _ (by rintro ⟨p, _, e⟩; cases e; cases hc)]
      simp [F_is_part, B_is_part, callD, callB, callO, args0, sSeq, sIf, sRet, sRetN, sRetO, sDrop, sAsg, sPar, sNx, sBk, sCt, sNever, eVar, eC, e1, e2, eIf, asB, eAnd, eOr, tAndM, tOrM, dNot, tNotB, aNil, aCons, mkT_ok, mkL_ok, gName, gsNil, gsCons, gTup, gLst, eChain, oNone, oSome, eSl, dIsi, dIsi2, tYesM, most, eLc, okW, isOl, lcGo, wipeR, restR, fAll, boolsD, sFor, forGo, ha, hc]
    cases a <;> simp at ha
    cases c <;> simp at hc
    rename_i x y
    cases hy : hg? y with
    | none =>
      rw [no _ (by rintro ⟨p, _, e⟩; cases e; simp at hy)]
      simp [F_is_part, B_is_part, callD, callB, callO, args0, sSeq, sIf, sRet, sRetN, sRetO, sDrop, sAsg, sPar, sNx, sBk, sCt, sNever, eVar, eC, e1, e2, eIf, asB, eAnd, eOr, tAndM, tOrM, dNot, tNotB, aNil, aCons, mkT_ok, mkL_ok, gName, gsNil, gsCons, gTup, gLst, eChain, oNone, oSome, eSl, dIsi, dIsi2, tYesM, most, eLc, okW, isOl, lcGo, wipeR, restR, fAll, boolsD, sFor, forGo, inHg, inMode, hy, c_QUIET_eq, c_SPEAKS_eq, c_HEARINGS_eq]
    | some g =>
      cases hx : mode? x with
      | none =>
        rw [no _ (by rintro ⟨p, _, e⟩; cases e; simp at hx)]
        simp [F_is_part, B_is_part, callD, callB, callO, args0, sSeq, sIf, sRet, sRetN, sRetO, sDrop, sAsg, sPar, sNx, sBk, sCt, sNever, eVar, eC, e1, e2, eIf, asB, eAnd, eOr, tAndM, tOrM, dNot, tNotB, aNil, aCons, mkT_ok, mkL_ok, gName, gsNil, gsCons, gTup, gLst, eChain, oNone, oSome, eSl, dIsi, dIsi2, tYesM, most, eLc, okW, isOl, lcGo, wipeR, restR, fAll, boolsD, sFor, forGo, inHg, inMode, hx, hy, c_QUIET_eq, c_SPEAKS_eq, c_HEARINGS_eq]
      | some m =>
        have e1' := mode_some hx
        have e2' := hg_some hy
        subst e1' e2'
        cases m
        · simp [F_is_part, B_is_part, callD, callB, callO, args0, sSeq, sIf, sRet, sRetN, sRetO, sDrop, sAsg, sPar, sNx, sBk, sCt, sNever, eVar, eC, e1, e2, eIf, asB, eAnd, eOr, tAndM, tOrM, dNot, tNotB, aNil, aCons, mkT_ok, mkL_ok, gName, gsNil, gsCons, gTup, gLst, eChain, oNone, oSome, eSl, dIsi, dIsi2, tYesM, most, eLc, okW, isOl, lcGo, wipeR, restR, fAll, boolsD, sFor, forGo, inHg, inMode, hx, hy, c_QUIET_eq, c_SPEAKS_eq, c_HEARINGS_eq, Hab.d]
          rw [Bool.eq_iff_iff, decide_eq_true_iff]
          constructor
          · intro q
            obtain ⟨i, rfl, h1, h2⟩ := inB_some q
            exact ⟨⟨false, i, g⟩, ⟨h1, h2⟩, rfl⟩
          · rintro ⟨p, o, e⟩
            simp only [Prt.d, PyData.tuple.injEq, List.cons.injEq, PyData.str.injEq, mode_inj] at e
            obtain ⟨e1', rfl, e3⟩ := e
            unfold Prt.Ok at o
            rw [← e1'] at o
            simpa using o
        · simp [F_is_part, B_is_part, callD, callB, callO, args0, sSeq, sIf, sRet, sRetN, sRetO, sDrop, sAsg, sPar, sNx, sBk, sCt, sNever, eVar, eC, e1, e2, eIf, asB, eAnd, eOr, tAndM, tOrM, dNot, tNotB, aNil, aCons, mkT_ok, mkL_ok, gName, gsNil, gsCons, gTup, gLst, eChain, oNone, oSome, eSl, dIsi, dIsi2, tYesM, most, eLc, okW, isOl, lcGo, wipeR, restR, fAll, boolsD, sFor, forGo, inHg, inMode, hx, hy, c_QUIET_eq, c_SPEAKS_eq, c_HEARINGS_eq, Hab.d]
          rw [Bool.eq_iff_iff, decide_eq_true_iff]
          constructor
          · intro q
            obtain ⟨i, rfl, h1, h2⟩ := inB_some q
            exact ⟨⟨true, i, g⟩, ⟨h1, h2⟩, rfl⟩
          · rintro ⟨p, o, e⟩
            simp only [Prt.d, PyData.tuple.injEq, List.cons.injEq, PyData.str.injEq, mode_inj] at e
            obtain ⟨e1', rfl, e3⟩ := e
            unfold Prt.Ok at o
            rw [← e1'] at o
            simpa using o
  · rw [no _ (by rintro ⟨p, _, e⟩; subst e; cases h3)]
    cases v with
    | tuple ds =>
      simp [isN] at h3
      have : ds.length ≠ 3 := by omega
      simp [F_is_part, B_is_part, callD, callB, callO, args0, sSeq, sIf, sRet, sRetN, sRetO, sDrop, sAsg, sPar, sNx, sBk, sCt, sNever, eVar, eC, e1, e2, eIf, asB, eAnd, eOr, tAndM, tOrM, dNot, tNotB, aNil, aCons, mkT_ok, mkL_ok, gName, gsNil, gsCons, gTup, gLst, eChain, oNone, oSome, eSl, dIsi, dIsi2, tYesM, h3, this]
    | _ => simp [F_is_part, B_is_part, callD, callB, callO, args0, sSeq, sIf, sRet, sRetN, sRetO, sDrop, sAsg, sPar, sNx, sBk, sCt, sNever, eVar, eC, e1, e2, eIf, asB, eAnd, eOr, tAndM, tOrM, dNot, tNotB, aNil, aCons, mkT_ok, mkL_ok, gName, gsNil, gsCons, gTup, gLst, eChain, oNone, oSome, eSl, dIsi, dIsi2, tYesM]
/-! ### comprehensions, loops -/
theorem lc_gen {t : D → Rho → Option Rho} {c : M Bool} {e : M D} {vs : List Nat} {ρ : Rho} (p : D → Bool) (g : D → D) : ∀ {ds : List D},
    (∀ d ∈ ds, ∃ ρ1 ρ2, t d ρ = some ρ1 ∧ c ρ1 = some (p d, ρ2) ∧ (p d = false → wipeR ρ2 vs = ρ) ∧ (p d = true → ∃ ρ3, e ρ2 = some (g d, ρ3) ∧ wipeR ρ3 vs = ρ)) →
    lcGo t c e vs ds ρ = some ((ds.filter p).map g, ρ)
  | [], _ => rfl
  | d :: ds, h => by
    have ih := lc_gen (t := t) (c := c) (e := e) (vs := vs) (ρ := ρ) p g (ds := ds) fun x hx => h x (.tail _ hx)
    obtain ⟨ρ1, ρ2, h1, h2, h3, h4⟩ := h d (.head _)
    unfold lcGo
    rw [h1]
    simp only [h2]
    cases hp : p d with
    | false =>
      simp only [h3 hp]
      rw [ih, List.filter_cons_of_neg (by simp [hp])]
    | true =>
      obtain ⟨ρ3, h5, h6⟩ := h4 hp
      simp only [h5, h6, ih]
      rw [List.filter_cons_of_pos hp]
      rfl
theorem lc_map {t : D → Rho → Option Rho} {c : M Bool} {e : M D} {vs : List Nat} {ρ : Rho} (g : D → D) {ds : List D}
    (h : ∀ d ∈ ds, ∃ ρ1 ρ2 ρ3, t d ρ = some ρ1 ∧ c ρ1 = some (true, ρ2) ∧ e ρ2 = some (g d, ρ3) ∧ wipeR ρ3 vs = ρ) :
    lcGo t c e vs ds ρ = some (ds.map g, ρ) := by
  have := lc_gen (t := t) (c := c) (e := e) (vs := vs) (ρ := ρ) (fun _ => true) g (ds := ds) fun d hd => by
    obtain ⟨ρ1, ρ2, ρ3, h1, h2, h3, h4⟩ := h d hd
    exact ⟨ρ1, ρ2, h1, h2, (fun z => by cases z), fun _ => ⟨ρ3, h3, h4⟩⟩
  rw [this, List.filter_eq_self.mpr (fun _ _ => rfl)]
theorem bools_map (p : D → Bool) : ∀ ds : List D, boolsD (ds.map fun d => .bool (p d)) = some (ds.map p)
  | [] => rfl
  | d :: ds => by simp [boolsD, bools_map p ds]
theorem neNil {ds : List D} (h : PyData.canLayAll0 ds = true) : dNe (.list ds) (.list []) = some (.bool (!ds.isEmpty)) := by
  unfold dNe okEq
  rw [if_pos (by simp [PyData.canLay0, h, PyData.canLayAll0, PyData.depth, PyData.depthAll])]
  cases ds <;> simp [PyData.eqv, PyData.eqvAll]
theorem eqNil {ds : List D} (h : PyData.canLayAll0 ds = true) : dEq (.list ds) (.list []) = some (.bool ds.isEmpty) := by
  unfold dEq okEq
  rw [if_pos (by simp [PyData.canLay0, h, PyData.canLayAll0, PyData.depth, PyData.depthAll])]
  cases ds <;> simp [PyData.eqv, PyData.eqvAll]
theorem lay_ones (ds : List D) : PyData.canLayAll0 (ds.map fun _ => .int 1) = true := by
  induction ds with
  | nil => rfl
  | cons d ds ih => simp [PyData.canLayAll0, PyData.canLay0, ih]

/-! ### lines -/
def lineB (n : Int) (v : D) : Prop := ∃ l : List Int, lineOk n l ∧ v = lineD l
theorem all_inB {lo hi : Int} : ∀ ds : List D, (ds.all (inB lo hi) = true) ↔ ∃ l : List Int, ds = l.map .int ∧ ∀ i ∈ l, lo ≤ i ∧ i ≤ hi
  | [] => ⟨fun _ => ⟨[], rfl, by simp⟩, fun _ => rfl⟩
  | d :: ds => by
    rw [List.all_cons, Bool.and_eq_true, all_inB ds]
    constructor
    · rintro ⟨h1, l, rfl, h2⟩
      obtain ⟨i, rfl, h3⟩ := inB_some h1
      exact ⟨i :: l, rfl, by simpa using ⟨h3, h2⟩⟩
    · rintro ⟨l, e, h⟩
      cases l with
      | nil => cases e
      | cons i l =>
        simp only [List.map_cons, List.cons.injEq] at e
        obtain ⟨rfl, rfl⟩ := e
        have h0 := h i (.head _)
        exact ⟨by simp [h0.1, h0.2], l, rfl, fun j hj => h j (.tail _ hj)⟩
theorem lineB_iff {n : Int} {v : D} : lineB n v ↔ ∃ ds, v = .tuple ds ∧ (ds.length : Int) = n ∧ ds.all (inB 0 3) = true := by
  constructor
  · rintro ⟨l, ⟨h1, h2⟩, rfl⟩
    exact ⟨l.map .int, rfl, by simpa using h1, (all_inB _).mpr ⟨l, rfl, h2⟩⟩
  · rintro ⟨ds, rfl, h1, h2⟩
    obtain ⟨l, rfl, h3⟩ := (all_inB _).mp h2
    exact ⟨l, ⟨by simpa using h1, h3⟩, rfl⟩
open Classical in
theorem is_line_eq (n : Int) (hn : n ≤ 100000) (v : D) : F_is_line [.int n, v] = some (.bool (decide (lineB n v))) := by
  have no : ∀ v, ¬ lineB n v → decide (lineB n v) = false := fun v h => decide_eq_false h
  cases v with
  | tuple ds =>
    by_cases hl : (ds.length : Int) = n
    · have h1 : ds.length ≤ most := by unfold most; omega
      have e := lc_map (t := gName 2) (c := tYesM) (e := e1 F_is_within (aCons (eVar 2) (aCons (eC (.int 0)) (aCons (eC (.int 3)) aNil)))) (vs := [2]) (ρ := [some (.dat (.int n)), some (.dat (.tuple ds)), none]) (fun d => .bool (inB 0 3 d)) (ds := ds)
        (fun d _ => ⟨_, _, _, rfl, rfl, by simp [callD, callB, callO, args0, sSeq, sIf, sRet, sRetN, sRetO, sDrop, sAsg, sPar, sNx, sBk, sCt, sNever, eVar, eC, e1, e2, eIf, asB, eAnd, eOr, tAndM, tOrM, dNot, tNotB, aNil, aCons, mkT_ok, mkL_ok, gName, gsNil, gsCons, gTup, gLst, eChain, oNone, oSome, eSl, dIsi, dIsi2, tYesM]; rfl, rfl⟩)
      have k2 : lineB n (.tuple ds) ↔ ds.all (inB 0 3) = true := by
        rw [lineB_iff]
        exact ⟨fun ⟨es, q, _, h⟩ => by cases q; exact h, fun h => ⟨ds, rfl, hl, h⟩⟩
      rw [show decide (lineB n (.tuple ds)) = ds.all (inB 0 3) from by rw [Bool.eq_iff_iff, decide_eq_true_iff, k2]]
      simp [F_is_line, B_is_line, callD, callB, callO, args0, sSeq, sIf, sRet, sRetN, sRetO, sDrop, sAsg, sPar, sNx, sBk, sCt, sNever, eVar, eC, e1, e2, eIf, asB, eAnd, eOr, tAndM, tOrM, dNot, tNotB, aNil, aCons, mkT_ok, mkL_ok, gName, gsNil, gsCons, gTup, gLst, eChain, oNone, oSome, eSl, dIsi, dIsi2, tYesM, hl, eLc, okW, isOl, wipeR, restR, e, h1, fAll, bools_map]
    · rw [no _ (by rintro ⟨l, ⟨q, _⟩, e⟩; cases e; exact hl (by simpa using q))]
      simp [F_is_line, B_is_line, callD, callB, callO, args0, sSeq, sIf, sRet, sRetN, sRetO, sDrop, sAsg, sPar, sNx, sBk, sCt, sNever, eVar, eC, e1, e2, eIf, asB, eAnd, eOr, tAndM, tOrM, dNot, tNotB, aNil, aCons, mkT_ok, mkL_ok, gName, gsNil, gsCons, gTup, gLst, eChain, oNone, oSome, eSl, dIsi, dIsi2, tYesM, hl]
  | _ => 
    rw [no _ (by rintro ⟨l, _, e⟩; cases e)]
    simp [F_is_line, B_is_line, callD, callB, callO, args0, sSeq, sIf, sRet, sRetN, sRetO, sDrop, sAsg, sPar, sNx, sBk, sCt, sNever, eVar, eC, e1, e2, eIf, asB, eAnd, eOr, tAndM, tOrM, dNot, tNotB, aNil, aCons, mkT_ok, mkL_ok, gName, gsNil, gsCons, gTup, gLst, eChain, oNone, oSome, eSl, dIsi, dIsi2, tYesM]
/-! ### stands, whole -/
theorem law_line_eq (n : Int) (v : D) (lo hi : Int) (x0 x1 x2 x3 x4 x5 : Option SV) (ds : List D) :
    lcGo (gName 7) (e1 tNotB (e1 asB (e1 F__law_int (aCons (eVar 7) (aCons (eC (.int lo)) (aCons (eC (.int hi)) aNil)))))) (eC (.int 1)) [7] ds [x0, x1, x2, x3, x4, x5, some (.dat v), none] = some ((ds.filter fun d => !inB lo hi d).map fun _ => .int 1, [x0, x1, x2, x3, x4, x5, some (.dat v), none]) :=
  lc_gen (fun d => !inB lo hi d) (fun _ => .int 1) fun d _ => ⟨_, _, rfl, by simp [callD, callB, callO, args0, sSeq, sIf, sRet, sRetN, sRetO, sDrop, sAsg, sPar, sNx, sBk, sCt, sNever, eVar, eC, e1, e2, eIf, asB, eAnd, eOr, tAndM, tOrM, dNot, tNotB, aNil, aCons, mkT_ok, mkL_ok, gName, gsNil, gsCons, gTup, gLst, eChain, oNone, oSome, eSl, dIsi, dIsi2, tYesM]; rfl, fun _ => rfl, fun _ => ⟨_, rfl, rfl⟩⟩
theorem filter_len (p : D → Bool) (ds : List D) : ((ds.filter p).map fun _ => (.int 1 : D)).isEmpty = ds.all fun d => !p d := by
  induction ds with
  | nil => rfl
  | cons d ds ih =>
    cases h : p d
    · rw [List.filter_cons_of_neg (by simp [h]), ih]; simp [h]
    · rw [List.filter_cons_of_pos h]; simp [h]
open Classical in
/-- the row of the second loop: a line is judged -/
theorem gs_line (n : Int) (hn : n ≤ 100000) (v : D) (x0 x1 x2 x3 x4 x7 : Option SV) (h7 : x7 = none ∨ ∃ d, x7 = some (.dat d)) :
    L__law_good_stand_1 [x0, x1, x2, x3, x4, some (.dat (.int n)), some (.dat v), x7]
     = some (if lineB n v then (.nx, [x0, x1, x2, x3, x4, some (.dat (.int n)), some (.dat v), x7]) else (.rt (.bool false), [x0, x1, x2, x3, x4, some (.dat (.int n)), some (.dat v), x7])) := by
  cases hm : isN n v
  · rw [if_neg (by rintro ⟨l, ⟨q, _⟩, rfl⟩; simp [isN, lineD, q] at hm)]
    simp [L__law_good_stand_1, callD, callB, callO, args0, sSeq, sIf, sRet, sRetN, sRetO, sDrop, sAsg, sPar, sNx, sBk, sCt, sNever, eVar, eC, e1, e2, eIf, asB, eAnd, eOr, tAndM, tOrM, dNot, tNotB, aNil, aCons, mkT_ok, mkL_ok, gName, gsNil, gsCons, gTup, gLst, eChain, oNone, oSome, eSl, dIsi, dIsi2, tYesM, hm]
  · cases v <;> simp [isN] at hm
    rename_i ds
    have k1 := law_line_eq n (.tuple ds) 0 3 x0 x1 x2 x3 x4 (some (.dat (.int n))) ds
    have hl : (ds.filter fun d => !inB 0 3 d).length ≤ most := by
      have := List.length_filter_le (fun d => !inB 0 3 d) ds
      unfold most; omega
    have k2 := neNil (lay_ones (ds.filter fun d => !inB 0 3 d))
    rw [filter_len] at k2
    have k3 : lineB n (.tuple ds) ↔ ds.all (inB 0 3) = true := by
      rw [lineB_iff]
      exact ⟨fun ⟨es, q, _, h⟩ => by cases q; exact h, fun h => ⟨ds, rfl, hm, h⟩⟩
    have k4 : (ds.all fun d => !!inB 0 3 d) = ds.all (inB 0 3) := by simp
    rw [k4] at k2
    simp only [k3]
    rcases h7 with rfl | ⟨d7, rfl⟩ <;>
    cases hb : ds.all (inB 0 3) <;> rw [hb] at k2 <;> simp [L__law_good_stand_1, callD, callB, callO, args0, sSeq, sIf, sRet, sRetN, sRetO, sDrop, sAsg, sPar, sNx, sBk, sCt, sNever, eVar, eC, e1, e2, eIf, asB, eAnd, eOr, tAndM, tOrM, dNot, tNotB, aNil, aCons, mkT_ok, mkL_ok, gName, gsNil, gsCons, gTup, gLst, eChain, oNone, oSome, eSl, dIsi, dIsi2, tYesM, isN, hm, eLc, okW, wipeR, restR, k1, k2, hl]
open Classical in
/-- the row of the first loop: a part is judged -/
theorem gs_part (h : Hab) (v : D) (x0 x1 x4 x5 x6 x7 : Option SV) : ∃ x4',
    L__law_good_stand_0 [x0, x1, some (.dat h.d), some (.dat v), x4, x5, x6, x7] = some (if partB h v then (.nx, [x0, x1, some (.dat h.d), some (.dat v), x4', x5, x6, x7]) else (.rt (.bool false), [x0, x1, some (.dat h.d), some (.dat v), x4', x5, x6, x7])) := by
  rcases isN3_or v with ⟨a, b, c, rfl⟩ | h3
  · cases ha : Ty5.is .str a
    · refine ⟨x4, ?_⟩
      rw [if_neg (by rintro ⟨p, _, e⟩; cases e; cases ha)]
      simp [L__law_good_stand_0, callD, callB, callO, args0, sSeq, sIf, sRet, sRetN, sRetO, sDrop, sAsg, sPar, sNx, sBk, sCt, sNever, eVar, eC, e1, e2, eIf, asB, eAnd, eOr, tAndM, tOrM, dNot, tNotB, aNil, aCons, mkT_ok, mkL_ok, gName, gsNil, gsCons, gTup, gLst, eChain, oNone, oSome, eSl, dIsi, dIsi2, tYesM, ha]
    cases hc : Ty5.is .str c
    · refine ⟨x4, ?_⟩
      rw [if_neg (by rintro ⟨p, _, e⟩; cases e; cases hc)]
      simp [L__law_good_stand_0, callD, callB, callO, args0, sSeq, sIf, sRet, sRetN, sRetO, sDrop, sAsg, sPar, sNx, sBk, sCt, sNever, eVar, eC, e1, e2, eIf, asB, eAnd, eOr, tAndM, tOrM, dNot, tNotB, aNil, aCons, mkT_ok, mkL_ok, gName, gsNil, gsCons, gTup, gLst, eChain, oNone, oSome, eSl, dIsi, dIsi2, tYesM, ha, hc]
    cases a <;> simp at ha
    cases c <;> simp at hc
    rename_i x y
    cases hx : mode? x with
    | none =>
      refine ⟨x4, ?_⟩
      rw [if_neg (by rintro ⟨p, _, e⟩; cases e; simp at hx)]
      simp [L__law_good_stand_0, callD, callB, callO, args0, sSeq, sIf, sRet, sRetN, sRetO, sDrop, sAsg, sPar, sNx, sBk, sCt, sNever, eVar, eC, e1, e2, eIf, asB, eAnd, eOr, tAndM, tOrM, dNot, tNotB, aNil, aCons, mkT_ok, mkL_ok, gName, gsNil, gsCons, gTup, gLst, eChain, oNone, oSome, eSl, dIsi, dIsi2, tYesM, inHgL, inModeL, hx, strQ, strP, strNo, strTo, strWh]
    | some m =>
      cases hy : hg? y with
      | none =>
        refine ⟨x4, ?_⟩
        rw [if_neg (by rintro ⟨p, _, e⟩; cases e; simp at hy)]
        simp [L__law_good_stand_0, callD, callB, callO, args0, sSeq, sIf, sRet, sRetN, sRetO, sDrop, sAsg, sPar, sNx, sBk, sCt, sNever, eVar, eC, e1, e2, eIf, asB, eAnd, eOr, tAndM, tOrM, dNot, tNotB, aNil, aCons, mkT_ok, mkL_ok, gName, gsNil, gsCons, gTup, gLst, eChain, oNone, oSome, eSl, dIsi, dIsi2, tYesM, inHgL, inModeL, hx, hy, strQ, strP, strNo, strTo, strWh]
      | some g =>
        have k1 := mode_some hx
        have k2 := hg_some hy
        subst k1 k2
        cases m
        · refine ⟨some (.dat (.tuple [.int 0, .int h.w1])), ?_⟩
          have k3 : partB h (.tuple [.str (modeS false), b, .str g.s]) ↔ inB 0 h.w1 b = true := by
            constructor
            · rintro ⟨p, o, q⟩
              simp only [Prt.d, PyData.tuple.injEq, List.cons.injEq, PyData.str.injEq, mode_inj] at q
              obtain ⟨q1, rfl, q3⟩ := q
              unfold Prt.Ok at o
              rw [← q1] at o
              simpa using o
            · intro q
              obtain ⟨i, rfl, h1, h2⟩ := inB_some q
              exact ⟨⟨false, i, g⟩, ⟨h1, h2⟩, rfl⟩
          simp only [k3]
          cases hb : inB 0 h.w1 b <;> simp [L__law_good_stand_0, callD, callB, callO, args0, sSeq, sIf, sRet, sRetN, sRetO, sDrop, sAsg, sPar, sNx, sBk, sCt, sNever, eVar, eC, e1, e2, eIf, asB, eAnd, eOr, tAndM, tOrM, dNot, tNotB, aNil, aCons, mkT_ok, mkL_ok, gName, gsNil, gsCons, gTup, gLst, eChain, oNone, oSome, eSl, dIsi, dIsi2, tYesM, inHgL, inModeL, hx, hy, strQ, strP, strNo, strTo, strWh, Hab.d, hb]
        · refine ⟨some (.dat (.tuple [.int 1, .int (h.s1 - 1)])), ?_⟩
          have k3 : partB h (.tuple [.str (modeS true), b, .str g.s]) ↔ inB 1 (h.s1 - 1) b = true := by
            constructor
            · rintro ⟨p, o, q⟩
              simp only [Prt.d, PyData.tuple.injEq, List.cons.injEq, PyData.str.injEq, mode_inj] at q
              obtain ⟨q1, rfl, q3⟩ := q
              unfold Prt.Ok at o
              rw [← q1] at o
              simpa using o
            · intro q
              obtain ⟨i, rfl, h1, h2⟩ := inB_some q
              exact ⟨⟨true, i, g⟩, ⟨h1, h2⟩, rfl⟩
          simp only [k3]
          cases hb : inB 1 (h.s1 - 1) b <;> simp [L__law_good_stand_0, callD, callB, callO, args0, sSeq, sIf, sRet, sRetN, sRetO, sDrop, sAsg, sPar, sNx, sBk, sCt, sNever, eVar, eC, e1, e2, eIf, asB, eAnd, eOr, tAndM, tOrM, dNot, tNotB, aNil, aCons, mkT_ok, mkL_ok, gName, gsNil, gsCons, gTup, gLst, eChain, oNone, oSome, eSl, dIsi, dIsi2, tYesM, inHgL, inModeL, hx, hy, strQ, strP, strNo, strTo, strWh, Hab.d, hb]
  · refine ⟨x4, ?_⟩
    rw [if_neg (by rintro ⟨p, _, e⟩; subst e; cases h3)]
    simp [L__law_good_stand_0, callD, callB, callO, args0, sSeq, sIf, sRet, sRetN, sRetO, sDrop, sAsg, sPar, sNx, sBk, sCt, sNever, eVar, eC, e1, e2, eIf, asB, eAnd, eOr, tAndM, tOrM, dNot, tNotB, aNil, aCons, mkT_ok, mkL_ok, gName, gsNil, gsCons, gTup, gLst, eChain, oNone, oSome, eSl, dIsi, dIsi2, tYesM, h3]
def standB (p : Pln) (v : D) : Prop := ∃ s : Std, s.Ok p ∧ v = s.d
theorem standB_iff {p : Pln} {a b l m : D} : standB p (.tuple [.tuple [a, b], .tuple [l, m]]) ↔ partB p.a a ∧ partB p.b b ∧ lineB p.x l ∧ lineB p.y m := by
  constructor
  · rintro ⟨s, o, e⟩
    simp only [Std.d, PyData.tuple.injEq, List.cons.injEq] at e
    obtain ⟨⟨rfl, rfl, -⟩, ⟨rfl, rfl, -⟩, -⟩ := e
    exact ⟨⟨_, o.okp, rfl⟩, ⟨_, o.okq, rfl⟩, ⟨_, o.okl, rfl⟩, ⟨_, o.okm, rfl⟩⟩
  · rintro ⟨⟨p1, o1, rfl⟩, ⟨p2, o2, rfl⟩, ⟨l1, o3, rfl⟩, ⟨l2, o4, rfl⟩⟩
    exact ⟨⟨p1, p2, l1, l2⟩, ⟨o1, o2, o3, o4⟩, rfl⟩
theorem standB_no1 {p : Pln} {v : D} (h : isN 2 v = false) : ¬ standB p v := by
  rintro ⟨s, o, rfl⟩; cases h
theorem standB_no2 {p : Pln} {a b : D} (h : isN 2 a = false) : ¬ standB p (.tuple [a, b]) := by
  rintro ⟨s, o, e⟩; cases e; cases h
theorem standB_no3 {p : Pln} {a b : D} (h : isN 2 b = false) : ¬ standB p (.tuple [a, b]) := by
  rintro ⟨s, o, e⟩; cases e; cases h
theorem planD {p : Pln} : p.d = .tuple [.tuple [p.a.d, p.b.d], .tuple [.int p.x, .int p.y], .bool p.ov] := rfl
open Classical in
theorem law_good_stand_eq {p : Pln} (o : p.Sh) (v : D) : F__law_good_stand [p.d, v] = some (.bool (decide (standB p v))) := by
  have no : ∀ v, ¬ standB p v → decide (standB p v) = false := fun v h => decide_eq_false h
  have hx : p.x ≤ 100000 := Int.le_trans o.x2 (by decide)
  have hy : p.y ≤ 100000 := Int.le_trans o.y2 (by decide)
  rw [planD]
  rcases isN2_or v with ⟨A, B, rfl⟩ | h
  · rcases isN2_or A with ⟨a, b, rfl⟩ | hA
    · rcases isN2_or B with ⟨l, m, rfl⟩ | hB
      · obtain ⟨y1, k1⟩ := gs_part p.a a (some (.dat p.d)) (some (.dat (.tuple [.tuple [a, b], .tuple [l, m]]))) none none none none
        obtain ⟨y2, k2⟩ := gs_part p.b b (some (.dat p.d)) (some (.dat (.tuple [.tuple [a, b], .tuple [l, m]]))) y1 none none none
        have k3 := gs_line p.x hx l (some (.dat p.d)) (some (.dat (.tuple [.tuple [a, b], .tuple [l, m]]))) (some (.dat p.b.d)) (some (.dat b)) y2 none (.inl rfl)
        have k4 := gs_line p.y hy m (some (.dat p.d)) (some (.dat (.tuple [.tuple [a, b], .tuple [l, m]]))) (some (.dat p.b.d)) (some (.dat b)) y2 none (.inl rfl)
        rw [planD] at k1 k2 k3 k4
        have k5 : decide (standB p (.tuple [.tuple [a, b], .tuple [l, m]])) = (decide (partB p.a a) && decide (partB p.b b) && decide (lineB p.x l) && decide (lineB p.y m)) := by
          rw [Bool.eq_iff_iff]
          simp only [decide_eq_true_iff, Bool.and_eq_true, standB_iff, and_assoc]
        rw [k5]
        by_cases c1 : partB p.a a
        · by_cases c2 : partB p.b b
          · by_cases c3 : lineB p.x l
            · by_cases c4 : lineB p.y m <;> simp only [c1, c2, c3, c4, if_true, if_false] at k1 k2 k3 k4 <;> simp [F__law_good_stand, B__law_good_stand, callD, callB, callO, args0, sSeq, sIf, sRet, sRetN, sRetO, sDrop, sAsg, sPar, sNx, sBk, sCt, sNever, eVar, eC, e1, e2, eIf, asB, eAnd, eOr, tAndM, tOrM, dNot, tNotB, aNil, aCons, mkT_ok, mkL_ok, gName, gsNil, gsCons, gTup, gLst, eChain, oNone, oSome, eSl, dIsi, dIsi2, tYesM, sFor, forGo, c1, c2, c3, c4, k1, k2, k3, k4]
            · simp only [c1, c2, c3, if_true, if_false] at k1 k2 k3
              simp [F__law_good_stand, B__law_good_stand, callD, callB, callO, args0, sSeq, sIf, sRet, sRetN, sRetO, sDrop, sAsg, sPar, sNx, sBk, sCt, sNever, eVar, eC, e1, e2, eIf, asB, eAnd, eOr, tAndM, tOrM, dNot, tNotB, aNil, aCons, mkT_ok, mkL_ok, gName, gsNil, gsCons, gTup, gLst, eChain, oNone, oSome, eSl, dIsi, dIsi2, tYesM, sFor, forGo, c1, c2, c3, k1, k2, k3]
          · simp only [c1, c2, if_true, if_false] at k1 k2
            simp [F__law_good_stand, B__law_good_stand, callD, callB, callO, args0, sSeq, sIf, sRet, sRetN, sRetO, sDrop, sAsg, sPar, sNx, sBk, sCt, sNever, eVar, eC, e1, e2, eIf, asB, eAnd, eOr, tAndM, tOrM, dNot, tNotB, aNil, aCons, mkT_ok, mkL_ok, gName, gsNil, gsCons, gTup, gLst, eChain, oNone, oSome, eSl, dIsi, dIsi2, tYesM, sFor, forGo, c1, c2, k1, k2]
        · simp only [c1, if_true, if_false] at k1
          simp [F__law_good_stand, B__law_good_stand, callD, callB, callO, args0, sSeq, sIf, sRet, sRetN, sRetO, sDrop, sAsg, sPar, sNx, sBk, sCt, sNever, eVar, eC, e1, e2, eIf, asB, eAnd, eOr, tAndM, tOrM, dNot, tNotB, aNil, aCons, mkT_ok, mkL_ok, gName, gsNil, gsCons, gTup, gLst, eChain, oNone, oSome, eSl, dIsi, dIsi2, tYesM, sFor, forGo, c1, k1]
      · rw [no _ (standB_no3 hB)]
        simp [F__law_good_stand, B__law_good_stand, callD, callB, callO, args0, sSeq, sIf, sRet, sRetN, sRetO, sDrop, sAsg, sPar, sNx, sBk, sCt, sNever, eVar, eC, e1, e2, eIf, asB, eAnd, eOr, tAndM, tOrM, dNot, tNotB, aNil, aCons, mkT_ok, mkL_ok, gName, gsNil, gsCons, gTup, gLst, eChain, oNone, oSome, eSl, dIsi, dIsi2, tYesM, hB]
    · rw [no _ (standB_no2 hA)]
      simp [F__law_good_stand, B__law_good_stand, callD, callB, callO, args0, sSeq, sIf, sRet, sRetN, sRetO, sDrop, sAsg, sPar, sNx, sBk, sCt, sNever, eVar, eC, e1, e2, eIf, asB, eAnd, eOr, tAndM, tOrM, dNot, tNotB, aNil, aCons, mkT_ok, mkL_ok, gName, gsNil, gsCons, gTup, gLst, eChain, oNone, oSome, eSl, dIsi, dIsi2, tYesM, hA]
  · rw [no _ (standB_no1 h)]
    simp [F__law_good_stand, B__law_good_stand, callD, callB, callO, args0, sSeq, sIf, sRet, sRetN, sRetO, sDrop, sAsg, sPar, sNx, sBk, sCt, sNever, eVar, eC, e1, e2, eIf, asB, eAnd, eOr, tAndM, tOrM, dNot, tNotB, aNil, aCons, mkT_ok, mkL_ok, gName, gsNil, gsCons, gTup, gLst, eChain, oNone, oSome, eSl, dIsi, dIsi2, tYesM, h]
open Classical in
theorem fits_eq {p : Pln} (o : p.Sh) (v : D) : F_fits [p.d, v] = some (.bool (decide (standB p v))) := by
  have no : ∀ v, ¬ standB p v → decide (standB p v) = false := fun v h => decide_eq_false h
  have hx : p.x ≤ 100000 := Int.le_trans o.x2 (by decide)
  have hy : p.y ≤ 100000 := Int.le_trans o.y2 (by decide)
  rw [planD]
  rcases isN2_or v with ⟨A, B, rfl⟩ | h
  · rcases isN2_or A with ⟨a, b, rfl⟩ | hA
    · rcases isN2_or B with ⟨l, m, rfl⟩ | hB
      · have k5 : decide (standB p (.tuple [.tuple [a, b], .tuple [l, m]])) = (decide (partB p.a a) && decide (partB p.b b) && decide (lineB p.x l) && decide (lineB p.y m)) := by
          rw [Bool.eq_iff_iff]
          simp only [decide_eq_true_iff, Bool.and_eq_true, standB_iff, and_assoc]
        rw [k5]
        by_cases c1 : partB p.a a <;> by_cases c2 : partB p.b b <;> simp [F_fits, B_fits, callD, callB, callO, args0, sSeq, sIf, sRet, sRetN, sRetO, sDrop, sAsg, sPar, sNx, sBk, sCt, sNever, eVar, eC, e1, e2, eIf, asB, eAnd, eOr, tAndM, tOrM, dNot, tNotB, aNil, aCons, mkT_ok, mkL_ok, gName, gsNil, gsCons, gTup, gLst, eChain, oNone, oSome, eSl, dIsi, dIsi2, tYesM, most, eLc, okW, isOl, lcGo, wipeR, restR, fAll, boolsD, sFor, forGo, is_part_eq, is_line_eq, hx, hy, c1, c2]
      · rw [no _ (standB_no3 hB)]
        cases B with
        | tuple ds =>
          simp [isN] at hB
          simp [F_fits, B_fits, callD, callB, callO, args0, sSeq, sIf, sRet, sRetN, sRetO, sDrop, sAsg, sPar, sNx, sBk, sCt, sNever, eVar, eC, e1, e2, eIf, asB, eAnd, eOr, tAndM, tOrM, dNot, tNotB, aNil, aCons, mkT_ok, mkL_ok, gName, gsNil, gsCons, gTup, gLst, eChain, oNone, oSome, eSl, dIsi, dIsi2, tYesM, most, eLc, okW, isOl, lcGo, wipeR, restR, fAll, boolsD, sFor, forGo, hB]
        | _ => simp [F_fits, B_fits, callD, callB, callO, args0, sSeq, sIf, sRet, sRetN, sRetO, sDrop, sAsg, sPar, sNx, sBk, sCt, sNever, eVar, eC, e1, e2, eIf, asB, eAnd, eOr, tAndM, tOrM, dNot, tNotB, aNil, aCons, mkT_ok, mkL_ok, gName, gsNil, gsCons, gTup, gLst, eChain, oNone, oSome, eSl, dIsi, dIsi2, tYesM, most, eLc, okW, isOl, lcGo, wipeR, restR, fAll, boolsD, sFor, forGo]
    · rw [no _ (standB_no2 hA)]
      cases A with
      | tuple ds =>
        simp [isN] at hA
        cases B <;> simp [F_fits, B_fits, callD, callB, callO, args0, sSeq, sIf, sRet, sRetN, sRetO, sDrop, sAsg, sPar, sNx, sBk, sCt, sNever, eVar, eC, e1, e2, eIf, asB, eAnd, eOr, tAndM, tOrM, dNot, tNotB, aNil, aCons, mkT_ok, mkL_ok, gName, gsNil, gsCons, gTup, gLst, eChain, oNone, oSome, eSl, dIsi, dIsi2, tYesM, most, eLc, okW, isOl, lcGo, wipeR, restR, fAll, boolsD, sFor, forGo, hA]
      | _ => cases B <;> simp [F_fits, B_fits, callD, callB, callO, args0, sSeq, sIf, sRet, sRetN, sRetO, sDrop, sAsg, sPar, sNx, sBk, sCt, sNever, eVar, eC, e1, e2, eIf, asB, eAnd, eOr, tAndM, tOrM, dNot, tNotB, aNil, aCons, mkT_ok, mkL_ok, gName, gsNil, gsCons, gTup, gLst, eChain, oNone, oSome, eSl, dIsi, dIsi2, tYesM, most, eLc, okW, isOl, lcGo, wipeR, restR, fAll, boolsD, sFor, forGo]
  · rw [no _ (standB_no1 h)]
    cases v with
    | tuple ds =>
      simp [isN] at h
      have : ds.length ≠ 2 := by omega
      simp [F_fits, B_fits, callD, callB, callO, args0, sSeq, sIf, sRet, sRetN, sRetO, sDrop, sAsg, sPar, sNx, sBk, sCt, sNever, eVar, eC, e1, e2, eIf, asB, eAnd, eOr, tAndM, tOrM, dNot, tNotB, aNil, aCons, mkT_ok, mkL_ok, gName, gsNil, gsCons, gTup, gLst, eChain, oNone, oSome, eSl, dIsi, dIsi2, tYesM, most, eLc, okW, isOl, lcGo, wipeR, restR, fAll, boolsD, sFor, forGo, h, this]
    | _ => simp [F_fits, B_fits, callD, callB, callO, args0, sSeq, sIf, sRet, sRetN, sRetO, sDrop, sAsg, sPar, sNx, sBk, sCt, sNever, eVar, eC, e1, e2, eIf, asB, eAnd, eOr, tAndM, tOrM, dNot, tNotB, aNil, aCons, mkT_ok, mkL_ok, gName, gsNil, gsCons, gTup, gLst, eChain, oNone, oSome, eSl, dIsi, dIsi2, tYesM, most, eLc, okW, isOl, lcGo, wipeR, restR, fAll, boolsD, sFor, forGo]
open Classical in
theorem is_stand_eq {p : Pln} (o : p.Ok) (v : D) : F_is_stand [p.d, v] = some (.bool (decide (standB p v))) := by
  have k1 := fits_eq o.toSh v
  have k2 := look_at_plan_yes o
  simp [F_is_stand, B_is_stand, callD, callB, callO, args0, sSeq, sIf, sRet, sRetN, sRetO, sDrop, sAsg, sPar, sNx, sBk, sCt, sNever, eVar, eC, e1, e2, eIf, asB, eAnd, eOr, tAndM, tOrM, dNot, tNotB, aNil, aCons, mkT_ok, mkL_ok, gName, gsNil, gsCons, gTup, gLst, eChain, oNone, oSome, eSl, dIsi, dIsi2, tYesM, k1, k2]
/-! ### the first stand -/
def quietP : Prt := ⟨false, 0, .none⟩
def Pln.first (p : Pln) : Std := ⟨quietP, quietP, List.replicate p.x.toNat 0, List.replicate p.y.toNat 0⟩
theorem rep_line {n : Int} (h0 : 0 ≤ n) (h1 : n ≤ 3) : dMul (.tuple [.int 0]) (.int n) = some (lineD (List.replicate n.toNat 0)) := by
  have : n = 0 ∨ n = 1 ∨ n = 2 ∨ n = 3 := by omega
  rcases this with rfl | rfl | rfl | rfl <;> rfl
theorem law_first_eq {p : Pln} (o : p.Sh) : F__law_first [p.d] = some p.first.d := by
  have k1 := rep_line (n := p.x) (Int.le_trans (by decide) o.x1) o.x2
  have k2 := rep_line (n := p.y) (Int.le_trans (by decide) o.y1) o.y2
  simp [F__law_first, B__law_first, callD, callB, callO, args0, sSeq, sIf, sRet, sRetN, sRetO, sDrop, sAsg, sPar, sNx, sBk, sCt, sNever, eVar, eC, e1, e2, eIf, asB, eAnd, eOr, tAndM, tOrM, dNot, tNotB, aNil, aCons, mkT_ok, mkL_ok, gName, gsNil, gsCons, gTup, gLst, eChain, oNone, oSome, eSl, dIsi, dIsi2, tYesM, planD, k1, k2, Pln.first, Std.d, Prt.d, quietP, modeS, Hg.s]
theorem begin_of_eq {p : Pln} (o : p.Sh) : F_begin_of [p.d] = some p.first.d := by
  have k1 := rep_line (n := p.x) (Int.le_trans (by decide) o.x1) o.x2
  have k2 := rep_line (n := p.y) (Int.le_trans (by decide) o.y1) o.y2
  have k3 : ∀ a : D, dMul (.tuple [a]) (.int 2) = some (.tuple [a, a]) := fun a => rfl
  simp [F_begin_of, B_begin_of, callD, callB, callO, args0, sSeq, sIf, sRet, sRetN, sRetO, sDrop, sAsg, sPar, sNx, sBk, sCt, sNever, eVar, eC, e1, e2, eIf, asB, eAnd, eOr, tAndM, tOrM, dNot, tNotB, aNil, aCons, mkT_ok, mkL_ok, gName, gsNil, gsCons, gTup, gLst, eChain, oNone, oSome, eSl, dIsi, dIsi2, tYesM, most, eLc, okW, isOl, lcGo, wipeR, restR, fAll, boolsD, sFor, forGo, planD, k1, k2, k3, Pln.first, Std.d, Prt.d, quietP, modeS, Hg.s, c_QUIET, fTuple]
theorem first_stand_eq {p : Pln} (o : p.Ok) : F_first_stand [p.d] = some p.first.d := by
  have k1 := begin_of_eq o.toSh
  have k2 := look_at_plan_yes o
  simp [F_first_stand, B_first_stand, callD, callB, callO, args0, sSeq, sIf, sRet, sRetN, sRetO, sDrop, sAsg, sPar, sNx, sBk, sCt, sNever, eVar, eC, e1, e2, eIf, asB, eAnd, eOr, tAndM, tOrM, dNot, tNotB, aNil, aCons, mkT_ok, mkL_ok, gName, gsNil, gsCons, gTup, gLst, eChain, oNone, oSome, eSl, dIsi, dIsi2, tYesM, k1, k2]
theorem first_ok {p : Pln} (o : p.Sh) : p.first.Ok p := by
  obtain ⟨⟨a1, a2, a3, b1, b2, b3⟩, ⟨c1, c2, c3, d1, d2, d3⟩, x1, x2, y1, y2⟩ := o
  refine ⟨⟨(Int.le_refl 0 : (0 : Int) ≤ 0), ?_⟩, ⟨(Int.le_refl 0 : (0 : Int) ≤ 0), ?_⟩, ⟨?_, ?_⟩, ⟨?_, ?_⟩⟩
  · show 0 ≤ p.a.w1; omega
  · show 0 ≤ p.b.w1; omega
  · simp [Pln.first]; omega
  · intro i hi; have := List.eq_of_mem_replicate hi; omega
  · simp [Pln.first]; omega
  · intro i hi; have := List.eq_of_mem_replicate hi; omega
end VS

namespace VS
open PySem PySem.Spec PyProof.Rows L2

/-! ### what a talker may choose -/
def opts (h : Hab) (p : Prt) : List Bool :=
  if p.sp then (if p.n + 1 = h.s1 then [] else [false]) ++ (if h.s0 ≤ p.n + 1 then [true] else [])
  else (if h.eg && decide (p.n = h.w1) then [] else [false]) ++ (if h.w0 ≤ p.n then [true] else [])
def blD (l : List Bool) : D := .list (l.map .bool)
@[simp] theorem mulB0 {a : D} : dMul (.list [a]) (.int 0) = some (.list []) := rfl
@[simp] theorem mulB1 {a : D} : dMul (.list [a]) (.int 1) = some (.list [a]) := rfl
@[simp] theorem mulT0 {a : D} : dMul (.tuple [a]) (.int 0) = some (.tuple []) := rfl
@[simp] theorem mulT1 {a : D} : dMul (.tuple [a]) (.int 1) = some (.tuple [a]) := rfl
theorem addL {a b : List D} (h : a.length + b.length ≤ most) : dAdd (.list a) (.list b) = some (.list (a ++ b)) := (orE_none rfl).trans ((orE_none rfl).trans (orE_some (if_pos h)))
theorem addT {a b : List D} (h : a.length + b.length ≤ most) : dAdd (.tuple a) (.tuple b) = some (.tuple (a ++ b)) := (orE_none rfl).trans (orE_some (if_pos h))
@[simp] theorem addL00 : dAdd (.list []) (.list []) = some (.list []) := addL (by decide)
@[simp] theorem addL01 {a : D} : dAdd (.list []) (.list [a]) = some (.list [a]) := addL (Nat.le_of_ble_eq_true rfl)
@[simp] theorem addL10 {a : D} : dAdd (.list [a]) (.list []) = some (.list [a]) := addL (Nat.le_of_ble_eq_true rfl)
@[simp] theorem addL11 {a b : D} : dAdd (.list [a]) (.list [b]) = some (.list [a, b]) := addL (Nat.le_of_ble_eq_true rfl)
@[simp] theorem addL02 {a b : D} : dAdd (.list []) (.list [a, b]) = some (.list [a, b]) := addL (Nat.le_of_ble_eq_true rfl)
@[simp] theorem addL22 {a b c d : D} : dAdd (.list [a, b]) (.list [c, d]) = some (.list [a, b, c, d]) := addL (Nat.le_of_ble_eq_true rfl)
@[simp] theorem addT00 : dAdd (.tuple []) (.tuple []) = some (.tuple []) := addT (by decide)
@[simp] theorem addT01 {a : D} : dAdd (.tuple []) (.tuple [a]) = some (.tuple [a]) := addT (Nat.le_of_ble_eq_true rfl)
@[simp] theorem addT10 {a : D} : dAdd (.tuple [a]) (.tuple []) = some (.tuple [a]) := addT (Nat.le_of_ble_eq_true rfl)
@[simp] theorem addT11 {a b : D} : dAdd (.tuple [a]) (.tuple [b]) = some (.tuple [a, b]) := addT (Nat.le_of_ble_eq_true rfl)
@[simp] theorem mulBi {a : D} {c : Prop} [Decidable c] : dMul (.list [a]) (.int (if c then 1 else 0)) = some (.list (if c then [a] else [])) := by by_cases h : c <;> simp [h]
@[simp] theorem mulTi {a : D} {c : Prop} [Decidable c] : dMul (.tuple [a]) (.int (if c then 1 else 0)) = some (.tuple (if c then [a] else [])) := by by_cases h : c <;> simp [h]
@[simp] theorem addS {a b : D} {c d : Prop} [Decidable c] [Decidable d] : dAdd (.list (if c then [a] else [])) (.list (if d then [b] else [])) = some (.list ((if c then [a] else []) ++ (if d then [b] else []))) := by by_cases h : c <;> by_cases h2 : d <;> simp [h, h2]
@[simp] theorem addSn {a b : D} {c d : Prop} [Decidable c] [Decidable d] : dAdd (.list (if c then [] else [a])) (.list (if d then [b] else [])) = some (.list ((if c then [] else [a]) ++ (if d then [b] else []))) := by by_cases h : c <;> by_cases h2 : d <;> simp [h, h2]
@[simp] theorem addS1 {a b : D} {d : Prop} [Decidable d] : dAdd (.list [a]) (.list (if d then [b] else [])) = some (.list (a :: (if d then [b] else []))) := by by_cases h2 : d <;> simp [h2]
@[simp] theorem addS0 {b : D} {d : Prop} [Decidable d] : dAdd (.list []) (.list (if d then [b] else [])) = some (.list (if d then [b] else [])) := by by_cases h2 : d <;> simp [h2]
@[simp] theorem mapI {b : Bool} {c : Prop} [Decidable c] : List.map PyData.bool (if c then [b] else []) = if c then [.bool b] else [] := by split <;> rfl
theorem law_options_eq (h : Hab) (p : Prt) : F__law_options [h.d, p.d] = some (blD (opts h p)) := by
  obtain ⟨sp, n, g⟩ := p
  cases sp
  · cases he : h.eg
    · simp [F__law_options, B__law_options, callD, callB, callO, args0, sSeq, sIf, sRet, sRetN, sRetO, sDrop, sAsg, sPar, sNx, sBk, sCt, sNever, eVar, eC, e1, e2, eIf, asB, eAnd, eOr, tAndM, tOrM, dNot, tNotB, aNil, aCons, mkT_ok, mkL_ok, gName, gsNil, gsCons, gTup, gLst, eChain, oNone, oSome, eSl, dIsi, dIsi2, tYesM, Hab.d, Prt.d, strQ, opts, blD, he]
    · simp [F__law_options, B__law_options, callD, callB, callO, args0, sSeq, sIf, sRet, sRetN, sRetO, sDrop, sAsg, sPar, sNx, sBk, sCt, sNever, eVar, eC, e1, e2, eIf, asB, eAnd, eOr, tAndM, tOrM, dNot, tNotB, aNil, aCons, mkT_ok, mkL_ok, gName, gsNil, gsCons, gTup, gLst, eChain, oNone, oSome, eSl, dIsi, dIsi2, tYesM, Hab.d, Prt.d, strQ, opts, blD, he]
      by_cases c2 : n = h.w1 <;> simp [c2]
  · simp [F__law_options, B__law_options, callD, callB, callO, args0, sSeq, sIf, sRet, sRetN, sRetO, sDrop, sAsg, sPar, sNx, sBk, sCt, sNever, eVar, eC, e1, e2, eIf, asB, eAnd, eOr, tAndM, tOrM, dNot, tNotB, aNil, aCons, mkT_ok, mkL_ok, gName, gsNil, gsCons, gTup, gLst, eChain, oNone, oSome, eSl, dIsi, dIsi2, tYesM, Hab.d, Prt.d, strQ, opts, blD]
    by_cases c2 : n + 1 = h.s1 <;> simp [c2]
theorem ways_of_eq {h : Hab} {p : Prt} (o : p.Ok h) : F_ways_of [h.d, p.d] = some (blD (opts h p)) := by
  obtain ⟨sp, n, g⟩ := p
  cases sp
  · have o1 : n ≤ h.w1 := o.2
    have k1 : n < h.w1 ↔ ¬ n = h.w1 := ⟨fun _ => by omega, fun _ => by omega⟩
    cases he : h.eg
    · simp [F_ways_of, B_ways_of, callD, callB, callO, args0, sSeq, sIf, sRet, sRetN, sRetO, sDrop, sAsg, sPar, sNx, sBk, sCt, sNever, eVar, eC, e1, e2, eIf, asB, eAnd, eOr, tAndM, tOrM, dNot, tNotB, aNil, aCons, mkT_ok, mkL_ok, gName, gsNil, gsCons, gTup, gLst, eChain, oNone, oSome, eSl, dIsi, dIsi2, tYesM, Hab.d, Prt.d, c_QUIET_eq, opts, blD, he, k1]
    · simp [F_ways_of, B_ways_of, callD, callB, callO, args0, sSeq, sIf, sRet, sRetN, sRetO, sDrop, sAsg, sPar, sNx, sBk, sCt, sNever, eVar, eC, e1, e2, eIf, asB, eAnd, eOr, tAndM, tOrM, dNot, tNotB, aNil, aCons, mkT_ok, mkL_ok, gName, gsNil, gsCons, gTup, gLst, eChain, oNone, oSome, eSl, dIsi, dIsi2, tYesM, Hab.d, Prt.d, c_QUIET_eq, opts, blD, he, k1]
      by_cases c2 : n = h.w1 <;> simp [c2]
  · have o1 : n ≤ h.s1 - 1 := o.2
    have k1 : n + 1 < h.s1 ↔ ¬ n + 1 = h.s1 := ⟨fun _ => by omega, fun _ => by omega⟩
    simp [F_ways_of, B_ways_of, callD, callB, callO, args0, sSeq, sIf, sRet, sRetN, sRetO, sDrop, sAsg, sPar, sNx, sBk, sCt, sNever, eVar, eC, e1, e2, eIf, asB, eAnd, eOr, tAndM, tOrM, dNot, tNotB, aNil, aCons, mkT_ok, mkL_ok, gName, gsNil, gsCons, gTup, gLst, eChain, oNone, oSome, eSl, dIsi, dIsi2, tYesM, Hab.d, Prt.d, c_QUIET_eq, opts, blD, k1]
    by_cases c2 : n + 1 = h.s1 <;> simp [c2]
/-! ### choices -/
def chs (p : Pln) (s : Std) : List (Bool × Bool) := (opts p.a s.p).flatMap fun x => (opts p.b s.q).map fun y => (x, y)
def prD (c : Bool × Bool) : D := .tuple [.bool c.1, .bool c.2]
def chD (l : List (Bool × Bool)) : D := .list (l.map prD)
theorem opts_cases (h : Hab) (p : Prt) : opts h p = [] ∨ opts h p = [false] ∨ opts h p = [true] ∨ opts h p = [false, true] := by
  unfold opts
  split <;> split <;> split <;> simp
theorem opts_ne {h : Hab} {p : Prt} (k : h.Ok) (o : p.Ok h) : opts h p ≠ [] := by
  obtain ⟨sp, n, g⟩ := p
  obtain ⟨a1, a2, a3, b1, b2, b3⟩ := k
  cases sp
  · have o1 : n ≤ h.w1 := o.2
    unfold opts
    simp
    intro _ q; omega
  · unfold opts
    simp
    intro q; omega
theorem law_choices_eq (p : Pln) (s : Std) : F__law_choices [p.d, s.d] = some (chD (chs p s)) := by
  have k1 := law_options_eq p.a s.p
  have k2 := law_options_eq p.b s.q
  rcases opts_cases p.a s.p with h1 | h1 | h1 | h1 <;> rcases opts_cases p.b s.q with h2 | h2 | h2 | h2 <;> rw [h1] at k1 <;> rw [h2] at k2 <;> simp only [blD, List.map] at k1 k2 <;>
    simp [F__law_choices, B__law_choices, L__law_choices_0, callD, callB, callO, args0, sSeq, sIf, sRet, sRetN, sRetO, sDrop, sAsg, sPar, sNx, sBk, sCt, sNever, eVar, eC, e1, e2, eIf, asB, eAnd, eOr, tAndM, tOrM, dNot, tNotB, aNil, aCons, mkT_ok, mkL_ok, gName, gsNil, gsCons, gTup, gLst, eChain, oNone, oSome, eSl, dIsi, dIsi2, tYesM, most, eLc, okW, isOl, lcGo, wipeR, restR, fAll, boolsD, sFor, forGo, planD, Std.d, k1, k2, chs, h1, h2, chD, prD, List.flatMap]
theorem choices_of_eq {p : Pln} {s : Std} (o : s.Ok p) : F_choices_of [p.d, s.d] = some (chD (chs p s)) := by
  have k1 := ways_of_eq o.okp
  have k2 := ways_of_eq o.okq
  rcases opts_cases p.a s.p with h1 | h1 | h1 | h1 <;> rcases opts_cases p.b s.q with h2 | h2 | h2 | h2 <;> rw [h1] at k1 <;> rw [h2] at k2 <;> simp only [blD, List.map] at k1 k2 <;>
    simp [F_choices_of, B_choices_of, callD, callB, callO, args0, sSeq, sIf, sRet, sRetN, sRetO, sDrop, sAsg, sPar, sNx, sBk, sCt, sNever, eVar, eC, e1, e2, eIf, asB, eAnd, eOr, tAndM, tOrM, dNot, tNotB, aNil, aCons, mkT_ok, mkL_ok, gName, gsNil, gsCons, gTup, gLst, eChain, oNone, oSome, eSl, dIsi, dIsi2, tYesM, most, eLc, okW, isOl, lcGo, wipeR, restR, fAll, boolsD, sFor, forGo, eLc2, lc2Go, lcIn, planD, Std.d, k1, k2, chs, h1, h2, chD, prD, List.flatMap]
theorem chs_mem {p : Pln} {s : Std} {c : Bool × Bool} : c ∈ chs p s ↔ c.1 ∈ opts p.a s.p ∧ c.2 ∈ opts p.b s.q := by
  unfold chs
  simp only [List.mem_flatMap, List.mem_map]
  constructor
  · rintro ⟨x, hx, y, hy, rfl⟩; exact ⟨hx, hy⟩
  · rintro ⟨h1, h2⟩; exact ⟨_, h1, _, h2, rfl⟩
theorem chs_len (p : Pln) (s : Std) : (chs p s).length ≤ 4 := by
  rcases opts_cases p.a s.p with h1 | h1 | h1 | h1 <;> rcases opts_cases p.b s.q with h2 | h2 | h2 | h2 <;> simp [chs, h1, h2, List.flatMap]
theorem chs_ne {p : Pln} {s : Std} (k : p.Sh) (o : s.Ok p) : 0 < (chs p s).length := by
  have n1 := opts_ne k.a o.okp
  have n2 := opts_ne k.b o.okq
  rcases opts_cases p.a s.p with h1 | h1 | h1 | h1 <;> rcases opts_cases p.b s.q with h2 | h2 | h2 | h2 <;> simp [h1, h2] at n1 n2 <;> simp [chs, h1, h2, List.flatMap]

/-! ### one tick -/
def voice (p : Prt) (c : Bool) : Int := if p.sp then (if c then 3 else 2) else (if c then 1 else 0)
theorem voice_rng (p : Prt) (c : Bool) : 0 ≤ voice p c ∧ voice p c ≤ 3 := by
  obtain ⟨sp, n, g⟩ := p; cases sp <;> cases c <;> simp [voice]
theorem law_voice_eq (p : Prt) (c : Bool) : F__law_voice [p.d, .bool c] = some (.int (voice p c)) := by
  obtain ⟨sp, n, g⟩ := p
  cases sp <;> cases c <;> simp [F__law_voice, B__law_voice, callD, callB, callO, args0, sSeq, sIf, sRet, sRetN, sRetO, sDrop, sAsg, sPar, sNx, sBk, sCt, sNever, eVar, eC, e1, e2, eIf, asB, eAnd, eOr, tAndM, tOrM, dNot, tNotB, aNil, aCons, mkT_ok, mkL_ok, gName, gsNil, gsCons, gTup, gLst, eChain, oNone, oSome, eSl, dIsi, dIsi2, tYesM, Prt.d, strP, voice]
theorem sign_of_eq (p : Prt) (c : Bool) : F_sign_of [p.d, .bool c] = some (.int (voice p c)) := by
  obtain ⟨sp, n, g⟩ := p
  cases sp <;> cases c <;> simp [F_sign_of, B_sign_of, callD, callB, callO, args0, sSeq, sIf, sRet, sRetN, sRetO, sDrop, sAsg, sPar, sNx, sBk, sCt, sNever, eVar, eC, e1, e2, eIf, asB, eAnd, eOr, tAndM, tOrM, dNot, tNotB, aNil, aCons, mkT_ok, mkL_ok, gName, gsNil, gsCons, gTup, gLst, eChain, oNone, oSome, eSl, dIsi, dIsi2, tYesM, Prt.d, c_QUIET_eq, voice]
def ears (voice ear : Int) (g : Hg) : Hg := if ear = 0 then .none else if 0 < voice ∨ (1 < ear ∧ g = .none) then .torn else if ear = 1 then .whole else g
def led (h : Hab) (p : Prt) (voice ear : Int) (over : Bool) : Prt × Bool :=
  let g1 := ears voice ear p.g
  let done := decide (ear = 3) && decide (g1 = .whole)
  let g2 := if ear = 3 then .none else g1
  (if voice = 3 ∨ (0 < voice ∧ h.st = true ∧ 0 < ear) then ⟨false, 0, g2⟩
   else if 0 < voice then ⟨true, if p.sp then p.n + 1 else 1, g2⟩
   else if ear = 0 then ⟨false, if h.w1 < p.n + 1 then h.w1 else p.n + 1, g2⟩
   else ⟨false, if (done && over) = true then h.w0 else 0, g2⟩, done)
theorem law_led_eq (h : Hab) (k : h.Ok) (p : Prt) (v e : Int) (v0 : 0 ≤ v) (v1 : v ≤ 3) (h0 : 0 ≤ e) (h1 : e ≤ 3) (over : Bool) : F__law_led [h.d, p.d, .int v, .int e, .bool over] = some (.tuple [(led h p v e over).1.d, .bool (led h p v e over).2]) := by
  obtain ⟨sp, n, g⟩ := p
  have m0 : ∀ i, dMul (.int i) (.int 0) = some (.int 0) := fun i => by rw [mulSmall (by decide) (by decide)]; simp
  have m1 : ∀ i, dMul (.int i) (.int 1) = some (.int i) := fun i => by rw [mulSmall (by decide) (by decide)]; simp
  have mi : ∀ w (c : Prop) [Decidable c], dMul (.int w) (.int (if c then 1 else 0)) = some (.int (if c then w else 0)) := fun w c _ => by split <;> simp [m0, m1]
  have v4 := cases4 v0 (by omega)
  have e4 := cases4 h0 (by omega)
  rcases v4 with rfl | rfl | rfl | rfl
  · rcases e4 with rfl | rfl | rfl | rfl <;> cases g <;>
      simp [F__law_led, B__law_led, callD, callB, callO, args0, sSeq, sIf, sRet, sRetN, sRetO, sDrop, sAsg, sPar, sNx, sBk, sCt, sNever, eVar, eC, e1, e2, eIf, asB, eAnd, eOr, tAndM, tOrM, dNot, tNotB, aNil, aCons, mkT_ok, mkL_ok, gName, gsNil, gsCons, gTup, gLst, eChain, oNone, oSome, eSl, dIsi, dIsi2, tYesM, Hab.d, Prt.d, strQ, strP, strNo, strTo, strWh, led, ears, m0, m1, mi]
  · rcases e4 with rfl | rfl | rfl | rfl <;> cases g <;> cases sp <;> cases hst : h.st <;>
      simp [F__law_led, B__law_led, callD, callB, callO, args0, sSeq, sIf, sRet, sRetN, sRetO, sDrop, sAsg, sPar, sNx, sBk, sCt, sNever, eVar, eC, e1, e2, eIf, asB, eAnd, eOr, tAndM, tOrM, dNot, tNotB, aNil, aCons, mkT_ok, mkL_ok, gName, gsNil, gsCons, gTup, gLst, eChain, oNone, oSome, eSl, dIsi, dIsi2, tYesM, Hab.d, Prt.d, strQ, strP, strNo, strTo, strWh, led, ears, m0, m1, mi, hst]
  · rcases e4 with rfl | rfl | rfl | rfl <;> cases g <;> cases sp <;> cases hst : h.st <;>
      simp [F__law_led, B__law_led, callD, callB, callO, args0, sSeq, sIf, sRet, sRetN, sRetO, sDrop, sAsg, sPar, sNx, sBk, sCt, sNever, eVar, eC, e1, e2, eIf, asB, eAnd, eOr, tAndM, tOrM, dNot, tNotB, aNil, aCons, mkT_ok, mkL_ok, gName, gsNil, gsCons, gTup, gLst, eChain, oNone, oSome, eSl, dIsi, dIsi2, tYesM, Hab.d, Prt.d, strQ, strP, strNo, strTo, strWh, led, ears, m0, m1, mi, hst]
  · rcases e4 with rfl | rfl | rfl | rfl <;> cases g <;>
      simp [F__law_led, B__law_led, callD, callB, callO, args0, sSeq, sIf, sRet, sRetN, sRetO, sDrop, sAsg, sPar, sNx, sBk, sCt, sNever, eVar, eC, e1, e2, eIf, asB, eAnd, eOr, tAndM, tOrM, dNot, tNotB, aNil, aCons, mkT_ok, mkL_ok, gName, gsNil, gsCons, gTup, gLst, eChain, oNone, oSome, eSl, dIsi, dIsi2, tYesM, Hab.d, Prt.d, strQ, strP, strNo, strTo, strWh, led, ears, m0, m1, mi]
end VS

namespace VS
open PySem PySem.Spec PyProof.Rows L2

def voices (s : Std) (c : Bool × Bool) : Int × Int := (voice s.p c.1, voice s.q c.2)
def vsD (v : Int × Int) : D := .tuple [.int v.1, .int v.2]
def tick (p : Pln) (s : Std) (c : Bool × Bool) : Std :=
  ⟨(led p.a s.p (voices s c).1 (s.m.headD 0) p.ov).1, (led p.b s.q (voices s c).2 (s.l.headD 0) p.ov).1, s.l.tail ++ [(voices s c).1], s.m.tail ++ [(voices s c).2]⟩
def dones (p : Pln) (s : Std) (c : Bool × Bool) : List Int :=
  (if (led p.b s.q (voices s c).2 (s.l.headD 0) p.ov).2 then [0] else []) ++ (if (led p.a s.p (voices s c).1 (s.m.headD 0) p.ov).2 then [1] else [])
theorem line_cons {n : Int} {l : List Int} (h : 1 ≤ n) (o : lineOk n l) : ∃ i t, l = i :: t ∧ 0 ≤ i ∧ i ≤ 3 ∧ lineOk (n - 1) t ∧ (t.length : Int) + 1 = n := by
  obtain ⟨h1, h2⟩ := o
  cases l with
  | nil => simp at h1; omega
  | cons i t =>
    have := h2 i (.head _)
    refine ⟨i, t, rfl, this.1, this.2, ⟨?_, fun j hj => h2 j (.tail _ hj)⟩, ?_⟩ <;> simp at h1 <;> omega
theorem line_snoc {n : Int} {t : List Int} {i : Int} (o : lineOk (n - 1) t) (h0 : 0 ≤ i) (h1 : i ≤ 3) : lineOk n (t ++ [i]) := by
  obtain ⟨k1, k2⟩ := o
  refine ⟨by simp; omega, fun j hj => ?_⟩
  rcases List.mem_append.mp hj with h | h
  · exact k2 j h
  · simp at h; omega
theorem sl1 {a : D} {t : List D} : dSl (.tuple (a :: t)) (some 1) none = some (.tuple t) := by
  simp [dSl, cutD, HT.sIx]
theorem slc2 {a b : D} : dSl (.tuple [a, b]) none (some 1) = some (.tuple [a]) := rfl
theorem slc3 {a b : D} : dSl (.tuple [a, b]) (some 1) none = some (.tuple [b]) := rfl
theorem addT1 {l : List D} {a : D} (h : l.length < 100000) : dAdd (.tuple l) (.tuple [a]) = some (.tuple (l ++ [a])) := addT (by unfold most; simp; omega)
@[simp] theorem addTS {a b : D} {c d : Prop} [Decidable c] [Decidable d] : dAdd (.tuple (if c then [a] else [])) (.tuple (if d then [b] else [])) = some (.tuple ((if c then [a] else []) ++ (if d then [b] else []))) := by by_cases h : c <;> by_cases h2 : d <;> simp [h, h2]
theorem mapIi {i : Int} {c : Prop} [Decidable c] : List.map PyData.int (if c then [i] else []) = if c then [.int i] else [] := by split <;> rfl
theorem law_tick_eq {p : Pln} (k : p.Sh) {s : Std} (o : s.Ok p) (c : Bool × Bool) : F__law_tick [p.d, s.d, prD c] = some (.tuple [(tick p s c).d, vsD (voices s c), lineD (dones p s c)]) := by
  obtain ⟨P, Q, l, m⟩ := s
  obtain ⟨i, t, rfl, i0, i1, t1, tl⟩ := line_cons k.x1 o.okl
  obtain ⟨j, u, rfl, j0, j1, u1, ul⟩ := line_cons k.y1 o.okm
  have r1 := voice_rng P c.1
  have r2 := voice_rng Q c.2
  have k1 := law_voice_eq P c.1
  have k2 := law_voice_eq Q c.2
  have k3 := law_led_eq p.a k.a P (voice P c.1) j r1.1 r1.2 j0 j1 p.ov
  have k4 := law_led_eq p.b k.b Q (voice Q c.2) i r2.1 r2.2 i0 i1 p.ov
  have k5 : ∀ v : Int, dAdd (.tuple (t.map .int)) (.tuple [.int v]) = some (.tuple (t.map .int ++ [.int v])) := fun v => addT1 (by have := k.x2; simp; omega)
  have k6 : ∀ v : Int, dAdd (.tuple (u.map .int)) (.tuple [.int v]) = some (.tuple (u.map .int ++ [.int v])) := fun v => addT1 (by have := k.y2; simp; omega)
  simp [F__law_tick, B__law_tick, callD, callB, callO, args0, sSeq, sIf, sRet, sRetN, sRetO, sDrop, sAsg, sPar, sNx, sBk, sCt, sNever, eVar, eC, e1, e2, eIf, asB, eAnd, eOr, tAndM, tOrM, dNot, tNotB, aNil, aCons, mkT_ok, mkL_ok, gName, gsNil, gsCons, gTup, gLst, eChain, oNone, oSome, eSl, dIsi, dIsi2, tYesM, planD, Std.d, lineD, prD, k1, k2, k3, k4, k5, k6, sl1, slc2, slc3, tick, voices, dones, vsD, mapIi]

/-! ### one tick, as the program has it -/
theorem hearing_of_eq (g : Hg) (v e : Int) (v0 : 0 ≤ v) (h0 : 0 ≤ e) (h1 : e ≤ 3) : F_hearing_of [.str g.s, .int v, .int e] = some (.str (ears v e g).s) := by
  have e4 := cases4 h0 (by omega)
  by_cases hv : v = 0
  · subst hv
    rcases e4 with rfl | rfl | rfl | rfl <;> cases g <;> simp [F_hearing_of, B_hearing_of, callD, callB, callO, args0, sSeq, sIf, sRet, sRetN, sRetO, sDrop, sAsg, sPar, sNx, sBk, sCt, sNever, eVar, eC, e1, e2, eIf, asB, eAnd, eOr, tAndM, tOrM, dNot, tNotB, aNil, aCons, mkT_ok, mkL_ok, gName, gsNil, gsCons, gTup, gLst, eChain, oNone, oSome, eSl, dIsi, dIsi2, tYesM, strNo, strTo, strWh, ears]
  · have hv' : 0 < v := by omega
    rcases e4 with rfl | rfl | rfl | rfl <;> simp [F_hearing_of, B_hearing_of, callD, callB, callO, args0, sSeq, sIf, sRet, sRetN, sRetO, sDrop, sAsg, sPar, sNx, sBk, sCt, sNever, eVar, eC, e1, e2, eIf, asB, eAnd, eOr, tAndM, tOrM, dNot, tNotB, aNil, aCons, mkT_ok, mkL_ok, gName, gsNil, gsCons, gTup, gLst, eChain, oNone, oSome, eSl, dIsi, dIsi2, tYesM, strNo, strTo, strWh, ears, hv, hv']
def doneB (g : Hg) (v e : Int) : Bool := decide (e = 3) && decide (ears v e g = .whole)
theorem is_whole_eq (p : Prt) (v e : Int) (v0 : 0 ≤ v) (h0 : 0 ≤ e) (h1 : e ≤ 3) : F_is_whole [p.d, .int v, .int e] = some (.bool (doneB p.g v e)) := by
  have k1 := hearing_of_eq p.g v e v0 h0 h1
  by_cases he : e = 3
  · subst he
    simp [F_is_whole, B_is_whole, callD, callB, callO, args0, sSeq, sIf, sRet, sRetN, sRetO, sDrop, sAsg, sPar, sNx, sBk, sCt, sNever, eVar, eC, e1, e2, eIf, asB, eAnd, eOr, tAndM, tOrM, dNot, tNotB, aNil, aCons, mkT_ok, mkL_ok, gName, gsNil, gsCons, gTup, gLst, eChain, oNone, oSome, eSl, dIsi, dIsi2, tYesM, Prt.d, k1, strWh, doneB]
  · simp [F_is_whole, B_is_whole, callD, callB, callO, args0, sSeq, sIf, sRet, sRetN, sRetO, sDrop, sAsg, sPar, sNx, sBk, sCt, sNever, eVar, eC, e1, e2, eIf, asB, eAnd, eOr, tAndM, tOrM, dNot, tNotB, aNil, aCons, mkT_ok, mkL_ok, gName, gsNil, gsCons, gTup, gLst, eChain, oNone, oSome, eSl, dIsi, dIsi2, tYesM, Prt.d, doneB, he]
theorem talker_behind_eq (h : Hab) (k : h.Ok) (p : Prt) (o : p.Ok h) (c : Bool) (v e : Int) (hv : v = voice p c) (h0 : 0 ≤ e) (h1 : e ≤ 3) (over : Bool) : F_talker_behind [h.d, p.d, .int v, .int e, .bool over] = some (led h p v e over).1.d := by
  have r := voice_rng p c
  rw [← hv] at r
  have k1 := hearing_of_eq p.g v e r.1 h0 h1
  have k2 := is_whole_eq p v e r.1 h0 h1
  obtain ⟨sp, n, g⟩ := p
  simp only [Prt.d] at k2
  have e4 := cases4 h0 (by omega)
  have k3 : (led h ⟨sp, n, g⟩ v e over).2 = doneB g v e := rfl
  have mx : ∀ a b : Int, (if b < a then b else a) = if a ≤ b then a else b := fun a b => by split <;> split <;> omega
  have key : v = 0 ∨ v = 1 ∨ v = 2 ∨ v = 3 := cases4 r.1 (by omega)
  have hsp : (v = 1 → sp = false) ∧ (v = 2 → sp = true) := by
    subst hv
    cases sp <;> cases c <;> simp [voice]
  have hd : doneB g v e = (decide (e = 3) && decide (ears v e g = .whole)) := rfl
  rcases key with rfl | rfl | rfl | rfl
  · rcases e4 with rfl | rfl | rfl | rfl
    · simp [F_talker_behind, B_talker_behind, callD, callB, callO, args0, sSeq, sIf, sRet, sRetN, sRetO, sDrop, sAsg, sPar, sNx, sBk, sCt, sNever, eVar, eC, e1, e2, eIf, asB, eAnd, eOr, tAndM, tOrM, dNot, tNotB, aNil, aCons, mkT_ok, mkL_ok, gName, gsNil, gsCons, gTup, gLst, eChain, oNone, oSome, eSl, dIsi, dIsi2, tYesM, Hab.d, Prt.d, k1, c_QUIET_eq, c_SPEAKS_eq, strNo, led, ears]
      split <;> split <;> omega
    · cases over <;> simp [F_talker_behind, B_talker_behind, callD, callB, callO, args0, sSeq, sIf, sRet, sRetN, sRetO, sDrop, sAsg, sPar, sNx, sBk, sCt, sNever, eVar, eC, e1, e2, eIf, asB, eAnd, eOr, tAndM, tOrM, dNot, tNotB, aNil, aCons, mkT_ok, mkL_ok, gName, gsNil, gsCons, gTup, gLst, eChain, oNone, oSome, eSl, dIsi, dIsi2, tYesM, Hab.d, Prt.d, k1, k2, c_QUIET_eq, c_SPEAKS_eq, strNo, led, ears, hd]
    · cases over <;> cases g <;> simp [F_talker_behind, B_talker_behind, callD, callB, callO, args0, sSeq, sIf, sRet, sRetN, sRetO, sDrop, sAsg, sPar, sNx, sBk, sCt, sNever, eVar, eC, e1, e2, eIf, asB, eAnd, eOr, tAndM, tOrM, dNot, tNotB, aNil, aCons, mkT_ok, mkL_ok, gName, gsNil, gsCons, gTup, gLst, eChain, oNone, oSome, eSl, dIsi, dIsi2, tYesM, Hab.d, Prt.d, k1, k2, c_QUIET_eq, c_SPEAKS_eq, strNo, led, ears, hd]
    · cases over <;> cases g <;> simp [F_talker_behind, B_talker_behind, callD, callB, callO, args0, sSeq, sIf, sRet, sRetN, sRetO, sDrop, sAsg, sPar, sNx, sBk, sCt, sNever, eVar, eC, e1, e2, eIf, asB, eAnd, eOr, tAndM, tOrM, dNot, tNotB, aNil, aCons, mkT_ok, mkL_ok, gName, gsNil, gsCons, gTup, gLst, eChain, oNone, oSome, eSl, dIsi, dIsi2, tYesM, Hab.d, Prt.d, k1, k2, c_QUIET_eq, c_SPEAKS_eq, strNo, led, ears, hd]
  · have := hsp.1 rfl
    subst this
    cases hst : h.st <;> rcases e4 with rfl | rfl | rfl | rfl <;> simp [F_talker_behind, B_talker_behind, callD, callB, callO, args0, sSeq, sIf, sRet, sRetN, sRetO, sDrop, sAsg, sPar, sNx, sBk, sCt, sNever, eVar, eC, e1, e2, eIf, asB, eAnd, eOr, tAndM, tOrM, dNot, tNotB, aNil, aCons, mkT_ok, mkL_ok, gName, gsNil, gsCons, gTup, gLst, eChain, oNone, oSome, eSl, dIsi, dIsi2, tYesM, Hab.d, Prt.d, k1, c_QUIET_eq, c_SPEAKS_eq, strNo, led, ears, hst]
  · have := hsp.2 rfl
    subst this
    cases hst : h.st <;> rcases e4 with rfl | rfl | rfl | rfl <;> simp [F_talker_behind, B_talker_behind, callD, callB, callO, args0, sSeq, sIf, sRet, sRetN, sRetO, sDrop, sAsg, sPar, sNx, sBk, sCt, sNever, eVar, eC, e1, e2, eIf, asB, eAnd, eOr, tAndM, tOrM, dNot, tNotB, aNil, aCons, mkT_ok, mkL_ok, gName, gsNil, gsCons, gTup, gLst, eChain, oNone, oSome, eSl, dIsi, dIsi2, tYesM, Hab.d, Prt.d, k1, c_QUIET_eq, c_SPEAKS_eq, strNo, led, ears, hst]
  · rcases e4 with rfl | rfl | rfl | rfl <;> simp [F_talker_behind, B_talker_behind, callD, callB, callO, args0, sSeq, sIf, sRet, sRetN, sRetO, sDrop, sAsg, sPar, sNx, sBk, sCt, sNever, eVar, eC, e1, e2, eIf, asB, eAnd, eOr, tAndM, tOrM, dNot, tNotB, aNil, aCons, mkT_ok, mkL_ok, gName, gsNil, gsCons, gTup, gLst, eChain, oNone, oSome, eSl, dIsi, dIsi2, tYesM, Hab.d, Prt.d, k1, c_QUIET_eq, c_SPEAKS_eq, strNo, led, ears]
theorem signs_of_eq (s : Std) (c : Bool × Bool) : F_signs_of [s.d, prD c] = some (vsD (voices s c)) := by
  have k1 := sign_of_eq s.p c.1
  have k2 := sign_of_eq s.q c.2
  simp [F_signs_of, B_signs_of, callD, callB, callO, args0, sSeq, sIf, sRet, sRetN, sRetO, sDrop, sAsg, sPar, sNx, sBk, sCt, sNever, eVar, eC, e1, e2, eIf, asB, eAnd, eOr, tAndM, tOrM, dNot, tNotB, aNil, aCons, mkT_ok, mkL_ok, gName, gsNil, gsCons, gTup, gLst, eChain, oNone, oSome, eSl, dIsi, dIsi2, tYesM, most, eLc, okW, isOl, lcGo, wipeR, restR, fAll, boolsD, sFor, forGo, Std.d, prD, k1, k2, fTuple, vsD, voices]
def earsD (s : Std) : D := .tuple [.int (s.m.headD 0), .int (s.l.headD 0)]
theorem heard_by_eq {p : Pln} (k : p.Sh) {s : Std} (o : s.Ok p) : F_heard_by [s.d] = some (earsD s) := by
  obtain ⟨P, Q, l, m⟩ := s
  obtain ⟨i, t, rfl, i0, i1, t1, tl⟩ := line_cons k.x1 o.okl
  obtain ⟨j, u, rfl, j0, j1, u1, ul⟩ := line_cons k.y1 o.okm
  simp [F_heard_by, B_heard_by, callD, callB, callO, args0, sSeq, sIf, sRet, sRetN, sRetO, sDrop, sAsg, sPar, sNx, sBk, sCt, sNever, eVar, eC, e1, e2, eIf, asB, eAnd, eOr, tAndM, tOrM, dNot, tNotB, aNil, aCons, mkT_ok, mkL_ok, gName, gsNil, gsCons, gTup, gLst, eChain, oNone, oSome, eSl, dIsi, dIsi2, tYesM, Std.d, lineD, earsD]
theorem whole_by_eq {p : Pln} (k : p.Sh) {s : Std} (o : s.Ok p) (c : Bool × Bool) : F_whole_by [s.d, prD c] = some (lineD (dones p s c)) := by
  have k1 := signs_of_eq s c
  have k2 := heard_by_eq k o
  obtain ⟨P, Q, l, m⟩ := s
  obtain ⟨i, t, rfl, i0, i1, t1, tl⟩ := line_cons k.x1 o.okl
  obtain ⟨j, u, rfl, j0, j1, u1, ul⟩ := line_cons k.y1 o.okm
  have k3 := is_whole_eq P (voice P c.1) j (voice_rng _ _).1 j0 j1
  have k4 := is_whole_eq Q (voice Q c.2) i (voice_rng _ _).1 i0 i1
  have k5 : (led p.a P (voice P c.1) j p.ov).2 = doneB P.g (voice P c.1) j := rfl
  have k6 : (led p.b Q (voice Q c.2) i p.ov).2 = doneB Q.g (voice Q c.2) i := rfl
  simp only [Std.d, lineD, List.map] at k1 k2
  cases h1 : doneB P.g (voice P c.1) j <;> cases h2 : doneB Q.g (voice Q c.2) i <;>
    simp [F_whole_by, B_whole_by, callD, callB, callO, args0, sSeq, sIf, sRet, sRetN, sRetO, sDrop, sAsg, sPar, sNx, sBk, sCt, sNever, eVar, eC, e1, e2, eIf, asB, eAnd, eOr, tAndM, tOrM, dNot, tNotB, aNil, aCons, mkT_ok, mkL_ok, gName, gsNil, gsCons, gTup, gLst, eChain, oNone, oSome, eSl, dIsi, dIsi2, tYesM, most, eLc, okW, isOl, lcGo, wipeR, restR, fAll, boolsD, sFor, forGo, Std.d, k1, k2, k3, k4, h1, h2, vsD, voices, earsD, fTuple, dones, k5, k6, lineD]
theorem behind_eq {p : Pln} (k : p.Sh) {s : Std} (o : s.Ok p) (c : Bool × Bool) : F_behind [p.d, s.d, prD c] = some (tick p s c).d := by
  have k1 := signs_of_eq s c
  have k2 := heard_by_eq k o
  obtain ⟨P, Q, l, m⟩ := s
  obtain ⟨i, t, rfl, i0, i1, t1, tl⟩ := line_cons k.x1 o.okl
  obtain ⟨j, u, rfl, j0, j1, u1, ul⟩ := line_cons k.y1 o.okm
  have k3 := talker_behind_eq p.a k.a P o.okp c.1 _ j rfl j0 j1 p.ov
  have k4 := talker_behind_eq p.b k.b Q o.okq c.2 _ i rfl i0 i1 p.ov
  have k5 : ∀ v : Int, dAdd (.tuple (t.map .int)) (.tuple [.int v]) = some (.tuple (t.map .int ++ [.int v])) := fun v => addT1 (by have := k.x2; simp; omega)
  have k6 : ∀ v : Int, dAdd (.tuple (u.map .int)) (.tuple [.int v]) = some (.tuple (u.map .int ++ [.int v])) := fun v => addT1 (by have := k.y2; simp; omega)
  have k7 : iR1 [.int 2] = some [.int 0, .int 1] := rfl
  simp only [Std.d, lineD, List.map] at k1 k2
  simp [F_behind, B_behind, callD, callB, callO, args0, sSeq, sIf, sRet, sRetN, sRetO, sDrop, sAsg, sPar, sNx, sBk, sCt, sNever, eVar, eC, e1, e2, eIf, asB, eAnd, eOr, tAndM, tOrM, dNot, tNotB, aNil, aCons, mkT_ok, mkL_ok, gName, gsNil, gsCons, gTup, gLst, eChain, oNone, oSome, eSl, dIsi, dIsi2, tYesM, most, eLc, okW, isOl, lcGo, wipeR, restR, fAll, boolsD, sFor, forGo, planD, Std.d, lineD, k1, k2, k3, k4, k5, k6, k7, sl1, vsD, voices, earsD, fTuple, tick, sApp, eTake, sPar3O]
end VS

namespace VS
open PySem PySem.Spec PyProof.Rows L2

theorem led_ok {h : Hab} {p : Prt} (k : h.Ok) (o : p.Ok h) {c : Bool} (m : c ∈ opts h p) (e : Int) (over : Bool) : (led h p (voice p c) e over).1.Ok h := by
  obtain ⟨a1, a2, a3, b1, b2, b3⟩ := k
  obtain ⟨sp, n, g⟩ := p
  cases sp
  · have o1 : 0 ≤ n ∧ n ≤ h.w1 := o
    cases c
    · show Prt.Ok h (led h ⟨false, n, g⟩ 0 e over).1
      by_cases he : e = 0
      · simp [led, he, Prt.Ok]; split <;> omega
      · simp [led, he, Prt.Ok]; split <;> omega
    · show Prt.Ok h (led h ⟨false, n, g⟩ 1 e over).1
      unfold led
      simp only [Prt.Ok]
      split
      · simp; omega
      · simp; omega
  · have o1 : 1 ≤ n ∧ n ≤ h.s1 - 1 := o
    cases c
    · have m' : ¬ n + 1 = h.s1 := by
        intro z
        simp [opts, z] at m
      show Prt.Ok h (led h ⟨true, n, g⟩ 2 e over).1
      unfold led
      simp only [Prt.Ok]
      split
      · simp; omega
      · simp; omega
    · show Prt.Ok h (led h ⟨true, n, g⟩ 3 e over).1
      simp [led, Prt.Ok]; omega
theorem tick_ok {p : Pln} (k : p.Sh) {s : Std} (o : s.Ok p) {c : Bool × Bool} (m : c ∈ chs p s) : (tick p s c).Ok p := by
  have m' := chs_mem.mp m
  obtain ⟨P, Q, l, n⟩ := s
  obtain ⟨i, t, rfl, i0, i1, t1, tl⟩ := line_cons k.x1 o.okl
  obtain ⟨j, u, rfl, j0, j1, u1, ul⟩ := line_cons k.y1 o.okm
  exact ⟨led_ok k.a o.okp m'.1 _ _, led_ok k.b o.okq m'.2 _ _, line_snoc t1 (voice_rng _ _).1 (voice_rng _ _).2, line_snoc u1 (voice_rng _ _).1 (voice_rng _ _).2⟩

/-! ### what guards the doors -/
open Classical in
theorem look_at_stand_yes {p : Pln} (k : p.Sh) {s : Std} (o : s.Ok p) : F_look_at_stand [p.d, s.d] = some .none := by
  have k1 := fits_eq k s.d
  rw [decide_eq_true ⟨s, o, rfl⟩] at k1
  simp [F_look_at_stand, B_look_at_stand, callD, callB, callO, args0, sSeq, sIf, sRet, sRetN, sRetO, sDrop, sAsg, sPar, sNx, sBk, sCt, sNever, eVar, eC, e1, e2, eIf, asB, eAnd, eOr, tAndM, tOrM, dNot, tNotB, aNil, aCons, mkT_ok, mkL_ok, gName, gsNil, gsCons, gTup, gLst, eChain, oNone, oSome, eSl, dIsi, dIsi2, tYesM, k1]
theorem pr_eqv (a b : Bool × Bool) : PyData.eqv (prD a) (prD b) = decide (a = b) := by
  obtain ⟨a1, a2⟩ := a
  obtain ⟨b1, b2⟩ := b
  cases a1 <;> cases a2 <;> cases b1 <;> cases b2 <;> simp [prD, PyData.eqv, PyData.eqvAll]
theorem pr_shaped (c : Bool × Bool) : SeqAt.shaped (prD c) = true := by
  simp [SeqAt.shaped, prD, PyData.canLay0, PyData.canLayAll0, PyData.depth, PyData.depthAll]
theorem ch_shaped (l : List (Bool × Bool)) : SeqAt.shaped (chD l) = true := by
  have : PyData.canLayAll0 (l.map prD) = true ∧ PyData.depthAll (l.map prD) ≤ 3 := by
    induction l with
    | nil => simp [PyData.canLayAll0, PyData.depthAll]
    | cons c l ih =>
      simp [PyData.canLayAll0, PyData.depthAll, ih.1, prD, PyData.canLay0, PyData.depth]
      omega
  simp [SeqAt.shaped, chD, PyData.canLay0, PyData.depth, this.1]
  omega
theorem in_ch (c : Bool × Bool) (l : List (Bool × Bool)) : dIn false (prD c) (chD l) = some (.bool (decide (c ∈ l))) := by
  have h1 : fIn false (prD c) (chD l) = none := by simp [fIn, chD, prD, flatD]
  rw [dIn, orE_none h1]
  refine orE_some ?_
  have h2 : SeqAt.shaped (.list (l.map prD)) = true := ch_shaped l
  simp only [lIn, chD, pr_shaped, h2, Bool.and_self, if_true, Bool.false_xor]
  congr 2
  rw [Bool.eq_iff_iff, decide_eq_true_iff, List.any_eq_true]
  constructor
  · rintro ⟨d, hd, q⟩
    obtain ⟨x, hx, rfl⟩ := List.mem_map.mp hd
    rw [pr_eqv, decide_eq_true_iff] at q
    exact q ▸ hx
  · intro h
    exact ⟨prD c, List.mem_map_of_mem h, by rw [pr_eqv]; simp⟩
theorem is_like_eq (c : Bool × Bool) (l : List (Bool × Bool)) : F_is_like [prD c, chD l] = some (.bool (decide (c ∈ l))) := by
  have k := in_ch c l
  simp only [prD] at k
  simp [F_is_like, B_is_like, callD, callB, callO, args0, sSeq, sIf, sRet, sRetN, sRetO, sDrop, sAsg, sPar, sNx, sBk, sCt, sNever, eVar, eC, e1, e2, eIf, asB, eAnd, eOr, tAndM, tOrM, dNot, tNotB, aNil, aCons, mkT_ok, mkL_ok, gName, gsNil, gsCons, gTup, gLst, eChain, oNone, oSome, eSl, dIsi, dIsi2, tYesM, most, eLc, okW, isOl, lcGo, wipeR, restR, fAll, boolsD, sFor, forGo, prD, k]
theorem look_at_choice_yes {p : Pln} {s : Std} (o : s.Ok p) {c : Bool × Bool} (m : c ∈ chs p s) : F_look_at_choice [p.d, s.d, prD c] = some .none := by
  have k1 := choices_of_eq o
  have k2 := is_like_eq c (chs p s)
  rw [decide_eq_true m] at k2
  simp [F_look_at_choice, B_look_at_choice, callD, callB, callO, args0, sSeq, sIf, sRet, sRetN, sRetO, sDrop, sAsg, sPar, sNx, sBk, sCt, sNever, eVar, eC, e1, e2, eIf, asB, eAnd, eOr, tAndM, tOrM, dNot, tNotB, aNil, aCons, mkT_ok, mkL_ok, gName, gsNil, gsCons, gTup, gLst, eChain, oNone, oSome, eSl, dIsi, dIsi2, tYesM, k1, k2]
theorem choices_at_eq {p : Pln} (k : p.Ok) {s : Std} (o : s.Ok p) : F_choices_at [p.d, s.d] = some (chD (chs p s)) := by
  have k1 := look_at_plan_yes k
  have k2 := look_at_stand_yes k.toSh o
  have k3 := choices_of_eq o
  simp [F_choices_at, B_choices_at, callD, callB, callO, args0, sSeq, sIf, sRet, sRetN, sRetO, sDrop, sAsg, sPar, sNx, sBk, sCt, sNever, eVar, eC, e1, e2, eIf, asB, eAnd, eOr, tAndM, tOrM, dNot, tNotB, aNil, aCons, mkT_ok, mkL_ok, gName, gsNil, gsCons, gTup, gLst, eChain, oNone, oSome, eSl, dIsi, dIsi2, tYesM, k1, k2, k3]
theorem heard_eq {p : Pln} (k : p.Ok) {s : Std} (o : s.Ok p) : F_heard [p.d, s.d] = some (earsD s) := by
  have k1 := look_at_plan_yes k
  have k2 := look_at_stand_yes k.toSh o
  have k3 := heard_by_eq k.toSh o
  simp [F_heard, B_heard, callD, callB, callO, args0, sSeq, sIf, sRet, sRetN, sRetO, sDrop, sAsg, sPar, sNx, sBk, sCt, sNever, eVar, eC, e1, e2, eIf, asB, eAnd, eOr, tAndM, tOrM, dNot, tNotB, aNil, aCons, mkT_ok, mkL_ok, gName, gsNil, gsCons, gTup, gLst, eChain, oNone, oSome, eSl, dIsi, dIsi2, tYesM, k1, k2, k3]
theorem said_eq {p : Pln} (k : p.Ok) {s : Std} (o : s.Ok p) {c : Bool × Bool} (m : c ∈ chs p s) : F_said [p.d, s.d, prD c] = some (vsD (voices s c)) := by
  have k1 := look_at_plan_yes k
  have k2 := look_at_stand_yes k.toSh o
  have k3 := look_at_choice_yes o m
  have k4 := signs_of_eq s c
  simp [F_said, B_said, callD, callB, callO, args0, sSeq, sIf, sRet, sRetN, sRetO, sDrop, sAsg, sPar, sNx, sBk, sCt, sNever, eVar, eC, e1, e2, eIf, asB, eAnd, eOr, tAndM, tOrM, dNot, tNotB, aNil, aCons, mkT_ok, mkL_ok, gName, gsNil, gsCons, gTup, gLst, eChain, oNone, oSome, eSl, dIsi, dIsi2, tYesM, k1, k2, k3, k4]
theorem after_eq {p : Pln} (k : p.Ok) {s : Std} (o : s.Ok p) {c : Bool × Bool} (m : c ∈ chs p s) : F_after [p.d, s.d, prD c] = some (tick p s c).d := by
  have k1 := look_at_plan_yes k
  have k2 := look_at_stand_yes k.toSh o
  have k3 := look_at_choice_yes o m
  have k4 := behind_eq k.toSh o c
  simp [F_after, B_after, callD, callB, callO, args0, sSeq, sIf, sRet, sRetN, sRetO, sDrop, sAsg, sPar, sNx, sBk, sCt, sNever, eVar, eC, e1, e2, eIf, asB, eAnd, eOr, tAndM, tOrM, dNot, tNotB, aNil, aCons, mkT_ok, mkL_ok, gName, gsNil, gsCons, gTup, gLst, eChain, oNone, oSome, eSl, dIsi, dIsi2, tYesM, k1, k2, k3, k4]
theorem whole_eq {p : Pln} (k : p.Ok) {s : Std} (o : s.Ok p) {c : Bool × Bool} (m : c ∈ chs p s) : F_whole [p.d, s.d, prD c] = some (lineD (dones p s c)) := by
  have k1 := look_at_plan_yes k
  have k2 := look_at_stand_yes k.toSh o
  have k3 := look_at_choice_yes o m
  have k4 := whole_by_eq k.toSh o c
  simp [F_whole, B_whole, callD, callB, callO, args0, sSeq, sIf, sRet, sRetN, sRetO, sDrop, sAsg, sPar, sNx, sBk, sCt, sNever, eVar, eC, e1, e2, eIf, asB, eAnd, eOr, tAndM, tOrM, dNot, tNotB, aNil, aCons, mkT_ok, mkL_ok, gName, gsNil, gsCons, gTup, gLst, eChain, oNone, oSome, eSl, dIsi, dIsi2, tYesM, k1, k2, k3, k4]

end VS

namespace VS
open PySem PySem.Spec PyProof.Rows L2


/-! ### twins -/
mutual
/-- plain data of so many layers, with at most so many items in a layer -/
def okP : Nat → D → Bool
  | _, .none | _, .bool _ | _, .int _ => true
  | _, .str x => PyData.strOk x
  | n + 1, .list ds => decide (ds.length ≤ 30000) && okPs n ds
  | n + 1, .tuple ds => decide (ds.length ≤ 30000) && okPs n ds
  | _, _ => false
def okPs : Nat → List D → Bool
  | _, [] => true
  | n, d :: ds => okP n d && okPs n ds
end
theorem okPs_iff {n : Nat} : ∀ {ds : List D}, okPs n ds = true ↔ ∀ d ∈ ds, okP n d = true
  | [] => by simp [okPs]
  | d :: ds => by simp [okPs, okPs_iff (ds := ds)]
theorem okP_lay : ∀ (n : Nat) (d : D), okP n d = true → d.canLay0 = true := by
  have all : ∀ n, (∀ d, okP n d = true → d.canLay0 = true) → ∀ ds, okPs n ds = true → PyData.canLayAll0 ds = true := by
    intro n ih ds
    induction ds with
    | nil => intro _; rfl
    | cons d ds hi =>
      intro h
      simp only [okPs, Bool.and_eq_true] at h
      simp [PyData.canLayAll0, ih d h.1, hi h.2]
  intro n
  induction n with
  | zero => intro d h; cases d <;> simp_all [okP, PyData.canLay0]
  | succ n ih =>
    intro d h
    cases d with
    | list ds => simp only [okP, Bool.and_eq_true] at h; exact all n ih ds h.2
    | tuple ds => simp only [okP, Bool.and_eq_true] at h; exact all n ih ds h.2
    | _ => simp_all [okP, PyData.canLay0]
def kindOf : D → Int
  | .none => 0
  | .bool _ => 1
  | .list _ => 2
  | .tuple _ => 3
  | .int _ => 4
  | .str _ => 5
  | .dict _ => 6
theorem law_kind_eq (d : D) : F__law_kind [d] = some (.int (kindOf d)) := by
  cases d <;> simp [F__law_kind, B__law_kind, callD, callB, callO, args0, sSeq, sIf, sRet, sRetN, sRetO, sDrop, sAsg, sPar, sNx, sBk, sCt, sNever, eVar, eC, e1, e2, eIf, asB, eAnd, eOr, tAndM, tOrM, dNot, tNotB, aNil, aCons, mkT_ok, mkL_ok, gName, gsNil, gsCons, gTup, gLst, eChain, oNone, oSome, eSl, dIsi, dIsi2, tYesM, dIsN, kindOf]
theorem in23 (i : Int) : dIn false (.int i) (.list [.int 2, .int 3]) = some (.bool (decide (i = 2) || decide (i = 3))) := by
  refine orE_some ?_
  simp only [fIn, flatD, List.all_cons, List.all_nil, Bool.and_self, if_pos, List.any_cons, List.any_nil, PyData.eqv, Bool.or_false, Bool.beq_eq_decide_eq, Bool.false_xor]
  congr 3
  · rw [Bool.eq_iff_iff]; simp; exact ⟨Eq.symm, Eq.symm⟩
  · rw [Bool.eq_iff_iff]; simp; exact ⟨Eq.symm, Eq.symm⟩
open Classical in
noncomputable def twN : D → Bool
  | .tuple [x, y] => !decide (x = y)
  | _ => false
open Classical in
theorem zip_all : ∀ (xs ys : List D), xs.length = ys.length → (((zipD xs ys).all fun d => !twN d) = true ↔ xs = ys)
  | [], [], _ => by simp
  | x :: xs, y :: ys, h => by
    have ih := zip_all xs ys (by simpa using h)
    rw [zip2, List.all_cons, Bool.and_eq_true, ih]
    simp [twN]
  | [], _ :: _, h => by simp at h
  | _ :: _, [], h => by simp at h
theorem zip_mem : ∀ {xs ys : List D} {d : D}, d ∈ zipD xs ys → ∃ x y, x ∈ xs ∧ y ∈ ys ∧ d = .tuple [x, y]
  | [], ys, d, h => by simp at h
  | x :: xs, [], d, h => by simp at h
  | x :: xs, y :: ys, d, h => by
    rw [zip2] at h
    rcases List.mem_cons.mp h with rfl | h
    · exact ⟨x, y, .head _, .head _, rfl⟩
    · obtain ⟨a, b, h1, h2, h3⟩ := zip_mem h
      exact ⟨a, b, .tail _ h1, .tail _ h2, h3⟩
theorem zip_len (xs ys : List D) : (zipD xs ys).length = min xs.length ys.length := by simp [zipD]
open Classical in
theorem twins_seq {Fr : List D → Option D} {xs ys : List D} (hf : ∀ x ∈ xs, ∀ y ∈ ys, Fr [x, y] = some (.bool (decide (x = y)))) (a b : D) :
    lcGo (gTup (gsCons (gName 2) (gsCons (gName 3) gsNil))) (e1 tNotB (e1 asB (e1 Fr (aCons (eVar 2) (aCons (eVar 3) aNil))))) (eC (.int 1)) [2, 3] (zipD xs ys) [some (.dat a), some (.dat b), none, none] = some (((zipD xs ys).filter twN).map fun _ => .int 1, [some (.dat a), some (.dat b), none, none]) :=
  lc_gen twN (fun _ => .int 1) fun d hd => by
    obtain ⟨x, y, hx, hy, rfl⟩ := zip_mem hd
    exact ⟨_, _, rfl, by simp [callD, callB, callO, args0, sSeq, sIf, sRet, sRetN, sRetO, sDrop, sAsg, sPar, sNx, sBk, sCt, sNever, eVar, eC, e1, e2, eIf, asB, eAnd, eOr, tAndM, tOrM, dNot, tNotB, aNil, aCons, mkT_ok, mkL_ok, gName, gsNil, gsCons, gTup, gLst, eChain, oNone, oSome, eSl, dIsi, dIsi2, tYesM, hf x hx y hy]; exact ⟨by simp [twN], rfl⟩, fun _ => rfl, fun _ => ⟨_, rfl, rfl⟩⟩
open Classical in
theorem twins_eq : ∀ (n : Nat) (a b : D), okP n a = true → okP n b = true → F__law_twins (n + 1) [a, b] = some (.bool (decide (a = b))) := by
  have flat : ∀ (Fr : List D → Option D) (a b : D), kindOf a ≠ 2 → kindOf a ≠ 3 → a.canLay0 = true → b.canLay0 = true → (kindOf a = kindOf b → PyData.eqv a b = decide (a = b)) → a.depth ≤ 1 → callD 4 2 (B__law_twins Fr) [a, b] = some (.bool (decide (a = b))) := by
    intro Fr a b h2 h3 l1 l2 he hd
    by_cases hk : kindOf a = kindOf b
    · have k1 : dEq a b = some (.bool (decide (a = b))) := by
        unfold dEq okEq
        rw [if_pos (by simp [l1, l2]; omega), he hk]
      simp [B__law_twins, callD, callB, callO, args0, sSeq, sIf, sRet, sRetN, sRetO, sDrop, sAsg, sPar, sNx, sBk, sCt, sNever, eVar, eC, e1, e2, eIf, asB, eAnd, eOr, tAndM, tOrM, dNot, tNotB, aNil, aCons, mkT_ok, mkL_ok, gName, gsNil, gsCons, gTup, gLst, eChain, oNone, oSome, eSl, dIsi, dIsi2, tYesM, law_kind_eq, hk, in23, k1]
      rw [hk] at h2 h3
      simp [h2, h3, k1]
    · have : ¬ a = b := fun z => hk (by rw [z])
      simp [B__law_twins, callD, callB, callO, args0, sSeq, sIf, sRet, sRetN, sRetO, sDrop, sAsg, sPar, sNx, sBk, sCt, sNever, eVar, eC, e1, e2, eIf, asB, eAnd, eOr, tAndM, tOrM, dNot, tNotB, aNil, aCons, mkT_ok, mkL_ok, gName, gsNil, gsCons, gTup, gLst, eChain, oNone, oSome, eSl, dIsi, dIsi2, tYesM, law_kind_eq, hk, this]
  have seq : ∀ (Fr : List D → Option D) (n : Nat), (∀ a b, okP n a = true → okP n b = true → Fr [a, b] = some (.bool (decide (a = b)))) → ∀ xs ys : List D, okPs n xs = true → okPs n ys = true → xs.length ≤ 30000 → ∀ a b, kindOf a = kindOf b → kindOf b = 2 ∨ kindOf b = 3 → fLen [a] = some (.int xs.length) → fLen [b] = some (.int ys.length) → iZ [a, b] = some (zipD xs ys) → ((a = b) ↔ xs = ys) → callD 4 2 (B__law_twins Fr) [a, b] = some (.bool (decide (a = b))) := by
    intro Fr n hf xs ys h1 h2 hl a b hk hk2 l1 l2 hz hab
    have k1 := twins_seq (Fr := Fr) (xs := xs) (ys := ys) (fun x hx y hy => hf x y (okPs_iff.mp h1 x hx) (okPs_iff.mp h2 y hy)) a b
    have k2 := eqNil (lay_ones ((zipD xs ys).filter twN))
    rw [filter_len] at k2
    have hl2 : ((zipD xs ys).filter twN).length ≤ most := by
      have := List.length_filter_le twN (zipD xs ys)
      rw [zip_len] at this
      unfold most; omega
    have k3 : (decide (kindOf b = 2) || decide (kindOf b = 3)) = true := by simpa using hk2
    by_cases hlen : xs.length = ys.length
    · have k4 := zip_all xs ys hlen
      have k5 : decide (a = b) = ((zipD xs ys).all fun d => !twN d) := by
        rw [Bool.eq_iff_iff, decide_eq_true_iff, hab, k4]
      rw [k5]
      simp [B__law_twins, callD, callB, callO, args0, sSeq, sIf, sRet, sRetN, sRetO, sDrop, sAsg, sPar, sNx, sBk, sCt, sNever, eVar, eC, e1, e2, eIf, asB, eAnd, eOr, tAndM, tOrM, dNot, tNotB, aNil, aCons, mkT_ok, mkL_ok, gName, gsNil, gsCons, gTup, gLst, eChain, oNone, oSome, eSl, dIsi, dIsi2, tYesM, law_kind_eq, hk, in23, k3, l1, l2, hlen, hz, eLc, okW, isOl, wipeR, restR, k1, hl2, k2]
    · have k5 : ¬ a = b := fun z => hlen (by rw [hab.mp z])
      have k6 : ¬ (xs.length : Int) = ys.length := by omega
      simp [B__law_twins, callD, callB, callO, args0, sSeq, sIf, sRet, sRetN, sRetO, sDrop, sAsg, sPar, sNx, sBk, sCt, sNever, eVar, eC, e1, e2, eIf, asB, eAnd, eOr, tAndM, tOrM, dNot, tNotB, aNil, aCons, mkT_ok, mkL_ok, gName, gsNil, gsCons, gTup, gLst, eChain, oNone, oSome, eSl, dIsi, dIsi2, tYesM, law_kind_eq, hk, in23, k3, l1, l2, k6, k5]
  have diff : ∀ (Fr : List D → Option D) (a b : D), kindOf a ≠ kindOf b → callD 4 2 (B__law_twins Fr) [a, b] = some (.bool (decide (a = b))) := by
    intro Fr a b hk
    have : ¬ a = b := fun z => hk (by rw [z])
    simp [B__law_twins, callD, callB, callO, args0, sSeq, sIf, sRet, sRetN, sRetO, sDrop, sAsg, sPar, sNx, sBk, sCt, sNever, eVar, eC, e1, e2, eIf, asB, eAnd, eOr, tAndM, tOrM, dNot, tNotB, aNil, aCons, mkT_ok, mkL_ok, gName, gsNil, gsCons, gTup, gLst, eChain, oNone, oSome, eSl, dIsi, dIsi2, tYesM, law_kind_eq, hk, this]
  intro n
  induction n with
  | zero =>
    intro a b ha hb
    have l1 := okP_lay _ _ ha
    have l2 := okP_lay _ _ hb
    by_cases hk : kindOf a = kindOf b
    · cases a <;> first | (simp [okP] at ha; done) | (cases b <;> first | (simp [kindOf] at hk; done) | exact flat _ _ _ (by simp [kindOf]) (by simp [kindOf]) l1 l2 (fun _ => by simp [PyData.eqv, Bool.beq_eq_decide_eq]) (by simp [PyData.depth]))
    · exact diff _ a b hk
  | succ n ih =>
    intro a b ha hb
    have l1 := okP_lay _ _ ha
    have l2 := okP_lay _ _ hb
    by_cases hk : kindOf a = kindOf b
    · cases a with
      | list xs =>
        cases b <;> first | (simp [kindOf] at hk; done) | skip
        rename_i ys
        simp only [okP, Bool.and_eq_true, decide_eq_true_iff] at ha hb
        exact seq _ n ih xs ys ha.2 hb.2 ha.1 _ _ hk (.inl rfl) rfl rfl rfl (by simp)
      | tuple xs =>
        cases b <;> first | (simp [kindOf] at hk; done) | skip
        rename_i ys
        simp only [okP, Bool.and_eq_true, decide_eq_true_iff] at ha hb
        exact seq _ n ih xs ys ha.2 hb.2 ha.1 _ _ hk (.inr rfl) rfl rfl rfl (by simp)
      | dict xs => simp [okP] at ha
      | _ => cases b <;> first | (simp [kindOf] at hk; done) | exact flat _ _ _ (by simp [kindOf]) (by simp [kindOf]) l1 l2 (fun _ => by simp [PyData.eqv, Bool.beq_eq_decide_eq]) (by simp [PyData.depth])
    · exact diff _ a b hk
/-! ### bent -/
theorem cut_len (ds : List D) (lo hi : Option Int) : (cutD ds lo hi).length ≤ ds.length := by
  unfold cutD
  simp
  omega
def bentL : List D := [.none, .bool true, .bool false, .int 0, .int 1, .int 2, .int 3, .int 4, .int 5, .int 6, .int 7, .int (-1), .int 1000000000000000000000000000000, .str (Str.ofString "quiet"), .str (Str.ofString "speaks"), .str (Str.ofString "torn"), .str (Str.ofString "whole"), .str (Str.ofString "none"), .str (Str.ofString ""),
  .tuple [], .list [], .tuple [.int 1, .int 1], .tuple [.int 2, .int 2], .tuple [.int 4, .int 2], .tuple [.int 2, .int 4], .tuple [.int 6, .int 6], .tuple [.int 0], .tuple [.str (Str.ofString "quiet"), .int 0, .str (Str.ofString "none")], .list [.int 0]]
theorem bent_tail {es : List D} (hs : Spr es) : ∃ r es' d, F__law_pick es [.int 29] = some (.int r, es') ∧ dIx (.list bentL) (.int r) = some d ∧ Spr es' := by
  obtain ⟨r, es', q, a, b, s⟩ := pick_ok hs 29 (by decide) (by decide)
  obtain ⟨d, hd, _⟩ := ixL_of (ds := bentL) a b
  exact ⟨r, es', d, q, hd, s⟩
theorem addL' {a b : List D} (h : a.length + b.length ≤ 100000) : dAdd (.list a) (.list b) = some (.list (a ++ b)) := addL h
theorem addT' {a b : List D} (h : a.length + b.length ≤ 100000) : dAdd (.tuple a) (.tuple b) = some (.tuple (a ++ b)) := addT h
theorem neNilT {ds : List D} (h : PyData.canLayAll0 ds = true) : dNe (.tuple ds) (.tuple []) = some (.bool (!ds.isEmpty)) := by
  unfold dNe okEq
  rw [if_pos (by simp [PyData.canLay0, h, PyData.canLayAll0, PyData.depth, PyData.depthAll])]
  cases ds <;> simp [PyData.eqv, PyData.eqvAll]
@[simp] theorem pow30 : iPow (.int 10) (.int 30) = some (.int 1000000000000000000000000000000) := rfl
@[simp] theorem negI {i : Int} : dNeg (.int i) = some (.int (-i)) := rfl
theorem bent_flat (Fr : List D → List D → Option (D × List D)) {v : D} {es : List D} (hs : Spr es) (h : Ty5.is .tup v = false ∨ v = .tuple []) : ∃ d es', callB 5 2 (B__law_bent Fr) es [v] = some (d, es') ∧ Spr es' := by
  obtain ⟨r, es', d, q1, q2, s⟩ := bent_tail hs
  simp only [bentL] at q2
  refine ⟨d, es', ?_, s⟩
  rcases h with h | rfl
  · simp [B__law_bent, callD, callB, callO, args0, sSeq, sIf, sRet, sRetN, sRetO, sDrop, sAsg, sPar, sNx, sBk, sCt, sNever, eVar, eC, e1, e2, eIf, asB, eAnd, eOr, tAndM, tOrM, dNot, tNotB, aNil, aCons, mkT_ok, mkL_ok, gName, gsNil, gsCons, gTup, gLst, eChain, oNone, oSome, eSl, dIsi, dIsi2, tYesM, h, eBor, isOl, addL', q1, q2]
  · have k := neNilT (ds := []) rfl
    simp [B__law_bent, callD, callB, callO, args0, sSeq, sIf, sRet, sRetN, sRetO, sDrop, sAsg, sPar, sNx, sBk, sCt, sNever, eVar, eC, e1, e2, eIf, asB, eAnd, eOr, tAndM, tOrM, dNot, tNotB, aNil, aCons, mkT_ok, mkL_ok, gName, gsNil, gsCons, gTup, gLst, eChain, oNone, oSome, eSl, dIsi, dIsi2, tYesM, k, eBor, isOl, addL', q1, q2]
theorem bent_ok : ∀ (n : Nat) (v : D) (es : List D), okP n v = true → Spr es → ∃ d es', F__law_bent (n + 1) es [v] = some (d, es') ∧ Spr es' := by
  intro n
  induction n with
  | zero =>
    intro v es hv hs
    cases v <;> first | (simp [okP] at hv; done) | exact bent_flat _ hs (.inl rfl)
  | succ n ih =>
    intro v es hv hs
    cases v <;> first | (simp [okP] at hv; done) | exact bent_flat _ hs (.inl rfl) | skip
    rename_i ds
    cases ds with
    | nil => exact bent_flat _ hs (.inr rfl)
    | cons x xs =>
      have lay := okP_lay _ _ hv
      simp only [okP, Bool.and_eq_true, decide_eq_true_iff] at hv
      obtain ⟨hl, hv⟩ := hv
      have k0 := neNilT (ds := x :: xs) lay
      simp only [List.isEmpty_cons, Bool.not_false] at k0
      obtain ⟨r1, es1, p1, a1, b1, s1⟩ := pick_ok hs 6 (by decide) (by decide)
      by_cases hr : 0 < r1
      · have hlen : ((x :: xs).length : Int) = xs.length + 1 := by simp
        obtain ⟨r2, es2, p2, a2, b2, s2⟩ := pick_ok s1 (xs.length + 1) (by omega) (by simp at hl; omega)
        obtain ⟨r3, es3, p3, a3, b3, s3⟩ := pick_ok s2 7 (by decide) (by decide)
        obtain ⟨y, hy, my⟩ := ixT_of (ds := x :: xs) a2 (by rw [hlen]; exact b2)
        obtain ⟨z, es4, hz, s4⟩ := ih y es3 (okPs_iff.mp hv y my) s3
        have c1 := cut_len (x :: xs) none (some r2)
        have c2 := cut_len (x :: xs) (some (r2 + 1)) none
        have c3 := cut_len (x :: xs) (some r2) (some (r2 + 1))
        have c4 := cut_len (x :: xs) (some r2) none
        simp only [List.length_cons] at hl c1 c2 c3 c4
        have d1 : dAdd (.tuple (cutD (x :: xs) none (some r2))) (.tuple (cutD (x :: xs) (some (r2 + 1)) none)) = some _ := addT' (by omega)
        have d2 : dAdd (.tuple (cutD (x :: xs) none (some r2))) (.tuple (cutD (x :: xs) (some r2) (some (r2 + 1)))) = some _ := addT' (by omega)
        by_cases h0 : r3 = 0
        · subst h0
          refine ⟨.tuple (cutD (x :: xs) none (some r2) ++ cutD (x :: xs) (some (r2 + 1)) none), es3, ?_, s3⟩
          simp [F__law_bent, B__law_bent, callD, callB, callO, args0, sSeq, sIf, sRet, sRetN, sRetO, sDrop, sAsg, sPar, sNx, sBk, sCt, sNever, eVar, eC, e1, e2, eIf, asB, eAnd, eOr, tAndM, tOrM, dNot, tNotB, aNil, aCons, mkT_ok, mkL_ok, gName, gsNil, gsCons, gTup, gLst, eChain, oNone, oSome, eSl, dIsi, dIsi2, tYesM, k0, eBor, isOl, p1, p2, p3, hr, hy, dSl, d1]
        · by_cases h1 : r3 = 1
          · subst h1
            have d3 : dAdd (.tuple (cutD (x :: xs) none (some r2) ++ cutD (x :: xs) (some r2) (some (r2 + 1)))) (.tuple (cutD (x :: xs) (some r2) none)) = some _ := addT' (by simp only [List.length_append]; omega)
            refine ⟨.tuple ((cutD (x :: xs) none (some r2) ++ cutD (x :: xs) (some r2) (some (r2 + 1))) ++ cutD (x :: xs) (some r2) none), es3, ?_, s3⟩
            simp [F__law_bent, B__law_bent, callD, callB, callO, args0, sSeq, sIf, sRet, sRetN, sRetO, sDrop, sAsg, sPar, sNx, sBk, sCt, sNever, eVar, eC, e1, e2, eIf, asB, eAnd, eOr, tAndM, tOrM, dNot, tNotB, aNil, aCons, mkT_ok, mkL_ok, gName, gsNil, gsCons, gTup, gLst, eChain, oNone, oSome, eSl, dIsi, dIsi2, tYesM, k0, eBor, isOl, p1, p2, p3, hr, hy, dSl, d2, d3, -List.append_assoc]
          · have d4 : dAdd (.tuple (cutD (x :: xs) none (some r2))) (.tuple [z]) = some _ := addT' (by simp; omega)
            have d5 : dAdd (.tuple (cutD (x :: xs) none (some r2) ++ [z])) (.tuple (cutD (x :: xs) (some (r2 + 1)) none)) = some _ := addT' (by simp only [List.length_append, List.length_singleton]; omega)
            refine ⟨.tuple ((cutD (x :: xs) none (some r2) ++ [z]) ++ cutD (x :: xs) (some (r2 + 1)) none), es4, ?_, s4⟩
            rw [F__law_bent]
            generalize F__law_bent (n + 1) = Fr at hz
            simp [B__law_bent, callD, callB, callO, args0, sSeq, sIf, sRet, sRetN, sRetO, sDrop, sAsg, sPar, sNx, sBk, sCt, sNever, eVar, eC, e1, e2, eIf, asB, eAnd, eOr, tAndM, tOrM, dNot, tNotB, aNil, aCons, mkT_ok, mkL_ok, gName, gsNil, gsCons, gTup, gLst, eChain, oNone, oSome, eSl, dIsi, dIsi2, tYesM, k0, eBor, isOl, p1, p2, p3, hr, hy, dSl, d4, d5, h0, h1, hz, -List.append_assoc]
      · obtain ⟨r, es', d, q1, q2, s⟩ := bent_tail s1
        simp only [bentL] at q2
        exact ⟨d, es', by simp [F__law_bent, B__law_bent, callD, callB, callO, args0, sSeq, sIf, sRet, sRetN, sRetO, sDrop, sAsg, sPar, sNx, sBk, sCt, sNever, eVar, eC, e1, e2, eIf, asB, eAnd, eOr, tAndM, tOrM, dNot, tNotB, aNil, aCons, mkT_ok, mkL_ok, gName, gsNil, gsCons, gTup, gLst, eChain, oNone, oSome, eSl, dIsi, dIsi2, tYesM, k0, eBor, isOl, p1, hr, addL', q1, q2], s⟩
theorem bent10 {v : D} {es : List D} (hv : okP 9 v = true) (hs : Spr es) : ∃ d es', F__law_bent 10 es [v] = some (d, es') ∧ Spr es' := bent_ok 9 v es hv hs
end VS

namespace VS
open PySem PySem.Spec PyProof.Rows L2

/-! ### loops by what they keep -/
theorem sSeq_nx {a b : MS} {ρ ρ1 : Rho} (h : a ρ = some (.nx, ρ1)) : sSeq a b ρ = b ρ1 := by simp [sSeq, h]
theorem lc_inv {t : D → Rho → Option Rho} {c : M Bool} {e : M D} {vs : List Nat} (I : Rho → Prop) : ∀ {ds : List D},
    (∀ d ∈ ds, ∀ ρ, I ρ → ∃ ρ1 ρ2 y ρ3, t d ρ = some ρ1 ∧ c ρ1 = some (true, ρ2) ∧ e ρ2 = some (y, ρ3) ∧ I (wipeR ρ3 vs)) →
    ∀ ρ, I ρ → ∃ ys ρ', lcGo t c e vs ds ρ = some (ys, ρ') ∧ I ρ' ∧ ys.length = ds.length
  | [], _, ρ, i => ⟨[], ρ, rfl, i, rfl⟩
  | d :: ds, h, ρ, i => by
    obtain ⟨ρ1, ρ2, y, ρ3, h1, h2, h3, h4⟩ := h d (.head _) ρ i
    obtain ⟨ys, ρ', q1, q2, q3⟩ := lc_inv I (fun d' hd => h d' (.tail _ hd)) _ h4
    exact ⟨y :: ys, ρ', by simp [lcGo, h1, h2, h3, q1], q2, by simp [q3]⟩
theorem for_inv {t : D → Rho → Option Rho} {b : MS} (I : Rho → Prop) : ∀ {ds : List D},
    (∀ d ∈ ds, ∀ ρ, I ρ → ∃ ρ1 ρ2, t d ρ = some ρ1 ∧ b ρ1 = some (.nx, ρ2) ∧ I ρ2) →
    ∀ ρ, I ρ → ∃ ρ', forGo t b ds ρ = some (.nx, ρ') ∧ I ρ'
  | [], _, ρ, i => ⟨ρ, rfl, i⟩
  | d :: ds, h, ρ, i => by
    obtain ⟨ρ1, ρ2, h1, h2, h3⟩ := h d (.head _) ρ i
    obtain ⟨ρ', q1, q2⟩ := for_inv I (fun d' hd => h d' (.tail _ hd)) _ h3
    exact ⟨ρ', by simp [forGo, h1, h2, q1], q2⟩
theorem lc_invP {t : D → Rho → Option Rho} {c : M Bool} {e : M D} {vs : List Nat} (I : Rho → Prop) (P : D → Prop) : ∀ {ds : List D},
    (∀ d ∈ ds, ∀ ρ, I ρ → ∃ ρ1 ρ2 y ρ3, t d ρ = some ρ1 ∧ c ρ1 = some (true, ρ2) ∧ e ρ2 = some (y, ρ3) ∧ I (wipeR ρ3 vs) ∧ P y) →
    ∀ ρ, I ρ → ∃ ys ρ', lcGo t c e vs ds ρ = some (ys, ρ') ∧ I ρ' ∧ ys.length = ds.length ∧ ∀ y ∈ ys, P y
  | [], _, ρ, i => ⟨[], ρ, rfl, i, rfl, by simp⟩
  | d :: ds, h, ρ, i => by
    obtain ⟨ρ1, ρ2, y, ρ3, h1, h2, h3, h4, h5⟩ := h d (.head _) ρ i
    obtain ⟨ys, ρ', q1, q2, q3, q4⟩ := lc_invP I P (fun d' hd => h d' (.tail _ hd)) _ h4
    exact ⟨y :: ys, ρ', by simp [lcGo, h1, h2, h3, q1], q2, by simp [q3], fun z hz => by
      rcases List.mem_cons.mp hz with rfl | hz
      · exact h5
      · exact q4 z hz⟩
theorem asgS_of {f : M D} {t : D → Rho → Option Rho} {ρ ρ1 ρ2 : Rho} {d : D} (h1 : f ρ = some (d, ρ1)) (h2 : t d ρ1 = some ρ2) : sAsg f t ρ = some (.nx, ρ2) := by simp [sAsg, h1, h2]
theorem e2S_of {op : D → D → Option D} {a b : M D} {ρ ρ1 ρ2 : Rho} {x y z : D} (h1 : a ρ = some (x, ρ1)) (h2 : b ρ1 = some (y, ρ2)) (h3 : op x y = some z) : e2 op a b ρ = some (z, ρ2) := by simp [e2, h1, h2, h3]
theorem forS_of {it : M (List D)} {t : D → Rho → Option Rho} {b : MS} {ds : List D} {ρ ρ1 ρ2 : Rho} {fl : Fl} (h1 : it ρ = some (ds, ρ1)) (h2 : forGo t b ds ρ1 = some (fl, ρ2)) : sFor it t b ρ = some (fl, ρ2) := by simp [sFor, h1, h2]
theorem for_invN {t : D → Rho → Option Rho} {b : MS} (N : Nat) (I : Nat → Rho → Prop) : ∀ {ds : List D} (k : Nat), k + ds.length ≤ N →
    (∀ d ∈ ds, ∀ k ρ, k < N → I k ρ → ∃ ρ1 ρ2, t d ρ = some ρ1 ∧ b ρ1 = some (.nx, ρ2) ∧ I (k + 1) ρ2) →
    ∀ ρ, I k ρ → ∃ ρ', forGo t b ds ρ = some (.nx, ρ') ∧ I (k + ds.length) ρ'
  | [], k, _, _, ρ, i => ⟨ρ, rfl, i⟩
  | d :: ds, k, hk, h, ρ, i => by
    obtain ⟨ρ1, ρ2, h1, h2, h3⟩ := h d (.head _) k ρ (by simp at hk; omega) i
    obtain ⟨ρ', q1, q2⟩ := for_invN N I (k + 1) (by simp at hk ⊢; omega) (fun d' hd => h d' (.tail _ hd)) _ h3
    exact ⟨ρ', by simp [forGo, h1, h2, q1], by rw [List.length_cons, show k + (ds.length + 1) = k + 1 + ds.length by omega]; exact q2⟩
def nol (x : Option SV) : Prop := x = none ∨ ∃ d, x = some (.dat d)
theorem nol_none : nol none := .inl rfl
theorem nol_dat {d : D} : nol (some (.dat d)) := .inr ⟨d, rfl⟩
theorem isOl_no {ρ : Rho} {j : Nat} {x : Option SV} (h : ρ[j]? = some x) (n : nol x) : isOl ρ j = none := by
  unfold isOl
  rw [h]
  rcases n with rfl | ⟨d, rfl⟩ <;> rfl
theorem okW_one {ρ : Rho} {j : Nat} {x : Option SV} (h : ρ[j]? = some x) (n : nol x) : okW ρ [j] = true := by
  simp only [okW, List.all_cons, List.all_nil, Bool.and_true, h]
  rcases n with rfl | ⟨d, rfl⟩ <;> rfl
theorem rg_len (lo : Int) (n : Nat) : (rgD lo n).length = n := by simp [rgD]
theorem rg_mem {lo : Int} {n : Nat} {d : D} (h : d ∈ rgD lo n) : ∃ i : Nat, i < n ∧ d = .int (lo + i) := by
  unfold rgD at h
  obtain ⟨i, hi, rfl⟩ := List.mem_map.mp h
  exact ⟨i, by simpa using hi, rfl⟩
theorem iR1_ok {r : Int} (h0 : 0 ≤ r) (h1 : r < 1000000) : iR1 [.int r] = some (rgD 0 r.toNat) := if_pos (by omega)
theorem okPs_ints (n : Nat) (l : List Int) : okPs n (l.map .int) = true := by
  induction l with
  | nil => simp [okPs]
  | cons i l ih => simp [okPs, ih]; cases n <;> rfl
theorem okP_int (n : Nat) (i : Int) : okP n (.int i) = true := by cases n <;> rfl
theorem okP_bool (n : Nat) (i : Bool) : okP n (.bool i) = true := by cases n <;> rfl
theorem okP_str (n : Nat) (x : Str) : okP n (.str x) = PyData.strOk x := by cases n <;> rfl
theorem hab_okP (n : Nat) (h : Hab) : okP (n + 2) h.d = true := by simp [okP, okPs, Hab.d, okP_int, okP_bool]
theorem pln_okP (n : Nat) (p : Pln) : okP (n + 4) p.d = true := by
  have h1 := hab_okP n p.a
  have h2 := hab_okP n p.b
  simp [okP, okPs, Pln.d, okP_int, okP_bool, h1, h2]
theorem prt_okP (n : Nat) (p : Prt) : okP (n + 1) p.d = true := by simp [okP, okPs, Prt.d, okP_int, okP_str]
theorem line_okP (n : Nat) {l : List Int} (h : l.length ≤ 30000) : okP (n + 1) (lineD l) = true := by simp [okP, lineD, okPs_ints, h]
theorem std_okP (n : Nat) {p : Pln} (k : p.Sh) {s : Std} (o : s.Ok p) : okP (n + 3) s.d = true := by
  have h1 := o.okl.1
  have h2 := o.okm.1
  have h3 := k.x2
  have h4 := k.y2
  have q1 := line_okP n (l := s.l) (by omega)
  have q2 := line_okP n (l := s.m) (by omega)
  simp [okP, okPs, Std.d, prt_okP, q1, q2]
theorem twins_yes {n : Nat} {d : D} (h : okP n d = true) : F__law_twins (n + 1) [d, d] = some (.bool true) := by rw [twins_eq n d d h h]; simp
/-- a row among the choices -/
theorem ch_pick {p : Pln} {s : Std} {r : Int} (h0 : 0 ≤ r) (h1 : r < (chs p s).length) : ∃ c, dIx (chD (chs p s)) (.int r) = some (prD c) ∧ c ∈ chs p s := by
  obtain ⟨d, q, m⟩ := ixL_of (ds := (chs p s).map prD) h0 (by simpa using h1)
  obtain ⟨c, hc, rfl⟩ := List.mem_map.mp m
  exact ⟨c, q, hc⟩
theorem ch_len (p : Pln) (s : Std) : fLen [chD (chs p s)] = some (.int (chs p s).length) := by simp [chD]
/-- the script's turns -/
theorem turns_ok (script : List Int) (m : Int) (h0 : 0 ≤ m) (h1 : m < 1000) : iR1 [.int ((if m < (script.length : Int) then m else (script.length : Int)) + 1)] = some (rgD 0 ((if m < (script.length : Int) then m else (script.length : Int)) + 1).toNat) :=
  iR1_ok (by split <;> omega) (by split <;> omega)
theorem ints_of : ∀ {ys : List D}, (∀ y ∈ ys, ∃ i : Int, y = .int i ∧ 0 ≤ i ∧ i ≤ 3) → ∃ l : List Int, ys = l.map .int ∧ ∀ i ∈ l, 0 ≤ i ∧ i ≤ 3
  | [], _ => ⟨[], rfl, by simp⟩
  | y :: ys, h => by
    obtain ⟨i, rfl, h1⟩ := h y (.head _)
    obtain ⟨l, rfl, h2⟩ := ints_of fun z hz => h z (.tail _ hz)
    exact ⟨i :: l, rfl, by simpa using ⟨h1, h2⟩⟩
theorem dones_len (p : Pln) (s : Std) (c : Bool × Bool) : (dones p s c).length ≤ 2 := by
  unfold dones
  split <;> split <;> simp
theorem vs_okP (n : Nat) (v : Int × Int) : okP (n + 1) (vsD v) = true := by simp [okP, okPs, vsD, okP_int]
theorem pr_okP (n : Nat) (c : Bool × Bool) : okP (n + 1) (prD c) = true := by simp [okP, okPs, prD, okP_bool]
theorem ch_okP (n : Nat) (p : Pln) (s : Std) : okP (n + 2) (chD (chs p s)) = true := by
  have h := chs_len p s
  have : okPs (n + 1) ((chs p s).map prD) = true := okPs_iff.mpr fun d hd => by
    obtain ⟨c, _, rfl⟩ := List.mem_map.mp hd
    exact pr_okP n c
  simp [okP, chD, this]; omega
theorem ears_okP (n : Nat) (s : Std) : okP (n + 1) (earsD s) = true := by simp [okP, okPs, earsD, okP_int]
theorem dones_okP (n : Nat) (p : Pln) (s : Std) (c : Bool × Bool) : okP (n + 1) (lineD (dones p s c)) = true := line_okP n (Nat.le_trans (dones_len p s c) (by decide))
theorem list_okP {n : Nat} {ds : List D} (h : ds.length ≤ 30000) (k : ∀ d ∈ ds, okP n d = true) : okP (n + 1) (.list ds) = true := by
  have := okPs_iff.mpr k
  simp [okP, this, h]
end VS

namespace VS
open PySem PySem.Spec PyProof.Rows L2

/-! ### dicts whose keys are of one kind -/
structure KT (α : Type) where
  e : α → D
  k : α → NestedKey
  ok : ∀ a, keyD (e a) = some (k a)
  inj : ∀ a b, k a = k b → a = b
section
variable {α β γ δ : Type} [DecidableEq α] (T : KT α)
theorem KT.kOf (a : α) : VS.kOf (T.e a) = some (T.k a) := (keyD_some (T.ok a)).2.1
theorem KT.iff (a b : α) : T.k a = T.k b ↔ a = b := ⟨T.inj a b, fun h => by rw [h]⟩
theorem KT.einj {a b : α} (h : T.e a = T.e b) : a = b := T.inj a b (by have h1 := T.kOf a; rw [h, T.kOf b] at h1; exact (Option.some.inj h1).symm)
def KT.enc (f : β → γ) (l : List (α × β)) : List (D × γ) := l.map fun x => (T.e x.1, f x.2)
def get (l : List (α × β)) (a : α) : Option β := (l.find? fun x => decide (x.1 = a)).map (·.2)
def put (l : List (α × β)) (a : α) (b : β) : List (α × β) := if (get l a).isSome then l.map (fun x => if x.1 = a then (x.1, b) else x) else l ++ [(a, b)]
def app (l : List (α × List β)) (a : α) (b : β) : List (α × List β) := l.map fun x => if x.1 = a then (x.1, x.2 ++ [b]) else x
theorem look_enc (f : β → γ) (l : List (α × β)) (a : α) : lookD (T.enc f l) (T.k a) = (get l a).map f := by
  induction l with
  | nil => rfl
  | cons x l ih =>
    by_cases h : x.1 = a
    · subst h
      simp [lookD, get, KT.enc, T.kOf]
    · have h2 : ¬ T.k x.1 = T.k a := fun z => h (T.inj _ _ z)
      simp only [lookD, get, KT.enc, List.map_cons, List.find?_cons, T.kOf, Option.some.injEq, h, h2, decide_false] at ih ⊢
      exact ih
theorem put_enc (f : β → γ) (l : List (α × β)) (a : α) (b : β) : putD (T.enc f l) (T.k a) (T.e a) (f b) = T.enc f (put l a b) := by
  unfold putD put
  rw [look_enc]
  simp only [Option.isSome_map]
  split
  · simp only [KT.enc, List.map_map]
    apply List.map_congr_left
    intro x _
    by_cases h : x.1 = a
    · subst h; simp [T.kOf]
    · have h2 : ¬ T.k x.1 = T.k a := fun z => h (T.inj _ _ z)
      simp [T.kOf, h, h2]
  · simp [KT.enc]
theorem drop_enc (f : β → γ) (l : List (α × β)) (a : α) : dropD (T.enc f l) (T.k a) = T.enc f (l.filter fun x => decide (x.1 ≠ a)) := by
  unfold dropD KT.enc
  rw [List.filter_map]
  congr 1
  apply List.filter_congr
  intro x _
  simp [T.kOf, T.iff]
theorem app_enc (f : β → D) (l : List (α × List β)) (a : α) (b : β) : appD (T.enc (List.map f) l) (T.k a) (f b) = T.enc (List.map f) (app l a b) := by
  unfold appD app KT.enc
  simp only [List.map_map]
  apply List.map_congr_left
  intro x _
  by_cases h : x.1 = a
  · subst h; simp [T.kOf]
  · have h2 : ¬ T.k x.1 = T.k a := fun z => h (T.inj _ _ z)
    simp [T.kOf, h, h2]
theorem enc_len (f : β → γ) (l : List (α × β)) : (T.enc f l).length = l.length := by simp [KT.enc]
theorem enc_keys (f : β → γ) (l : List (α × β)) : (T.enc f l).map (·.1) = (l.map (·.1)).map T.e := by simp [KT.enc]
theorem get_cons (x : α × β) (l : List (α × β)) (a : α) : get (x :: l) a = if x.1 = a then some x.2 else get l a := by
  unfold get
  rw [List.find?_cons]
  by_cases h : x.1 = a <;> simp [h]
theorem get_some_mem {l : List (α × β)} {a : α} {b : β} (h : get l a = some b) : (a, b) ∈ l := by
  induction l with
  | nil => cases h
  | cons x l ih =>
    rw [get_cons] at h
    split at h
    · rename_i q; cases h; subst q; exact .head _
    · exact .tail _ (ih h)
theorem get_none {l : List (α × β)} {a : α} : get l a = none ↔ a ∉ l.map (·.1) := by
  induction l with
  | nil => simp [get]
  | cons x l ih =>
    rw [get_cons]
    by_cases h : x.1 = a
    · simp [h]
    · rw [if_neg h, ih]; simp [Ne.symm h]
theorem get_isSome {l : List (α × β)} {a : α} : (get l a).isSome = decide (a ∈ l.map (·.1)) := by
  rw [Bool.eq_iff_iff, decide_eq_true_iff]
  cases h : get l a with
  | none => have := get_none.mp h; simpa using this
  | some b => simp; have := get_some_mem h; exact ⟨b, this⟩
theorem get_of_mem {l : List (α × β)} (nd : (l.map (·.1)).Nodup) {a : α} {b : β} (h : (a, b) ∈ l) : get l a = some b := by
  induction l with
  | nil => cases h
  | cons x l ih =>
    rw [List.map_cons, List.nodup_cons] at nd
    rw [get_cons]
    rcases List.mem_cons.mp h with rfl | h
    · simp
    · have : x.1 ≠ a := fun z => nd.1 (by rw [z]; exact List.mem_map_of_mem (f := (·.1)) h)
      rw [if_neg this]
      exact ih nd.2 h
theorem get_app {l m : List (α × β)} {a : α} {b : β} (h : get l a = some b) : get (l ++ m) a = some b := by
  induction l with
  | nil => cases h
  | cons x l ih =>
    rw [List.cons_append, get_cons]
    rw [get_cons] at h
    split at h
    · rename_i q; rw [if_pos q]; exact h
    · rename_i q; rw [if_neg q]; exact ih h
end
/-! ### stands as keys -/
def kLine (l : List Int) : NestedKey := .tup (l.map .num)
def kPrt (p : Prt) : NestedKey := .tup [.text (modeS p.sp), .num p.n, .text p.g.s]
def kStd (s : Std) : NestedKey := .tup [.tup [kPrt s.p, kPrt s.q], .tup [kLine s.l, kLine s.m]]
theorem kOfs_ints (l : List Int) : kOfs (l.map .int) = some (l.map .num) := by
  induction l with
  | nil => rfl
  | cons i l ih => simp [kOfs, kOf, ih]
theorem kOf_line (l : List Int) : kOf (lineD l) = some (kLine l) := by simp [lineD, kOf, kOfs_ints, kLine]
theorem kOf_prt (p : Prt) : kOf p.d = some (kPrt p) := by simp [Prt.d, kOf, kOfs, kPrt]
theorem kOf_std (s : Std) : kOf s.d = some (kStd s) := by simp [Std.d, kOf, kOfs, kOf_line, kOf_prt, kStd]
theorem depth_nums (l : List Int) : NestedKey.depthAll (l.map .num) ≤ 1 := by
  induction l with
  | nil => simp [NestedKey.depthAll]
  | cons i l ih => simp [NestedKey.depthAll, NestedKey.depth]; omega
theorem depth_line (l : List Int) : (kLine l).depth ≤ 2 := by
  have := depth_nums l
  simp [kLine, NestedKey.depth]; omega
theorem depth_prt (p : Prt) : (kPrt p).depth ≤ 2 := by simp [kPrt, NestedKey.depth, NestedKey.depthAll]
theorem depth_std (s : Std) : (kStd s).depth ≤ 8 := by
  have h1 := depth_line s.l
  have h2 := depth_line s.m
  have h3 := depth_prt s.p
  have h4 := depth_prt s.q
  simp only [kStd, NestedKey.depth, NestedKey.depthAll]; omega
theorem nums_inj {l m : List Int} (h : l.map NestedKey.num = m.map .num) : l = m := by
  induction l generalizing m with
  | nil => cases m <;> simp at h; rfl
  | cons i l ih =>
    cases m with
    | nil => simp at h
    | cons j m => simp at h; rw [h.1, ih (by simpa using h.2)]
theorem kPrt_inj {p q : Prt} (h : kPrt p = kPrt q) : p = q := by
  obtain ⟨a, n, g⟩ := p
  obtain ⟨a', n', g'⟩ := q
  simp only [kPrt, NestedKey.tup.injEq, List.cons.injEq, NestedKey.text.injEq, NestedKey.num.injEq, mode_inj, hg_inj, and_true] at h
  obtain ⟨h1, h2, h3⟩ := h
  rw [h1, h2, h3]
theorem kStd_inj (s t : Std) (h : kStd s = kStd t) : s = t := by
  obtain ⟨p, q, l, m⟩ := s
  obtain ⟨p', q', l', m'⟩ := t
  simp only [kStd, kLine, NestedKey.tup.injEq, List.cons.injEq, and_true] at h
  obtain ⟨⟨h1, h2⟩, h3, h4⟩ := h
  rw [kPrt_inj h1, kPrt_inj h2, nums_inj h3, nums_inj h4]
def SK : KT Std where
  e := Std.d
  k := kStd
  ok := fun s => by
    have h := kOf_std s
    unfold Std.d at h ⊢
    simp only [keyD, h, depth_std, if_true]
  inj := kStd_inj
theorem key_std (s : Std) : keyD s.d = some (SK.k s) := SK.ok s
theorem SK_e (s : Std) : SK.e s = s.d := rfl
/-! ### how many stands there are -/
theorem sub_len {α : Type} [DecidableEq α] : ∀ {l m : List α}, l.Nodup → (∀ x ∈ l, x ∈ m) → l.length ≤ m.length
  | [], m, _, _ => Nat.zero_le _
  | a :: l, m, nd, h => by
    rw [List.nodup_cons] at nd
    have h1 : a ∈ m := h a (.head _)
    have h2 := sub_len (l := l) (m := m.erase a) nd.2 fun x hx => (List.mem_erase_of_ne (fun z => nd.1 (by rw [← z]; exact hx))).mpr (h x (.tail _ hx))
    rw [List.length_erase_of_mem h1] at h2
    have := List.length_pos_of_mem h1
    rw [List.length_cons]; omega
theorem flat_len {α β : Type} (f : α → List β) (n : Nat) : ∀ l : List α, (∀ x ∈ l, (f x).length ≤ n) → (l.flatMap f).length ≤ l.length * n
  | [], _ => by simp
  | a :: l, h => by
    have h1 := h a (.head _)
    have h2 := flat_len f n l fun x hx => h x (.tail _ hx)
    rw [List.flatMap_cons, List.length_append, List.length_cons, Nat.add_mul]; omega
def intsL (lo : Int) (n : Nat) : List Int := (List.range n).map (fun i : Nat => lo + (i : Int))
theorem mem_ints {lo i : Int} {n : Nat} : i ∈ intsL lo n ↔ lo ≤ i ∧ i < lo + n := by
  unfold intsL
  rw [List.mem_map]
  constructor
  · rintro ⟨j, hj, rfl⟩
    rw [List.mem_range] at hj; omega
  · rintro ⟨h1, h2⟩
    exact ⟨(i - lo).toNat, by rw [List.mem_range]; omega, by omega⟩
theorem ints_len (lo : Int) (n : Nat) : (intsL lo n).length = n := by simp [intsL]
def hgs : List Hg := [.none, .torn, .whole]
theorem mem_hgs (g : Hg) : g ∈ hgs := by cases g <;> simp [hgs]
/-- a part with what is chosen there -/
def prtL (h : Hab) : List (Bool × Int) := (intsL 0 (h.w1.toNat + 1)).map (fun n => (false, n)) ++ (intsL 1 (h.s1 - 1).toNat).map (fun n => (true, n))
def prtOptL (h : Hab) : List (Bool × Int × Bool) := [(false, 0, false)] ++ (intsL 1 h.w1.toNat).flatMap (fun n => [(false, n, false), (false, n, true)]) ++ ((intsL 1 (h.s1 - 2).toNat).flatMap (fun n => [(true, n, false), (true, n, true)]) ++ [(true, h.s1 - 1, true)])
theorem prtL_len {h : Hab} (k : h.Ok) : (prtL h).length ≤ (h.w1 + h.s1).toNat := by
  obtain ⟨a1, a2, a3, b1, b2, b3⟩ := k
  simp only [prtL, List.length_append, List.length_map, ints_len]; omega
theorem prtOptL_len {h : Hab} (k : h.Ok) : (prtOptL h).length ≤ (2 * (h.w1 + h.s1) - 2).toNat := by
  obtain ⟨a1, a2, a3, b1, b2, b3⟩ := k
  have h1 := flat_len (fun n : Int => [(false, n, false), (false, n, true)]) 2 (intsL 1 h.w1.toNat) (fun _ _ => Nat.le_refl _)
  have h2 := flat_len (fun n : Int => [(true, n, false), (true, n, true)]) 2 (intsL 1 (h.s1 - 2).toNat) (fun _ _ => Nat.le_refl _)
  rw [ints_len] at h1 h2
  simp only [prtOptL, List.length_append, List.length_cons, List.length_nil]; omega
theorem mem_prtL {h : Hab} {p : Prt} (o : p.Ok h) : (p.sp, p.n) ∈ prtL h := by
  obtain ⟨sp, n, g⟩ := p
  unfold prtL
  rw [List.mem_append]
  cases sp
  · have o1 : 0 ≤ n ∧ n ≤ h.w1 := o
    exact .inl (List.mem_map.mpr ⟨n, mem_ints.mpr (by omega), rfl⟩)
  · have o1 : 1 ≤ n ∧ n ≤ h.s1 - 1 := o
    exact .inr (List.mem_map.mpr ⟨n, mem_ints.mpr (by omega), rfl⟩)
theorem mem_prtOptL {h : Hab} (k : h.Ok) {p : Prt} (o : p.Ok h) {c : Bool} (m : c ∈ opts h p) : (p.sp, p.n, c) ∈ prtOptL h := by
  obtain ⟨sp, n, g⟩ := p
  obtain ⟨a1, a2, a3, b1, b2, b3⟩ := k
  unfold prtOptL
  simp only [List.mem_append, List.mem_flatMap, List.mem_singleton]
  cases sp
  · have o1 : 0 ≤ n ∧ n ≤ h.w1 := o
    by_cases h0 : n = 0
    · subst h0
      have : c = false := by
        have q : ¬ h.w0 ≤ 0 := by omega
        simp only [opts, q, if_false, List.append_nil, Bool.false_eq_true] at m
        split at m <;> simp at m
        exact m
      exact .inl (.inl (by rw [this]))
    · exact .inl (.inr ⟨n, mem_ints.mpr (by omega), by cases c <;> simp⟩)
  · have o1 : 1 ≤ n ∧ n ≤ h.s1 - 1 := o
    by_cases h0 : n = h.s1 - 1
    · subst h0
      have : c = true := by
        have q : h.s1 - 1 + 1 = h.s1 := by omega
        simp [opts, q] at m
        exact m.2
      exact .inr (.inr (by rw [this]))
    · exact .inr (.inl ⟨n, mem_ints.mpr (by omega), by cases c <;> simp⟩)
def lineL : Nat → List (List Int)
  | 0 => [[]]
  | n + 1 => (intsL 0 4).flatMap fun i => (lineL n).map fun l => i :: l
theorem lineL_len : ∀ n, (lineL n).length = 4 ^ n
  | 0 => rfl
  | n + 1 => by
    have : intsL 0 4 = [0, 1, 2, 3] := rfl
    simp only [lineL, this, List.flatMap_cons, List.flatMap_nil, List.length_append, List.length_map, lineL_len n, List.length_nil, Nat.pow_succ]; omega
theorem mem_lineL : ∀ {n : Nat} {l : List Int}, l.length = n → (∀ i ∈ l, 0 ≤ i ∧ i ≤ 3) → l ∈ lineL n
  | 0, [], _, _ => by simp [lineL]
  | n + 1, i :: l, h, q => by
    have h0 := q i (.head _)
    unfold lineL
    exact List.mem_flatMap.mpr ⟨i, mem_ints.mpr (by omega), List.mem_map.mpr ⟨l, mem_lineL (by simpa using h) (fun j hj => q j (.tail _ hj)), rfl⟩⟩
def prods {α β : Type} (l : List α) (m : List β) : List (α × β) := l.flatMap fun a => m.map fun b => (a, b)
theorem prods_len {α β : Type} (l : List α) (m : List β) : (prods l m).length = l.length * m.length := by
  unfold prods
  induction l with
  | nil => simp
  | cons a l ih => rw [List.flatMap_cons, List.length_append, ih, List.length_map, List.length_cons, Nat.add_mul]; omega
theorem mem_prods {α β : Type} {l : List α} {m : List β} {a : α} {b : β} (h1 : a ∈ l) (h2 : b ∈ m) : (a, b) ∈ prods l m := List.mem_flatMap.mpr ⟨a, h1, List.mem_map.mpr ⟨b, h2, rfl⟩⟩
/-- plans that are small enough -/
structure Pln.Sm (p : Pln) : Prop extends p.Sh where
  x : p.x ≤ 2
  y : p.y ≤ 2
  sz : p.size ≤ 4500
def Std.code (s : Std) : ((Bool × Int) × Hg) × ((Bool × Int) × Hg) × List Int × List Int := (((s.p.sp, s.p.n), s.p.g), ((s.q.sp, s.q.n), s.q.g), s.l, s.m)
theorem code_inj {s t : Std} (h : s.code = t.code) : s = t := by
  obtain ⟨⟨a, b, c⟩, ⟨a', b', c'⟩, l, m⟩ := s
  obtain ⟨⟨u, v, w⟩, ⟨u', v', w'⟩, l', m'⟩ := t
  simp only [Std.code, Prod.mk.injEq] at h
  obtain ⟨⟨⟨rfl, rfl⟩, rfl⟩, ⟨⟨rfl, rfl⟩, rfl⟩, rfl, rfl⟩ := h
  rfl
def Std.ecode (s : Std) (c : Bool × Bool) : ((Bool × Int × Bool) × Hg) × ((Bool × Int × Bool) × Hg) × List Int × List Int := (((s.p.sp, s.p.n, c.1), s.p.g), ((s.q.sp, s.q.n, c.2), s.q.g), s.l, s.m)
theorem ecode_inj {s t : Std} {c d : Bool × Bool} (h : s.ecode c = t.ecode d) : s = t ∧ c = d := by
  obtain ⟨⟨a, b, c1⟩, ⟨a', b', c1'⟩, l, m⟩ := s
  obtain ⟨⟨u, v, w⟩, ⟨u', v', w'⟩, l', m'⟩ := t
  obtain ⟨c, c'⟩ := c
  obtain ⟨d, d'⟩ := d
  simp only [Std.ecode, Prod.mk.injEq] at h
  obtain ⟨⟨⟨rfl, rfl, rfl⟩, rfl⟩, ⟨⟨rfl, rfl, rfl⟩, rfl⟩, rfl, rfl⟩ := h
  exact ⟨rfl, rfl⟩
theorem nodup_map {α β : Type} {f : α → β} (hf : ∀ a b, f a = f b → a = b) : ∀ {l : List α}, l.Nodup → (l.map f).Nodup
  | [], _ => List.nodup_nil
  | a :: l, h => by
    rw [List.nodup_cons] at h
    rw [List.map_cons, List.nodup_cons]
    refine ⟨fun z => ?_, nodup_map hf h.2⟩
    obtain ⟨b, hb, e⟩ := List.mem_map.mp z
    exact h.1 (hf _ _ e ▸ hb)
theorem stds_len {p : Pln} (k : p.Sh) {l : List Std} (nd : l.Nodup) (ok : ∀ s ∈ l, s.Ok p) :
    l.length ≤ ((p.a.w1 + p.a.s1).toNat * 3) * (((p.b.w1 + p.b.s1).toNat * 3) * (4 ^ p.x.toNat * 4 ^ p.y.toNat)) := by
  have h := @sub_len _ (fun _ _ => Classical.propDecidable _) (l := l.map Std.code) (m := prods (prods (prtL p.a) hgs) (prods (prods (prtL p.b) hgs) (prods (lineL p.x.toNat) (lineL p.y.toNat)))) (nodup_map (fun _ _ => code_inj) nd) (by
    intro x hx
    obtain ⟨s, hs, rfl⟩ := List.mem_map.mp hx
    have o := ok s hs
    refine mem_prods (mem_prods (mem_prtL o.okp) (mem_hgs _)) (mem_prods (mem_prods (mem_prtL o.okq) (mem_hgs _)) (mem_prods (mem_lineL ?_ o.okl.2) (mem_lineL ?_ o.okm.2)))
    · have := o.okl.1; omega
    · have := o.okm.1; omega)
  rw [List.length_map] at h
  simp only [prods_len, lineL_len] at h
  exact Nat.le_trans h (Nat.mul_le_mul (Nat.mul_le_mul (prtL_len k.a) (Nat.le_refl _)) (Nat.mul_le_mul (Nat.mul_le_mul (prtL_len k.b) (Nat.le_refl _)) (Nat.le_refl _)))
theorem edges_len {p : Pln} (k : p.Sh) {l : List (Std × (Bool × Bool))} (nd : l.Nodup) (ok : ∀ e ∈ l, e.1.Ok p ∧ e.2 ∈ chs p e.1) :
    l.length ≤ ((2 * (p.a.w1 + p.a.s1) - 2).toNat * 3) * (((2 * (p.b.w1 + p.b.s1) - 2).toNat * 3) * (4 ^ p.x.toNat * 4 ^ p.y.toNat)) := by
  have h := @sub_len _ (fun _ _ => Classical.propDecidable _) (l := l.map fun e => e.1.ecode e.2) (m := prods (prods (prtOptL p.a) hgs) (prods (prods (prtOptL p.b) hgs) (prods (lineL p.x.toNat) (lineL p.y.toNat)))) (nodup_map (fun a b h => by have := ecode_inj h; exact Prod.ext this.1 this.2) nd) (by
    intro x hx
    obtain ⟨⟨s, c⟩, hs, rfl⟩ := List.mem_map.mp hx
    obtain ⟨o, m⟩ := ok _ hs
    have m' := chs_mem.mp m
    refine mem_prods (mem_prods (mem_prtOptL k.a o.okp m'.1) (mem_hgs _)) (mem_prods (mem_prods (mem_prtOptL k.b o.okq m'.2) (mem_hgs _)) (mem_prods (mem_lineL ?_ o.okl.2) (mem_lineL ?_ o.okm.2)))
    · have : (s.l.length : Int) = p.x := o.okl.1
      show s.l.length = _
      omega
    · have : (s.m.length : Int) = p.y := o.okm.1
      show s.m.length = _
      omega)
  rw [List.length_map] at h
  simp only [prods_len, lineL_len] at h
  exact Nat.le_trans h (Nat.mul_le_mul (Nat.mul_le_mul (prtOptL_len k.a) (Nat.le_refl _)) (Nat.mul_le_mul (Nat.mul_le_mul (prtOptL_len k.b) (Nat.le_refl _)) (Nat.le_refl _)))
end VS

namespace VS
open PySem PySem.Spec PyProof.Rows L2

def numB : Bool := (List.range 3).all fun x => (List.range 3).all fun y => (List.range 11).all fun A => (List.range 11).all fun B =>
  !(decide (3 ≤ A) && decide (3 ≤ B) && decide (1 ≤ x) && decide (1 ≤ y) && decide (3 * (A + 1) * (2 * x + 1) * 3 * (B + 1) * (2 * y + 1) ≤ 4500)) || (decide ((A * 3) * ((B * 3) * (4 ^ x * 4 ^ y)) ≤ 30000) && decide (((2 * A - 2) * 3) * (((2 * B - 2) * 3) * (4 ^ x * 4 ^ y)) ≤ 90000))
theorem numB_true : numB = true := by decide +kernel
theorem small_num (x : Nat) (hx : x < 3) (y : Nat) (hy : y < 3) (A : Nat) (hA : A < 11) (B : Nat) (hB : B < 11) (h1 : 3 ≤ A) (h2 : 3 ≤ B) (h3 : 1 ≤ x) (h4 : 1 ≤ y) (h5 : 3 * (A + 1) * (2 * x + 1) * 3 * (B + 1) * (2 * y + 1) ≤ 4500) :
    (A * 3) * ((B * 3) * (4 ^ x * 4 ^ y)) ≤ 30000 ∧ ((2 * A - 2) * 3) * (((2 * B - 2) * 3) * (4 ^ x * 4 ^ y)) ≤ 90000 := by
  have h := numB_true
  unfold numB at h
  have h := List.all_eq_true.mp (List.all_eq_true.mp (List.all_eq_true.mp (List.all_eq_true.mp h x (List.mem_range.mpr hx)) y (List.mem_range.mpr hy)) A (List.mem_range.mpr hA)) B (List.mem_range.mpr hB)
  rw [decide_eq_true h1, decide_eq_true h2, decide_eq_true h3, decide_eq_true h4, decide_eq_true h5] at h
  simp only [Bool.and_self, Bool.not_true, Bool.false_or, Bool.and_eq_true, decide_eq_true_iff] at h
  exact h
theorem Pln.Sm.num {p : Pln} (k : p.Sm) : ((p.a.w1 + p.a.s1).toNat * 3) * (((p.b.w1 + p.b.s1).toNat * 3) * (4 ^ p.x.toNat * 4 ^ p.y.toNat)) ≤ 30000 ∧
    ((2 * (p.a.w1 + p.a.s1) - 2).toNat * 3) * (((2 * (p.b.w1 + p.b.s1) - 2).toNat * 3) * (4 ^ p.x.toNat * 4 ^ p.y.toNat)) ≤ 90000 := by
  obtain ⟨⟨⟨a1, a2, a3, b1, b2, b3⟩, ⟨c1, c2, c3, d1, d2, d3⟩, x1, x2, y1, y2⟩, x, y, sz⟩ := k
  obtain ⟨X, hX⟩ := Int.eq_ofNat_of_zero_le (a := p.x) (by omega)
  obtain ⟨Y, hY⟩ := Int.eq_ofNat_of_zero_le (a := p.y) (by omega)
  obtain ⟨A, hA⟩ := Int.eq_ofNat_of_zero_le (a := p.a.w1 + p.a.s1) (by omega)
  obtain ⟨B, hB⟩ := Int.eq_ofNat_of_zero_le (a := p.b.w1 + p.b.s1) (by omega)
  unfold Pln.size at sz
  rw [hX, hY, hA, hB] at sz
  have sz' : 3 * (A + 1) * (2 * X + 1) * 3 * (B + 1) * (2 * Y + 1) ≤ 4500 := by exact_mod_cast sz
  have h := small_num X (by omega) Y (by omega) A (by omega) B (by omega) (by omega) (by omega) (by omega) (by omega) sz'
  rw [hX, hY, hA, hB]
  have e1 : (2 * (A : Int) - 2).toNat = 2 * A - 2 := by omega
  have e2 : (2 * (B : Int) - 2).toNat = 2 * B - 2 := by omega
  rw [e1, e2]
  simpa using h
theorem stds_small {p : Pln} (k : p.Sm) {l : List Std} (nd : l.Nodup) (ok : ∀ s ∈ l, s.Ok p) : l.length ≤ 30000 := Nat.le_trans (stds_len k.toSh nd ok) k.num.1
theorem edges_small {p : Pln} (k : p.Sm) {l : List (Std × (Bool × Bool))} (nd : l.Nodup) (ok : ∀ e ∈ l, e.1.Ok p ∧ e.2 ∈ chs p e.1) : l.length ≤ 90000 := Nat.le_trans (edges_len k.toSh nd ok) k.num.2

/-! ### runs -/
def runEnd (p : Pln) : Std → List (Bool × Bool) → Std
  | s, [] => s
  | s, c :: cs => runEnd p (tick p s c) cs
def runOk (p : Pln) : Std → List (Bool × Bool) → Prop
  | _, [] => True
  | s, c :: cs => c ∈ chs p s ∧ runOk p (tick p s c) cs
theorem runEnd_ok {p : Pln} (k : p.Sh) : ∀ {cs : List (Bool × Bool)} {s : Std}, s.Ok p → runOk p s cs → (runEnd p s cs).Ok p
  | [], _, o, _ => o
  | c :: cs, s, o, h => runEnd_ok k (cs := cs) (tick_ok k o h.1) h.2
theorem runEnd_snoc (p : Pln) : ∀ (cs : List (Bool × Bool)) (s : Std) (c : Bool × Bool), runEnd p s (cs ++ [c]) = tick p (runEnd p s cs) c
  | [], _, _ => rfl
  | d :: cs, s, c => runEnd_snoc p cs (tick p s d) c
theorem runOk_snoc {p : Pln} : ∀ {cs : List (Bool × Bool)} {s : Std} {c : Bool × Bool}, runOk p s cs → c ∈ chs p (runEnd p s cs) → runOk p s (cs ++ [c])
  | [], _, _, _, h => ⟨h, trivial⟩
  | d :: cs, s, c, h, h2 => ⟨h.1, runOk_snoc (cs := cs) h.2 h2⟩
def runD (cs : List (Bool × Bool)) : D := .tuple (cs.map prD)

/-! ### all stands that come up -/
abbrev Wy := List (Std × List (Bool × Bool))
def vis1 (p : Pln) (s : Std) (r : List (Bool × Bool)) (acc : Wy) (c : Bool × Bool) : Wy := if (get acc (tick p s c)).isSome then acc else acc ++ [(tick p s c, r ++ [c])]
def vis (p : Pln) (e : Std × List (Bool × Bool)) (acc : Wy) : Wy := (chs p e.1).foldl (vis1 p e.1 e.2) acc
def bfs (p : Pln) : Nat → Wy → Nat → Wy
  | 0, acc, _ => acc
  | n + 1, acc, i => match acc[i]? with
    | none => acc
    | some e => bfs p n (vis p e acc) (i + 1)
structure WInv (p : Pln) (acc : Wy) : Prop where
  nd : (acc.map (·.1)).Nodup
  ok : ∀ e ∈ acc, e.1.Ok p
  ln : ∀ e ∈ acc, e.2.length < acc.length
  rn : ∀ e ∈ acc, runOk p p.first e.2 ∧ runEnd p p.first e.2 = e.1
theorem WInv.len {p : Pln} (k : p.Sm) {acc : Wy} (w : WInv p acc) : acc.length ≤ 30000 := by
  have := stds_small k w.nd (fun s hs => by
    obtain ⟨e, he, rfl⟩ := List.mem_map.mp hs
    exact w.ok e he)
  simpa using this
theorem vis1_ext (p : Pln) (s : Std) (r : List (Bool × Bool)) (acc : Wy) (c : Bool × Bool) : ∃ m, vis1 p s r acc c = acc ++ m := by
  unfold vis1
  split
  · exact ⟨[], by simp⟩
  · exact ⟨_, rfl⟩
theorem vis1_inv {p : Pln} (k : p.Sh) {acc : Wy} (w : WInv p acc) {s : Std} {r : List (Bool × Bool)} (he : (s, r) ∈ acc) {c : Bool × Bool} (hc : c ∈ chs p s) : WInv p (vis1 p s r acc c) := by
  unfold vis1
  split
  · exact w
  · rename_i h
    have hn : tick p s c ∉ acc.map (·.1) := by
      rw [get_isSome] at h
      simpa using h
    have o := w.ok _ he
    have hr := w.rn _ he
    refine ⟨?_, fun e h => ?_, fun e h => ?_, fun e h => ?_⟩
    · rw [List.map_append, List.nodup_append]
      refine ⟨w.nd, by simp, fun a ha b hb => ?_⟩
      simp only [List.map_cons, List.map_nil, List.mem_singleton] at hb
      rintro rfl
      exact hn (hb ▸ ha)
    · rcases List.mem_append.mp h with h | h
      · exact w.ok e h
      · rw [List.mem_singleton.mp h]; exact tick_ok k o hc
    · rw [List.length_append, List.length_singleton]
      rcases List.mem_append.mp h with h | h
      · have := w.ln e h; omega
      · rw [List.mem_singleton.mp h]
        have := w.ln _ he
        simp only [List.length_append, List.length_singleton] at this ⊢; omega
    · rcases List.mem_append.mp h with h | h
      · exact w.rn e h
      · rw [List.mem_singleton.mp h]
        have e1 : runEnd p p.first r = s := hr.2
        exact ⟨runOk_snoc hr.1 (by rw [e1]; exact hc), by show runEnd p p.first (r ++ [c]) = _; rw [runEnd_snoc, e1]⟩
theorem visl_inv {p : Pln} (k : p.Sh) {s : Std} {r : List (Bool × Bool)} : ∀ {cs : List (Bool × Bool)} {acc : Wy}, WInv p acc → (s, r) ∈ acc → (∀ c ∈ cs, c ∈ chs p s) → WInv p (cs.foldl (vis1 p s r) acc) ∧ (∃ m, cs.foldl (vis1 p s r) acc = acc ++ m) ∧ ∀ c ∈ cs, tick p s c ∈ (cs.foldl (vis1 p s r) acc).map (·.1)
  | [], acc, w, _, _ => ⟨w, ⟨[], by simp⟩, fun c h => by cases h⟩
  | c :: cs, acc, w, he, hc => by
    obtain ⟨m, hm⟩ := vis1_ext p s r acc c
    have h1 := vis1_inv k w he (hc c (.head _))
    have he1 : (s, r) ∈ vis1 p s r acc c := by rw [hm]; exact List.mem_append_left _ he
    obtain ⟨g1, ⟨m2, g2⟩, g3⟩ := visl_inv (cs := cs) k h1 he1 fun d hd => hc d (.tail _ hd)
    refine ⟨g1, ⟨m ++ m2, ?_⟩, fun d hd => ?_⟩
    · rw [List.foldl_cons, g2, hm, List.append_assoc]
    · rcases List.mem_cons.mp hd with rfl | hd
      · rw [List.foldl_cons, g2, List.map_append]
        refine List.mem_append_left _ ?_
        unfold vis1
        split
        · rename_i q; rw [get_isSome] at q; simpa using q
        · simp
      · exact g3 d hd
/-- what stands at the places below i has been walked through -/
def Done (p : Pln) (acc : Wy) (i : Nat) : Prop := ∀ j e, j < i → acc[j]? = some e → ∀ c ∈ chs p e.1, tick p e.1 c ∈ acc.map (·.1)
theorem vis_ok {p : Pln} (k : p.Sh) {acc : Wy} (w : WInv p acc) {i : Nat} (d : Done p acc i) {e : Std × List (Bool × Bool)} (he : acc[i]? = some e) : WInv p (vis p e acc) ∧ Done p (vis p e acc) (i + 1) ∧ ∃ m, vis p e acc = acc ++ m := by
  obtain ⟨g1, ⟨m, g2⟩, g3⟩ := visl_inv (s := e.1) (r := e.2) (cs := chs p e.1) k w (List.mem_of_getElem? he) fun c h => h
  have hlt : i < acc.length := (List.getElem?_eq_some_iff.mp he).1
  refine ⟨g1, fun j e' hj hj' c hc => ?_, m, g2⟩
  have hja : acc[j]? = some e' := by
    have : j < acc.length := by omega
    unfold vis at hj'
    rw [g2, List.getElem?_append_left this] at hj'
    exact hj'
  rcases Nat.lt_succ_iff_lt_or_eq.mp hj with h | rfl
  · have := d j e' h hja c hc
    unfold vis
    rw [g2, List.map_append]
    exact List.mem_append_left _ this
  · rw [he] at hja
    cases hja
    exact g3 c hc
theorem bfs_ok {p : Pln} (k : p.Sm) : ∀ {n : Nat} {acc : Wy} {i : Nat}, WInv p acc → Done p acc i → 30000 < n + i → ∀ j, WInv p (bfs p n acc i) ∧ Done p (bfs p n acc i) j ∧ ∃ m, bfs p n acc i = acc ++ m
  | 0, acc, i, w, d, h => fun j => ⟨w, fun j' e hj he => d j' e (by
      have := w.len k
      have he' : acc[j']? = some e := he
      have := (List.getElem?_eq_some_iff.mp he').1
      omega) he, [], by simp [bfs]⟩
  | n + 1, acc, i, w, d, h => fun j => by
    unfold bfs
    split
    · rename_i hi
      refine ⟨w, fun j' e hj he => d j' e ?_ he, [], by simp⟩
      have := List.getElem?_eq_none_iff.mp hi
      have := (List.getElem?_eq_some_iff.mp he).1
      omega
    · rename_i e he
      obtain ⟨h1, h2, m, h3⟩ := vis_ok k.toSh w d he
      obtain ⟨g1, g2, m2, g3⟩ := bfs_ok (n := n) (i := i + 1) k h1 h2 (by omega) j
      exact ⟨g1, g2, m ++ m2, by rw [g3, h3, List.append_assoc]⟩
def ways (p : Pln) : Wy := bfs p 40000 [(p.first, [])] 0
theorem winv0 {p : Pln} (k : p.Sh) : WInv p [(p.first, [])] := ⟨by simp, by simpa using first_ok k, by simp, by simp [runOk, runEnd]⟩
theorem ways_inv {p : Pln} (k : p.Sm) : WInv p (ways p) := (bfs_ok k (winv0 k.toSh) (fun j e hj => absurd hj (by omega)) (n := 40000) (by omega) 0).1
theorem ways_closed {p : Pln} (k : p.Sm) {s : Std} (hs : s ∈ (ways p).map (·.1)) {c : Bool × Bool} (hc : c ∈ chs p s) : tick p s c ∈ (ways p).map (·.1) := by
  obtain ⟨e, he, rfl⟩ := List.mem_map.mp hs
  obtain ⟨j, hj⟩ := List.getElem?_of_mem he
  exact (bfs_ok k (i := 0) (winv0 k.toSh) (fun j e hj => absurd hj (by omega)) (n := 40000) (by omega) (j + 1)).2.1 j e (by omega) hj c hc
theorem ways_first {p : Pln} (k : p.Sm) : p.first ∈ (ways p).map (·.1) := by
  obtain ⟨m, h⟩ := (bfs_ok k (i := 0) (winv0 k.toSh) (fun j e hj => absurd hj (by omega)) (n := 40000) (by omega) 0).2.2
  unfold ways
  rw [h]; simp

/-! ### the walk through all stands, as it is written -/
def bfs0 (st : M D) : MS := (sSeq (sAsg st (gName 7)) (sIf (e1 asB (eDIn true 2 (eVar 7))) (sSeq (sAsg (e2 dAdd (eDIx 2 (eVar 5)) (e1 mkT (aCons (eVar 6) aNil))) (gDSet 2 (eVar 7))) (sApp 3 (eVar 7))) sNx))
def bfs1 (F : List D → Option D) (st : M D) : MS := (sSeq (sAsg (eIxO 3 (eVar 4)) (gName 5)) (sSeq (sAsg (e2 dAdd (eVar 4) (eC (.int 1))) (gName 4)) (sFor (e1 iSeq (e1 F (aCons (eVar 0) (aCons (eVar 5) aNil)))) (gName 6) (bfs0 st))))
abbrev wyD (acc : Wy) : List (D × D) := SK.enc runD acc
abbrev wyL (acc : Wy) : List D := acc.map fun e => e.1.d
theorem bfs0_ok {p : Pln} (k : p.Sm) {st : M D} {acc : Wy} (w : WInv p acc) {s : Std} {r : List (Bool × Bool)} (he : (s, r) ∈ acc) {c : Bool × Bool} (hc : c ∈ chs p s) (x0 x1 x2 x3 x4 x5 x6 x7 : Option SV)
    (hst : ∀ x0 x1 x2 x3 x4 x5 x6 x7 : Option SV, st [some (.dat p.d), x1, x2, x3, x4, some (.dat s.d), some (.dat (prD c)), x7] = some ((tick p s c).d, [some (.dat p.d), x1, x2, x3, x4, some (.dat s.d), some (.dat (prD c)), x7])) :
    bfs0 st [some (.dat p.d), x1, some (.od (wyD acc)), some (.ol (wyL acc)), x4, some (.dat s.d), some (.dat (prD c)), x7]
      = some (.nx, [some (.dat p.d), x1, some (.od (wyD (vis1 p s r acc c))), some (.ol (wyL (vis1 p s r acc c))), x4, some (.dat s.d), some (.dat (prD c)), some (.dat (tick p s c).d)]) := by
  have h1 := hst x0 x1 (some (.od (wyD acc))) (some (.ol (wyL acc))) x4 x5 x6 x7
  generalize hT : tick p s c = t at h1
  have hl := w.len k
  have hr := w.ln _ he
  have h2 : get acc s = some r := get_of_mem w.nd he
  have h3 : dAdd (.tuple (r.map prD)) (.tuple [prD c]) = some (.tuple (r.map prD ++ [prD c])) := addT1 (by simp at hr ⊢; omega)
  have h4 : acc.length < 100000 := by omega
  unfold bfs0 vis1
  rw [hT]
  refine (sSeq_nx (ρ1 := [some (.dat p.d), x1, some (.od (wyD acc)), some (.ol (wyL acc)), x4, some (.dat s.d), some (.dat (prD c)), some (.dat t.d)]) (by simp [callD, callB, callO, args0, sSeq, sIf, sRet, sRetN, sRetO, sDrop, sAsg, sPar, sNx, sBk, sCt, sNever, eVar, eC, e1, e2, eIf, asB, eAnd, eOr, tAndM, tOrM, dNot, tNotB, aNil, aCons, mkT_ok, mkL_ok, gName, gsNil, gsCons, gTup, gLst, eChain, oNone, oSome, eSl, dIsi, dIsi2, tYesM, h1])).trans ?_
  cases ht : get acc t with
  | some r' => simp [callD, callB, callO, args0, sSeq, sIf, sRet, sRetN, sRetO, sDrop, sAsg, sPar, sNx, sBk, sCt, sNever, eVar, eC, e1, e2, eIf, asB, eAnd, eOr, tAndM, tOrM, dNot, tNotB, aNil, aCons, mkT_ok, mkL_ok, gName, gsNil, gsCons, gTup, gLst, eChain, oNone, oSome, eSl, dIsi, dIsi2, tYesM, eDIn, isOd, key_std, look_enc, ht]
  | none =>
    have h5 : putD (wyD acc) (SK.k t) t.d (.tuple (r.map prD ++ [prD c])) = wyD (acc ++ [(t, r ++ [c])]) := by
      have := put_enc SK runD acc t (r ++ [c])
      simp only [SK_e, runD, List.map_append, List.map_cons, List.map_nil] at this
      rw [this]
      simp [put, ht]
    simp [callD, callB, callO, args0, sSeq, sIf, sRet, sRetN, sRetO, sDrop, sAsg, sPar, sNx, sBk, sCt, sNever, eVar, eC, e1, e2, eIf, asB, eAnd, eOr, tAndM, tOrM, dNot, tNotB, aNil, aCons, mkT_ok, mkL_ok, gName, gsNil, gsCons, gTup, gLst, eChain, oNone, oSome, eSl, dIsi, dIsi2, tYesM, eDIn, isOd, key_std, look_enc, ht, eDIx, h2, runD, h3, gDSet, most, enc_len, h4, sApp, isOl]
    exact h5
theorem bfsl_ok {p : Pln} (k : p.Sm) {st : M D} {s : Std} {r : List (Bool × Bool)} 
    (hst : ∀ c, c ∈ chs p s → ∀ x0 x1 x2 x3 x4 x5 x6 x7 : Option SV, st [some (.dat p.d), x1, x2, x3, x4, some (.dat s.d), some (.dat (prD c)), x7] = some ((tick p s c).d, [some (.dat p.d), x1, x2, x3, x4, some (.dat s.d), some (.dat (prD c)), x7])) :
    ∀ {cs : List (Bool × Bool)} {acc : Wy}, WInv p acc → (s, r) ∈ acc → (∀ c ∈ cs, c ∈ chs p s) → ∀ x0 x1 x2 x3 x4 x5 x6 x7 : Option SV, ∃ y6 y7 : Option SV,
    forGo (gName 6) (bfs0 st) (cs.map prD) [some (.dat p.d), x1, some (.od (wyD acc)), some (.ol (wyL acc)), x4, some (.dat s.d), x6, x7]
      = some (.nx, [some (.dat p.d), x1, some (.od (wyD (cs.foldl (vis1 p s r) acc))), some (.ol (wyL (cs.foldl (vis1 p s r) acc))), x4, some (.dat s.d), y6, y7])
  | [], acc, w, he, hc, x0, x1, x2, x3, x4, x5, x6, x7 => ⟨_, _, rfl⟩
  | c :: cs, acc, w, he, hc, x0, x1, x2, x3, x4, x5, x6, x7 => by
    have h1 := bfs0_ok k w he (hc c (.head _)) x0 x1 x2 x3 x4 x5 x6 x7 (hst c (hc c (.head _)))
    have w1 := vis1_inv k.toSh w he (hc c (.head _))
    obtain ⟨m, hm⟩ := vis1_ext p s r acc c
    have he1 : (s, r) ∈ vis1 p s r acc c := by rw [hm]; exact List.mem_append_left _ he
    obtain ⟨y6, y7, g⟩ := bfsl_ok k hst (cs := cs) w1 he1 (fun d hd => hc d (.tail _ hd)) x0 x1 x2 x3 x4 x5 (some (.dat (prD c))) (some (.dat (tick p s c).d))
    exact ⟨y6, y7, by simp [forGo, gName, h1, g]⟩
theorem bfs_walk {p : Pln} (k : p.Sm) {F : List D → Option D} {st : M D} (hF : ∀ s : Std, s.Ok p → F [p.d, s.d] = some (chD (chs p s)))
    (hst : ∀ s : Std, s.Ok p → ∀ c, c ∈ chs p s → ∀ x0 x1 x2 x3 x4 x5 x6 x7 : Option SV, st [some (.dat p.d), x1, x2, x3, x4, some (.dat s.d), some (.dat (prD c)), x7] = some ((tick p s c).d, [some (.dat p.d), x1, x2, x3, x4, some (.dat s.d), some (.dat (prD c)), x7])) :
    ∀ {n : Nat} {acc : Wy} {i : Nat}, WInv p acc → i ≤ acc.length → ∀ m, 30000 < n + i → 30000 < m + i → ∀ x0 x1 x2 x3 x4 x5 x6 x7 : Option SV, ∃ y4 y5 y6 y7 : Option SV,
    whGo (e1 asB (e2 dLt (eVar 4) (eLenO 3))) (bfs1 F st) (n + 1) [some (.dat p.d), x1, some (.od (wyD acc)), some (.ol (wyL acc)), some (.dat (.int i)), x5, x6, x7]
      = some (.nx, [some (.dat p.d), x1, some (.od (wyD (bfs p m acc i))), some (.ol (wyL (bfs p m acc i))), y4, y5, y6, y7]) := by
  intro n
  induction n with
  | zero =>
    intro acc i w hi m h hm x0 x1 x2 x3 x4 x5 x6 x7
    have := w.len k; omega
  | succ n ih =>
    intro acc i w hi m h hm x0 x1 x2 x3 x4 x5 x6 x7
    have hl := w.len k
    cases m with
    | zero => omega
    | succ m =>
      unfold bfs
      cases hx : acc[i]? with
      | none =>
        have hlt := List.getElem?_eq_none_iff.mp hx
        have hlt' : ¬ ((i : Int) < acc.length) := by omega
        refine ⟨some (.dat (.int i)), x5, x6, x7, ?_⟩
        rw [whGo]
        simp [callD, callB, callO, args0, sSeq, sIf, sRet, sRetN, sRetO, sDrop, sAsg, sPar, sNx, sBk, sCt, sNever, eVar, eC, e1, e2, eIf, asB, eAnd, eOr, tAndM, tOrM, dNot, tNotB, aNil, aCons, mkT_ok, mkL_ok, gName, gsNil, gsCons, gTup, gLst, eChain, oNone, oSome, eSl, dIsi, dIsi2, tYesM, eLenO, isOl, hlt']
      | some e =>
        obtain ⟨s, r⟩ := e
        have hlt := (List.getElem?_eq_some_iff.mp hx).1
        have hlt' : ((i : Int) < acc.length) := by omega
        have he : (s, r) ∈ acc := List.mem_of_getElem? hx
        have o := w.ok _ he
        obtain ⟨g1, ⟨m2, g2⟩, g3⟩ := visl_inv (s := s) (r := r) (cs := chs p s) k.toSh w he fun c h => h
        obtain ⟨y6, y7, g⟩ := bfsl_ok k (hst s o) (cs := chs p s) w he (fun c h => h) (some (.dat p.d)) x1 (some (.od (wyD acc))) (some (.ol (wyL acc))) (some (.dat (.int (i + 1)))) x5 x6 x7
        obtain ⟨z4, z5, z6, z7, q⟩ := ih (acc := vis p (s, r) acc) (i := i + 1) g1 (by unfold vis; rw [g2, List.length_append]; omega) m (by omega) (by omega) x0 x1 x2 x3 x4 (some (.dat s.d)) y6 y7
        refine ⟨z4, z5, z6, z7, ?_⟩
        have k1 := hF s o
        have k2 : atI (wyL acc) (i : Int) = some s.d := atI_nn (by omega) (by simp [hx])
        have body : bfs1 F st [some (.dat p.d), x1, some (.od (wyD acc)), some (.ol (wyL acc)), some (.dat (.int i)), x5, x6, x7] = some (.nx, [some (.dat p.d), x1, some (.od (wyD (vis p (s, r) acc))), some (.ol (wyL (vis p (s, r) acc))), some (.dat (.int (i + 1))), some (.dat s.d), y6, y7]) := by
          unfold bfs1
          refine (sSeq_nx (ρ1 := [some (.dat p.d), x1, some (.od (wyD acc)), some (.ol (wyL acc)), some (.dat (.int i)), some (.dat s.d), x6, x7]) (by simp [callD, callB, callO, args0, sSeq, sIf, sRet, sRetN, sRetO, sDrop, sAsg, sPar, sNx, sBk, sCt, sNever, eVar, eC, e1, e2, eIf, asB, eAnd, eOr, tAndM, tOrM, dNot, tNotB, aNil, aCons, mkT_ok, mkL_ok, gName, gsNil, gsCons, gTup, gLst, eChain, oNone, oSome, eSl, dIsi, dIsi2, tYesM, eIxO, isOl, k2])).trans ?_
          refine (sSeq_nx (ρ1 := [some (.dat p.d), x1, some (.od (wyD acc)), some (.ol (wyL acc)), some (.dat (.int (i + 1))), some (.dat s.d), x6, x7]) (by simp [callD, callB, callO, args0, sSeq, sIf, sRet, sRetN, sRetO, sDrop, sAsg, sPar, sNx, sBk, sCt, sNever, eVar, eC, e1, e2, eIf, asB, eAnd, eOr, tAndM, tOrM, dNot, tNotB, aNil, aCons, mkT_ok, mkL_ok, gName, gsNil, gsCons, gTup, gLst, eChain, oNone, oSome, eSl, dIsi, dIsi2, tYesM])).trans ?_
          exact forS_of (ds := (chs p s).map prD) (by simp [callD, callB, callO, args0, sSeq, sIf, sRet, sRetN, sRetO, sDrop, sAsg, sPar, sNx, sBk, sCt, sNever, eVar, eC, e1, e2, eIf, asB, eAnd, eOr, tAndM, tOrM, dNot, tNotB, aNil, aCons, mkT_ok, mkL_ok, gName, gsNil, gsCons, gTup, gLst, eChain, oNone, oSome, eSl, dIsi, dIsi2, tYesM, k1, chD]) g
        rw [whGo]
        rw [show ((i + 1 : Nat) : Int) = (i : Int) + 1 by omega] at q
        generalize hb : bfs1 F st = bd at body q ⊢
        simp [callD, callB, callO, args0, sSeq, sIf, sRet, sRetN, sRetO, sDrop, sAsg, sPar, sNx, sBk, sCt, sNever, eVar, eC, e1, e2, eIf, asB, eAnd, eOr, tAndM, tOrM, dNot, tNotB, aNil, aCons, mkT_ok, mkL_ok, gName, gsNil, gsCons, gTup, gLst, eChain, oNone, oSome, eSl, dIsi, dIsi2, tYesM, eLenO, isOl, hlt', body, q]
def B_ways (Ff F : List D → Option D) (st : M D) : MS := (sSeq (sAsg (e1 Ff (aCons (eVar 0) aNil)) (gName 1)) (sSeq (sPutF [2, 3, 4] (fsCons (fD1 (eVar 1) (e1 mkT aNil)) (fsCons (fLst (aCons (eVar 1) aNil)) (fsCons (fDat (eC (.int 0))) fsNil)))) (sSeq (sWhile fuel (e1 asB (e2 dLt (eVar 4) (eLenO 3))) (bfs1 F st)) (sRet (eDTake 2)))))
theorem B_ways_ok {p : Pln} (k : p.Sm) {Ff F : List D → Option D} {st : M D} (h0 : Ff [p.d] = some p.first.d) (hF : ∀ s : Std, s.Ok p → F [p.d, s.d] = some (chD (chs p s)))
    (hst : ∀ s : Std, s.Ok p → ∀ c, c ∈ chs p s → ∀ x0 x1 x2 x3 x4 x5 x6 x7 : Option SV, st [some (.dat p.d), x1, x2, x3, x4, some (.dat s.d), some (.dat (prD c)), x7] = some ((tick p s c).d, [some (.dat p.d), x1, x2, x3, x4, some (.dat s.d), some (.dat (prD c)), x7])) :
    callD 8 1 (B_ways Ff F st) [p.d] = some (.dict (wyD (ways p))) := by
  obtain ⟨y4, y5, y6, y7, q⟩ := bfs_walk k hF hst (n := 99999) (winv0 k.toSh) (Nat.zero_le _) 40000 (by omega) (by omega) (some (.dat p.d)) (some (.dat p.first.d)) none none none none none none
  have q' : whGo (e1 asB (e2 dLt (eVar 4) (eLenO 3))) (bfs1 F st) fuel [some (.dat p.d), some (.dat p.first.d), some (.od [(p.first.d, .tuple [])]), some (.ol [p.first.d]), some (.dat (.int 0)), none, none, none] = _ := q
  have e1' : key_std p.first = key_std p.first := rfl
  generalize hb : bfs1 F st = bd at q'
  simp [B_ways, callD, callB, callO, args0, sSeq, sIf, sRet, sRetN, sRetO, sDrop, sAsg, sPar, sNx, sBk, sCt, sNever, eVar, eC, e1, e2, eIf, asB, eAnd, eOr, tAndM, tOrM, dNot, tNotB, aNil, aCons, mkT_ok, mkL_ok, gName, gsNil, gsCons, gTup, gLst, eChain, oNone, oSome, eSl, dIsi, dIsi2, tYesM, h0, sPutF, fsCons, fsNil, fD1, fLst, fDat, key_std, most, setR, sWhile, hb, q', eDTake, isOd, ways]
theorem ways_by_eq {p : Pln} (k : p.Sm) : F_ways_by [p.d] = some (.dict (wyD (ways p))) :=
  B_ways_ok (st := e1 F_behind (aCons (eVar 0) (aCons (eVar 5) (aCons (eVar 6) aNil)))) k (begin_of_eq k.toSh) (fun s o => choices_of_eq o) fun s o c hc x0 x1 x2 x3 x4 x5 x6 x7 => by
    have h := behind_eq k.toSh o c
    simp [callD, callB, callO, args0, sSeq, sIf, sRet, sRetN, sRetO, sDrop, sAsg, sPar, sNx, sBk, sCt, sNever, eVar, eC, e1, e2, eIf, asB, eAnd, eOr, tAndM, tOrM, dNot, tNotB, aNil, aCons, mkT_ok, mkL_ok, gName, gsNil, gsCons, gTup, gLst, eChain, oNone, oSome, eSl, dIsi, dIsi2, tYesM, h]
theorem law_ways_eq {p : Pln} (k : p.Sm) : F__law_ways [p.d] = some (.dict (wyD (ways p))) :=
  B_ways_ok (st := e2 dIx (e1 F__law_tick (aCons (eVar 0) (aCons (eVar 5) (aCons (eVar 6) aNil)))) (eC (.int 0))) k (law_first_eq k.toSh) (fun s o => law_choices_eq p s) fun s o c hc x0 x1 x2 x3 x4 x5 x6 x7 => by
    have h := law_tick_eq k.toSh o c
    simp [callD, callB, callO, args0, sSeq, sIf, sRet, sRetN, sRetO, sDrop, sAsg, sPar, sNx, sBk, sCt, sNever, eVar, eC, e1, e2, eIf, asB, eAnd, eOr, tAndM, tOrM, dNot, tNotB, aNil, aCons, mkT_ok, mkL_ok, gName, gsNil, gsCons, gTup, gLst, eChain, oNone, oSome, eSl, dIsi, dIsi2, tYesM, h]
end VS

namespace VS
open PySem PySem.Spec PyProof.Rows L2

/-! ### ways in a graph -/
section
variable {α : Type} {W : α → List α}
def mx (g : α → Nat) (l : List α) : Nat := l.foldr (fun t a => max (g t + 1) a) 0
theorem mx_congr {g g' : α → Nat} : ∀ {l : List α}, (∀ t ∈ l, g t = g' t) → mx g l = mx g' l
  | [], _ => rfl
  | t :: l, h => by
    have := mx_congr (l := l) fun x hx => h x (.tail _ hx)
    unfold mx at this ⊢
    rw [List.foldr_cons, List.foldr_cons, this, h t (.head _)]
theorem mx_le {g : α → Nat} {n : Nat} : ∀ {l : List α}, mx g l ≤ n ↔ ∀ t ∈ l, g t + 1 ≤ n
  | [] => by simp [mx]
  | t :: l => by
    have := mx_le (g := g) (n := n) (l := l)
    unfold mx at this ⊢
    rw [List.foldr_cons, Nat.max_le, this]; simp
inductive HT (W : α → List α) : α → Nat → Prop
  | mk (s : α) (g : α → Nat) : (∀ t ∈ W s, HT W t (g t)) → HT W s (mx g (W s))
theorem HT.of {s : α} {g : α → Nat} {n : Nat} (h : ∀ t ∈ W s, HT W t (g t)) (e : n = mx g (W s)) : HT W s n := e ▸ .mk s g h
theorem HT.uniq {s : α} {n : Nat} (h : HT W s n) : ∀ {m : Nat}, HT W s m → n = m := by
  induction h with
  | mk s g h ih =>
    intro m hm
    cases hm with
    | mk _ g' h' => exact mx_congr fun t ht => ih t ht (h' t ht)
theorem HT.leaf {s : α} (h : W s = []) : HT W s 0 := HT.of (g := fun _ => 0) (by simp [h]) (by simp [h, mx])
theorem HT.inv {s : α} {n : Nat} (h : HT W s n) : ∀ t ∈ W s, ∃ m, HT W t m := by
  cases h with
  | mk _ g h => exact fun t ht => ⟨_, h t ht⟩
/-- none of a set has a height, where each has a next one in the set -/
theorem HT.none_of {S : α → Prop} (h : ∀ s, S s → ∃ t ∈ W s, S t) {s : α} {n : Nat} (q : HT W s n) : ¬ S s := by
  induction q with
  | mk s g _ ih =>
    intro hs
    obtain ⟨t, ht, hS⟩ := h s hs
    exact ih t ht hS
def top (M : α → Nat) (V : List α) : Nat := V.foldr (fun s a => max (M s) a) 0
theorem top_le {M : α → Nat} {n : Nat} : ∀ {V : List α}, top M V ≤ n ↔ ∀ s ∈ V, M s ≤ n
  | [] => by simp [top]
  | t :: l => by
    have := top_le (M := M) (n := n) (V := l)
    unfold top at this ⊢
    rw [List.foldr_cons, Nat.max_le, this]; simp
theorem top_mem {M : α → Nat} : ∀ {V : List α}, top M V = 0 ∨ ∃ s ∈ V, top M V = M s
  | [] => .inl rfl
  | t :: l => by
    have h := top_mem (M := M) (V := l)
    have e : top M (t :: l) = max (M t) (top M l) := rfl
    rcases Nat.le_total (M t) (top M l) with q | q
    · rw [e, Nat.max_eq_right q]
      rcases h with h | ⟨s, hs, h⟩
      · exact .inl h
      · exact .inr ⟨s, .tail _ hs, h⟩
    · exact .inr ⟨t, .head _, by rw [e, Nat.max_eq_left q]⟩
def Res (V : List α) (W : α → List α) : Option Nat → Prop
  | some n => ∃ M : α → Nat, (∀ s ∈ V, HT W s (M s)) ∧ n = top M V
  | none => ∃ s ∈ V, ∀ n, ¬ HT W s n
theorem Res.uniq {V : List α} : ∀ {r r' : Option Nat}, Res V W r → Res V W r' → r = r'
  | none, none, _, _ => rfl
  | some n, some m, ⟨M, h, e⟩, ⟨M', h', e'⟩ => by
    have : ∀ s ∈ V, M s = M' s := fun s hs => (h s hs).uniq (h' s hs)
    rw [e, e']
    congr 1
    apply Nat.le_antisymm
    · exact top_le.mpr fun s hs => by rw [this s hs]; exact top_le.mp (Nat.le_refl _) s hs
    · exact top_le.mpr fun s hs => by rw [← this s hs]; exact top_le.mp (Nat.le_refl _) s hs
  | none, some m, ⟨s, hs, h⟩, ⟨M', h', e'⟩ => absurd (h' s hs) (h _)
  | some m, none, ⟨M', h', e'⟩, ⟨s, hs, h⟩ => absurd (h' s hs) (h _)
theorem Res.more {V V' : List α} (h1 : ∀ s ∈ V', s ∈ V) (h2 : ∀ s ∈ V, s ∉ V' → W s = []) : ∀ {r : Option Nat}, Res V' W r → Res V W r
  | none, ⟨s, hs, h⟩ => ⟨s, h1 s hs, h⟩
  | some n, ⟨M, h, e⟩ => by
    classical
    refine ⟨fun s => if s ∈ V' then M s else 0, fun s hs => ?_, ?_⟩
    · by_cases q : s ∈ V'
      · simp only [q, if_true]; exact h s q
      · simp only [q, if_false]; exact .leaf (h2 s hs q)
    · rw [e]
      apply Nat.le_antisymm
      · refine top_le.mpr fun s hs => ?_
        have := (top_le (M := fun s => if s ∈ V' then M s else 0) (V := V)).mp (Nat.le_refl _) s (h1 s hs)
        simpa [hs] using this
      · refine top_le.mpr fun s hs => ?_
        by_cases q : s ∈ V'
        · simp only [q, if_true]; exact top_le.mp (Nat.le_refl _) s q
        · simp [q]
end
/-! ### a dict over all of a list -/
section
variable {α β : Type} [DecidableEq α]
def mkd (V : List α) (f : α → β) : List (α × β) := V.map fun s => (s, f s)
def updf (f : α → β) (a : α) (b : β) : α → β := fun s => if s = a then b else f s
theorem mkd_keys (V : List α) (f : α → β) : (mkd V f).map (·.1) = V := by unfold mkd; rw [List.map_map]; exact List.map_id V
theorem mkd_vals (V : List α) (f : α → β) : (mkd V f).map (·.2) = V.map f := by simp [mkd]
theorem mkd_len (V : List α) (f : α → β) : (mkd V f).length = V.length := by simp [mkd]
theorem get_mkd (V : List α) (f : α → β) (a : α) : get (mkd V f) a = if a ∈ V then some (f a) else none := by
  induction V with
  | nil => simp [mkd, get]
  | cons s V ih =>
    have e : mkd (s :: V) f = (s, f s) :: mkd V f := rfl
    rw [e, get_cons, ih]
    by_cases h : s = a
    · subst h; simp
    · simp [h, Ne.symm h]
theorem mkd_congr {V : List α} {f g : α → β} (h : ∀ s ∈ V, f s = g s) : mkd V f = mkd V g := List.map_congr_left fun s hs => by rw [h s hs]
theorem put_mkd {V : List α} {f : α → β} {a : α} (h : a ∈ V) (b : β) : put (mkd V f) a b = mkd V (updf f a b) := by
  unfold put
  rw [get_mkd, if_pos h]
  simp only [Option.isSome_some, if_true]
  unfold mkd updf
  rw [List.map_map]
  apply List.map_congr_left
  intro s _
  by_cases q : s = a <;> simp [q]
theorem put_new {V : List α} {f : α → β} {a : α} (h : a ∉ V) : put (mkd V f) a (f a) = mkd (V ++ [a]) f := by
  unfold put
  rw [get_mkd, if_neg h, if_neg (by simp)]
  simp [mkd]
theorem app_mkd {γ : Type} {V : List α} {f : α → List γ} (a : α) (b : γ) : app (mkd V f) a b = mkd V (updf f a (f a ++ [b])) := by
  unfold app mkd updf
  rw [List.map_map]
  apply List.map_congr_left
  intro s _
  by_cases q : s = a
  · subst q; simp
  · simp [q]
theorem filt_mkd (V : List α) (f : α → β) (p : α → Bool) : (mkd V f).filter (fun x => p x.1) = mkd (V.filter p) f := by
  unfold mkd
  rw [List.filter_map]
  rfl
end
/-! ### ways are taken away from their ends -/
section
variable {α : Type} [DecidableEq α] {W : α → List α}
open Classical in
noncomputable def hgt (W : α → List α) (s : α) : Nat := if h : ∃ n, HT W s n then h.choose else 0
theorem hgt_of {s : α} {n : Nat} (h : HT W s n) : hgt W s = n := by
  have q : ∃ n, HT W s n := ⟨n, h⟩
  unfold hgt
  rw [dif_pos q]
  exact q.choose_spec.uniq h
def endsOf (W : α → List α) (L : List α) : List α := L.filter fun s => (W s).all fun t => decide (t ∉ L)
structure PInv (V : List α) (W : α → List α) (L K : List α) : Prop where
  nd : (K ++ L).Nodup
  all : ∀ s ∈ V, s ∈ K ∨ s ∈ L
  inV : ∀ s, s ∈ K ∨ s ∈ L → s ∈ V
  ht : ∀ s ∈ K, HT W s (hgt W s)
theorem pinv_ht {V L K : List α} (hV : ∀ s, W s ≠ [] → s ∈ V) (i : PInv V W L K) {t : α} (ht : t ∉ L) : HT W t (hgt W t) := by
  by_cases q : t ∈ V
  · rcases i.all t q with h | h
    · exact i.ht t h
    · exact absurd h ht
  · have : W t = [] := by
      cases hw : W t with
      | nil => rfl
      | cons a l => exact absurd (hV t (by rw [hw]; simp)) q
    have := HT.leaf this
    rw [hgt_of this]; exact this
theorem end_ht {V L K : List α} (hV : ∀ s, W s ≠ [] → s ∈ V) (i : PInv V W L K) {s : α} (hs : s ∈ endsOf W L) : HT W s (mx (hgt W) (W s)) := by
  refine .mk s (hgt W) fun t ht => pinv_ht hV i ?_
  have := (List.mem_filter.mp hs).2
  have := List.all_eq_true.mp this t ht
  simpa using this
theorem pinv_step {V L K : List α} (hV : ∀ s, W s ≠ [] → s ∈ V) (i : PInv V W L K) : PInv V W (L.filter fun s => decide (s ∉ endsOf W L)) (K ++ endsOf W L) := by
  have sub : ∀ s ∈ endsOf W L, s ∈ L := fun s h => (List.mem_filter.mp h).1
  obtain ⟨n1, n2, n3⟩ := List.nodup_append.mp i.nd
  refine ⟨?_, fun s hs => ?_, fun s hs => ?_, fun s hs => ?_⟩
  · rw [List.nodup_append, List.nodup_append]
    refine ⟨⟨n1, n2.filter _, fun a ha b hb => n3 a ha b (sub b hb)⟩, n2.filter _, fun a ha b hb => ?_⟩
    rintro rfl
    obtain ⟨b1, b2⟩ := List.mem_filter.mp hb
    rcases List.mem_append.mp ha with h | h
    · exact n3 a h a b1 rfl
    · simp at b2; exact b2 h
  · rcases i.all s hs with h | h
    · exact .inl (List.mem_append_left _ h)
    · by_cases q : s ∈ endsOf W L
      · exact .inl (List.mem_append_right _ q)
      · exact .inr (List.mem_filter.mpr ⟨h, by simpa using q⟩)
  · rcases hs with h | h
    · rcases List.mem_append.mp h with h | h
      · exact i.inV s (.inl h)
      · exact i.inV s (.inr (sub s h))
    · exact i.inV s (.inr (List.mem_filter.mp h).1)
  · rcases List.mem_append.mp hs with h | h
    · exact i.ht s h
    · have := end_ht hV i h
      rw [hgt_of this]; exact this
theorem pinv_end {V L K : List α} (hV : ∀ s, W s ≠ [] → s ∈ V) (i : PInv V W L K) (e : endsOf W L = []) : Res V W (if L = [] then some (top (hgt W) K) else none) := by
  split
  · rename_i hL
    subst hL
    have hK : ∀ s ∈ V, s ∈ K := fun s hs => by
      rcases i.all s hs with h | h
      · exact h
      · cases h
    refine ⟨hgt W, fun s hs => i.ht s (hK s hs), ?_⟩
    apply Nat.le_antisymm
    · exact top_le.mpr fun s hs => top_le.mp (Nat.le_refl _) s (i.inV s (.inl hs))
    · exact top_le.mpr fun s hs => top_le.mp (Nat.le_refl _) s (hK s hs)
  · rename_i hL
    cases L with
    | nil => exact absurd rfl hL
    | cons s L =>
      refine ⟨s, i.inV s (.inr (.head _)), fun n h => HT.none_of (S := fun t => t ∈ s :: L) (fun t ht => ?_) h (.head _)⟩
      have : t ∉ endsOf W (s :: L) := by rw [e]; simp
      unfold endsOf at this
      rw [List.mem_filter] at this
      have q : ¬ ((W t).all fun u => decide (u ∉ s :: L)) = true := fun z => this ⟨ht, z⟩
      rw [List.all_eq_true] at q
      simp only [Classical.not_forall] at q
      obtain ⟨u, hu, hq⟩ := q
      exact ⟨u, hu, Classical.byContradiction fun z => hq (decide_eq_true z)⟩
theorem pinv_less {L : List α} (h : endsOf W L ≠ []) : (L.filter fun s => decide (s ∉ endsOf W L)).length < L.length := by
  cases he : endsOf W L with
  | nil => exact absurd he h
  | cons s E =>
    have hs : s ∈ L := (List.mem_filter.mp (show s ∈ endsOf W L by rw [he]; exact .head _)).1
    rw [← he]
    apply Nat.lt_of_le_of_ne (List.length_filter_le _ _)
    intro z
    have := List.length_filter_eq_length_iff.mp z s hs
    rw [he] at this
    simp at this
end
/-! ### Kahn's order -/
section
variable {α : Type} [DecidableEq α] {W : α → List α}
/-- one that leads to what is taken away -/
def kstep (m : Nat) (x : (α → Nat) × (α → Nat) × List α) (o : α) : (α → Nat) × (α → Nat) × List α :=
  (updf x.1 o (max (x.1 o) (m + 1)), updf x.2.1 o (x.2.1 o - 1), if x.2.1 o - 1 = 0 then x.2.2 ++ [o] else x.2.2)
theorem kfold (m : Nat) : ∀ (B : List α) (M O : α → Nat) (Q : List α), (∀ o ∈ B, B.count o ≤ O o) → (∀ o ∈ Q, O o = 0) → Q.Nodup →
    (∀ o, (B.foldl (kstep m) (M, O, Q)).1 o = if o ∈ B then max (M o) (m + 1) else M o) ∧
    (∀ o, (B.foldl (kstep m) (M, O, Q)).2.1 o = O o - B.count o) ∧
    (∀ o, o ∈ (B.foldl (kstep m) (M, O, Q)).2.2 ↔ o ∈ Q ∨ (o ∈ B ∧ O o = B.count o)) ∧ (B.foldl (kstep m) (M, O, Q)).2.2.Nodup
  | [], M, O, Q, _, _, nd => ⟨by simp, by simp, by simp, nd⟩
  | b :: B, M, O, Q, hc, hq, nd => by
    have hb := hc b (.head _)
    rw [List.count_cons_self] at hb
    have hbQ : b ∉ Q := fun z => by have := hq b z; omega
    have hc' : ∀ o ∈ B, B.count o ≤ updf O b (O b - 1) o := fun o ho => by
      have := hc o (.tail _ ho)
      rw [List.count_cons] at this
      unfold updf
      by_cases q : o = b
      · subst q; simp at this ⊢; omega
      · have q' : ¬ (b == o) = true := by simpa using Ne.symm q
        rw [if_neg q'] at this
        simp [q]; omega
    have hQ' : ∀ o ∈ (if O b - 1 = 0 then Q ++ [b] else Q), updf O b (O b - 1) o = 0 := fun o ho => by
      unfold updf
      by_cases q : o = b
      · subst q
        rw [if_pos rfl]
        split at ho
        · assumption
        · exact absurd ho hbQ
      · rw [if_neg q]
        split at ho
        · rcases List.mem_append.mp ho with h | h
          · exact hq o h
          · exact absurd (List.mem_singleton.mp h) q
        · exact hq o ho
    have nd' : (if O b - 1 = 0 then Q ++ [b] else Q).Nodup := by
      split
      · rw [List.nodup_append]
        exact ⟨nd, by simp, fun x hx y hy => by rw [List.mem_singleton.mp hy]; rintro rfl; exact hbQ hx⟩
      · exact nd
    obtain ⟨g1, g2, g3, g4⟩ := kfold m B (updf M b (max (M b) (m + 1))) (updf O b (O b - 1)) (if O b - 1 = 0 then Q ++ [b] else Q) hc' hQ' nd'
    have e : (b :: B).foldl (kstep m) (M, O, Q) = B.foldl (kstep m) (updf M b (max (M b) (m + 1)), updf O b (O b - 1), if O b - 1 = 0 then Q ++ [b] else Q) := rfl
    rw [e]
    refine ⟨fun o => ?_, fun o => ?_, fun o => ?_, g4⟩
    · rw [g1]
      unfold updf
      by_cases q : o = b
      · subst q
        by_cases h : o ∈ B <;> simp [h]
      · by_cases h : o ∈ B <;> simp [h, q]
    · rw [g2, List.count_cons]
      unfold updf
      by_cases q : o = b
      · subst q; simp; omega
      · have q' : ¬ (b == o) = true := by simpa using Ne.symm q
        rw [if_neg q', if_neg q]; rfl
    · rw [g3]
      by_cases q : o = b
      · subst q
        have h0 : updf O o (O o - 1) o = O o - 1 := by simp [updf]
        rw [h0, List.count_cons_self]
        constructor
        · rintro (h | ⟨h, h2⟩)
          · split at h
            · rename_i hz
              right
              refine ⟨.head _, ?_⟩
              have h3 := hc' o
              rw [h0] at h3
              by_cases ho : o ∈ B
              · have := h3 ho
                have := List.count_pos_iff.mpr ho
                omega
              · have := List.count_eq_zero.mpr ho
                omega
            · exact .inl h
          · exact .inr ⟨.head _, by omega⟩
        · rintro (h | ⟨h, h2⟩)
          · exact absurd h hbQ
          · by_cases ho : o ∈ B
            · exact .inr ⟨ho, by omega⟩
            · left
              have := List.count_eq_zero.mpr ho
              rw [if_pos (by omega)]
              exact List.mem_append_right _ (.head _)
      · have q' : ¬ (b == o) = true := by simpa using Ne.symm q
        have h0 : updf O b (O b - 1) o = O o := by simp [updf, q]
        rw [h0, List.count_cons, if_neg q']
        have : (o ∈ if O b - 1 = 0 then Q ++ [b] else Q) ↔ o ∈ Q := by
          split
          · simp [q]
          · rfl
        rw [this]
        simp [q]
/-- how many of a list are not yet taken away -/
def leftN (W : α → List α) (V P : List α) (s : α) : Nat := ((W s).filter fun t => decide (t ∈ V) && decide (t ∉ P)).length
structure KInv (V : List α) (W : α → List α) (P Q : List α) (M O : α → Nat) : Prop where
  nP : P.Nodup
  nQ : Q.Nodup
  pq : ∀ s ∈ P, s ∉ Q
  inV : ∀ s, s ∈ P ∨ s ∈ Q → s ∈ V
  op : ∀ s ∈ V, O s = leftN W V P s
  zero : ∀ s ∈ V, O s = 0 → s ∈ P ∨ s ∈ Q
  q0 : ∀ s ∈ Q, O s = 0
  p0 : ∀ s ∈ P, O s = 0
  ml : ∀ s ∈ V, ∀ n, M s ≤ n ↔ (W s ≠ [] → 1 ≤ n) ∧ ∀ t ∈ W s, t ∈ P → M t + 1 ≤ n
  ht : ∀ s ∈ P, HT W s (M s)
theorem leftN_zero {V P : List α} {s : α} : leftN W V P s = 0 ↔ ∀ t ∈ W s, t ∈ V → t ∈ P := by
  unfold leftN
  rw [List.length_eq_zero_iff, List.filter_eq_nil_iff]
  simp
theorem leftN_snoc {V P : List α} {s t : α} (hs : s ∈ V) (hp : s ∉ P) : leftN W V P t = leftN W V (P ++ [s]) t + (W t).count s := by
  unfold leftN
  induction W t with
  | nil => simp
  | cons u l ih =>
    rw [List.count_cons]
    by_cases q : u = s
    · subst q
      rw [List.filter_cons_of_pos (by simp [hs, hp]), List.filter_cons_of_neg (by simp), List.length_cons, ih]
      simp; omega
    · have q' : ¬ (u == s) = true := by simpa using q
      rw [if_neg q']
      by_cases h : u ∈ V ∧ u ∉ P
      · rw [List.filter_cons_of_pos (by simp [h.1, h.2]), List.filter_cons_of_pos (by simp [h.1, h.2, q]), List.length_cons, List.length_cons, ih]; omega
      · rw [List.filter_cons_of_neg (by simpa using h), List.filter_cons_of_neg (by simp; intro a b; exact absurd ⟨a, b⟩ h), ih]; omega
/-- those that lead to s, as often as they do -/
def backOf (W : α → List α) (V : List α) (s : α) : List α := V.flatMap fun o => List.replicate ((W o).count s) o
theorem back_count {V : List α} (nd : V.Nodup) {s o : α} (ho : o ∈ V) : (backOf W V s).count o = (W o).count s := by
  unfold backOf
  induction V with
  | nil => cases ho
  | cons v V ih =>
    rw [List.nodup_cons] at nd
    rw [List.flatMap_cons, List.count_append, List.count_replicate]
    rcases List.mem_cons.mp ho with rfl | h
    · have : List.count o (V.flatMap fun o => List.replicate ((W o).count s) o) = 0 := by
        rw [List.count_eq_zero]
        intro z
        obtain ⟨x, hx, hz⟩ := List.mem_flatMap.mp z
        have := List.eq_of_mem_replicate hz
        subst this
        exact nd.1 hx
      rw [this]; simp
    · have q : ¬ (v == o) = true := by
        intro z
        have := eq_of_beq z
        subst this
        exact nd.1 h
      rw [if_neg q, ih nd.2 h]; omega
theorem back_mem {V : List α} {s o : α} : o ∈ backOf W V s ↔ o ∈ V ∧ s ∈ W o := by
  unfold backOf
  rw [List.mem_flatMap]
  constructor
  · rintro ⟨x, hx, hz⟩
    obtain ⟨h1, h2⟩ := List.mem_replicate.mp hz
    subst h2
    exact ⟨hx, List.count_pos_iff.mp (Nat.pos_of_ne_zero h1)⟩
  · rintro ⟨h1, h2⟩
    exact ⟨o, h1, List.mem_replicate.mpr ⟨Nat.ne_of_gt (List.count_pos_iff.mpr h2), rfl⟩⟩
theorem kinv_step {V P Q : List α} {M O : α → Nat} {s : α} (nV : V.Nodup) (hV : ∀ s, s ∉ V → W s = []) (i : KInv V W P (Q ++ [s]) M O) {M' O' : α → Nat} {Q' : List α} (e : (backOf W V s).foldl (kstep (M s)) (M, O, Q) = (M', O', Q')) :
    KInv V W (P ++ [s]) Q' M' O' ∧ s ∉ backOf W V s := by
  have hsQ : s ∈ Q ++ [s] := List.mem_append_right _ (.head _)
  have hsV : s ∈ V := i.inV s (.inr hsQ)
  have hsP : s ∉ P := fun z => i.pq s z hsQ
  have hs0 : O s = 0 := i.q0 s hsQ
  have nQ := List.nodup_append.mp i.nQ
  have hall : ∀ t ∈ W s, t ∈ V → t ∈ P := leftN_zero.mp (by rw [← i.op s hsV]; exact hs0)
  have hself : s ∉ W s := fun z => hsP (hall s z hsV)
  have hback : s ∉ backOf W V s := fun z => hself (back_mem.mp z).2
  obtain ⟨g1, g2, g3, g4⟩ := kfold (M s) (backOf W V s) M O Q (fun o ho => by
    have hoV := (back_mem.mp ho).1
    rw [back_count nV hoV, i.op o hoV, leftN_snoc hsV hsP]; omega) (fun o ho => i.q0 o (List.mem_append_left _ ho)) nQ.1
  rw [e] at g1 g2 g3 g4
  simp only at g1 g2 g3 g4
  have hM : ∀ t ∈ P ++ [s], M' t = M t := fun t ht => by
    rw [g1, if_neg]
    intro z
    obtain ⟨z1, z2⟩ := back_mem.mp z
    rcases List.mem_append.mp ht with h | h
    · have := leftN_zero.mp (by rw [← i.op t z1]; exact i.p0 t h) s z2 hsV
      exact hsP this
    · rw [List.mem_singleton.mp h] at z2
      exact hself z2
  have op' : ∀ t ∈ V, O' t = leftN W V (P ++ [s]) t := fun t ht => by
    rw [g2, back_count nV ht, i.op t ht, leftN_snoc hsV hsP]; omega
  have hms : HT W s (M s) := by
    refine HT.of (g := fun t => if t ∈ V then M t else 0) (fun t ht => ?_) ?_
    · by_cases q : t ∈ V
      · simp only [q, if_true]; exact i.ht t (hall t ht q)
      · simp only [q, if_false]; exact .leaf (hV t q)
    · have h := i.ml s hsV
      apply Nat.le_antisymm
      · refine (h _).mpr ⟨fun hne => ?_, fun t ht hp => ?_⟩
        · cases hw : W s with
          | nil => exact absurd hw hne
          | cons t l =>
            have := (mx_le (g := fun t => if t ∈ V then M t else 0) (l := W s)).mp (Nat.le_refl _) t (by rw [hw]; exact .head _)
            rw [hw] at this; omega
        · have := (mx_le (g := fun t => if t ∈ V then M t else 0) (l := W s)).mp (Nat.le_refl _) t ht
          simpa [i.inV t (.inl hp)] using this
      · refine mx_le.mpr fun t ht => ?_
        obtain ⟨h1, h2⟩ := (h (M s)).mp (Nat.le_refl _)
        by_cases q : t ∈ V
        · simp only [q, if_true]; exact h2 t ht (hall t ht q)
        · simp only [q, if_false]
          exact h1 (fun z => by rw [z] at ht; cases ht)
  refine ⟨⟨?_, g4, fun t ht hq => ?_, fun t ht => ?_, op', fun t ht h0 => ?_, fun t ht => ?_, fun t ht => ?_, fun t ht n => ?_, fun t ht => ?_⟩, hback⟩
  · rw [List.nodup_append]
    exact ⟨i.nP, by simp, fun a ha b hb => by rw [List.mem_singleton.mp hb]; rintro rfl; exact hsP ha⟩
  · have h := (g3 t).mp hq
    rcases List.mem_append.mp ht with hp | hp
    · rcases h with h | ⟨h, h2⟩
      · exact i.pq t hp (List.mem_append_left _ h)
      · have := i.p0 t hp
        have := List.count_pos_iff.mpr h
        omega
    · have := List.mem_singleton.mp hp
      subst this
      rcases h with h | ⟨h, h2⟩
      · exact nQ.2.2 t h t (.head _) rfl
      · exact hback h
  · rcases ht with h | h
    · rcases List.mem_append.mp h with h | h
      · exact i.inV t (.inl h)
      · rw [List.mem_singleton.mp h]; exact hsV
    · rcases (g3 t).mp h with h | ⟨h, _⟩
      · exact i.inV t (.inr (List.mem_append_left _ h))
      · exact (back_mem.mp h).1
  · by_cases hb : t ∈ backOf W V s
    · right
      refine (g3 t).mpr (.inr ⟨hb, ?_⟩)
      have h1 := g2 t
      have h2 := back_count nV ht (W := W) (s := s)
      have h3 := i.op t ht
      have h4 := leftN_snoc (W := W) (t := t) hsV hsP
      have h5 := op' t ht
      omega
    · have h1 := g2 t
      rw [List.count_eq_zero.mpr hb] at h1
      rcases i.zero t ht (by omega) with h | h
      · exact .inl (List.mem_append_left _ h)
      · rcases List.mem_append.mp h with h | h
        · exact .inr ((g3 t).mpr (.inl h))
        · exact .inl (List.mem_append_right _ h)
  · rw [g2]
    rcases (g3 t).mp ht with h | ⟨h, h2⟩
    · rw [i.q0 t (List.mem_append_left _ h)]; omega
    · omega
  · rw [g2]
    rcases List.mem_append.mp ht with h | h
    · rw [i.p0 t h]; omega
    · rw [List.mem_singleton.mp h, hs0]; omega
  · rw [g1 t]
    have h := i.ml t ht
    by_cases hb : t ∈ backOf W V s
    · have hst := (back_mem.mp hb).2
      rw [if_pos hb, Nat.max_le, h]
      constructor
      · rintro ⟨⟨h1, h2⟩, h3⟩
        refine ⟨h1, fun u hu hp => ?_⟩
        rw [hM u hp]
        rcases List.mem_append.mp hp with q | q
        · exact h2 u hu q
        · rw [List.mem_singleton.mp q]; exact h3
      · rintro ⟨h1, h2⟩
        refine ⟨⟨h1, fun u hu hp => ?_⟩, ?_⟩
        · have := h2 u hu (List.mem_append_left _ hp)
          rw [hM u (List.mem_append_left _ hp)] at this; exact this
        · have := h2 s hst (List.mem_append_right _ (.head _))
          rw [hM s (List.mem_append_right _ (.head _))] at this; exact this
    · have hst : s ∉ W t := fun z => hb (back_mem.mpr ⟨ht, z⟩)
      rw [if_neg hb, h]
      constructor
      · rintro ⟨h1, h2⟩
        refine ⟨h1, fun u hu hp => ?_⟩
        rw [hM u hp]
        rcases List.mem_append.mp hp with q | q
        · exact h2 u hu q
        · rw [List.mem_singleton.mp q] at hu; exact absurd hu hst
      · rintro ⟨h1, h2⟩
        refine ⟨h1, fun u hu hp => ?_⟩
        have := h2 u hu (List.mem_append_left _ hp)
        rw [hM u (List.mem_append_left _ hp)] at this; exact this
  · rw [hM t ht]
    rcases List.mem_append.mp ht with h | h
    · exact i.ht t h
    · rw [List.mem_singleton.mp h]; exact hms
theorem kinv_end {V P : List α} {M O : α → Nat} (nV : V.Nodup) (i : KInv V W P [] M O) : Res V W (if P.length < V.length then none else some (top M V)) := by
  split
  · rename_i h
    have : ∃ s ∈ V, s ∉ P := by
      apply Classical.byContradiction
      intro z
      have : V.length ≤ P.length := sub_len nV fun s hs => Classical.byContradiction fun q => z ⟨s, hs, q⟩
      omega
    obtain ⟨s, hs, hp⟩ := this
    refine ⟨s, hs, fun n h => HT.none_of (S := fun t => t ∈ V ∧ t ∉ P) (fun t ⟨h1, h2⟩ => ?_) h ⟨hs, hp⟩⟩
    have h3 : O t ≠ 0 := fun z => by
      rcases i.zero t h1 z with q | q
      · exact h2 q
      · cases q
    rw [i.op t h1] at h3
    apply Classical.byContradiction
    intro z
    exact h3 (leftN_zero.mpr fun u hu hV => Classical.byContradiction fun hP => z ⟨u, hu, hV, hP⟩)
  · rename_i h
    have hP : ∀ s ∈ V, s ∈ P := fun s hs => by
      apply Classical.byContradiction
      intro z
      have h1 : (s :: P).length ≤ V.length := sub_len (List.nodup_cons.mpr ⟨z, i.nP⟩) fun t ht => by
        rcases List.mem_cons.mp ht with rfl | ht
        · exact hs
        · exact i.inV t (.inl ht)
      rw [List.length_cons] at h1; omega
    exact ⟨M, fun s hs => i.ht s (hP s hs), rfl⟩
theorem kinv_start {V : List α} {W : α → List α} (nV : V.Nodup) : KInv V W [] (V.filter fun s => (W s).all fun t => decide (t ∉ V)) (fun s => if W s = [] then 0 else 1) (leftN W V []) := by
  have hz : ∀ s, leftN W V [] s = 0 ↔ ((W s).all fun t => decide (t ∉ V)) = true := fun s => by
    rw [leftN_zero, List.all_eq_true]
    constructor
    · intro h t ht; simp; intro z; cases h t ht z
    · intro h t ht z; have := h t ht; simp at this; exact absurd z this
  refine ⟨List.nodup_nil, nV.filter _, by simp, fun s hs => ?_, fun _ _ => rfl, fun s hs h => ?_, fun s hs => ?_, by simp, fun s hs n => ?_, by simp⟩
  · rcases hs with h | h
    · cases h
    · exact (List.mem_filter.mp h).1
  · exact .inr (List.mem_filter.mpr ⟨hs, (hz s).mp h⟩)
  · exact (hz s).mpr (List.mem_filter.mp hs).2
  · by_cases q : W s = []
    · simp [q]
    · simp [q]
end
end VS

namespace VS
open PySem PySem.Spec PyProof.Rows L2

/-! ### loops over all of a list -/
theorem for_pre {α : Type} {t : D → Rho → Option Rho} {b : MS} (e : α → D) (I : List α → Rho → Prop) (all : List α)
    (h : ∀ pre x suf ρ, pre ++ x :: suf = all → I pre ρ → ∃ ρ1 ρ2, t (e x) ρ = some ρ1 ∧ b ρ1 = some (.nx, ρ2) ∧ I (pre ++ [x]) ρ2) :
    ∀ suf pre ρ, pre ++ suf = all → I pre ρ → ∃ ρ', forGo t b (suf.map e) ρ = some (.nx, ρ') ∧ I all ρ'
  | [], pre, ρ, hp, i => ⟨ρ, rfl, by rw [List.append_nil] at hp; rw [← hp]; exact i⟩
  | x :: suf, pre, ρ, hp, i => by
    obtain ⟨ρ1, ρ2, h1, h2, h3⟩ := h pre x suf ρ hp i
    obtain ⟨ρ', q1, q2⟩ := for_pre e I all h suf (pre ++ [x]) ρ2 (by rw [List.append_assoc]; exact hp) h3
    exact ⟨ρ', by simp [forGo, h1, h2, q1], q2⟩
section
variable {β γ : Type}
theorem putE_old {f : β → γ} {V : List Std} {g : Std → β} {a : Std} (h : a ∈ V) (b : β) : putD (SK.enc f (mkd V g)) (SK.k a) a.d (f b) = SK.enc f (mkd V (updf g a b)) := by
  rw [← SK_e, put_enc, put_mkd h]
theorem putE_new {f : β → γ} {V : List Std} {g : Std → β} {a : Std} (h : a ∉ V) : putD (SK.enc f (mkd V g)) (SK.k a) a.d (f (g a)) = SK.enc f (mkd (V ++ [a]) g) := by
  rw [← SK_e, put_enc, put_new h]
theorem dc_gen {t : D → Rho → Option Rho} {ek ev : M D} {vs : List Nat} {ρ : Rho} {f : β → D} {g : Std → β} : ∀ (xs U : List Std), (U ++ xs).Nodup → (U ++ xs).length ≤ 100000 →
    (∀ x ∈ xs, ∃ ρ1 ρ2 ρ3, t x.d ρ = some ρ1 ∧ ek ρ1 = some (x.d, ρ2) ∧ ev ρ2 = some (f (g x), ρ3) ∧ wipeR ρ3 vs = ρ) →
    dcGo t ek ev vs (xs.map Std.d) (SK.enc f (mkd U g)) ρ = some (SK.enc f (mkd (U ++ xs) g), ρ)
  | [], U, _, _, _ => by simp [dcGo]
  | x :: xs, U, nd, hl, h => by
    obtain ⟨ρ1, ρ2, ρ3, h1, h2, h3, h4⟩ := h x (.head _)
    have hx : x ∉ U := fun z => (List.nodup_append.mp nd).2.2 x z x (.head _) rfl
    have e : U ++ x :: xs = U ++ [x] ++ xs := by simp
    rw [e] at nd hl ⊢
    have ih := dc_gen (t := t) (ek := ek) (ev := ev) (vs := vs) (ρ := ρ) (f := f) (g := g) xs (U ++ [x]) nd hl fun y hy => h y (.tail _ hy)
    have hl' : U.length < most := by simp at hl; unfold most; omega
    rw [← ih, List.map_cons, dcGo, h1]
    simp only [h2, h3, h4, key_std, enc_len, mkd_len, hl', if_true, putE_new hx]
theorem dcL_gen {t : D → Rho → Option Rho} {ek : M D} {vs : List Nat} {ρ : Rho} : ∀ (xs U : List Std), (U ++ xs).Nodup → (U ++ xs).length ≤ 100000 →
    (∀ x ∈ xs, ∃ ρ1 ρ2, t x.d ρ = some ρ1 ∧ ek ρ1 = some (x.d, ρ2) ∧ wipeR ρ2 vs = ρ) →
    dcGoL t ek vs (xs.map Std.d) (SK.enc (List.map Std.d) (mkd U fun _ => [])) ρ = some (SK.enc (List.map Std.d) (mkd (U ++ xs) fun _ => []), ρ)
  | [], U, _, _, _ => by simp [dcGoL]
  | x :: xs, U, nd, hl, h => by
    obtain ⟨ρ1, ρ2, h1, h2, h4⟩ := h x (.head _)
    have hx : x ∉ U := fun z => (List.nodup_append.mp nd).2.2 x z x (.head _) rfl
    have e : U ++ x :: xs = U ++ [x] ++ xs := by simp
    rw [e] at nd hl ⊢
    have ih := dcL_gen (t := t) (ek := ek) (vs := vs) (ρ := ρ) xs (U ++ [x]) nd hl fun y hy => h y (.tail _ hy)
    have hl' : U.length < most := by simp at hl; unfold most; omega
    have e2 : SK.enc (List.map Std.d) (mkd U fun _ => []) ++ [(x.d, [])] = SK.enc (List.map Std.d) (mkd (U ++ [x]) fun _ => []) := by simp [KT.enc, mkd, SK]
    rw [← ih, List.map_cons, dcGoL, h1]
    simp only [h2, h4, key_std, enc_len, mkd_len, hl', look_enc, get_mkd, hx, if_false, Option.map_none, and_self, if_true, e2]
end
def lD (l : List Std) : D := .list (l.map Std.d)
def nD (n : Nat) : D := .int n
theorem odOf_enc (l : List (Std × List Std)) : odOf (SK.enc (List.map Std.d) l) = SK.enc lD l := by simp [odOf, KT.enc, lD]
theorem std_lay (s : Std) {p : Pln} (k : p.Sh) (o : s.Ok p) : s.d.canLay0 = true := okP_lay _ _ (std_okP 0 k o)
def optD : Option Nat → D
  | none => .none
  | some n => .int n
theorem ints_top (M : Std → Nat) (V : List Std) : intsD (V.map fun s => nD (M s)) = some (V.map fun s => ((M s : Nat) : Int)) := by
  induction V with
  | nil => rfl
  | cons s V ih => rw [List.map_cons, nD, intsD, ih]; rfl
theorem max_top (M : Std → Nat) (V : List Std) : fMaxL [.list (.int 0 :: V.map fun s => nD (M s))] = some (.int (top M V)) := by
  have h : intsD (.int 0 :: V.map fun s => nD (M s)) = some (0 :: V.map fun s => ((M s : Nat) : Int)) := by rw [intsD, ints_top]
  simp only [fMaxL, h]
  rw [foldl_max (V.map fun s => ((M s : Nat) : Int)) 0 (top M V)]
  · rcases top_mem (M := M) (V := V) with h | ⟨s, hs, h⟩
    · exact .inl (by rw [h]; rfl)
    · exact .inr (List.mem_map.mpr ⟨s, hs, by rw [h]⟩)
  · omega
  · intro y hy
    obtain ⟨s, hs, rfl⟩ := List.mem_map.mp hy
    have := top_le.mp (Nat.le_refl (top M V)) s hs
    omega
/-! ### the program's longest way -/
section
variable {V : List Std} {W : Std → List Std}
abbrev nx (V : List Std) (W : Std → List Std) : D := .dict (SK.enc lD (mkd V W))
abbrev lf (V : List Std) (W : Std → List Std) (s : Std) : List Std := (W s).filter fun t => decide (t ∈ V)
theorem lf_len (s : Std) : (lf V W s).length = leftN W V [] s := by unfold leftN; congr 1; apply List.filter_congr; simp
theorem lf_nil (s : Std) : lf V W s = [] ↔ ((W s).all fun t => decide (t ∉ V)) = true := by
  rw [List.filter_eq_nil_iff, List.all_eq_true]; simp
theorem lw0 (hl : ∀ s, (W s).length ≤ 1000) {U : List Std} {s : Std} (hs : s ∈ V) (hU : s ∉ U) (hUl : U.length < 100000) (x0 x1 x2 x3 x4 x5 x6 x7 x8 x9 : Option SV) (h8 : nol x8) :
    L_longest_way_0 [some (.dat (nx V W)), some (.dat s.d), x2, x3, some (.od (SK.enc lD (mkd U (lf V W)))), x5, x6, x7, x8, x9] = some (.nx, [some (.dat (nx V W)), some (.dat s.d), x2, x3, some (.od (SK.enc lD (mkd (U ++ [s]) (lf V W)))), x5, x6, x7, x8, x9]) := by
  have k1 := lc_gen (t := gName 8) (c := e1 asB (e2 (dInD false) (eVar 8) (eVar 0))) (e := eVar 8) (vs := [8]) (ρ := [some (.dat (nx V W)), some (.dat s.d), x2, x3, some (.od (SK.enc lD (mkd U (lf V W)))), x5, x6, x7, none, x9]) (fun d => (lookD (SK.enc lD (mkd V W)) ((keyD d).getD .none)).isSome) id (ds := (W s).map Std.d) (by
    intro d hd
    obtain ⟨t, ht, rfl⟩ := List.mem_map.mp hd
    refine ⟨_, [some (.dat (nx V W)), some (.dat s.d), x2, x3, some (.od (SK.enc lD (mkd U (lf V W)))), x5, x6, x7, some (.dat t.d), x9], rfl, ?_, fun _ => rfl, fun _ => ⟨_, rfl, rfl⟩⟩
    simp [callD, callB, callO, args0, sSeq, sIf, sRet, sRetN, sRetO, sDrop, sAsg, sPar, sNx, sBk, sCt, sNever, eVar, eC, e1, e2, eIf, asB, eAnd, eOr, tAndM, tOrM, dNot, tNotB, aNil, aCons, mkT_ok, mkL_ok, gName, gsNil, gsCons, gTup, gLst, eChain, oNone, oSome, eSl, dIsi, dIsi2, tYesM, dInD, key_std, look_enc, get_mkd])
  have k2 : ((W s).map Std.d).filter (fun d => (lookD (SK.enc lD (mkd V W)) ((keyD d).getD .none)).isSome) = (lf V W s).map Std.d := by
    unfold lf
    rw [List.filter_map]
    congr 1
    apply List.filter_congr
    intro t _
    simp only [Function.comp, key_std, Option.getD_some, look_enc, get_mkd]
    by_cases q : t ∈ V <;> simp [q]
  rw [List.map_id, k2] at k1
  have k3 : (lf V W s).length ≤ 100000 := Nat.le_trans (List.length_filter_le _ _) (by have := hl s; omega)
  have k4 := putE_new (f := lD) (V := U) (g := lf V W) hU
  have k5 : okW [some (.dat (nx V W)), some (.dat s.d), x2, x3, some (.od (SK.enc lD (mkd U (lf V W)))), x5, x6, x7, x8, x9] [8] = true := okW_one rfl h8
  have k6 : eLc (e1 iSeq (e2 dIxD (eVar 0) (eVar 1))) (gName 8) (e1 asB (e2 (dInD false) (eVar 8) (eVar 0))) (eVar 8) [8] [some (.dat (nx V W)), some (.dat s.d), x2, x3, some (.od (SK.enc lD (mkd U (lf V W)))), x5, x6, x7, x8, x9] = some (lD (lf V W s), [some (.dat (nx V W)), some (.dat s.d), x2, x3, some (.od (SK.enc lD (mkd U (lf V W)))), x5, x6, x7, x8, x9]) := by
    have k7 : (e1 iSeq (e2 dIxD (eVar 0) (eVar 1))) [some (.dat (nx V W)), some (.dat s.d), x2, x3, some (.od (SK.enc lD (mkd U (lf V W)))), x5, x6, x7, x8, x9] = some ((W s).map Std.d, [some (.dat (nx V W)), some (.dat s.d), x2, x3, some (.od (SK.enc lD (mkd U (lf V W)))), x5, x6, x7, x8, x9]) := by
      simp [callD, callB, callO, args0, sSeq, sIf, sRet, sRetN, sRetO, sDrop, sAsg, sPar, sNx, sBk, sCt, sNever, eVar, eC, e1, e2, eIf, asB, eAnd, eOr, tAndM, tOrM, dNot, tNotB, aNil, aCons, mkT_ok, mkL_ok, gName, gsNil, gsCons, gTup, gLst, eChain, oNone, oSome, eSl, dIsi, dIsi2, tYesM, dIxD, key_std, look_enc, get_mkd, hs, lD]
    unfold eLc
    rw [k7]
    simp only [k5, if_true, wipeR, List.set]
    rw [k1]
    simp [k3, most, restR, lD]
  unfold L_longest_way_0
  refine asgS_of k6 ?_
  simp [gDSet, isOd, eVar, key_std, enc_len, mkd_len, most, hUl, k4]
theorem back_loop (hV : V.length ≤ 30000) {o : Std} : ∀ (l : List Std), (∀ t ∈ l, t ∈ V) → ∀ (f : Std → List Std), (∀ t, (f t).length + l.length ≤ 90000) → ∀ x0 x1 x2 x3 x4 x5 x6 x7 x8 x9 : Option SV, ∃ y8 : Option SV,
    forGo (gName 8) (sDApp 5 (pVar 8) (pVar 1)) (l.map Std.d) [x0, some (.dat o.d), x2, x3, x4, some (.odl (SK.enc (List.map Std.d) (mkd V f))), x6, x7, x8, x9] = some (.nx, [x0, some (.dat o.d), x2, x3, x4, some (.odl (SK.enc (List.map Std.d) (mkd V fun t => f t ++ List.replicate (l.count t) o))), x6, x7, y8, x9])
  | [], _, f, _, x0, x1, x2, x3, x4, x5, x6, x7, x8, x9 => ⟨x8, by simp [forGo]⟩
  | t :: l, h, f, hf, x0, x1, x2, x3, x4, x5, x6, x7, x8, x9 => by
    have ht := h t (.head _)
    have h1 := hf t
    rw [List.length_cons] at h1
    obtain ⟨y8, q⟩ := back_loop hV (o := o) l (fun u hu => h u (.tail _ hu)) (updf f t (f t ++ [o])) (fun u => by
      have := hf u
      rw [List.length_cons] at this
      unfold updf
      split
      · rename_i e; subst e; rw [List.length_append, List.length_singleton]; omega
      · omega) x0 x1 x2 x3 x4 x5 x6 x7 (some (.dat t.d)) x9
    refine ⟨y8, ?_⟩
    have e : (mkd V fun u => updf f t (f t ++ [o]) u ++ List.replicate (l.count u) o) = mkd V fun u => f u ++ List.replicate ((t :: l).count u) o := by
      apply mkd_congr
      intro u _
      unfold updf
      rw [List.count_cons]
      by_cases q : u = t
      · subst q; simp [List.replicate_succ']; rw [← List.replicate_succ', List.replicate_succ]
      · have q' : ¬ (t == u) = true := by simpa using Ne.symm q
        rw [if_neg q, if_neg q']; rfl
    rw [e] at q
    have k1 := app_enc SK Std.d (mkd V f) t o
    rw [app_mkd] at k1
    have h2 : (f t).length < 100000 := by omega
    have k2 : sDApp 5 (pVar 8) (pVar 1) [x0, some (.dat o.d), x2, x3, x4, some (.odl (SK.enc (List.map Std.d) (mkd V f))), x6, x7, some (.dat t.d), x9] = some (.nx, [x0, some (.dat o.d), x2, x3, x4, some (.odl (SK.enc (List.map Std.d) (mkd V (updf f t (f t ++ [o]))))), x6, x7, some (.dat t.d), x9]) := by
      simp [sDApp, isOdl, pVar, key_std, look_enc, get_mkd, ht, most, h2, k1]
    rw [List.map_cons, forGo]
    simp only [gName, List.set, k2]
    exact q
end
end VS

namespace VS
open PySem PySem.Spec PyProof.Rows L2

theorem lay_map : ∀ {l : List Std}, (∀ s ∈ l, s.d.canLay0 = true) → PyData.canLayAll0 (l.map Std.d) = true
  | [], _ => rfl
  | s :: l, h => by simp [PyData.canLayAll0, h s (.head _), lay_map fun t ht => h t (.tail _ ht)]
theorem okEq_nil {ds : List D} (h : PyData.canLayAll0 ds = true) : okEq (.list ds) (.list []) = true := by simp [okEq, PyData.canLay0, h, PyData.canLayAll0, PyData.depth, PyData.depthAll]
theorem kone {α : Type} [DecidableEq α] {B : List α} {b : α} {O : α → Nat} {Q : List α} (hc : ∀ o ∈ b :: B, (b :: B).count o ≤ O o) (hq : ∀ o ∈ Q, O o = 0) (nd : Q.Nodup) :
    (∀ o ∈ B, B.count o ≤ updf O b (O b - 1) o) ∧ (∀ o ∈ (if O b - 1 = 0 then Q ++ [b] else Q), updf O b (O b - 1) o = 0) ∧ (if O b - 1 = 0 then Q ++ [b] else Q).Nodup ∧ 1 ≤ O b ∧ b ∉ Q := by
  have hb := hc b (.head _)
  rw [List.count_cons_self] at hb
  have hbQ : b ∉ Q := fun z => by have := hq b z; omega
  refine ⟨fun o ho => ?_, fun o ho => ?_, ?_, by omega, hbQ⟩
  · have := hc o (.tail _ ho)
    rw [List.count_cons] at this
    unfold updf
    by_cases q : o = b
    · subst q; simp at this ⊢; omega
    · have q' : ¬ (b == o) = true := by simpa using Ne.symm q
      rw [if_neg q'] at this
      simp [q]; omega
  · unfold updf
    by_cases q : o = b
    · subst q
      rw [if_pos rfl]
      split at ho
      · assumption
      · exact absurd ho hbQ
    · rw [if_neg q]
      split at ho
      · rcases List.mem_append.mp ho with h | h
        · exact hq o h
        · exact absurd (List.mem_singleton.mp h) q
      · exact hq o ho
  · split
    · rw [List.nodup_append]
      exact ⟨nd, by simp, fun x hx y hy => by rw [List.mem_singleton.mp hy]; rintro rfl; exact hbQ hx⟩
    · exact nd
section
variable {V : List Std} {W : Std → List Std}
theorem kstep_ok (hV : V.length ≤ 30000) {s : Std} (hs : s ∈ V) {o : Std} (ho : o ∈ V) (hos : o ≠ s) {M O : Std → Nat} {Q : List Std} (hO : 1 ≤ O o) (hQ : Q.length ≤ 30000) (x0 x1 x2 x3 x4 x5 x6 x7 x8 x9 : Option SV) :
    L_longest_way_2 [x0, some (.dat s.d), some (.od (SK.enc nD (mkd V O))), some (.od (SK.enc nD (mkd V M))), x4, x5, some (.ol (Q.map Std.d)), x7, x8, some (.dat o.d)]
      = some (.nx, [x0, some (.dat s.d), some (.od (SK.enc nD (mkd V (kstep (M s) (M, O, Q) o).2.1))), some (.od (SK.enc nD (mkd V (kstep (M s) (M, O, Q) o).1))), x4, x5, some (.ol ((kstep (M s) (M, O, Q) o).2.2.map Std.d)), x7, x8, some (.dat o.d)]) := by
  have k0 : V.length < 100000 := by omega
  have k1 := putE_old (f := nD) (g := M) ho (max (M o) (M s + 1))
  have k2 := putE_old (f := nD) (g := O) ho (O o - 1)
  have k3 : (if (M o : Int) < (M s : Int) + 1 then (M s : Int) + 1 else (M o : Int)) = ((max (M o) (M s + 1) : Nat) : Int) := by split <;> omega
  have k4 : (O o : Int) - 1 = ((O o - 1 : Nat) : Int) := by omega
  have k5 : fMax2 [nD (M o), .int ((M s : Int) + 1)] = some (nD (max (M o) (M s + 1))) := by
    unfold nD
    rw [← k3]
    simp [fMax2]
  unfold L_longest_way_2
  refine (sSeq_nx (ρ1 := [x0, some (.dat s.d), some (.od (SK.enc nD (mkd V O))), some (.od (SK.enc nD (mkd V (kstep (M s) (M, O, Q) o).1))), x4, x5, some (.ol (Q.map Std.d)), x7, x8, some (.dat o.d)]) (by
    have a1 : dAdd (nD (M s)) (.int 1) = some (.int ((M s : Int) + 1)) := by simp [nD]
    simp [callD, callB, callO, args0, sSeq, sIf, sRet, sRetN, sRetO, sDrop, sAsg, sPar, sNx, sBk, sCt, sNever, eVar, eC, e1, e2, eIf, asB, eAnd, eOr, tAndM, tOrM, dNot, tNotB, aNil, aCons, mkT_ok, mkL_ok, gName, gsNil, gsCons, gTup, gLst, eChain, oNone, oSome, eSl, dIsi, dIsi2, tYesM, eDIn, isOd, isOdl, eDIx, gDSet, sApp, isOl, key_std, look_enc, get_mkd, enc_len, mkd_len, eDTake, most, ho, hs, a1, k5, k0, k1, kstep])).trans ?_
  refine (sSeq_nx (ρ1 := [x0, some (.dat s.d), some (.od (SK.enc nD (mkd V (kstep (M s) (M, O, Q) o).2.1))), some (.od (SK.enc nD (mkd V (kstep (M s) (M, O, Q) o).1))), x4, x5, some (.ol (Q.map Std.d)), x7, x8, some (.dat o.d)]) (by
    have a1 : iSub (nD (O o)) (.int 1) = some (nD (O o - 1)) := by simp only [nD]; rw [← k4]; rfl
    simp [callD, callB, callO, args0, sSeq, sIf, sRet, sRetN, sRetO, sDrop, sAsg, sPar, sNx, sBk, sCt, sNever, eVar, eC, e1, e2, eIf, asB, eAnd, eOr, tAndM, tOrM, dNot, tNotB, aNil, aCons, mkT_ok, mkL_ok, gName, gsNil, gsCons, gTup, gLst, eChain, oNone, oSome, eSl, dIsi, dIsi2, tYesM, eDIn, isOd, isOdl, eDIx, gDSet, sApp, isOl, key_std, look_enc, get_mkd, enc_len, mkd_len, eDTake, most, ho, hs, a1, k0, k2, kstep])).trans ?_
  have b1 : updf O o (O o - 1) o = O o - 1 := by simp [updf]
  have b2 : dEq (nD (O o - 1)) (.int 0) = some (.bool (decide (O o - 1 = 0))) := by
    unfold nD
    have : ((O o - 1 : Nat) : Int) = 0 ↔ O o - 1 = 0 := by omega
    simp
  have b3 : Q.length < 100000 := by omega
  have b4 : updf O o 0 o = 0 := by simp [updf]
  have b5 : dEq (nD 0) (.int 0) = some (.bool true) := by simp [nD]
  by_cases q : O o - 1 = 0
  · simp [callD, callB, callO, args0, sSeq, sIf, sRet, sRetN, sRetO, sDrop, sAsg, sPar, sNx, sBk, sCt, sNever, eVar, eC, e1, e2, eIf, asB, eAnd, eOr, tAndM, tOrM, dNot, tNotB, aNil, aCons, mkT_ok, mkL_ok, gName, gsNil, gsCons, gTup, gLst, eChain, oNone, oSome, eSl, dIsi, dIsi2, tYesM, eDIn, isOd, isOdl, eDIx, gDSet, sApp, isOl, key_std, look_enc, get_mkd, enc_len, mkd_len, eDTake, most, ho, kstep, b4, b5, q, b3]
  · simp [callD, callB, callO, args0, sSeq, sIf, sRet, sRetN, sRetO, sDrop, sAsg, sPar, sNx, sBk, sCt, sNever, eVar, eC, e1, e2, eIf, asB, eAnd, eOr, tAndM, tOrM, dNot, tNotB, aNil, aCons, mkT_ok, mkL_ok, gName, gsNil, gsCons, gTup, gLst, eChain, oNone, oSome, eSl, dIsi, dIsi2, tYesM, eDIn, isOd, isOdl, eDIx, gDSet, sApp, isOl, key_std, look_enc, get_mkd, enc_len, mkd_len, eDTake, most, ho, kstep, b1, b2, q]
theorem kloop (hV : V.length ≤ 30000) {s : Std} (hs : s ∈ V) {m : Nat} : ∀ (B : List Std) (M O : Std → Nat) (Q : List Std), (∀ o ∈ B, o ∈ V ∧ o ≠ s) → (∀ o ∈ B, B.count o ≤ O o) → (∀ o ∈ Q, O o = 0) → Q.Nodup → (∀ o ∈ Q, o ∈ V) → M s = m → ∀ x0 x1 x2 x3 x4 x5 x6 x7 x8 x9 : Option SV, ∃ y9 : Option SV,
    forGo (gName 9) L_longest_way_2 (B.map Std.d) [x0, some (.dat s.d), some (.od (SK.enc nD (mkd V O))), some (.od (SK.enc nD (mkd V M))), x4, x5, some (.ol (Q.map Std.d)), x7, x8, x9]
      = some (.nx, [x0, some (.dat s.d), some (.od (SK.enc nD (mkd V (B.foldl (kstep m) (M, O, Q)).2.1))), some (.od (SK.enc nD (mkd V (B.foldl (kstep m) (M, O, Q)).1))), x4, x5, some (.ol ((B.foldl (kstep m) (M, O, Q)).2.2.map Std.d)), x7, x8, y9])
  | [], M, O, Q, _, _, _, _, _, _, x0, x1, x2, x3, x4, x5, x6, x7, x8, x9 => ⟨x9, rfl⟩
  | b :: B, M, O, Q, hB, hc, hq, nd, hQ, hm, x0, x1, x2, x3, x4, x5, x6, x7, x8, x9 => by
    obtain ⟨c1, c2, c3, c4, c5⟩ := kone hc hq nd
    obtain ⟨hb, hbs⟩ := hB b (.head _)
    have hQl : Q.length ≤ 30000 := Nat.le_trans (sub_len nd hQ) hV
    have k1 := kstep_ok hV hs hb hbs (M := M) c4 hQl x0 x1 x2 x3 x4 x5 x6 x7 x8 x9
    rw [hm] at k1
    have hQ' : ∀ o ∈ (kstep m (M, O, Q) b).2.2, o ∈ V := fun o ho => by
      simp only [kstep] at ho
      split at ho
      · rcases List.mem_append.mp ho with h | h
        · exact hQ o h
        · rw [List.mem_singleton.mp h]; exact hb
      · exact hQ o ho
    obtain ⟨y9, q⟩ := kloop hV hs (m := m) B (kstep m (M, O, Q) b).1 (kstep m (M, O, Q) b).2.1 (kstep m (M, O, Q) b).2.2 (fun o ho => hB o (.tail _ ho)) c1 c2 c3 hQ' (by
      simp only [kstep, updf]
      rw [if_neg (Ne.symm hbs)]; exact hm) x0 x1 x2 x3 x4 x5 x6 x7 x8 (some (.dat b.d))
    refine ⟨y9, ?_⟩
    rw [List.map_cons, forGo]
    simp only [gName, List.set, k1]
    exact q
/-- the loop over what waits -/
theorem kwhile (hok : ∀ s ∈ V, s.d.canLay0 = true) (nV : V.Nodup) (hV : V.length ≤ 30000) (hW : ∀ s, s ∉ V → W s = []) : ∀ (n : Nat) (P Q : List Std) (M O : Std → Nat), KInv V W P Q M O → V.length < n + P.length → ∀ x0 x1 x2 x3 x4 x5 x6 x7 x8 x9 : Option SV, ∃ (P' : List Std) (M' O' : Std → Nat) (y1 y2 y9 : Option SV), KInv V W P' [] M' O' ∧
    whGo (e1 asB (eNil true 6)) L_longest_way_3 n [x0, x1, some (.od (SK.enc nD (mkd V O))), some (.od (SK.enc nD (mkd V M))), x4, some (.od (SK.enc lD (mkd V (backOf W V)))), some (.ol (Q.map Std.d)), some (.dat (nD P.length)), x8, x9]
      = some (.nx, [x0, y1, some (.od (SK.enc nD (mkd V O'))), some (.od (SK.enc nD (mkd V M'))), x4, some (.od (SK.enc lD (mkd V (backOf W V)))), some (.ol []), some (.dat (nD P'.length)), x8, y9])
  | 0, P, Q, M, O, i, h, x0, x1, x2, x3, x4, x5, x6, x7, x8, x9 => by
    have := sub_len i.nP fun s hs => i.inV s (.inl hs)
    omega
  | n + 1, P, Q, M, O, i, h, x0, x1, x2, x3, x4, x5, x6, x7, x8, x9 => by
    rcases List.eq_nil_or_concat Q with rfl | ⟨Q0, s, rfl⟩
    · refine ⟨P, M, O, x1, x2, x9, i, ?_⟩
      rw [whGo]
      have : okEq (.list []) (.list []) = true := by decide +kernel
      simp [callD, callB, callO, args0, sSeq, sIf, sRet, sRetN, sRetO, sDrop, sAsg, sPar, sNx, sBk, sCt, sNever, eVar, eC, e1, e2, eIf, asB, eAnd, eOr, tAndM, tOrM, dNot, tNotB, aNil, aCons, mkT_ok, mkL_ok, gName, gsNil, gsCons, gTup, gLst, eChain, oNone, oSome, eSl, dIsi, dIsi2, tYesM, eNil, isOl, this, PyData.eqv, PyData.eqvAll]
    · rw [List.concat_eq_append] at i ⊢
      generalize hf : (backOf W V s).foldl (kstep (M s)) (M, O, Q0) = r
      obtain ⟨M', O', Q'⟩ := r
      obtain ⟨i', hback⟩ := kinv_step nV hW i hf
      have hsV : s ∈ V := i.inV s (.inr (List.mem_append_right _ (.head _)))
      have hsP : s ∉ P := fun z => i.pq s z (List.mem_append_right _ (.head _))
      have nQ := List.nodup_append.mp i.nQ
      obtain ⟨y9, q⟩ := kloop hV hsV (m := M s) (backOf W V s) M O Q0 (fun o ho => ⟨(back_mem.mp ho).1, fun z => hback (z ▸ ho)⟩) (fun o ho => by
        have hoV := (back_mem.mp ho).1
        rw [back_count nV hoV, i.op o hoV, leftN_snoc hsV hsP]; omega) (fun o ho => i.q0 o (List.mem_append_left _ ho)) nQ.1 (fun o ho => i.inV o (.inr (List.mem_append_left _ ho))) rfl
        x0 x1 x2 x3 x4 (some (.od (SK.enc lD (mkd V (backOf W V))))) x6 (some (.dat (nD (P ++ [s]).length))) x8 x9
      rw [hf] at q
      obtain ⟨P', M2, O2, z1, z2, z9, j, g⟩ := kwhile hok nV hV hW n (P ++ [s]) Q' M' O' i' (by rw [List.length_append, List.length_singleton]; omega) x0 (some (.dat s.d)) x2 x3 x4 x5 x6 x7 x8 y9
      refine ⟨P', M2, O2, z1, z2, z9, j, ?_⟩
      have hne : okEq (.list ((Q0 ++ [s]).map Std.d)) (.list []) = true → PyData.eqv (.list ((Q0 ++ [s]).map Std.d)) (.list []) = false := fun _ => by
        rw [List.map_append]
        cases Q0 <;> simp [PyData.eqv, PyData.eqvAll]
      have body : L_longest_way_3 [x0, x1, some (.od (SK.enc nD (mkd V O))), some (.od (SK.enc nD (mkd V M))), x4, some (.od (SK.enc lD (mkd V (backOf W V)))), some (.ol ((Q0 ++ [s]).map Std.d)), some (.dat (nD P.length)), x8, x9]
        = some (.nx, [x0, some (.dat s.d), some (.od (SK.enc nD (mkd V O'))), some (.od (SK.enc nD (mkd V M'))), x4, some (.od (SK.enc lD (mkd V (backOf W V)))), some (.ol (Q'.map Std.d)), some (.dat (nD (P ++ [s]).length)), x8, y9]) := by
        unfold L_longest_way_3
        have a1 : (Q0.map Std.d ++ [s.d])[(Q0.map Std.d ++ [s.d]).length - 1]? = some s.d := by simp
        have a2 : (Q0.map Std.d ++ [s.d]).dropLast = Q0.map Std.d := by simp
        refine (sSeq_nx (ρ1 := [x0, some (.dat s.d), some (.od (SK.enc nD (mkd V O))), some (.od (SK.enc nD (mkd V M))), x4, some (.od (SK.enc lD (mkd V (backOf W V)))), some (.ol (Q0.map Std.d)), some (.dat (nD P.length)), x8, x9]) (by
          simp only [sAsg, ePop, isOl, List.getElem?_cons_succ, List.getElem?_cons_zero, List.map_append, List.map_cons, List.map_nil, a1, a2, gName, List.set])).trans ?_
        have a3 : dAdd (nD P.length) (.int 1) = some (nD (P ++ [s]).length) := by
          unfold nD
          rw [List.length_append, List.length_singleton]
          simp
        refine (sSeq_nx (ρ1 := [x0, some (.dat s.d), some (.od (SK.enc nD (mkd V O))), some (.od (SK.enc nD (mkd V M))), x4, some (.od (SK.enc lD (mkd V (backOf W V)))), some (.ol (Q0.map Std.d)), some (.dat (nD (P ++ [s]).length)), x8, x9]) (by simp [callD, callB, callO, args0, sSeq, sIf, sRet, sRetN, sRetO, sDrop, sAsg, sPar, sNx, sBk, sCt, sNever, eVar, eC, e1, e2, eIf, asB, eAnd, eOr, tAndM, tOrM, dNot, tNotB, aNil, aCons, mkT_ok, mkL_ok, gName, gsNil, gsCons, gTup, gLst, eChain, oNone, oSome, eSl, dIsi, dIsi2, tYesM, a3])).trans ?_
        exact forS_of (ds := (backOf W V s).map Std.d) (by simp [callD, callB, callO, args0, sSeq, sIf, sRet, sRetN, sRetO, sDrop, sAsg, sPar, sNx, sBk, sCt, sNever, eVar, eC, e1, e2, eIf, asB, eAnd, eOr, tAndM, tOrM, dNot, tNotB, aNil, aCons, mkT_ok, mkL_ok, gName, gsNil, gsCons, gTup, gLst, eChain, oNone, oSome, eSl, dIsi, dIsi2, tYesM, eDIn, isOd, isOdl, eDIx, gDSet, sApp, isOl, key_std, look_enc, get_mkd, enc_len, mkd_len, eDTake, most, hsV, lD]) q
      have hl : okEq (.list ((Q0 ++ [s]).map Std.d)) (.list []) = true := okEq_nil (lay_map fun t ht => hok t (i.inV t (.inr ht)))
      have hn := hne hl
      rw [whGo]
      simp only [VS.e1, asB, eNil, isOl, List.getElem?_cons_succ, List.getElem?_cons_zero, hl, hn, if_true, Bool.not_false, body]
      exact g
end
end VS

namespace VS
open PySem PySem.Spec PyProof.Rows L2

section
variable {V : List Std} {W : Std → List Std}
open Classical in
noncomputable def ini (W : Std → List Std) (U : List Std) (u : Std) : Nat := if u ∈ U then (if W u = [] then 0 else 1) else 0
def wt (V : List Std) (W : Std → List Std) (U : List Std) : List Std := U.filter fun s => (W s).all fun t => decide (t ∉ V)
theorem back_len (U : List Std) (t : Std) : (backOf W U t).length ≤ (U.map fun s => (W s).length).sum := by
  unfold backOf
  induction U with
  | nil => simp
  | cons u U ih =>
    rw [List.flatMap_cons, List.length_append, List.length_replicate, List.map_cons, List.sum_cons]
    have := List.count_le_length (a := t) (l := W u)
    omega
theorem back_snoc (U : List Std) (s t : Std) : backOf W (U ++ [s]) t = backOf W U t ++ List.replicate ((W s).count t) s := by simp [backOf]
theorem lw1 (hok : ∀ s ∈ V, s.d.canLay0 = true) (nV : V.Nodup) (hV : V.length ≤ 30000) (h4 : ∀ s, (W s).length ≤ 1000) (hE : (V.map fun s => (W s).length).sum ≤ 90000) {U suf : List Std} {s : Std} (hU : U ++ s :: suf = V) (x0 x1 x2 x3 x4 x5 x6 x7 x8 x9 : Option SV) : ∃ y8 : Option SV,
    L_longest_way_1 [some (.dat (nx V W)), some (.dat s.d), x2, some (.od (SK.enc nD (mkd V (ini W U)))), some (.od (SK.enc lD (mkd V (lf V W)))), some (.odl (SK.enc (List.map Std.d) (mkd V (backOf W U)))), some (.ol ((wt V W U).map Std.d)), x7, x8, x9]
      = some (.nx, [some (.dat (nx V W)), some (.dat s.d), x2, some (.od (SK.enc nD (mkd V (ini W (U ++ [s]))))), some (.od (SK.enc lD (mkd V (lf V W)))), some (.odl (SK.enc (List.map Std.d) (mkd V (backOf W (U ++ [s]))))), some (.ol ((wt V W (U ++ [s])).map Std.d)), x7, y8, x9]) := by
  have hs : s ∈ V := by rw [← hU]; simp
  have hsU : s ∉ U := fun z => by
    rw [← hU] at nV
    exact (List.nodup_append.mp nV).2.2 s z s (.head _) rfl
  have hlen : U.length < 100000 := by
    have := congrArg List.length hU
    rw [List.length_append] at this; omega
  have hVl : V.length < 100000 := by omega
  obtain ⟨y8, q⟩ := back_loop hV (o := s) (lf V W s) (fun t ht => by simpa using (List.mem_filter.mp ht).2) (backOf W U) (fun t => by
    have h1 := back_len (W := W) U t
    have h2 : (lf V W s).length ≤ (W s).length := List.length_filter_le _ _
    rw [← hU] at hE
    simp only [List.map_append, List.map_cons, List.sum_append, List.sum_cons] at hE
    omega) (some (.dat (nx V W))) x1 x2 (some (.od (SK.enc nD (mkd V (ini W (U ++ [s])))))) (some (.od (SK.enc lD (mkd V (lf V W))))) x5 (some (.ol ((wt V W U).map Std.d))) x7 x8 x9
  have e : (mkd V fun t => backOf W U t ++ List.replicate ((lf V W s).count t) s) = mkd V (backOf W (U ++ [s])) := by
    apply mkd_congr
    intro t ht
    rw [back_snoc]
    congr 2
    unfold lf
    rw [List.count_filter (by simpa using ht)]
  rw [e] at q
  refine ⟨y8, ?_⟩
  have i1 : updf (ini W U) s (if W s = [] then 0 else 1) = ini W (U ++ [s]) := by
    funext u
    unfold updf ini
    by_cases q : u = s
    · subst q; simp
    · simp [q]
  have i2 := putE_old (f := nD) (V := V) (g := ini W U) hs (if W s = [] then 0 else 1)
  rw [i1] at i2
  have i3 : (e1 fInt (aCons (e2 dGt (e1 fLen (aCons (e2 dIxD (eVar 0) (eVar 1)) aNil)) (eC (.int 0))) aNil)) [some (.dat (nx V W)), some (.dat s.d), x2, some (.od (SK.enc nD (mkd V (ini W U)))), some (.od (SK.enc lD (mkd V (lf V W)))), some (.odl (SK.enc (List.map Std.d) (mkd V (backOf W U)))), some (.ol ((wt V W U).map Std.d)), x7, x8, x9]
     = some (nD (if W s = [] then 0 else 1), [some (.dat (nx V W)), some (.dat s.d), x2, some (.od (SK.enc nD (mkd V (ini W U)))), some (.od (SK.enc lD (mkd V (lf V W)))), some (.odl (SK.enc (List.map Std.d) (mkd V (backOf W U)))), some (.ol ((wt V W U).map Std.d)), x7, x8, x9]) := by
    cases hw : W s with
    | nil => simp [callD, callB, callO, args0, sSeq, sIf, sRet, sRetN, sRetO, sDrop, sAsg, sPar, sNx, sBk, sCt, sNever, eVar, eC, e1, e2, eIf, asB, eAnd, eOr, tAndM, tOrM, dNot, tNotB, aNil, aCons, mkT_ok, mkL_ok, gName, gsNil, gsCons, gTup, gLst, eChain, oNone, oSome, eSl, dIsi, dIsi2, tYesM, dIxD, key_std, look_enc, get_mkd, hs, lD, hw, fInt, nD]
    | cons a l =>
      have : (0 : Int) < (l.length : Int) + 1 := by omega
      simp [callD, callB, callO, args0, sSeq, sIf, sRet, sRetN, sRetO, sDrop, sAsg, sPar, sNx, sBk, sCt, sNever, eVar, eC, e1, e2, eIf, asB, eAnd, eOr, tAndM, tOrM, dNot, tNotB, aNil, aCons, mkT_ok, mkL_ok, gName, gsNil, gsCons, gTup, gLst, eChain, oNone, oSome, eSl, dIsi, dIsi2, tYesM, dIxD, key_std, look_enc, get_mkd, hs, lD, hw, fInt, nD, this]
  unfold L_longest_way_1
  refine (sSeq_nx (ρ1 := [some (.dat (nx V W)), some (.dat s.d), x2, some (.od (SK.enc nD (mkd V (ini W (U ++ [s]))))), some (.od (SK.enc lD (mkd V (lf V W)))), some (.odl (SK.enc (List.map Std.d) (mkd V (backOf W U)))), some (.ol ((wt V W U).map Std.d)), x7, x8, x9]) (asgS_of i3 (by simp [gDSet, isOd, eVar, key_std, enc_len, mkd_len, most, hVl, i2]))).trans ?_
  refine (sSeq_nx (forS_of (ds := (lf V W s).map Std.d) (ρ1 := [some (.dat (nx V W)), some (.dat s.d), x2, some (.od (SK.enc nD (mkd V (ini W (U ++ [s]))))), some (.od (SK.enc lD (mkd V (lf V W)))), some (.odl (SK.enc (List.map Std.d) (mkd V (backOf W U)))), some (.ol ((wt V W U).map Std.d)), x7, x8, x9]) (by simp [callD, callB, callO, args0, sSeq, sIf, sRet, sRetN, sRetO, sDrop, sAsg, sPar, sNx, sBk, sCt, sNever, eVar, eC, e1, e2, eIf, asB, eAnd, eOr, tAndM, tOrM, dNot, tNotB, aNil, aCons, mkT_ok, mkL_ok, gName, gsNil, gsCons, gTup, gLst, eChain, oNone, oSome, eSl, dIsi, dIsi2, tYesM, eDIn, isOd, isOdl, eDIx, gDSet, sApp, isOl, key_std, look_enc, get_mkd, enc_len, mkd_len, eDTake, most, hs, lD]) q)).trans ?_
  have hlay : PyData.canLayAll0 ((lf V W s).map Std.d) = true := lay_map fun t ht => hok t (by simpa using (List.mem_filter.mp ht).2)
  have j1 := eqNil hlay
  have j2 : (wt V W U).length < 100000 := Nat.lt_of_le_of_lt (List.length_filter_le _ _) hlen
  have j3 : wt V W (U ++ [s]) = wt V W U ++ (if lf V W s = [] then [s] else []) := by
    unfold wt
    rw [List.filter_append]
    congr 1
    by_cases z : lf V W s = []
    · rw [if_pos z, List.filter_cons, if_pos ((lf_nil s).mp z)]; rfl
    · rw [if_neg z, List.filter_cons, if_neg (fun y => z ((lf_nil s).mpr y))]; rfl
  rw [j3]
  cases z : lf V W s with
  | nil =>
    have j1' : dEq (.list []) (.list []) = some (.bool true) := eqNil (ds := []) rfl
    simp [callD, callB, callO, args0, sSeq, sIf, sRet, sRetN, sRetO, sDrop, sAsg, sPar, sNx, sBk, sCt, sNever, eVar, eC, e1, e2, eIf, asB, eAnd, eOr, tAndM, tOrM, dNot, tNotB, aNil, aCons, mkT_ok, mkL_ok, gName, gsNil, gsCons, gTup, gLst, eChain, oNone, oSome, eSl, dIsi, dIsi2, tYesM, eDIn, isOd, isOdl, eDIx, gDSet, sApp, isOl, key_std, look_enc, get_mkd, enc_len, mkd_len, eDTake, most, hs, lD, z, j1', j2]
  | cons a l =>
    rw [z] at j1
    simp at j1
    simp [callD, callB, callO, args0, sSeq, sIf, sRet, sRetN, sRetO, sDrop, sAsg, sPar, sNx, sBk, sCt, sNever, eVar, eC, e1, e2, eIf, asB, eAnd, eOr, tAndM, tOrM, dNot, tNotB, aNil, aCons, mkT_ok, mkL_ok, gName, gsNil, gsCons, gTup, gLst, eChain, oNone, oSome, eSl, dIsi, dIsi2, tYesM, eDIn, isOd, isOdl, eDIx, gDSet, sApp, isOl, key_std, look_enc, get_mkd, enc_len, mkd_len, eDTake, most, hs, lD, z, j1]
theorem leftN0 (s : Std) : nD (lf V W s).length = nD (leftN W V [] s) := by rw [lf_len]
theorem longest_way_ok (hok : ∀ s ∈ V, s.d.canLay0 = true) (nV : V.Nodup) (hV : V.length ≤ 30000) (hW : ∀ s, s ∉ V → W s = []) (h4 : ∀ s, (W s).length ≤ 1000) (hE : (V.map fun s => (W s).length).sum ≤ 90000) :
    ∃ r, Res V W r ∧ F_longest_way [nx V W] = some (optD r) := by
  have hVl : V.length ≤ 100000 := by omega
  have ky : iKy (nx V W) = some (V.map Std.d) := by simp only [iKy, nx, KT.enc, mkd, List.map_map]; rfl
  -- the dicts at the start
  have g1 := dc_gen (t := gName 1) (ek := eVar 1) (ev := eC (.int 0)) (vs := [1]) (ρ := [some (.dat (nx V W)), none, none, none, none, none, none, none, none, none]) (f := nD) (g := ini W []) V [] nV hVl (by
    intro x hx
    exact ⟨_, [some (.dat (nx V W)), some (.dat x.d), none, none, none, none, none, none, none, none], _, rfl, rfl, rfl, rfl⟩)
  rw [List.nil_append] at g1
  have g1' : dcGo (gName 1) (eVar 1) (eC (.int 0)) [1] (V.map Std.d) [] [some (.dat (nx V W)), none, none, none, none, none, none, none, none, none] = some (SK.enc nD (mkd V (ini W [])), [some (.dat (nx V W)), none, none, none, none, none, none, none, none, none]) := g1
  obtain ⟨ρ2, g2, y1, y8, n0, h8, e2'⟩ := for_pre (t := gName 1) (b := L_longest_way_0) Std.d (fun U ρ => ∃ (y1 y8 : Option SV), nol y1 ∧ nol y8 ∧ ρ = [some (.dat (nx V W)), y1, none, some (.od (SK.enc nD (mkd V (ini W [])))), some (.od (SK.enc lD (mkd U (lf V W)))), none, none, none, y8, none]) V (by
    rintro pre x suf ρ hp ⟨y1, y8, _, h8, rfl⟩
    have hx : x ∉ pre := fun z => by
      rw [← hp] at nV
      exact (List.nodup_append.mp nV).2.2 x z x (.head _) rfl
    have hl : pre.length < 100000 := by
      have := congrArg List.length hp
      rw [List.length_append, List.length_cons] at this; omega
    have k := lw0 (V := V) (W := W) h4 (U := pre) (s := x) (by rw [← hp]; simp) hx hl (some (.dat (nx V W))) (some (.dat x.d)) none (some (.od (SK.enc nD (mkd V (ini W []))))) none none none none y8 none h8
    exact ⟨_, _, rfl, k, _, _, nol_dat, h8, rfl⟩) V [] [some (.dat (nx V W)), none, none, some (.od (SK.enc nD (mkd V (ini W [])))), some (.od []), none, none, none, none, none] rfl ⟨none, none, nol_none, nol_none, rfl⟩
  subst e2'
  have g3 := dcL_gen (t := gName 1) (ek := eVar 1) (vs := [1]) (ρ := [some (.dat (nx V W)), none, none, some (.od (SK.enc nD (mkd V (ini W [])))), some (.od (SK.enc lD (mkd V (lf V W)))), none, none, none, y8, none]) V [] nV hVl (by
    intro x hx
    exact ⟨_, [some (.dat (nx V W)), some (.dat x.d), none, some (.od (SK.enc nD (mkd V (ini W [])))), some (.od (SK.enc lD (mkd V (lf V W)))), none, none, none, y8, none], rfl, rfl, rfl⟩)
  rw [List.nil_append] at g3
  have g3' : dcGoL (gName 1) (eVar 1) [1] (V.map Std.d) [] [some (.dat (nx V W)), none, none, some (.od (SK.enc nD (mkd V (ini W [])))), some (.od (SK.enc lD (mkd V (lf V W)))), none, none, none, y8, none] = some (SK.enc (List.map Std.d) (mkd V fun _ => []), [some (.dat (nx V W)), none, none, some (.od (SK.enc nD (mkd V (ini W [])))), some (.od (SK.enc lD (mkd V (lf V W)))), none, none, none, y8, none]) := g3
  have hz : ini W [] = fun _ => 0 := by funext u; simp [ini]
  have hb0 : backOf W [] = fun _ => [] := by funext u; simp [backOf]
  obtain ⟨ρ4, g4, y1', y8', n1, e4⟩ := for_pre (t := gName 1) (b := L_longest_way_1) Std.d (fun U ρ => ∃ (y1 y8 : Option SV), nol y1 ∧ ρ = [some (.dat (nx V W)), y1, none, some (.od (SK.enc nD (mkd V (ini W U)))), some (.od (SK.enc lD (mkd V (lf V W)))), some (.odl (SK.enc (List.map Std.d) (mkd V (backOf W U)))), some (.ol ((wt V W U).map Std.d)), some (.dat (.int 0)), y8, none]) V (by
    rintro pre x suf ρ hp ⟨y1, y8, _, rfl⟩
    obtain ⟨z8, k⟩ := lw1 hok nV hV h4 hE hp (some (.dat (nx V W))) (some (.dat x.d)) none (some (.od (SK.enc nD (mkd V (ini W pre))))) (some (.od (SK.enc lD (mkd V (lf V W))))) (some (.odl (SK.enc (List.map Std.d) (mkd V (backOf W pre))))) (some (.ol ((wt V W pre).map Std.d))) (some (.dat (.int 0))) y8 none
    exact ⟨_, _, rfl, k, _, _, nol_dat, rfl⟩) V [] [some (.dat (nx V W)), y1, none, some (.od (SK.enc nD (mkd V (ini W [])))), some (.od (SK.enc lD (mkd V (lf V W)))), some (.odl (SK.enc (List.map Std.d) (mkd V fun _ => []))), some (.ol []), some (.dat (.int 0)), y8, none] rfl ⟨y1, y8, n0, by rw [hb0]; rfl⟩
  subst e4
  have g5 := dc_gen (t := gName 1) (ek := eVar 1) (ev := e1 fLen (aCons (eDIx 4 (eVar 1)) aNil)) (vs := [1]) (ρ := [some (.dat (nx V W)), none, none, some (.od (SK.enc nD (mkd V (ini W V)))), some (.od (SK.enc lD (mkd V (lf V W)))), some (.od (SK.enc lD (mkd V (backOf W V)))), some (.ol ((wt V W V).map Std.d)), some (.dat (.int 0)), y8', none]) (f := nD) (g := leftN W V []) V [] nV hVl (by
    intro x hx
    refine ⟨_, [some (.dat (nx V W)), some (.dat x.d), none, some (.od (SK.enc nD (mkd V (ini W V)))), some (.od (SK.enc lD (mkd V (lf V W)))), some (.od (SK.enc lD (mkd V (backOf W V)))), some (.ol ((wt V W V).map Std.d)), some (.dat (.int 0)), y8', none], [some (.dat (nx V W)), some (.dat x.d), none, some (.od (SK.enc nD (mkd V (ini W V)))), some (.od (SK.enc lD (mkd V (lf V W)))), some (.od (SK.enc lD (mkd V (backOf W V)))), some (.ol ((wt V W V).map Std.d)), some (.dat (.int 0)), y8', none], rfl, rfl, ?_, rfl⟩
    have : fLen [lD (lf V W x)] = some (nD (leftN W V [] x)) := by rw [← lf_len]; simp [lD, nD]
    simp [callD, callB, callO, args0, sSeq, sIf, sRet, sRetN, sRetO, sDrop, sAsg, sPar, sNx, sBk, sCt, sNever, eVar, eC, e1, e2, eIf, asB, eAnd, eOr, tAndM, tOrM, dNot, tNotB, aNil, aCons, mkT_ok, mkL_ok, gName, gsNil, gsCons, gTup, gLst, eChain, oNone, oSome, eSl, dIsi, dIsi2, tYesM, eDIn, isOd, isOdl, eDIx, gDSet, sApp, isOl, key_std, look_enc, get_mkd, enc_len, mkd_len, eDTake, most, hx, this])
  rw [List.nil_append] at g5
  have g5' : dcGo (gName 1) (eVar 1) (e1 fLen (aCons (eDIx 4 (eVar 1)) aNil)) [1] (V.map Std.d) [] [some (.dat (nx V W)), none, none, some (.od (SK.enc nD (mkd V (ini W V)))), some (.od (SK.enc lD (mkd V (lf V W)))), some (.od (SK.enc lD (mkd V (backOf W V)))), some (.ol ((wt V W V).map Std.d)), some (.dat (.int 0)), y8', none] = some (SK.enc nD (mkd V (leftN W V [])), [some (.dat (nx V W)), none, none, some (.od (SK.enc nD (mkd V (ini W V)))), some (.od (SK.enc lD (mkd V (lf V W)))), some (.od (SK.enc lD (mkd V (backOf W V)))), some (.ol ((wt V W V).map Std.d)), some (.dat (.int 0)), y8', none]) := g5
  have hM : mkd V (ini W V) = mkd V (fun s => if W s = [] then 0 else 1) := mkd_congr fun s hs => by simp [ini, hs]
  obtain ⟨P', M', O', z1, z2, z9, i, g6⟩ := kwhile hok nV hV hW fuel [] (wt V W V) _ _ (kinv_start nV) (by show V.length < fuel + 0; unfold fuel; omega) (some (.dat (nx V W))) y1' (some (.od (SK.enc nD (mkd V (leftN W V []))))) none (some (.od (SK.enc lD (mkd V (lf V W))))) none none none y8' none
  refine ⟨_, kinv_end nV i, ?_⟩
  rw [← hM] at g6
  have g6' := g6
  have main : B_longest_way [some (.dat (nx V W)), none, none, none, none, none, none, none, none, none] = some (.rt (optD (if P'.length < V.length then none else some (top M' V))), [some (.dat (nx V W)), z1, some (.od (SK.enc nD (mkd V O'))), (if P'.length < V.length then some (.od (SK.enc nD (mkd V M'))) else some (.dat (.dict (SK.enc nD (mkd V M'))))), some (.od (SK.enc lD (mkd V (lf V W)))), some (.od (SK.enc lD (mkd V (backOf W V)))), some (.ol []), some (.dat (nD P'.length)), y8', z9]) := by
    unfold B_longest_way
    refine (sSeq_nx (ρ1 := [some (.dat (nx V W)), none, none, some (.od (SK.enc nD (mkd V (ini W [])))), some (.od []), none, none, none, none, none]) ?_).trans ?_
    · simp [sPutF, fsCons, fsNil, fDc, fD0, VS.e1, eVar, ky, okW, wipeR, g1', restR, setR]
    refine (sSeq_nx (forS_of (ds := V.map Std.d) (by simp [VS.e1, eVar, ky]) g2)).trans ?_
    refine (sSeq_nx (ρ1 := [some (.dat (nx V W)), y1, none, some (.od (SK.enc nD (mkd V (ini W [])))), some (.od (SK.enc lD (mkd V (lf V W)))), some (.odl (SK.enc (List.map Std.d) (mkd V fun _ => []))), some (.ol []), some (.dat (.int 0)), y8, none]) ?_).trans ?_
    · have := okW_one (ρ := [some (.dat (nx V W)), y1, none, some (.od (SK.enc nD (mkd V (ini W [])))), some (.od (SK.enc lD (mkd V (lf V W)))), none, none, none, y8, none]) (j := 1) rfl n0
      simp [sPutF, fsCons, fsNil, fDcL, fLst, fDat, eC, aNil, VS.e1, eVar, ky, this, wipeR, g3', restR, setR, most]
    refine (sSeq_nx (forS_of (ds := V.map Std.d) (by simp [VS.e1, eVar, ky]) g4)).trans ?_
    refine (sSeq_nx (ρ1 := [some (.dat (nx V W)), y1', some (.od (SK.enc nD (mkd V (leftN W V [])))), some (.od (SK.enc nD (mkd V (ini W V)))), some (.od (SK.enc lD (mkd V (lf V W)))), some (.od (SK.enc lD (mkd V (backOf W V)))), some (.ol ((wt V W V).map Std.d)), some (.dat (.int 0)), y8', none]) ?_).trans ?_
    · have := okW_one (ρ := [some (.dat (nx V W)), y1', none, some (.od (SK.enc nD (mkd V (ini W V)))), some (.od (SK.enc lD (mkd V (lf V W)))), some (.od (SK.enc lD (mkd V (backOf W V)))), some (.ol ((wt V W V).map Std.d)), some (.dat (.int 0)), y8', none]) (j := 1) rfl n1
      simp [sThaw, thaw, isOdl, odOf_enc, sPutF, fsCons, fsNil, fDc, VS.e1, eVar, ky, this, wipeR, g5', restR, setR]
    refine (sSeq_nx g6').trans ?_
    have q1 : fLenD [nx V W] = some (nD V.length) := by simp [fLenD, enc_len, mkd_len, nD]
    have q2 : dLt (nD P'.length) (nD V.length) = some (.bool (decide (P'.length < V.length))) := by
      have : ((P'.length : Nat) : Int) < (V.length : Nat) ↔ P'.length < V.length := by omega
      simp [nD, this]
    by_cases c : P'.length < V.length
    · simp [callD, callB, callO, args0, sSeq, sIf, sRet, sRetN, sRetO, sDrop, sAsg, sPar, sNx, sBk, sCt, sNever, eVar, eC, e1, e2, eIf, asB, eAnd, eOr, tAndM, tOrM, dNot, tNotB, aNil, aCons, mkT_ok, mkL_ok, gName, gsNil, gsCons, gTup, gLst, eChain, oNone, oSome, eSl, dIsi, dIsi2, tYesM, q1, q2, c, optD]
    · have q3 : dVals (.dict (SK.enc nD (mkd V M'))) = some (.list (V.map fun s => nD (M' s))) := by
        have : (SK.enc nD (mkd V M')).map (·.2) = V.map fun s => nD (M' s) := by simp [KT.enc, mkd]
        simp only [dVals, this, enc_len, mkd_len, most, hVl, if_true]
      have q4 : dAdd (.list [.int 0]) (.list (V.map fun s => nD (M' s))) = some (.list (.int 0 :: V.map fun s => nD (M' s))) := addL' (by simp; omega)
      have q5 := max_top M' V
      simp [callD, callB, callO, args0, sSeq, sIf, sRet, sRetN, sRetO, sDrop, sAsg, sPar, sNx, sBk, sCt, sNever, eVar, eC, e1, e2, eIf, asB, eAnd, eOr, tAndM, tOrM, dNot, tNotB, aNil, aCons, mkT_ok, mkL_ok, gName, gsNil, gsCons, gTup, gLst, eChain, oNone, oSome, eSl, dIsi, dIsi2, tYesM, q1, q2, c, optD, eDIn, isOd, isOdl, eDIx, gDSet, sApp, isOl, key_std, look_enc, get_mkd, enc_len, mkd_len, eDTake, most, q3, q4, q5]
  simp [F_longest_way, callD, args0, main]
end
end VS

namespace VS
open PySem PySem.Spec PyProof.Rows L2

theorem lc_on {α : Type} {t : D → Rho → Option Rho} {c : M Bool} {e : M D} {vs : List Nat} {ρ : Rho} (en : α → D) (p : α → Bool) (g : α → D) : ∀ {xs : List α},
    (∀ x ∈ xs, ∃ ρ1 ρ2, t (en x) ρ = some ρ1 ∧ c ρ1 = some (p x, ρ2) ∧ (p x = false → wipeR ρ2 vs = ρ) ∧ (p x = true → ∃ ρ3, e ρ2 = some (g x, ρ3) ∧ wipeR ρ3 vs = ρ)) →
    lcGo t c e vs (xs.map en) ρ = some ((xs.filter p).map g, ρ)
  | [], _ => rfl
  | x :: xs, h => by
    have ih := lc_on (t := t) (c := c) (e := e) (vs := vs) (ρ := ρ) en p g (xs := xs) fun y hy => h y (.tail _ hy)
    obtain ⟨ρ1, ρ2, h1, h2, h3, h4⟩ := h x (.head _)
    rw [List.map_cons, lcGo, h1]
    simp only [h2]
    cases hp : p x with
    | false =>
      simp only [h3 hp]
      rw [ih, List.filter_cons_of_neg (by simp [hp])]
    | true =>
      obtain ⟨ρ3, h5, h6⟩ := h4 hp
      simp only [h5, h6, ih]
      rw [List.filter_cons_of_pos hp]
      rfl
def ly (x : Option SV) : Prop := x = none ∨ ∃ d, x = some (.dat d) ∧ d.canLay0 = true
theorem ly.nol {x : Option SV} (h : ly x) : nol x := by
  rcases h with h | ⟨d, h, _⟩
  · exact .inl h
  · exact .inr ⟨d, h⟩
theorem ly.lay {x : Option SV} (h : ly x) : laySV x = true := by
  rcases h with rfl | ⟨d, rfl, h⟩
  · rfl
  · exact h
theorem ly_none : ly none := .inl rfl
theorem ly_dat {d : D} (h : d.canLay0 = true) : ly (some (.dat d)) := .inr ⟨d, rfl, h⟩
theorem mx_top {α : Type} {g : α → Nat} {l : List α} (h : l ≠ []) : mx g l = top g l + 1 := by
  apply Nat.le_antisymm
  · exact mx_le.mpr fun t ht => by have := top_le.mp (Nat.le_refl (top g l)) t ht; omega
  · rcases top_mem (M := g) (V := l) with q | ⟨s, hs, q⟩
    · rw [q]
      cases l with
      | nil => exact absurd rfl h
      | cons a l => have := mx_le.mp (Nat.le_refl (mx g (a :: l))) a (.head _); omega
    · rw [q]; exact mx_le.mp (Nat.le_refl _) s hs
/-! ### the law's longest way -/
section
variable {W : Std → List Std}
theorem layD_enc {β : Type} {f : β → D} {V : List Std} {g : Std → β} (h1 : ∀ s ∈ V, s.d.canLay0 = true) (h2 : ∀ s ∈ V, (f (g s)).canLay0 = true) : layD (SK.enc f (mkd V g)) = true := by
  unfold layD KT.enc mkd
  rw [List.all_eq_true]
  intro e he
  rw [List.map_map] at he
  obtain ⟨s, hs, rfl⟩ := List.mem_map.mp he
  simp only [Function.comp, SK_e, h1 s hs, h2 s hs, Bool.and_self]
theorem lD_lay {l : List Std} (h : ∀ s ∈ l, s.d.canLay0 = true) : (lD l).canLay0 = true := by
  have := lay_map h
  unfold lD
  simp [PyData.canLay0, this]
/-- which have no next one left -/
theorem ends_row (ok : Std → Prop) (hok : ∀ s, ok s → s.d.canLay0 = true) {L K : List Std} {M : Std → Nat} (hL : ∀ s ∈ L, ok s) (hK : ∀ s ∈ K, ok s) (hWk : ∀ s ∈ L, ∀ t ∈ W s, ok t) (hl : L.length ≤ 90000) (hw : ∀ s, (W s).length ≤ 90000)
    {ed : D} (he : ed.canLay0 = true) (x1 x4 x5 x6 : Option SV) (h1 : ly x1) (h5 : ly x5) (h6 : ly x6) :
    sLockD 2 (sAsg (eLc (e1 iKy (eVar 2)) (gName 5) (e1 asB (e2 dEq (eLc (e1 iSeq (e2 dIxD (eVar 2) (eVar 5))) (gName 6) (e1 asB (e2 (dInD false) (eVar 6) (eVar 2))) (eVar 6) [6]) (e1 mkL aNil))) (eVar 5) [5]) (gName 4)) [some (.dat ed), x1, some (.od (SK.enc lD (mkd L W))), some (.od (SK.enc nD (mkd K M))), x4, x5, x6]
      = some (.nx, [some (.dat ed), x1, some (.od (SK.enc lD (mkd L W))), some (.od (SK.enc nD (mkd K M))), some (.dat (lD (endsOf W L))), x5, x6]) := by
  have ky : iKy (.dict (SK.enc lD (mkd L W))) = some (L.map Std.d) := by simp only [iKy, KT.enc, mkd, List.map_map]; rfl
  have inner : ∀ s ∈ L, eLc (e1 iSeq (e2 dIxD (eVar 2) (eVar 5))) (gName 6) (e1 asB (e2 (dInD false) (eVar 6) (eVar 2))) (eVar 6) [6] [some (.dat ed), x1, some (.dat (.dict (SK.enc lD (mkd L W)))), some (.od (SK.enc nD (mkd K M))), x4, some (.dat s.d), x6]
      = some (lD (lf L W s), [some (.dat ed), x1, some (.dat (.dict (SK.enc lD (mkd L W)))), some (.od (SK.enc nD (mkd K M))), x4, some (.dat s.d), x6]) := by
    intro s hs
    have k1 := lc_on (t := gName 6) (c := e1 asB (e2 (dInD false) (eVar 6) (eVar 2))) (e := eVar 6) (vs := [6]) (ρ := [some (.dat ed), x1, some (.dat (.dict (SK.enc lD (mkd L W)))), some (.od (SK.enc nD (mkd K M))), x4, some (.dat s.d), none]) Std.d (fun t => decide (t ∈ L)) Std.d (xs := W s) (by
      intro t ht
      refine ⟨_, [some (.dat ed), x1, some (.dat (.dict (SK.enc lD (mkd L W)))), some (.od (SK.enc nD (mkd K M))), x4, some (.dat s.d), some (.dat t.d)], rfl, ?_, fun _ => rfl, fun _ => ⟨_, rfl, rfl⟩⟩
      by_cases q : t ∈ L <;> simp [callD, callB, callO, args0, sSeq, sIf, sRet, sRetN, sRetO, sDrop, sAsg, sPar, sNx, sBk, sCt, sNever, eVar, eC, e1, e2, eIf, asB, eAnd, eOr, tAndM, tOrM, dNot, tNotB, aNil, aCons, mkT_ok, mkL_ok, gName, gsNil, gsCons, gTup, gLst, eChain, oNone, oSome, eSl, dIsi, dIsi2, tYesM, dInD, key_std, look_enc, get_mkd, q])
    have k2 : (e1 iSeq (e2 dIxD (eVar 2) (eVar 5))) [some (.dat ed), x1, some (.dat (.dict (SK.enc lD (mkd L W)))), some (.od (SK.enc nD (mkd K M))), x4, some (.dat s.d), x6] = some ((W s).map Std.d, [some (.dat ed), x1, some (.dat (.dict (SK.enc lD (mkd L W)))), some (.od (SK.enc nD (mkd K M))), x4, some (.dat s.d), x6]) := by
      simp [callD, callB, callO, args0, sSeq, sIf, sRet, sRetN, sRetO, sDrop, sAsg, sPar, sNx, sBk, sCt, sNever, eVar, eC, e1, e2, eIf, asB, eAnd, eOr, tAndM, tOrM, dNot, tNotB, aNil, aCons, mkT_ok, mkL_ok, gName, gsNil, gsCons, gTup, gLst, eChain, oNone, oSome, eSl, dIsi, dIsi2, tYesM, dIxD, key_std, look_enc, get_mkd, hs, lD]
    have k3 : okW [some (.dat ed), x1, some (.dat (.dict (SK.enc lD (mkd L W)))), some (.od (SK.enc nD (mkd K M))), x4, some (.dat s.d), x6] [6] = true := okW_one rfl h6.nol
    have k4 : (lf L W s).length ≤ 100000 := Nat.le_trans (List.length_filter_le _ _) (by have := hw s; omega)
    unfold eLc
    rw [k2]
    simp only [k3, if_true, wipeR, List.set]
    rw [k1]
    simp [k4, most, restR, lD]
  have outer := lc_on (t := gName 5) (c := e1 asB (e2 dEq (eLc (e1 iSeq (e2 dIxD (eVar 2) (eVar 5))) (gName 6) (e1 asB (e2 (dInD false) (eVar 6) (eVar 2))) (eVar 6) [6]) (e1 mkL aNil))) (e := eVar 5) (vs := [5]) (ρ := [some (.dat ed), x1, some (.dat (.dict (SK.enc lD (mkd L W)))), some (.od (SK.enc nD (mkd K M))), x4, none, x6]) Std.d (fun s => (W s).all fun t => decide (t ∉ L)) Std.d (xs := L) (by
    intro s hs
    refine ⟨_, [some (.dat ed), x1, some (.dat (.dict (SK.enc lD (mkd L W)))), some (.od (SK.enc nD (mkd K M))), x4, some (.dat s.d), x6], rfl, ?_, fun _ => rfl, fun _ => ⟨_, rfl, rfl⟩⟩
    have j1 := eqNil (ds := (lf L W s).map Std.d) (lay_map fun t ht => hok t (hL t (by simpa using (List.mem_filter.mp ht).2)))
    have j2 : ((lf L W s).map Std.d).isEmpty = ((W s).all fun t => decide (t ∉ L)) := by
      rw [Bool.eq_iff_iff, ← lf_nil]; simp
    have j3 := inner s hs
    generalize eLc (e1 iSeq (e2 dIxD (eVar 2) (eVar 5))) (gName 6) (e1 asB (e2 (dInD false) (eVar 6) (eVar 2))) (eVar 6) [6] = G at j3
    rw [← lD] at j1
    simp [gName, VS.e1, VS.e2, j3, aNil, mkL_ok, j1, asB, j2])
  have k2 : (e1 iKy (eVar 2)) [some (.dat ed), x1, some (.dat (.dict (SK.enc lD (mkd L W)))), some (.od (SK.enc nD (mkd K M))), x4, x5, x6] = some (L.map Std.d, [some (.dat ed), x1, some (.dat (.dict (SK.enc lD (mkd L W)))), some (.od (SK.enc nD (mkd K M))), x4, x5, x6]) := by simp [VS.e1, eVar, ky]
  have k3 : okW [some (.dat ed), x1, some (.dat (.dict (SK.enc lD (mkd L W)))), some (.od (SK.enc nD (mkd K M))), x4, x5, x6] [5] = true := okW_one rfl h5.nol
  have k4 : (endsOf W L).length ≤ 100000 := Nat.le_trans (List.length_filter_le _ _) (by omega)
  have main : sAsg (eLc (e1 iKy (eVar 2)) (gName 5) (e1 asB (e2 dEq (eLc (e1 iSeq (e2 dIxD (eVar 2) (eVar 5))) (gName 6) (e1 asB (e2 (dInD false) (eVar 6) (eVar 2))) (eVar 6) [6]) (e1 mkL aNil))) (eVar 5) [5]) (gName 4) [some (.dat ed), x1, some (.dat (.dict (SK.enc lD (mkd L W)))), some (.od (SK.enc nD (mkd K M))), x4, x5, x6]
      = some (.nx, [some (.dat ed), x1, some (.dat (.dict (SK.enc lD (mkd L W)))), some (.od (SK.enc nD (mkd K M))), some (.dat (lD (endsOf W L))), x5, x6]) := by
    refine asgS_of (d := lD (endsOf W L)) (ρ1 := [some (.dat ed), x1, some (.dat (.dict (SK.enc lD (mkd L W)))), some (.od (SK.enc nD (mkd K M))), x4, x5, x6]) ?_ rfl
    generalize (e1 asB (e2 dEq (eLc (e1 iSeq (e2 dIxD (eVar 2) (eVar 5))) (gName 6) (e1 asB (e2 (dInD false) (eVar 6) (eVar 2))) (eVar 6) [6]) (e1 mkL aNil))) = C at outer
    unfold eLc
    rw [k2]
    simp only [k3, if_true, wipeR, List.set]
    rw [outer]
    have k4' : ((L.filter fun s => (W s).all fun t => decide (t ∉ L)).map Std.d).length ≤ most := by rw [List.length_map]; exact k4
    simp only [k4', if_true, restR]
    rfl
  have lay1 : layD (SK.enc lD (mkd L W)) = true := layD_enc (fun s hs => hok s (hL s hs)) fun s hs => lD_lay fun t ht => hok t (hWk s hs t ht)
  have lay2 : layD (SK.enc nD (mkd K M)) = true := layD_enc (fun s hs => hok s (hK s hs)) fun s hs => rfl
  have lay3 : (lD (endsOf W L)).canLay0 = true := lD_lay fun t ht => hok t (hL t (List.mem_filter.mp ht).1)
  unfold sLockD
  simp only [isOd, List.getElem?_cons_succ, List.getElem?_cons_zero, lockR, List.set]
  rw [main]
  have l0 : laySV (some (.dat ed)) = true := he
  have l1 := h1.lay
  have l5 := h5.lay
  have l6 := h6.lay
  have l3 : laySV (some (.od (SK.enc nD (mkd K M)))) = true := lay2
  have l4 : laySV (some (.dat (lD (endsOf W L)))) = true := lay3
  have l2 : laySV none = true := rfl
  simp only [thawOk, lay1, List.set, List.all_cons, List.all_nil, l0, l1, l2, l3, l4, l5, l6, Bool.and_self, List.length_cons, List.length_nil]
  simp
theorem many_row {V L K : List Std} (hV : ∀ s, W s ≠ [] → s ∈ V) (hne : ∀ s ∈ V, W s ≠ []) (i : PInv V W L K) {E1 : List Std} {s : Std} (hs : s ∈ endsOf W L) (hE : s ∉ E1) (hsub : ∀ t ∈ E1, t ∈ endsOf W L) (hKl : (K ++ E1).length < 90000) (hw : ∀ s, (W s).length ≤ 90000) (x0 x1 x2 x3 x4 x5 x6 : Option SV) (h6 : nol x6) :
    L__law_longest_0 [x0, x1, some (.od (SK.enc lD (mkd L W))), some (.od (SK.enc nD (mkd (K ++ E1) (hgt W)))), x4, some (.dat s.d), x6] = some (.nx, [x0, x1, some (.od (SK.enc lD (mkd L W))), some (.od (SK.enc nD (mkd (K ++ E1 ++ [s]) (hgt W)))), x4, some (.dat s.d), x6]) := by
  have hsL : s ∈ L := (List.mem_filter.mp hs).1
  have hsK : s ∉ K ++ E1 := fun z => by
    rcases List.mem_append.mp z with q | q
    · exact (List.nodup_append.mp i.nd).2.2 s q s hsL rfl
    · exact hE q
  have hv : ∀ t ∈ W s, ((get (mkd (K ++ E1) (hgt W)) t).map nD).getD (.int 0) = nD (hgt W t) := fun t ht => by
    rw [get_mkd]
    by_cases q : t ∈ K ++ E1
    · rw [if_pos q]; rfl
    · rw [if_neg q]
      have htL : t ∉ L := by
        have := List.all_eq_true.mp (List.mem_filter.mp hs).2 t ht
        simpa using this
      have : t ∉ V := fun z => by
        rcases i.all t z with h | h
        · exact q (List.mem_append_left _ h)
        · exact htL h
      have h0 : W t = [] := by
        cases hw : W t with
        | nil => rfl
        | cons a l => exact absurd (hV t (by rw [hw]; simp)) this
      rw [hgt_of (HT.leaf h0)]; rfl
  have k1 := lc_on (t := gName 6) (c := tYesM) (e := eDGet 3 (aCons (eVar 6) (aCons (eC (.int 0)) aNil))) (vs := [6]) (ρ := [x0, x1, some (.od (SK.enc lD (mkd L W))), some (.od (SK.enc nD (mkd (K ++ E1) (hgt W)))), x4, some (.dat s.d), none]) Std.d (fun _ => true) (fun t => nD (hgt W t)) (xs := W s) (by
    intro t ht
    refine ⟨_, [x0, x1, some (.od (SK.enc lD (mkd L W))), some (.od (SK.enc nD (mkd (K ++ E1) (hgt W)))), x4, some (.dat s.d), some (.dat t.d)], rfl, rfl, fun _ => rfl, fun _ => ⟨[x0, x1, some (.od (SK.enc lD (mkd L W))), some (.od (SK.enc nD (mkd (K ++ E1) (hgt W)))), x4, some (.dat s.d), some (.dat t.d)], ?_, rfl⟩⟩
    have := hv t ht
    simp [eDGet, callD, callB, callO, args0, sSeq, sIf, sRet, sRetN, sRetO, sDrop, sAsg, sPar, sNx, sBk, sCt, sNever, eVar, eC, e1, e2, eIf, asB, eAnd, eOr, tAndM, tOrM, dNot, tNotB, aNil, aCons, mkT_ok, mkL_ok, gName, gsNil, gsCons, gTup, gLst, eChain, oNone, oSome, eSl, dIsi, dIsi2, tYesM, isOd, key_std, look_enc, this])
  have k2 : (e1 iSeq (eDIx 2 (eVar 5))) [x0, x1, some (.od (SK.enc lD (mkd L W))), some (.od (SK.enc nD (mkd (K ++ E1) (hgt W)))), x4, some (.dat s.d), x6] = some ((W s).map Std.d, [x0, x1, some (.od (SK.enc lD (mkd L W))), some (.od (SK.enc nD (mkd (K ++ E1) (hgt W)))), x4, some (.dat s.d), x6]) := by simp [callD, callB, callO, args0, sSeq, sIf, sRet, sRetN, sRetO, sDrop, sAsg, sPar, sNx, sBk, sCt, sNever, eVar, eC, e1, e2, eIf, asB, eAnd, eOr, tAndM, tOrM, dNot, tNotB, aNil, aCons, mkT_ok, mkL_ok, gName, gsNil, gsCons, gTup, gLst, eChain, oNone, oSome, eSl, dIsi, dIsi2, tYesM, eDIn, isOd, isOdl, eDIx, gDSet, sApp, isOl, key_std, look_enc, get_mkd, enc_len, mkd_len, eDTake, most, hsL, lD]
  have k3 : okW [x0, x1, some (.od (SK.enc lD (mkd L W))), some (.od (SK.enc nD (mkd (K ++ E1) (hgt W)))), x4, some (.dat s.d), x6] [6] = true := okW_one rfl h6
  rw [List.filter_eq_self.mpr (fun _ _ => rfl)] at k1
  have k4 : eLc (e1 iSeq (eDIx 2 (eVar 5))) (gName 6) tYesM (eDGet 3 (aCons (eVar 6) (aCons (eC (.int 0)) aNil))) [6] [x0, x1, some (.od (SK.enc lD (mkd L W))), some (.od (SK.enc nD (mkd (K ++ E1) (hgt W)))), x4, some (.dat s.d), x6] = some (.list ((W s).map fun t => nD (hgt W t)), [x0, x1, some (.od (SK.enc lD (mkd L W))), some (.od (SK.enc nD (mkd (K ++ E1) (hgt W)))), x4, some (.dat s.d), x6]) := by
    have := hw s
    have q : (W s).length ≤ 100000 := by omega
    unfold eLc
    rw [k2]
    simp only [k3, if_true, wipeR, List.set]
    rw [k1]
    simp [q, most, restR]
  have hms := end_ht hV i hs
  have hsV : s ∈ V := i.inV s (.inr hsL)
  have hval : (1 : Int) + (top (hgt W) (W s) : Nat) = (hgt W s : Nat) := by
    rw [hgt_of hms, mx_top (hne s hsV)]; omega
  have k5 := max_top (hgt W) (W s)
  have k6 : dAdd (.list [.int 0]) (.list ((W s).map fun t => nD (hgt W t))) = some (.list (.int 0 :: (W s).map fun t => nD (hgt W t))) := addL' (by have := hw s; simp; omega)
  have k7 := putE_new (f := nD) (g := hgt W) hsK
  have k8 : (K ++ E1).length < 100000 := by omega
  have k9 : dAdd (.int 1) (.int (top (hgt W) (W s) : Nat)) = some (nD (hgt W s)) := by unfold nD; rw [← hval]; simp
  unfold L__law_longest_0
  generalize (eLc (e1 iSeq (eDIx 2 (eVar 5))) (gName 6) tYesM (eDGet 3 (aCons (eVar 6) (aCons (eC (.int 0)) aNil))) [6]) = G at k4
  refine asgS_of (d := nD (hgt W s)) (ρ1 := [x0, x1, some (.od (SK.enc lD (mkd L W))), some (.od (SK.enc nD (mkd (K ++ E1) (hgt W)))), x4, some (.dat s.d), x6]) ?_ ?_
  · simp [VS.e1, VS.e2, eC, aCons, aNil, mkL_ok, k4, k6, k5, k9]
  · simp only [gDSet, isOd, List.getElem?_cons_succ, List.getElem?_cons_zero, eVar, key_std, enc_len, mkd_len, most, k8, if_true, k7, List.set]
theorem pop_row {L E1 : List Std} {s : Std} (hs : s ∈ L) (hE : s ∉ E1) (x0 x1 x2 x3 x4 x5 x6 : Option SV) :
    sDrop (eDPop 2 (eVar 5)) [x0, x1, some (.od (SK.enc lD (mkd (L.filter fun t => decide (t ∉ E1)) W))), x3, x4, some (.dat s.d), x6] = some (.nx, [x0, x1, some (.od (SK.enc lD (mkd (L.filter fun t => decide (t ∉ E1 ++ [s])) W))), x3, x4, some (.dat s.d), x6]) := by
  have k1 : s ∈ L.filter fun t => decide (t ∉ E1) := List.mem_filter.mpr ⟨hs, by simpa using hE⟩
  have k2 : dropD (SK.enc lD (mkd (L.filter fun t => decide (t ∉ E1)) W)) (SK.k s) = SK.enc lD (mkd (L.filter fun t => decide (t ∉ E1 ++ [s])) W) := by
    rw [drop_enc]
    have := filt_mkd (L.filter fun t => decide (t ∉ E1)) W (fun t => decide (t ≠ s))
    rw [this, List.filter_filter]
    congr 2
    apply List.filter_congr
    intro t _
    simp [Bool.and_comm]
  have k3 : get (mkd (L.filter fun t => decide (t ∉ E1)) W) s = some (W s) := by rw [get_mkd, if_pos k1]
  simp only [sDrop, eDPop, isOd, List.getElem?_cons_succ, List.getElem?_cons_zero, eVar, key_std, look_enc, k3, Option.map_some, k2, List.set]
end
end VS

namespace VS
open PySem PySem.Spec PyProof.Rows L2

section
variable {W : Std → List Std}
theorem peel (ok : Std → Prop) (hok : ∀ s, ok s → s.d.canLay0 = true) {V : List Std} (hVok : ∀ s ∈ V, ok s) (hWk : ∀ s ∈ V, ∀ t ∈ W s, ok t) (hV : ∀ s, W s ≠ [] → s ∈ V) (hne : ∀ s ∈ V, W s ≠ []) (nV : V.Nodup) (hl : V.length ≤ 80000) (hw : ∀ s, (W s).length ≤ 90000) {ed : D} (he : ed.canLay0 = true) :
    ∀ (n : Nat) (L K : List Std), PInv V W L K → L.length < n → ∀ (x1 x4 x5 x6 : Option SV), ly x1 → ly x5 → ly x6 → ∃ r ρ', Res V W r ∧
    whGo (e1 asB (eC (.bool true))) L__law_longest_1 n [some (.dat ed), x1, some (.od (SK.enc lD (mkd L W))), some (.od (SK.enc nD (mkd K (hgt W)))), x4, x5, x6] = some (.rt (optD r), ρ')
  | 0, L, K, i, h, x1, x4, x5, x6, _, _, _ => by omega
  | n + 1, L, K, i, h, x1, x4, x5, x6, h1, h5, h6 => by
    have hKL : (K ++ L).length ≤ V.length := sub_len i.nd fun s hs => i.inV s (by rcases List.mem_append.mp hs with q | q; exact .inl q; exact .inr q)
    rw [List.length_append] at hKL
    have hLV : ∀ s ∈ L, s ∈ V := fun s hs => i.inV s (.inr hs)
    have hKV : ∀ s ∈ K, s ∈ V := fun s hs => i.inV s (.inl hs)
    have a1 := ends_row (W := W) ok hok (L := L) (K := K) (M := hgt W) (fun s hs => hVok s (hLV s hs)) (fun s hs => hVok s (hKV s hs)) (fun s hs => hWk s (hLV s hs)) (by omega) hw he x1 x4 x5 x6 h1 h5 h6
    have layE : PyData.canLayAll0 ((endsOf W L).map Std.d) = true := lay_map fun t ht => hok t (hVok t (hLV t (List.mem_filter.mp ht).1))
    have a2 := eqNil layE
    by_cases hE : endsOf W L = []
    · refine ⟨_, [some (.dat ed), x1, some (.od (SK.enc lD (mkd L W))), (if L = [] then some (.dat (.dict (SK.enc nD (mkd K (hgt W))))) else some (.od (SK.enc nD (mkd K (hgt W))))), some (.dat (lD (endsOf W L))), x5, x6], pinv_end hV i hE, ?_⟩
      rw [hE] at a1
      have a2' : dEq (lD []) (.list []) = some (.bool true) := eqNil (ds := []) rfl
      have q3 : dVals (.dict (SK.enc nD (mkd K (hgt W)))) = some (.list (K.map fun s => nD (hgt W s))) := by
        have : (SK.enc nD (mkd K (hgt W))).map (·.2) = K.map fun s => nD (hgt W s) := by simp [KT.enc, mkd]
        have : K.length ≤ 100000 := by omega
        simp only [dVals, *, enc_len, mkd_len, most, if_true]
      have q4 : dAdd (.list [.int 0]) (.list (K.map fun s => nD (hgt W s))) = some (.list (.int 0 :: K.map fun s => nD (hgt W s))) := addL' (by simp; omega)
      have q5 := max_top (hgt W) K
      have q6 : (SK.enc lD (mkd L W)).isEmpty = decide (L = []) := by cases L <;> simp [KT.enc, mkd]
      have body : L__law_longest_1 [some (.dat ed), x1, some (.od (SK.enc lD (mkd L W))), some (.od (SK.enc nD (mkd K (hgt W)))), x4, x5, x6] = some (.rt (optD (if L = [] then some (top (hgt W) K) else none)), [some (.dat ed), x1, some (.od (SK.enc lD (mkd L W))), (if L = [] then some (.dat (.dict (SK.enc nD (mkd K (hgt W))))) else some (.od (SK.enc nD (mkd K (hgt W))))), some (.dat (lD (endsOf W L))), x5, x6]) := by
        unfold L__law_longest_1
        refine (sSeq_nx a1).trans ?_
        rw [hE]
        by_cases c : L = []
        · subst c
          have q7 : (SK.enc lD (mkd [] W)).isEmpty = true := rfl
          simp [callD, callB, callO, args0, sSeq, sIf, sRet, sRetN, sRetO, sDrop, sAsg, sPar, sNx, sBk, sCt, sNever, eVar, eC, e1, e2, eIf, asB, eAnd, eOr, tAndM, tOrM, dNot, tNotB, aNil, aCons, mkT_ok, mkL_ok, gName, gsNil, gsCons, gTup, gLst, eChain, oNone, oSome, eSl, dIsi, dIsi2, tYesM, a2', eDEmpty, isOd, q7, q3, q4, q5, eDTake, optD]
        · simp [callD, callB, callO, args0, sSeq, sIf, sRet, sRetN, sRetO, sDrop, sAsg, sPar, sNx, sBk, sCt, sNever, eVar, eC, e1, e2, eIf, asB, eAnd, eOr, tAndM, tOrM, dNot, tNotB, aNil, aCons, mkT_ok, mkL_ok, gName, gsNil, gsCons, gTup, gLst, eChain, oNone, oSome, eSl, dIsi, dIsi2, tYesM, a2', eDEmpty, isOd, q6, c, optD]
      rw [whGo]
      simp [VS.e1, eC, asB, body]
    · have subE : ∀ t ∈ endsOf W L, t ∈ L := fun t ht => (List.mem_filter.mp ht).1
      have nL : L.Nodup := (List.nodup_append.mp i.nd).2.1
      have nE : (endsOf W L).Nodup := nL.filter _
      have hEl : (endsOf W L).length ≤ L.length := List.length_filter_le _ _
      obtain ⟨ρ1, g1, y5, l5, e1'⟩ := for_pre (t := gName 5) (b := L__law_longest_0) Std.d (fun pre ρ => ∃ (y5 : Option SV), ly y5 ∧ ρ = [some (.dat ed), x1, some (.od (SK.enc lD (mkd L W))), some (.od (SK.enc nD (mkd (K ++ pre) (hgt W)))), some (.dat (lD (endsOf W L))), y5, x6]) (endsOf W L) (by
        rintro pre s suf ρ hp ⟨y5, l5, rfl⟩
        have hs : s ∈ endsOf W L := by rw [← hp]; simp
        have hpre : s ∉ pre := fun z => by
          rw [← hp] at nE
          exact (List.nodup_append.mp nE).2.2 s z s (.head _) rfl
        have hsub : ∀ t ∈ pre, t ∈ endsOf W L := fun t ht => by rw [← hp]; exact List.mem_append_left _ ht
        have hlen : (K ++ pre).length < 90000 := by
          have := congrArg List.length hp
          rw [List.length_append, List.length_cons] at this
          rw [List.length_append]; omega
        have k := many_row hV hne i hs hpre hsub hlen hw (some (.dat ed)) x1 none none (some (.dat (lD (endsOf W L)))) none x6 h6.nol
        refine ⟨_, _, rfl, k, some (.dat s.d), ly_dat (hok s (hVok s (hLV s (subE s hs)))), ?_⟩
        rw [List.append_assoc]) (endsOf W L) [] [some (.dat ed), x1, some (.od (SK.enc lD (mkd L W))), some (.od (SK.enc nD (mkd K (hgt W)))), some (.dat (lD (endsOf W L))), x5, x6] rfl ⟨x5, h5, by rw [List.append_nil]⟩
      subst e1'
      obtain ⟨ρ2, g2, z5, l5', e2'⟩ := for_pre (t := gName 5) (b := sDrop (eDPop 2 (eVar 5))) Std.d (fun pre ρ => ∃ (y5 : Option SV), ly y5 ∧ ρ = [some (.dat ed), x1, some (.od (SK.enc lD (mkd (L.filter fun t => decide (t ∉ pre)) W))), some (.od (SK.enc nD (mkd (K ++ endsOf W L) (hgt W)))), some (.dat (lD (endsOf W L))), y5, x6]) (endsOf W L) (by
        rintro pre s suf ρ hp ⟨y5, l5, rfl⟩
        have hs : s ∈ endsOf W L := by rw [← hp]; simp
        have hpre : s ∉ pre := fun z => by
          rw [← hp] at nE
          exact (List.nodup_append.mp nE).2.2 s z s (.head _) rfl
        have k := pop_row (W := W) (subE s hs) hpre (some (.dat ed)) x1 none (some (.od (SK.enc nD (mkd (K ++ endsOf W L) (hgt W))))) (some (.dat (lD (endsOf W L)))) none x6
        exact ⟨_, _, rfl, k, some (.dat s.d), ly_dat (hok s (hVok s (hLV s (subE s hs)))), rfl⟩) (endsOf W L) [] [some (.dat ed), x1, some (.od (SK.enc lD (mkd L W))), some (.od (SK.enc nD (mkd (K ++ endsOf W L) (hgt W)))), some (.dat (lD (endsOf W L))), y5, x6] rfl ⟨y5, l5, by rw [List.filter_eq_self.mpr (by simp)]⟩
      subst e2'
      obtain ⟨r, ρ', hr, g3⟩ := peel ok hok hVok hWk hV hne nV hl hw he n _ _ (pinv_step hV i) (by have := pinv_less hE; omega) x1 (some (.dat (lD (endsOf W L)))) z5 x6 h1 l5' h6
      refine ⟨r, ρ', hr, ?_⟩
      have a3 : ((endsOf W L).map Std.d).isEmpty = false := by
        cases h : endsOf W L with
        | nil => exact absurd h hE
        | cons a l => rfl
      rw [a3] at a2
      have a2' : dEq (lD (endsOf W L)) (.list []) = some (.bool false) := a2
      have body : L__law_longest_1 [some (.dat ed), x1, some (.od (SK.enc lD (mkd L W))), some (.od (SK.enc nD (mkd K (hgt W)))), x4, x5, x6] = some (.nx, [some (.dat ed), x1, some (.od (SK.enc lD (mkd (L.filter fun t => decide (t ∉ endsOf W L)) W))), some (.od (SK.enc nD (mkd (K ++ endsOf W L) (hgt W)))), some (.dat (lD (endsOf W L))), z5, x6]) := by
        unfold L__law_longest_1
        refine (sSeq_nx a1).trans ?_
        refine (sSeq_nx (ρ1 := [some (.dat ed), x1, some (.od (SK.enc lD (mkd L W))), some (.od (SK.enc nD (mkd K (hgt W)))), some (.dat (lD (endsOf W L))), x5, x6]) (by simp [callD, callB, callO, args0, sSeq, sIf, sRet, sRetN, sRetO, sDrop, sAsg, sPar, sNx, sBk, sCt, sNever, eVar, eC, e1, e2, eIf, asB, eAnd, eOr, tAndM, tOrM, dNot, tNotB, aNil, aCons, mkT_ok, mkL_ok, gName, gsNil, gsCons, gTup, gLst, eChain, oNone, oSome, eSl, dIsi, dIsi2, tYesM, a2'])).trans ?_
        refine (sSeq_nx (forS_of (ds := (endsOf W L).map Std.d) (by simp [callD, callB, callO, args0, sSeq, sIf, sRet, sRetN, sRetO, sDrop, sAsg, sPar, sNx, sBk, sCt, sNever, eVar, eC, e1, e2, eIf, asB, eAnd, eOr, tAndM, tOrM, dNot, tNotB, aNil, aCons, mkT_ok, mkL_ok, gName, gsNil, gsCons, gTup, gLst, eChain, oNone, oSome, eSl, dIsi, dIsi2, tYesM, lD]) g1)).trans ?_
        exact forS_of (ds := (endsOf W L).map Std.d) (by simp [callD, callB, callO, args0, sSeq, sIf, sRet, sRetN, sRetO, sDrop, sAsg, sPar, sNx, sBk, sCt, sNever, eVar, eC, e1, e2, eIf, asB, eAnd, eOr, tAndM, tOrM, dNot, tNotB, aNil, aCons, mkT_ok, mkL_ok, gName, gsNil, gsCons, gTup, gLst, eChain, oNone, oSome, eSl, dIsi, dIsi2, tYesM, lD]) g2
      rw [whGo]
      simp only [VS.e1, eC, asB, body]
      exact g3
end
/-! ### the start: lists of edges -/
section
variable {β : Type} (src tgt : β → Std) (eD : β → D)
def Wof (es : List β) (s : Std) : List Std := (es.filter fun b => decide (src b = s)).map tgt
def dedupS (acc xs : List Std) : List Std := xs.foldl (fun a x => if x ∈ a then a else a ++ [x]) acc
theorem dedupS_spec : ∀ (xs acc : List Std), acc.Nodup → (dedupS acc xs).Nodup ∧ ∀ s, s ∈ dedupS acc xs ↔ s ∈ acc ∨ s ∈ xs
  | [], acc, h => ⟨h, fun s => by simp [dedupS]⟩
  | x :: xs, acc, h => by
    by_cases q : x ∈ acc
    · obtain ⟨h1, h2⟩ := dedupS_spec xs acc h
      have e : dedupS acc (x :: xs) = dedupS acc xs := by simp [dedupS, q]
      rw [e]
      refine ⟨h1, fun s => ?_⟩
      rw [h2]
      constructor
      · rintro (a | a)
        · exact .inl a
        · exact .inr (.tail _ a)
      · rintro (a | a)
        · exact .inl a
        · rcases List.mem_cons.mp a with rfl | a
          · exact .inl q
          · exact .inr a
    · obtain ⟨h1, h2⟩ := dedupS_spec xs (acc ++ [x]) (by
        rw [List.nodup_append]
        exact ⟨h, by simp, fun a ha b hb => by rw [List.mem_singleton.mp hb]; rintro rfl; exact q ha⟩)
      have e : dedupS acc (x :: xs) = dedupS (acc ++ [x]) xs := by simp [dedupS, q]
      rw [e]
      refine ⟨h1, fun s => ?_⟩
      rw [h2]; simp [or_assoc]
theorem dedup_enc : ∀ (xs acc : List Std), dedupK (SK.enc (List.map Std.d) (mkd acc fun _ => [])) (xs.map Std.d) = SK.enc (List.map Std.d) (mkd (dedupS acc xs) fun _ => [])
  | [], acc => rfl
  | x :: xs, acc => by
    have ih := dedup_enc xs
    have e : dedup1 (SK.enc (List.map Std.d) (mkd acc fun _ => [])) x.d = SK.enc (List.map Std.d) (mkd (if x ∈ acc then acc else acc ++ [x]) fun _ => []) := by
      unfold dedup1
      simp only [key_std, look_enc, get_mkd]
      by_cases q : x ∈ acc
      · simp [q]
      · simp [q, KT.enc, mkd, SK]
    unfold dedupK dedupS at ih ⊢
    rw [List.map_cons, List.foldl_cons, List.foldl_cons, e, ih]
theorem Wof_snoc (es : List β) (b : β) : updf (Wof src tgt es) (src b) (Wof src tgt es (src b) ++ [tgt b]) = Wof src tgt (es ++ [b]) := by
  funext s
  unfold updf Wof
  by_cases q : s = src b
  · subst q; simp
  · have : ¬ src b = s := fun z => q z.symm
    simp [q, this]
theorem law_longest_ok (ok : Std → Prop) (hok : ∀ s, ok s → s.d.canLay0 = true) (es : List β) (hes : ∀ b ∈ es, ok (src b) ∧ ok (tgt b)) (h0 : ∀ b ∈ es, dIx (eD b) (.int 0) = some (src b).d) (h2 : ∀ b ∈ es, dIx (eD b) (.int 2) = some (tgt b).d)
    (hlay : ∀ b ∈ es, (eD b).canLay0 = true) (hl : es.length ≤ 90000) (hV : (dedupS [] (es.map src)).length ≤ 80000) : ∃ r, Res (dedupS [] (es.map src)) (Wof src tgt es) r ∧ F__law_longest [.list (es.map eD)] = some (optD r) := by
  generalize hVV : dedupS [] (es.map src) = V at hV
  have hspec := dedupS_spec (es.map src) [] List.nodup_nil
  rw [hVV] at hspec
  obtain ⟨nV, mV⟩ := hspec
  have mV' : ∀ b ∈ es, src b ∈ V := fun b hb => (mV _).mpr (.inr (List.mem_map_of_mem hb))
  have he : (PyData.list (es.map eD)).canLay0 = true := by
    have : ∀ l : List β, (∀ b ∈ l, (eD b).canLay0 = true) → PyData.canLayAll0 (l.map eD) = true := by
      intro l
      induction l with
      | nil => intro _; rfl
      | cons b l ih => intro h; simp [PyData.canLayAll0, h b (.head _), ih fun c hc => h c (.tail _ hc)]
    simp [PyData.canLay0, this es hlay]
  -- the keys
  have k1 := lc_on (t := gName 1) (c := tYesM) (e := e1 isKey (e2 dIx (eVar 1) (eC (.int 0)))) (vs := [1]) (ρ := [some (.dat (.list (es.map eD))), none, none, none, none, none, none]) eD (fun _ => true) (fun b => (src b).d) (xs := es) (by
    intro b hb
    refine ⟨_, [some (.dat (.list (es.map eD))), some (.dat (eD b)), none, none, none, none, none], rfl, rfl, fun _ => rfl, fun _ => ⟨[some (.dat (.list (es.map eD))), some (.dat (eD b)), none, none, none, none, none], ?_, rfl⟩⟩
    simp [callD, callB, callO, args0, sSeq, sIf, sRet, sRetN, sRetO, sDrop, sAsg, sPar, sNx, sBk, sCt, sNever, eVar, eC, e1, e2, eIf, asB, eAnd, eOr, tAndM, tOrM, dNot, tNotB, aNil, aCons, mkT_ok, mkL_ok, gName, gsNil, gsCons, gTup, gLst, eChain, oNone, oSome, eSl, dIsi, dIsi2, tYesM, h0 b hb, isKey, key_std])
  rw [List.filter_eq_self.mpr (fun _ _ => rfl)] at k1
  have k2 := dedup_enc (es.map src) []
  rw [hVV, List.map_map] at k2
  have k2' : dedupK [] (es.map fun b => (src b).d) = SK.enc (List.map Std.d) (mkd V fun _ => []) := k2
  have hlm : (es.map fun b => (src b).d).length ≤ 100000 := by simp; omega
  -- all edges
  have hW0 : Wof src tgt [] = fun _ => [] := by funext s; rfl
  obtain ⟨ρ1, g1, y1, l1, e1'⟩ := for_pre (t := gName 1) (b := sDApp 2 (p2 dIx (pVar 1) (pC (.int 0))) (p2 dIx (pVar 1) (pC (.int 2)))) eD (fun pre ρ => ∃ y1 : Option SV, ly y1 ∧ ρ = [some (.dat (.list (es.map eD))), y1, some (.odl (SK.enc (List.map Std.d) (mkd V (Wof src tgt pre)))), some (.od []), none, none, none]) es (by
    rintro pre b suf ρ hp ⟨y1, _, rfl⟩
    have hb : b ∈ es := by rw [← hp]; simp
    have a1 := app_enc SK Std.d (mkd V (Wof src tgt pre)) (src b) (tgt b)
    rw [app_mkd, Wof_snoc] at a1
    have a2 : (Wof src tgt pre (src b)).length < 100000 := by
      have := congrArg List.length hp
      rw [List.length_append, List.length_cons] at this
      unfold Wof
      rw [List.length_map]
      have := List.length_filter_le (fun c => decide (src c = src b)) pre
      omega
    refine ⟨_, [some (.dat (.list (es.map eD))), some (.dat (eD b)), some (.odl (SK.enc (List.map Std.d) (mkd V (Wof src tgt (pre ++ [b]))))), some (.od []), none, none, none], rfl, ?_, some (.dat (eD b)), ly_dat (hlay b hb), rfl⟩
    simp [sDApp, isOdl, p2, pVar, pC, h0 b hb, h2 b hb, key_std, look_enc, get_mkd, mV' b hb, most, a2, a1]) es [] [some (.dat (.list (es.map eD))), none, some (.odl (SK.enc (List.map Std.d) (mkd V fun _ => []))), some (.od []), none, none, none] rfl ⟨none, ly_none, by rw [hW0]⟩
  subst e1'
  have hWl : ∀ s, (Wof src tgt es s).length ≤ 90000 := fun s => by
    unfold Wof
    rw [List.length_map]
    exact Nat.le_trans (List.length_filter_le _ _) hl
  have hmem : ∀ s t, t ∈ Wof src tgt es s → ∃ b ∈ es, src b = s ∧ tgt b = t := fun s t ht => by
    obtain ⟨b, hb, rfl⟩ := List.mem_map.mp ht
    obtain ⟨h1, h2⟩ := List.mem_filter.mp hb
    exact ⟨b, h1, by simpa using h2, rfl⟩
  have hVW : ∀ s, Wof src tgt es s ≠ [] → s ∈ V := fun s hs => by
    cases hw : Wof src tgt es s with
    | nil => exact absurd hw hs
    | cons t l =>
      obtain ⟨b, hb, rfl, _⟩ := hmem s t (by rw [hw]; exact .head _)
      exact mV' b hb
  have hne : ∀ s ∈ V, Wof src tgt es s ≠ [] := fun s hs z => by
    rcases (mV s).mp hs with q | q
    · cases q
    · obtain ⟨b, hb, rfl⟩ := List.mem_map.mp q
      have : tgt b ∈ Wof src tgt es (src b) := List.mem_map.mpr ⟨b, List.mem_filter.mpr ⟨hb, by simp⟩, rfl⟩
      rw [z] at this; cases this
  obtain ⟨r, ρ', hr, g2⟩ := peel (W := Wof src tgt es) ok hok (V := V) (fun s hs => by
    rcases (mV s).mp hs with q | q
    · cases q
    · obtain ⟨b, hb, rfl⟩ := List.mem_map.mp q
      exact (hes b hb).1) (fun s hs t ht => by
    obtain ⟨b, hb, rfl, rfl⟩ := hmem s t ht
    exact (hes b hb).2) hVW hne nV hV hWl he fuel V [] ⟨by simpa using nV, fun s hs => .inr hs, fun s hs => by rcases hs with q | q; cases q; exact q, by simp⟩ (by unfold fuel; omega) y1 none none none l1 ly_none ly_none
  have g2' : whGo (e1 asB (eC (.bool true))) L__law_longest_1 fuel [some (.dat (.list (es.map eD))), y1, some (.od (SK.enc lD (mkd V (Wof src tgt es)))), some (.od []), none, none, none] = some (.rt (optD r), ρ') := g2
  refine ⟨r, hr, ?_⟩
  have main : B__law_longest [some (.dat (.list (es.map eD))), none, none, none, none, none, none] = some (.rt (optD r), ρ') := by
    unfold B__law_longest
    refine (sSeq_nx (ρ1 := [some (.dat (.list (es.map eD))), none, some (.odl (SK.enc (List.map Std.d) (mkd V fun _ => []))), some (.od []), none, none, none]) ?_).trans ?_
    · have k3 : (e1 iSeq (eVar 0)) [some (.dat (.list (es.map eD))), none, none, none, none, none, none] = some (es.map eD, [some (.dat (.list (es.map eD))), none, none, none, none, none, none]) := by simp [callD, callB, callO, args0, sSeq, sIf, sRet, sRetN, sRetO, sDrop, sAsg, sPar, sNx, sBk, sCt, sNever, eVar, eC, e1, e2, eIf, asB, eAnd, eOr, tAndM, tOrM, dNot, tNotB, aNil, aCons, mkT_ok, mkL_ok, gName, gsNil, gsCons, gTup, gLst, eChain, oNone, oSome, eSl, dIsi, dIsi2, tYesM]
      have k4 : okW [some (.dat (.list (es.map eD))), none, none, none, none, none, none] [1] = true := rfl
      have k5 : (es.map fun b => (src b).d).length ≤ most := hlm
      simp only [sPutF, fsCons, fsNil, fDictOf, fD0, k3, k4, if_true, wipeR, List.set, k1, k5, k2', restR, setR, List.length_cons, List.length_nil]
      rfl
    refine (sSeq_nx (forS_of (ds := es.map eD) (by simp [callD, callB, callO, args0, sSeq, sIf, sRet, sRetN, sRetO, sDrop, sAsg, sPar, sNx, sBk, sCt, sNever, eVar, eC, e1, e2, eIf, asB, eAnd, eOr, tAndM, tOrM, dNot, tNotB, aNil, aCons, mkT_ok, mkL_ok, gName, gsNil, gsCons, gTup, gLst, eChain, oNone, oSome, eSl, dIsi, dIsi2, tYesM]) g1)).trans ?_
    simp only [sThaw, thaw, isOdl, List.getElem?_cons_succ, List.getElem?_cons_zero, odOf_enc, List.set, sWhile]
    exact g2'
  simp [F__law_longest, callD, args0, main]
end
end VS

namespace VS
open PySem PySem.Spec PyProof.Rows L2

/-! ### clashes -/
def clash (s : Std) (c : Bool × Bool) : Bool := !(decide ((voices s c).1 = 0) || decide ((voices s c).2 = 0))
theorem nin0 (v : Int × Int) : dIn true (.int 0) (vsD v) = some (.bool (!(decide (v.1 = 0) || decide (v.2 = 0)))) := by
  refine orE_some ?_
  simp [fIn, flatD, vsD, PyData.eqv]
  rfl
theorem is_clash_eq (s : Std) (c : Bool × Bool) : F_is_clash [s.d, prD c] = some (.bool (clash s c)) := by
  have k1 := signs_of_eq s c
  have k2 := nin0 (voices s c)
  simp only [F_is_clash, callD, args0, B_is_clash, List.length_cons, List.length_nil, if_true]
  simp [callD, callB, callO, args0, sSeq, sIf, sRet, sRetN, sRetO, sDrop, sAsg, sPar, sNx, sBk, sCt, sNever, eVar, eC, e1, e2, eIf, asB, eAnd, eOr, tAndM, tOrM, dNot, tNotB, aNil, aCons, mkT_ok, mkL_ok, gName, gsNil, gsCons, gTup, gLst, eChain, oNone, oSome, eSl, dIsi, dIsi2, tYesM, k1, k2, clash]
/-! ### all edges -/
abbrev stds (p : Pln) : List Std := (ways p).map (·.1)
def edgesOf (p : Pln) : List (Std × (Bool × Bool)) := (stds p).flatMap fun s => (chs p s).map fun c => (s, c)
def edD (p : Pln) (e : Std × (Bool × Bool)) : D := .tuple [e.1.d, prD e.2, (tick p e.1 e.2).d, vsD (voices e.1 e.2), lineD (dones p e.1 e.2)]
theorem chs_nodup (p : Pln) (s : Std) : (chs p s).Nodup := by
  unfold chs
  rcases opts_cases p.a s.p with h | h | h | h <;> rcases opts_cases p.b s.q with h2 | h2 | h2 | h2 <;> rw [h, h2] <;> decide
theorem flat_nodup (p : Pln) : ∀ {V : List Std}, V.Nodup → (V.flatMap fun s => (chs p s).map fun c => (s, c)).Nodup
  | [], _ => List.nodup_nil
  | s :: V, h => by
    rw [List.nodup_cons] at h
    rw [List.flatMap_cons, List.nodup_append]
    refine ⟨nodup_map (fun a b e => by cases e; rfl) (chs_nodup p s), flat_nodup p h.2, fun a ha b hb => ?_⟩
    obtain ⟨c, _, rfl⟩ := List.mem_map.mp ha
    obtain ⟨t, ht, hb⟩ := List.mem_flatMap.mp hb
    obtain ⟨d, _, rfl⟩ := List.mem_map.mp hb
    intro e
    cases e
    exact h.1 ht
section
variable {p : Pln} (k : p.Sm)
include k
theorem stds_ok {s : Std} (h : s ∈ stds p) : s.Ok p := by
  obtain ⟨e, he, rfl⟩ := List.mem_map.mp h
  exact (ways_inv k).ok e he
theorem stds_nd : (stds p).Nodup := (ways_inv k).nd
theorem stds_le : (stds p).length ≤ 30000 := by have := (ways_inv k).len k; simpa using this
theorem edges_mem {e : Std × (Bool × Bool)} (h : e ∈ edgesOf p) : e.1 ∈ stds p ∧ e.2 ∈ chs p e.1 := by
  obtain ⟨s, hs, h⟩ := List.mem_flatMap.mp h
  obtain ⟨c, hc, rfl⟩ := List.mem_map.mp h
  exact ⟨hs, hc⟩
theorem edges_le : (edgesOf p).length ≤ 90000 := edges_small k (flat_nodup p (stds_nd k)) fun e he => ⟨stds_ok k (edges_mem k he).1, (edges_mem k he).2⟩
theorem tick_in {s : Std} (hs : s ∈ stds p) {c : Bool × Bool} (hc : c ∈ chs p s) : tick p s c ∈ stds p := ways_closed k hs hc
theorem law_edges_eq : F__law_edges [p.d] = some (.list ((edgesOf p).map (edD p))) := by
  have ky : iKy (.dict (wyD (ways p))) = some ((stds p).map Std.d) := by simp only [iKy, enc_keys]; rfl
  have hw := law_ways_eq k
  have hle := edges_le k
  obtain ⟨ρ1, g1, y2, y3, e1'⟩ := for_pre (t := gName 2) (b := L__law_edges_0) Std.d (fun pre ρ => ∃ y2 y3 : Option SV, ρ = [some (.dat p.d), some (.ol ((pre.flatMap fun s => (chs p s).map fun c => (s, c)).map (edD p))), y2, y3]) (stds p) (by
    rintro pre s suf ρ hp ⟨y2, y3, rfl⟩
    have hs : s ∈ stds p := by rw [← hp]; simp
    have o := stds_ok k hs
    have hlen : (pre.flatMap fun s => (chs p s).map fun c => (s, c)).length + (chs p s).length ≤ 90000 := by
      unfold edgesOf at hle
      rw [← hp, List.flatMap_append, List.flatMap_cons] at hle
      simp only [List.length_append, List.length_map] at hle; omega
    obtain ⟨ρ2, g2, z3, e2'⟩ := for_pre (t := gName 3) (b := sApp 1 (e2 dAdd (e1 mkT (aCons (eVar 2) (aCons (eVar 3) aNil))) (e1 F__law_tick (aCons (eVar 0) (aCons (eVar 2) (aCons (eVar 3) aNil)))))) prD (fun cs ρ => ∃ z3 : Option SV, ρ = [some (.dat p.d), some (.ol ((pre.flatMap fun s => (chs p s).map fun c => (s, c)).map (edD p) ++ (cs.map fun c => (s, c)).map (edD p))), some (.dat s.d), z3]) (chs p s) (by
      rintro cs c cf ρ hc ⟨z3, rfl⟩
      have a1 := law_tick_eq k.toSh o c
      have a2 : dAdd (.tuple [s.d, prD c]) (.tuple [(tick p s c).d, vsD (voices s c), lineD (dones p s c)]) = some (edD p (s, c)) := addT (Nat.le_of_ble_eq_true rfl)
      have a3 : (pre.flatMap fun s => (chs p s).map fun c => (s, c)).length + cs.length < 100000 := by
        have := congrArg List.length hc
        rw [List.length_append, List.length_cons] at this; omega
      refine ⟨[some (.dat p.d), some (.ol ((pre.flatMap fun s => (chs p s).map fun c => (s, c)).map (edD p) ++ (cs.map fun c => (s, c)).map (edD p))), some (.dat s.d), some (.dat (prD c))], _, rfl, ?_, some (.dat (prD c)), rfl⟩
      simp only [sApp, isOl, List.getElem?_cons_succ, List.getElem?_cons_zero, VS.e1, VS.e2, aCons, aNil, eVar, mkT_ok, a1, a2, List.length_append, List.length_map, most, List.length_cons, List.length_nil, Nat.reduceAdd, Nat.reduceLeDiff, a3, if_true, List.set, List.map_append, List.map_cons, List.map_nil, List.append_assoc]) (chs p s) [] [some (.dat p.d), some (.ol ((pre.flatMap fun s => (chs p s).map fun c => (s, c)).map (edD p))), some (.dat s.d), y3] rfl ⟨y3, by simp⟩
    subst e2'
    have a4 := law_choices_eq p s
    refine ⟨_, _, rfl, forS_of (ds := (chs p s).map prD) (ρ1 := [some (.dat p.d), some (.ol ((pre.flatMap fun s => (chs p s).map fun c => (s, c)).map (edD p))), some (.dat s.d), y3]) ?_ g2, some (.dat s.d), z3, ?_⟩
    · simp [callD, callB, callO, args0, sSeq, sIf, sRet, sRetN, sRetO, sDrop, sAsg, sPar, sNx, sBk, sCt, sNever, eVar, eC, e1, e2, eIf, asB, eAnd, eOr, tAndM, tOrM, dNot, tNotB, aNil, aCons, mkT_ok, mkL_ok, gName, gsNil, gsCons, gTup, gLst, eChain, oNone, oSome, eSl, dIsi, dIsi2, tYesM, a4, chD]
    · simp [List.flatMap_append]) (stds p) [] [some (.dat p.d), some (.ol []), none, none] rfl ⟨none, none, rfl⟩
  subst e1'
  have main : B__law_edges [some (.dat p.d), none, none, none] = some (.rt (.list ((edgesOf p).map (edD p))), [some (.dat p.d), some (.dat (.list ((edgesOf p).map (edD p)))), y2, y3]) := by
    unfold B__law_edges
    refine (sSeq_nx (ρ1 := [some (.dat p.d), some (.ol []), none, none]) (by simp [sOwn, aNil])).trans ?_
    refine (sSeq_nx (forS_of (ds := (stds p).map Std.d) (by simp only [VS.e1, eVar, aCons, aNil, List.getElem?_cons_zero, hw, ky]) g1)).trans ?_
    simp [sRet, eTake, isOl, edgesOf]
  simp [F__law_edges, callD, args0, main]
/-! ### steps -/
def Wst (p : Pln) (good : Std → (Bool × Bool) → Bool) (s : Std) : List Std := if s ∈ stds p then ((chs p s).filter (good s)).map (tick p s) else []
theorem steps_by_eq {good : Std → (Bool × Bool) → Bool} {n : Nat} (hn : n ≤ 6) {G : List D → Option D} (hG : ∀ s c, s ∈ stds p → c ∈ chs p s → G [s.d, prD c] = some (.bool (good s c))) : F_steps_by [.dat p.d, .fn n G] = some (nx (stds p) (Wst p good)) := by
  have ky : iKy (.dict (wyD (ways p))) = some ((stds p).map Std.d) := by simp only [iKy, enc_keys]; rfl
  have hw := ways_by_eq k
  have hle := stds_le k
  have nd := stds_nd k
  obtain ⟨ρ1, g1, y3, y4, hn4, e1'⟩ := for_pre (t := gName 3) (b := L_steps_by_0) Std.d (fun pre ρ => ∃ y3 y4 : Option SV, nol y4 ∧ ρ = [some (.dat p.d), some (.fn n G), some (.od (SK.enc lD (mkd pre (Wst p good)))), y3, y4]) (stds p) (by
    rintro pre s suf ρ hp ⟨y3, y4, hn4, rfl⟩
    have hs : s ∈ stds p := by rw [← hp]; simp
    have o := stds_ok k hs
    have hpre : s ∉ pre := fun z => by
      rw [← hp] at nd
      exact (List.nodup_append.mp nd).2.2 s z s (.head _) rfl
    have hlen : pre.length < 100000 := by
      have := congrArg List.length hp
      rw [List.length_append, List.length_cons] at this; omega
    have k1 := lc_on (t := gName 4) (c := e1 asB (eCallV 6 1 (aCons (eVar 3) (aCons (eVar 4) aNil)))) (e := e1 F_behind (aCons (eVar 0) (aCons (eVar 3) (aCons (eVar 4) aNil)))) (vs := [4]) (ρ := [some (.dat p.d), some (.fn n G), some (.od (SK.enc lD (mkd pre (Wst p good)))), some (.dat s.d), none]) prD (good s) (fun c => (tick p s c).d) (xs := chs p s) (by
      intro c hc
      have b1 := hG s c hs hc
      have b2 := behind_eq k.toSh o c
      refine ⟨_, [some (.dat p.d), some (.fn n G), some (.od (SK.enc lD (mkd pre (Wst p good)))), some (.dat s.d), some (.dat (prD c))], rfl, ?_, fun _ => rfl, fun _ => ⟨[some (.dat p.d), some (.fn n G), some (.od (SK.enc lD (mkd pre (Wst p good)))), some (.dat s.d), some (.dat (prD c))], ?_, rfl⟩⟩
      · simp [VS.e1, eCallV, hn, aCons, aNil, eVar, b1, asB]
      · simp [VS.e1, aCons, aNil, eVar, b2])
    have k2 := choices_of_eq o
    have k3 : okW [some (.dat p.d), some (.fn n G), some (.od (SK.enc lD (mkd pre (Wst p good)))), some (.dat s.d), y4] [4] = true := okW_one rfl hn4
    have k4 : ((chs p s).filter (good s)).length ≤ 100000 := Nat.le_trans (List.length_filter_le _ _) (by have := chs_len p s; omega)
    have k5 : lD (Wst p good s) = .list (((chs p s).filter (good s)).map fun c => (tick p s c).d) := by
      unfold lD Wst
      rw [if_pos hs, List.map_map]; rfl
    have k6 := putE_new (f := lD) (g := Wst p good) hpre
    have k7 : (e1 iSeq (e1 F_choices_of (aCons (eVar 0) (aCons (eVar 3) aNil)))) [some (.dat p.d), some (.fn n G), some (.od (SK.enc lD (mkd pre (Wst p good)))), some (.dat s.d), y4] = some ((chs p s).map prD, [some (.dat p.d), some (.fn n G), some (.od (SK.enc lD (mkd pre (Wst p good)))), some (.dat s.d), y4]) := by simp [callD, callB, callO, args0, sSeq, sIf, sRet, sRetN, sRetO, sDrop, sAsg, sPar, sNx, sBk, sCt, sNever, eVar, eC, e1, e2, eIf, asB, eAnd, eOr, tAndM, tOrM, dNot, tNotB, aNil, aCons, mkT_ok, mkL_ok, gName, gsNil, gsCons, gTup, gLst, eChain, oNone, oSome, eSl, dIsi, dIsi2, tYesM, k2, chD]
    refine ⟨_, _, rfl, asgS_of (d := lD (Wst p good s)) (ρ1 := [some (.dat p.d), some (.fn n G), some (.od (SK.enc lD (mkd pre (Wst p good)))), some (.dat s.d), y4]) (ρ2 := [some (.dat p.d), some (.fn n G), some (.od (SK.enc lD (mkd (pre ++ [s]) (Wst p good)))), some (.dat s.d), y4]) ?_ ?_, some (.dat s.d), y4, hn4, rfl⟩
    · simp only [List.set]
      unfold eLc
      rw [k7]
      simp only [k3, if_true, wipeR, List.set]
      rw [k1]
      have k4' : (((chs p s).filter (good s)).map fun c => (tick p s c).d).length ≤ most := by rw [List.length_map]; exact k4
      simp only [k4', if_true, restR, k5]
      rfl
    · simp [gDSet, isOd, eVar, key_std, enc_len, mkd_len, most, hlen, k6]) (stds p) [] [some (.dat p.d), some (.fn n G), some (.od []), none, none] rfl ⟨none, none, nol_none, rfl⟩
  subst e1'
  have main : B_steps_by [some (.dat p.d), some (.fn n G), none, none, none] = some (.rt (nx (stds p) (Wst p good)), [some (.dat p.d), some (.fn n G), some (.dat (nx (stds p) (Wst p good))), y3, y4]) := by
    unfold B_steps_by
    refine (sSeq_nx (ρ1 := [some (.dat p.d), some (.fn n G), some (.od []), none, none]) (by simp [sPutF, fsCons, fsNil, fD0, setR])).trans ?_
    refine (sSeq_nx (forS_of (ds := (stds p).map Std.d) (by simp only [VS.e1, eVar, aCons, aNil, List.getElem?_cons_zero, hw, ky]) g1)).trans ?_
    simp [sRet, eDTake, isOd]
  simp [F_steps_by, callS, argsS, main]
theorem std_lay' {s : Std} (o : s.Ok p) : s.d.canLay0 = true := std_lay s k.toSh o
omit k in
theorem sum_le (good : Std → (Bool × Bool) → Bool) : ∀ V : List Std, (∀ s ∈ V, s ∈ stds p) → (V.map fun s => (Wst p good s).length).sum ≤ (V.flatMap fun s => (chs p s).map fun c => (s, c)).length
  | [], _ => by simp
  | s :: V, h => by
    have ih := sum_le good V fun t ht => h t (.tail _ ht)
    rw [List.map_cons, List.sum_cons, List.flatMap_cons, List.length_append, List.length_map]
    have : (Wst p good s).length ≤ (chs p s).length := by
      unfold Wst
      rw [if_pos (h s (.head _)), List.length_map]
      exact List.length_filter_le _ _
    omega
theorem long_steps {good : Std → (Bool × Bool) → Bool} : ∃ r, Res (stds p) (Wst p good) r ∧ F_longest_way [nx (stds p) (Wst p good)] = some (optD r) :=
  longest_way_ok (fun s hs => std_lay' k (stds_ok k hs)) (stds_nd k) (stds_le k) (fun s hs => by unfold Wst; rw [if_neg hs]) (fun s => by
    unfold Wst
    split
    · rw [List.length_map]
      have := List.length_filter_le (good s) (chs p s)
      have := chs_len p s
      omega
    · simp) (Nat.le_trans (sum_le good (stds p) fun s h => h) (edges_le k))
omit k in
theorem filt_flat (good : Std → (Bool × Bool) → Bool) (s0 : Std) : ∀ {V : List Std}, V.Nodup → ((V.flatMap fun s => (chs p s).map fun c => (s, c)).filter fun e => decide (e.1 = s0) && good e.1 e.2) = if s0 ∈ V then ((chs p s0).filter (good s0)).map fun c => (s0, c) else []
  | [], _ => rfl
  | s :: V, h => by
    rw [List.nodup_cons] at h
    rw [List.flatMap_cons, List.filter_append, filt_flat good s0 h.2, List.filter_map]
    by_cases q : s = s0
    · subst q
      rw [if_neg h.1, if_pos (.head _), List.append_nil]
      congr 1
      apply List.filter_congr
      intro c _
      simp
    · have : (chs p s).filter ((fun e => decide (e.1 = s0) && good e.1 e.2) ∘ fun c => (s, c)) = [] := by
        rw [List.filter_eq_nil_iff]
        intro c _
        simp [q]
      rw [this, List.map_nil, List.nil_append]
      by_cases z : s0 ∈ V
      · rw [if_pos z, if_pos (.tail _ z)]
      · rw [if_neg z, if_neg (by simp [z, Ne.symm q])]
theorem Wof_eq (good : Std → (Bool × Bool) → Bool) : Wof (·.1) (fun e => tick p e.1 e.2) ((edgesOf p).filter fun e => good e.1 e.2) = Wst p good := by
  funext s
  unfold Wof Wst
  rw [List.filter_filter]
  unfold edgesOf
  rw [filt_flat good s (stds_nd k)]
  by_cases q : s ∈ stds p
  · rw [if_pos q, if_pos q, List.map_map]; rfl
  · rw [if_neg q, if_neg q]; rfl
theorem long_edges {good : Std → (Bool × Bool) → Bool} : ∃ r, Res (stds p) (Wst p good) r ∧ F__law_longest [.list (((edgesOf p).filter fun e => good e.1 e.2).map (edD p))] = some (optD r) := by
  have hmem : ∀ e ∈ (edgesOf p).filter fun e => good e.1 e.2, e.1 ∈ stds p ∧ e.2 ∈ chs p e.1 := fun e he => edges_mem k (List.mem_filter.mp he).1
  have hsub : ∀ s ∈ dedupS [] (((edgesOf p).filter fun e => good e.1 e.2).map (·.1)), s ∈ stds p := fun s hs => by
    rcases ((dedupS_spec _ [] List.nodup_nil).2 s).mp hs with q | q
    · cases q
    · obtain ⟨e, he, rfl⟩ := List.mem_map.mp q
      exact (hmem e he).1
  obtain ⟨r, hr, h⟩ := law_longest_ok (fun e : Std × (Bool × Bool) => e.1) (fun e : Std × (Bool × Bool) => tick p e.1 e.2) (edD p) (fun s => s.Ok p) (fun s o => std_lay' k o) ((edgesOf p).filter fun e => good e.1 e.2) (fun e he => ⟨stds_ok k (hmem e he).1, tick_ok k.toSh (stds_ok k (hmem e he).1) (hmem e he).2⟩)
    (fun e _ => (show dIx (.tuple [e.1.d, prD e.2, (tick p e.1 e.2).d, vsD (voices e.1 e.2), lineD (dones p e.1 e.2)]) (.int 0) = some e.1.d from ixT0)) (fun e _ => (show dIx (.tuple [e.1.d, prD e.2, (tick p e.1 e.2).d, vsD (voices e.1 e.2), lineD (dones p e.1 e.2)]) (.int 2) = some (tick p e.1 e.2).d from ixT2)) (fun e he => by
      have o := stds_ok k (hmem e he).1
      have o2 := tick_ok k.toSh o (hmem e he).2
      exact okP_lay 4 _ (by
        have h1 := std_okP 0 k.toSh o
        have h2 := std_okP 0 k.toSh o2
        have h3 := pr_okP 2 e.2
        have h4 := vs_okP 2 (voices e.1 e.2)
        have h5 := dones_okP 2 p e.1 e.2
        simp [okP, okPs, edD, h1, h2, h3, h4, h5])) (Nat.le_trans (List.length_filter_le _ _) (edges_le k)) (Nat.le_trans (sub_len (dedupS_spec _ [] List.nodup_nil).1 hsub) (Nat.le_trans (stds_le k) (by decide)))
  rw [Wof_eq k] at hr
  refine ⟨r, hr.more hsub fun s hs hn => ?_, h⟩
  rw [← Wof_eq k good]
  cases hw : Wof (·.1) (fun e => tick p e.1 e.2) ((edgesOf p).filter fun e => good e.1 e.2) s with
  | nil => rfl
  | cons t l =>
    exfalso
    have : t ∈ Wof (·.1) (fun e => tick p e.1 e.2) ((edgesOf p).filter fun e => good e.1 e.2) s := by rw [hw]; exact .head _
    obtain ⟨e, he, _⟩ := List.mem_map.mp this
    obtain ⟨h1, h2⟩ := List.mem_filter.mp he
    have h2' : e.1 = s := by simpa using h2
    exact hn (((dedupS_spec _ [] List.nodup_nil).2 s).mpr (.inr (List.mem_map.mpr ⟨e, h1, h2'⟩)))
/-- both longest ways are one -/
theorem long_same (good : Std → (Bool × Bool) → Bool) : ∃ r : Option Nat, F_longest_way [nx (stds p) (Wst p good)] = some (optD r) ∧ F__law_longest [.list (((edgesOf p).filter fun e => good e.1 e.2).map (edD p))] = some (optD r) := by
  obtain ⟨r, h1, h2⟩ := long_steps k (good := good)
  obtain ⟨r', h1', h2'⟩ := long_edges k (good := good)
  have := h1.uniq h1'
  subst this
  exact ⟨r, h2, h2'⟩
end
end VS

namespace VS
open PySem PySem.Spec PyProof.Rows L2

theorem Pln.Sm.ok' {p : Pln} (k : p.Sm) : p.Ok := ⟨k.toSh, Int.le_trans k.sz (by decide)⟩
/-! ### stretches unheard -/
def unh (p : Pln) (t : Int) (s : Std) (c : Bool × Bool) : Bool := decide (t ∉ dones p s c)
theorem nin_line (t : Int) (l : List Int) : dIn true (.int t) (lineD l) = some (.bool (decide (t ∉ l))) := by
  refine orE_some ?_
  have h1 : (l.map PyData.int).all flatD = true := by rw [List.all_eq_true]; intro d hd; obtain ⟨i, _, rfl⟩ := List.mem_map.mp hd; rfl
  have h2 : ((l.map PyData.int).any fun z => PyData.eqv z (.int t)) = decide (t ∈ l) := by
    rw [Bool.eq_iff_iff, List.any_eq_true, decide_eq_true_iff]
    constructor
    · rintro ⟨d, hd, q⟩
      obtain ⟨i, hi, rfl⟩ := List.mem_map.mp hd
      have : i = t := by simpa [PyData.eqv] using q
      exact this ▸ hi
    · intro h
      exact ⟨.int t, List.mem_map_of_mem h, by simp [PyData.eqv]⟩
  have h3 : flatD (.int t) = true := rfl
  simp only [fIn, lineD, h1, h2, h3, Bool.and_self, if_true, Bool.true_xor]
  congr 2
  by_cases h : t ∈ l <;> simp [h]
section
variable {p : Pln} (k : p.Sm)
include k
theorem lam_unh (t : Int) {s : Std} (hs : s ∈ stds p) (c : Bool × Bool) : lamG 3 Lm_unheard_by_0 [.int t] [s.d, prD c] = some (.bool (unh p t s c)) := by
  have o := stds_ok k hs
  have h1 := whole_by_eq k.toSh o c
  have h2 := nin_line t (dones p s c)
  simp [lamG, args0, Lm_unheard_by_0, callD, callB, callO, args0, sSeq, sIf, sRet, sRetN, sRetO, sDrop, sAsg, sPar, sNx, sBk, sCt, sNever, eVar, eC, e1, e2, eIf, asB, eAnd, eOr, tAndM, tOrM, dNot, tNotB, aNil, aCons, mkT_ok, mkL_ok, gName, gsNil, gsCons, gTup, gLst, eChain, oNone, oSome, eSl, dIsi, dIsi2, tYesM, h1, h2, unh]
theorem unheard_by_eq (t : Int) : F_unheard_by [p.d, .int t] = F_longest_way [nx (stds p) (Wst p (unh p t))] := by
  have h := steps_by_eq k (good := unh p t) (n := 4) (by decide) (G := lamG 3 Lm_unheard_by_0 [.int t]) (fun s c hs _ => lam_unh k t hs c)
  obtain ⟨r, h1, _⟩ := long_same k (unh p t)
  rw [h1]
  simp [F_unheard_by, B_unheard_by, callD, callB, callO, args0, sSeq, sIf, sRet, sRetN, sRetO, sDrop, sAsg, sPar, sNx, sBk, sCt, sNever, eVar, eC, e1, e2, eIf, asB, eAnd, eOr, tAndM, tOrM, dNot, tNotB, aNil, aCons, mkT_ok, mkL_ok, gName, gsNil, gsCons, gTup, gLst, eChain, oNone, oSome, eSl, dIsi, dIsi2, tYesM, eCallL, lsDat, lsLam, lsNil, svsOf, svOf, datsAt, h, h1]
theorem edge_lay {e : Std × (Bool × Bool)} (h : e ∈ edgesOf p) : (edD p e).canLay0 = true := by
  have o := stds_ok k (edges_mem k h).1
  have o2 := tick_ok k.toSh o (edges_mem k h).2
  exact okP_lay 4 _ (by
    have h1 := std_okP 0 k.toSh o
    have h2 := std_okP 0 k.toSh o2
    have h3 := pr_okP 2 e.2
    have h4 := vs_okP 2 (voices e.1 e.2)
    have h5 := dones_okP 2 p e.1 e.2
    simp [okP, okPs, edD, h1, h2, h3, h4, h5])
theorem filt_len (f : Std × (Bool × Bool) → Bool) : (((edgesOf p).filter f).map (edD p)).length ≤ most := by
  rw [List.length_map]
  exact Nat.le_trans (List.length_filter_le _ _) (Nat.le_trans (edges_le k) (by decide))
theorem law_unheard_eq (t : Int) : F__law_unheard [p.d, .int t] = F__law_longest [.list (((edgesOf p).filter fun e => unh p t e.1 e.2).map (edD p))] := by
  have a1 := law_edges_eq k
  obtain ⟨r, _, h1⟩ := long_same k (unh p t)
  have k1 := lc_on (t := gName 2) (c := e1 asB (e2 (dIn true) (eVar 1) (e2 dIx (eVar 2) (eC (.int 4))))) (e := eVar 2) (vs := [2]) (ρ := [some (.dat p.d), some (.dat (.int t)), none]) (edD p) (fun e => unh p t e.1 e.2) (edD p) (xs := edgesOf p) (by
    intro e he
    refine ⟨_, [some (.dat p.d), some (.dat (.int t)), some (.dat (edD p e))], rfl, ?_, fun _ => rfl, fun _ => ⟨_, rfl, rfl⟩⟩
    have b1 : dIx (edD p e) (.int 4) = some (lineD (dones p e.1 e.2)) := ixT (by decide) rfl
    have b2 := nin_line t (dones p e.1 e.2)
    simp [callD, callB, callO, args0, sSeq, sIf, sRet, sRetN, sRetO, sDrop, sAsg, sPar, sNx, sBk, sCt, sNever, eVar, eC, e1, e2, eIf, asB, eAnd, eOr, tAndM, tOrM, dNot, tNotB, aNil, aCons, mkT_ok, mkL_ok, gName, gsNil, gsCons, gTup, gLst, eChain, oNone, oSome, eSl, dIsi, dIsi2, tYesM, b1, b2, unh])
  have k2 : (e1 iSeq (e1 F__law_edges (aCons (eVar 0) aNil))) [some (.dat p.d), some (.dat (.int t)), none] = some ((edgesOf p).map (edD p), [some (.dat p.d), some (.dat (.int t)), none]) := by simp [callD, callB, callO, args0, sSeq, sIf, sRet, sRetN, sRetO, sDrop, sAsg, sPar, sNx, sBk, sCt, sNever, eVar, eC, e1, e2, eIf, asB, eAnd, eOr, tAndM, tOrM, dNot, tNotB, aNil, aCons, mkT_ok, mkL_ok, gName, gsNil, gsCons, gTup, gLst, eChain, oNone, oSome, eSl, dIsi, dIsi2, tYesM, a1]
  have k4 := filt_len k (fun e => unh p t e.1 e.2)
  have k5 : eLc (e1 iSeq (e1 F__law_edges (aCons (eVar 0) aNil))) (gName 2) (e1 asB (e2 (dIn true) (eVar 1) (e2 dIx (eVar 2) (eC (.int 4))))) (eVar 2) [2] [some (.dat p.d), some (.dat (.int t)), none] = some (.list (((edgesOf p).filter fun e => unh p t e.1 e.2).map (edD p)), [some (.dat p.d), some (.dat (.int t)), none]) := by
    have k3 : okW [some (.dat p.d), some (.dat (.int t)), none] [2] = true := rfl
    unfold eLc
    rw [k2]
    simp only [k3, if_true, wipeR, List.set]
    rw [k1]
    simp only [k4, if_true, restR]
    rfl
  generalize hE : (eLc (e1 iSeq (e1 F__law_edges (aCons (eVar 0) aNil))) (gName 2) (e1 asB (e2 (dIn true) (eVar 1) (e2 dIx (eVar 2) (eC (.int 4))))) (eVar 2) [2]) = G at k5
  rw [h1]
  simp [F__law_unheard, callD, args0, B__law_unheard, sRet, VS.e1, aCons, aNil, hE, k5, h1]
theorem unheard_same (t : Int) : ∃ r : Option Nat, F_unheard_by [p.d, .int t] = some (optD r) ∧ F__law_unheard [p.d, .int t] = some (optD r) := by
  obtain ⟨r, h1, h2⟩ := long_same k (unh p t)
  exact ⟨r, (unheard_by_eq k t).trans h1, (law_unheard_eq k t).trans h2⟩
theorem longest_unheard_eq {t : Int} (h0 : 0 ≤ t) (h1 : t ≤ 1) : F_longest_unheard [p.d, .int t] = F_unheard_by [p.d, .int t] := by
  have a1 := look_at_plan_yes k.ok'
  have a2 : F_look_at_talker [.int t] = some .none := by simp [F_look_at_talker, B_look_at_talker, callD, callB, callO, args0, sSeq, sIf, sRet, sRetN, sRetO, sDrop, sAsg, sPar, sNx, sBk, sCt, sNever, eVar, eC, e1, e2, eIf, asB, eAnd, eOr, tAndM, tOrM, dNot, tNotB, aNil, aCons, mkT_ok, mkL_ok, gName, gsNil, gsCons, gTup, gLst, eChain, oNone, oSome, eSl, dIsi, dIsi2, tYesM, h0, h1]
  obtain ⟨r, h, _⟩ := unheard_same k t
  rw [h]
  simp [F_longest_unheard, B_longest_unheard, callD, callB, callO, args0, sSeq, sIf, sRet, sRetN, sRetO, sDrop, sAsg, sPar, sNx, sBk, sCt, sNever, eVar, eC, e1, e2, eIf, asB, eAnd, eOr, tAndM, tOrM, dNot, tNotB, aNil, aCons, mkT_ok, mkL_ok, gName, gsNil, gsCons, gTup, gLst, eChain, oNone, oSome, eSl, dIsi, dIsi2, tYesM, a1, a2, h]
end
def Pln.wo (p : Pln) (b : Bool) : Pln := ⟨p.a, p.b, p.x, p.y, b⟩
theorem wo_sm {p : Pln} (k : p.Sm) (b : Bool) : (p.wo b).Sm := by
  obtain ⟨⟨h1, h2, h3, h4, h5, h6⟩, h7, h8, h9⟩ := k
  exact ⟨⟨h1, h2, h3, h4, h5, h6⟩, h7, h8, h9⟩
theorem wo_self (p : Pln) : p.wo p.ov = p := rfl
theorem cut_wo (p : Pln) (b : Bool) : dAdd (.tuple [.tuple [p.a.d, p.b.d], .tuple [.int p.x, .int p.y]]) (.tuple [.bool b]) = some (p.wo b).d := addT (Nat.le_of_ble_eq_true rfl)
theorem cut_d (p : Pln) : dSl p.d none (some 2) = some (.tuple [.tuple [p.a.d, p.b.d], .tuple [.int p.x, .int p.y]]) := rfl
end VS

namespace VS
open PySem PySem.Spec PyProof.Rows L2
def topS (i : Nat) : Stmt := PySem.Challenge.pw_lagtalk_k07_whole_stretches_unheard.main.body.getD i (.Pass ⟨0, 0, 0, 0⟩)
structure Glob (K : PySem.W.Frag) (mg : Str → Option Value) : Prop where
  z_abs : mg "abs" = none
  z_all : mg "all" = none
  z_bool : mg "bool" = none
  z_dict : mg "dict" = none
  z_int : mg "int" = none
  z_isinstance : mg "isinstance" = none
  z_len : mg "len" = none
  z_list : mg "list" = none
  z_max : mg "max" = none
  z_min : mg "min" = none
  z_range : mg "range" = none
  z_str : mg "str" = none
  z_tuple : mg "tuple" = none
  z_zip : mg "zip" = none
  c_MOST_SIZE : GCm K mg "MOST_SIZE" c_MOST_SIZE
  c_QUIET : GCm K mg "QUIET" c_QUIET
  c_SPEAKS : GCm K mg "SPEAKS" c_SPEAKS
/-- law(script); slots: 0 script 1 at 2 spring 3 plan 4 one 5 due 6 told -/
def L_law_0 : MS :=
  (sSeq (sAsg (e1 mkT (aCons (e1 F__law_unheard (aCons (e2 dAdd (eSl (eVar 3) oNone (oSome (eC (.int 2)))) (e1 mkT (aCons (eC (.bool false)) aNil))) (aCons (eVar 4) aNil))) (aCons (e1 F__law_unheard (aCons (e2 dAdd (eSl (eVar 3) oNone (oSome (eC (.int 2)))) (e1 mkT (aCons (eC (.bool true)) aNil))) (aCons (eVar 4) aNil))) aNil))) (gName 5))
  (sSeq (sAsg (e1 mkL (aCons (e1 F_longest_unheard (aCons (eVar 3) (aCons (eVar 4) aNil))) (aCons (e1 F_over_saves (aCons (eVar 3) (aCons (eVar 4) aNil))) aNil))) (gName 6))
  (sIf (e1 tNotB (e1 asB (e1 (F__law_twins 10) (aCons (eVar 6) (aCons (e1 mkL (aCons (e2 dIx (eVar 5) (e1 fInt (aCons (e2 dIx (eVar 3) (eC (.int 2))) aNil))) (aCons (eVar 5) aNil))) aNil))))) (sRet (eC (.bool false))) sNx)))
def L_law_1 : MS :=
  (sSeq (sOwnC 2 F__law_spring (aCons (eVar 0) (aCons (eVar 1) aNil)))
  (sSeq (sAsg (eBor 2 F__law_plan (aCons (eC (.int 4500)) aNil)) (gName 3))
  (sFor (e1 iR1 (aCons (eC (.int 2)) aNil)) (gName 4) L_law_0)))
def B_law : MS :=
  (sSeq (sFor (e1 iR1 (aCons (e2 dAdd (e1 fMin2 (aCons (e1 fLen (aCons (eVar 0) aNil)) (aCons (eC (.int 5)) aNil))) (eC (.int 1))) aNil)) (gName 1) L_law_1)
  (sRet (eC (.bool true))))
def F_law : List D → Option D := callD 7 1 (B_law)
section
variable {P : Program} {w : World} {K : PySem.W.Frag} {mg : Str → Option Value} {base : Heap} {T : Tb}
abbrev s_is_within : Stmt := topS 8
abbrev N_is_within : List Str := ["value", "low", "high"]
abbrev p_is_within : List Str := ["value", "low", "high"]
theorem sc_is_within : FnScope N_is_within p_is_within (defScope s_is_within) := ⟨rfl, rfl, rfl, by decide +kernel, rfl, by decide +kernel, by decide +kernel⟩
theorem d_is_within (Z : Glob K mg) (Dx : Df K mg "is_within" "is_within" s_is_within p_is_within)  : DOk P w K mg base 1 "is_within" (spD (kw P w K mg base) T F_is_within) := by
  refine dok_data (body := B_is_within) Dx sc_is_within rfl rfl fun f cdv A outer s H E hr => ?_
  have nd := (sc_is_within).nd
  unfold B_is_within
  exact (qss_one (q_ret (q_and (q_isi .int (q_var 0) rfl Z.z_isinstance Z.z_int) (q_and (q_not (q_isi .bool (q_var 0) rfl Z.z_isinstance Z.z_bool)) (q_one (q_chain o_le o_le (q_var 1) (q_var 0) (q_var 2)))))))
abbrev s_is_span : Stmt := topS 9
abbrev N_is_span : List Str := ["value", "low", "high"]
abbrev p_is_span : List Str := ["value", "low", "high"]
theorem sc_is_span : FnScope N_is_span p_is_span (defScope s_is_span) := ⟨rfl, rfl, rfl, by decide +kernel, rfl, by decide +kernel, by decide +kernel⟩
theorem d_is_span (Z : Glob K mg) (Dx : Df K mg "is_span" "is_span" s_is_span p_is_span) (D_is_within : ∀ T, DOk P w K mg base 1 "is_within" (spD (kw P w K mg base) T F_is_within)) : DOk P w K mg base 2 "is_span" (spD (kw P w K mg base) T F_is_span) := by
  refine dok_data (body := B_is_span) Dx sc_is_span rfl rfl fun f cdv A outer s H E hr => ?_
  have nd := (sc_is_span).nd
  unfold B_is_span
  exact (qss_cons (q_ifS (qt_w (qw_or (qt_not (qt_val (q_isi .tup (q_var 0) rfl Z.z_isinstance Z.z_tuple))) (qw_or1 (qt_cmp (o_ne hr) (q_callB f_len Z.z_len PySem.boot_len (qa_cons (q_var 0) qa_nil)) q_int)))) (qss_one (q_ret q_bl)) qss_nil)
  (qss_one (q_ret (q_and (q_call ((D_is_within _).at hr) (qa_cons (q_ix i_any (q_var 0) q_int) (qa_cons (q_var 1) (qa_cons (q_var 2) qa_nil)))) (q_one (q_call ((D_is_within _).at hr) (qa_cons (q_ix i_any (q_var 0) q_int) (qa_cons (q_ix i_any (q_var 0) q_int) (qa_cons (q_var 2) qa_nil)))))))))
abbrev s_is_habit : Stmt := topS 10
abbrev N_is_habit : List Str := ["value"]
abbrev p_is_habit : List Str := ["value"]
theorem sc_is_habit : FnScope N_is_habit p_is_habit (defScope s_is_habit) := ⟨rfl, rfl, rfl, by decide +kernel, rfl, by decide +kernel, by decide +kernel⟩
theorem d_is_habit (Z : Glob K mg) (Dx : Df K mg "is_habit" "is_habit" s_is_habit p_is_habit) (D_is_span : ∀ T, DOk P w K mg base 2 "is_span" (spD (kw P w K mg base) T F_is_span)) : DOk P w K mg base 3 "is_habit" (spD (kw P w K mg base) T F_is_habit) := by
  refine dok_data (body := B_is_habit) Dx sc_is_habit rfl rfl fun f cdv A outer s H E hr => ?_
  have nd := (sc_is_habit).nd
  unfold B_is_habit
  exact (qss_cons (q_ifS (qt_w (qw_or (qt_not (qt_val (q_isi .tup (q_var 0) rfl Z.z_isinstance Z.z_tuple))) (qw_or1 (qt_cmp (o_ne hr) (q_callB f_len Z.z_len PySem.boot_len (qa_cons (q_var 0) qa_nil)) q_int)))) (qss_one (q_ret q_bl)) qss_nil)
  (qss_cons (q_ifS (qt_w (qw_or (qt_not (qt_val (q_call ((D_is_span _).at hr) (qa_cons (q_ix i_any (q_var 0) q_int) (qa_cons q_int (qa_cons q_int qa_nil)))))) (qw_or1 (qt_not (qt_val (q_call ((D_is_span _).at hr) (qa_cons (q_ix i_any (q_var 0) q_int) (qa_cons q_int (qa_cons q_int qa_nil))))))))) (qss_one (q_ret q_bl)) qss_nil)
  (qss_one (q_ret (q_and (q_isi .bool (q_ix i_any (q_var 0) q_int) rfl Z.z_isinstance Z.z_bool) (q_one (q_isi .bool (q_ix i_any (q_var 0) q_int) rfl Z.z_isinstance Z.z_bool)))))))
abbrev s_size_of : Stmt := topS 11
abbrev N_size_of : List Str := ["plan", "found", "delay", "sentence", "wait", "stops", "eager"]
abbrev p_size_of : List Str := ["plan"]
theorem sc_size_of : FnScope N_size_of p_size_of (defScope s_size_of) := ⟨rfl, rfl, rfl, by decide +kernel, rfl, by decide +kernel, by decide +kernel⟩
theorem d_size_of (Z : Glob K mg) (Dx : Df K mg "size_of" "size_of" s_size_of p_size_of)  : DOk P w K mg base 1 "size_of" (spD (kw P w K mg base) T F_size_of) := by
  refine dok_data (body := B_size_of) Dx sc_size_of rfl rfl fun f cdv A outer s H E hr => ?_
  have nd := (sc_size_of).nd
  unfold B_size_of
  exact (qss_cons (q_set 1 nd q_int)
  (qss_cons (q_for (qi_zip Z.z_zip (qa_cons (q_ix i_any (q_var 0) q_int) (qa_cons (q_ix i_any (q_var 0) q_int) qa_nil))) (qg_tup (qgs_cons (qg_tup (qgs_cons (qg_name 3 nd) (qgs_cons (qg_name 4 nd) (qgs_cons (qg_name 5 nd) (qgs_cons (qg_name 6 nd) qgs_nil)))) (glen_cons (glen_cons (glen_cons (glen_cons glen_nil))))) (qgs_cons (qg_name 2 nd) qgs_nil)) (glen_cons (glen_cons glen_nil))) (qss_one (q_set 1 nd (q_bin o_mul (q_bin o_mul (q_bin o_mul (q_var 1) q_int) (q_bin o_add (q_bin o_add (q_ix i_any (q_var 4) q_int) (q_ix i_any (q_var 3) q_int)) q_int)) (q_bin o_add (q_bin o_mul q_int (q_var 2)) q_int)))))
  (qss_one (q_ret (q_var 1)))))
abbrev s_is_plan : Stmt := topS 12
abbrev N_is_plan : List Str := ["value", "part", "habit", "delay"]
abbrev p_is_plan : List Str := ["value"]
theorem sc_is_plan : FnScope N_is_plan p_is_plan (defScope s_is_plan) := ⟨rfl, rfl, rfl, by decide +kernel, rfl, by decide +kernel, by decide +kernel⟩
theorem d_is_plan (Z : Glob K mg) (Dx : Df K mg "is_plan" "is_plan" s_is_plan p_is_plan) (D_is_habit : ∀ T, DOk P w K mg base 3 "is_habit" (spD (kw P w K mg base) T F_is_habit)) (D_is_within : ∀ T, DOk P w K mg base 1 "is_within" (spD (kw P w K mg base) T F_is_within)) (D_size_of : ∀ T, DOk P w K mg base 1 "size_of" (spD (kw P w K mg base) T F_size_of)) : DOk P w K mg base 4 "is_plan" (spD (kw P w K mg base) T F_is_plan) := by
  refine dok_data (body := B_is_plan) Dx sc_is_plan rfl rfl fun f cdv A outer s H E hr => ?_
  have nd := (sc_is_plan).nd
  unfold B_is_plan
  exact (qss_cons (q_ifS (qt_w (qw_or (qt_not (qt_val (q_isi .tup (q_var 0) rfl Z.z_isinstance Z.z_tuple))) (qw_or (qt_cmp (o_ne hr) (q_callB f_len Z.z_len PySem.boot_len (qa_cons (q_var 0) qa_nil)) q_int) (qw_or1 (qt_not (qt_val (q_isi .bool (q_ix i_any (q_var 0) q_int) rfl Z.z_isinstance Z.z_bool))))))) (qss_one (q_ret q_bl)) qss_nil)
  (qss_cons (q_ifS (qt_not (qt_val (q_callB (f_all) Z.z_all boot_all (qa_cons (q_lc [("part", 1)] nd (qi_seq (q_slice (q_var 0) qo_none (qo_some q_int))) (blkOk_by (N := N_is_plan) (sc := (defScope s_is_plan)) (by decide +kernel)) (by decide) (fun _ _ _ _ _ => (qg_name 1 nd)) (fun _ _ _ _ _ => qts_nil) (fun _ _ _ _ _ => (q_and (q_isi .tup (q_var 1) rfl Z.z_isinstance Z.z_tuple) (q_one (q_cmp (o_eq hr) (q_callB f_len Z.z_len PySem.boot_len (qa_cons (q_var 1) qa_nil)) q_int))))) qa_nil)))) (qss_one (q_ret q_bl)) qss_nil)
  (qss_cons (q_ifS (qt_not (qt_val (q_callB (f_all) Z.z_all boot_all (qa_cons (q_lc [("habit", 2)] nd (qi_seq (q_ix i_any (q_var 0) q_int)) (blkOk_by (N := N_is_plan) (sc := (defScope s_is_plan)) (by decide +kernel)) (by decide) (fun _ _ _ _ _ => (qg_name 2 nd)) (fun _ _ _ _ _ => qts_nil) (fun _ _ _ _ _ => (q_call ((D_is_habit _).at hr) (qa_cons (q_var 2) qa_nil)))) qa_nil)))) (qss_one (q_ret q_bl)) qss_nil)
  (qss_one (q_ret (q_and (q_callB (f_all) Z.z_all boot_all (qa_cons (q_lc [("delay", 3)] nd (qi_seq (q_ix i_any (q_var 0) q_int)) (blkOk_by (N := N_is_plan) (sc := (defScope s_is_plan)) (by decide +kernel)) (by decide) (fun _ _ _ _ _ => (qg_name 3 nd)) (fun _ _ _ _ _ => qts_nil) (fun _ _ _ _ _ => (q_call ((D_is_within _).at hr) (qa_cons (q_var 3) (qa_cons q_int (qa_cons q_int qa_nil)))))) qa_nil)) (q_one (q_cmp o_le (q_call ((D_size_of _).at hr) (qa_cons (q_var 0) qa_nil)) (q_gc Z.c_MOST_SIZE)))))))))
abbrev s_look_at_plan : Stmt := topS 13
abbrev N_look_at_plan : List Str := ["plan"]
abbrev p_look_at_plan : List Str := ["plan"]
theorem sc_look_at_plan : FnScope N_look_at_plan p_look_at_plan (defScope s_look_at_plan) := ⟨rfl, rfl, rfl, by decide +kernel, rfl, by decide +kernel, by decide +kernel⟩
theorem d_look_at_plan (Z : Glob K mg) (Dx : Df K mg "look_at_plan" "look_at_plan" s_look_at_plan p_look_at_plan) (D_is_plan : ∀ T, DOk P w K mg base 4 "is_plan" (spD (kw P w K mg base) T F_is_plan)) : DOk P w K mg base 5 "look_at_plan" (spD (kw P w K mg base) T F_look_at_plan) := by
  refine dok_data (body := B_look_at_plan) Dx sc_look_at_plan rfl rfl fun f cdv A outer s H E hr => ?_
  have nd := (sc_look_at_plan).nd
  unfold B_look_at_plan
  exact (qss_one (q_ifS (qt_not (qt_val (q_call ((D_is_plan _).at hr) (qa_cons (q_var 0) qa_nil)))) (qss_one q_never) qss_nil))
abbrev s_look_at_talker : Stmt := topS 14
abbrev N_look_at_talker : List Str := ["talker"]
abbrev p_look_at_talker : List Str := ["talker"]
theorem sc_look_at_talker : FnScope N_look_at_talker p_look_at_talker (defScope s_look_at_talker) := ⟨rfl, rfl, rfl, by decide +kernel, rfl, by decide +kernel, by decide +kernel⟩
theorem d_look_at_talker (Z : Glob K mg) (Dx : Df K mg "look_at_talker" "look_at_talker" s_look_at_talker p_look_at_talker) (D_is_within : ∀ T, DOk P w K mg base 1 "is_within" (spD (kw P w K mg base) T F_is_within)) : DOk P w K mg base 2 "look_at_talker" (spD (kw P w K mg base) T F_look_at_talker) := by
  refine dok_data (body := B_look_at_talker) Dx sc_look_at_talker rfl rfl fun f cdv A outer s H E hr => ?_
  have nd := (sc_look_at_talker).nd
  unfold B_look_at_talker
  exact (qss_one (q_ifS (qt_not (qt_val (q_call ((D_is_within _).at hr) (qa_cons (q_var 0) (qa_cons q_int (qa_cons q_int qa_nil)))))) (qss_one q_never) qss_nil))
abbrev s_begin_of : Stmt := topS 15
abbrev N_begin_of : List Str := ["plan", "delay"]
abbrev p_begin_of : List Str := ["plan"]
theorem sc_begin_of : FnScope N_begin_of p_begin_of (defScope s_begin_of) := ⟨rfl, rfl, rfl, by decide +kernel, rfl, by decide +kernel, by decide +kernel⟩
theorem d_begin_of (Z : Glob K mg) (Dx : Df K mg "begin_of" "begin_of" s_begin_of p_begin_of)  : DOk P w K mg base 1 "begin_of" (spD (kw P w K mg base) T F_begin_of) := by
  refine dok_data (body := B_begin_of) Dx sc_begin_of rfl rfl fun f cdv A outer s H E hr => ?_
  have nd := (sc_begin_of).nd
  unfold B_begin_of
  exact (qss_one (q_ret (q_tup (qa_cons (q_bin o_mul (q_tup (qa_cons (q_tup (qa_cons (q_gc Z.c_QUIET) (qa_cons q_int (qa_cons q_str qa_nil)))) qa_nil)) q_int) (qa_cons (q_callTy f_tuple Z.z_tuple boot_tuple (qa_cons (q_lc [("delay", 1)] nd (qi_seq (q_ix i_any (q_var 0) q_int)) (blkOk_by (N := N_begin_of) (sc := (defScope s_begin_of)) (by decide +kernel)) (by decide) (fun _ _ _ _ _ => (qg_name 1 nd)) (fun _ _ _ _ _ => qts_nil) (fun _ _ _ _ _ => (q_bin o_mul (q_tup (qa_cons q_int qa_nil)) (q_var 1)))) qa_nil)) qa_nil)))))
abbrev s_ways_of : Stmt := topS 17
abbrev N_ways_of : List Str := ["habit", "part", "sentence", "wait", "stops", "eager", "no", "yes"]
abbrev p_ways_of : List Str := ["habit", "part"]
theorem sc_ways_of : FnScope N_ways_of p_ways_of (defScope s_ways_of) := ⟨rfl, rfl, rfl, by decide +kernel, rfl, by decide +kernel, by decide +kernel⟩
theorem d_ways_of (Z : Glob K mg) (Dx : Df K mg "ways_of" "ways_of" s_ways_of p_ways_of)  : DOk P w K mg base 1 "ways_of" (spD (kw P w K mg base) T F_ways_of) := by
  refine dok_data (body := B_ways_of) Dx sc_ways_of rfl rfl fun f cdv A outer s H E hr => ?_
  have nd := (sc_ways_of).nd
  unfold B_ways_of
  exact (qss_cons (q_asg (q_var 0) (qg_tup (qgs_cons (qg_name 2 nd) (qgs_cons (qg_name 3 nd) (qgs_cons (qg_name 4 nd) (qgs_cons (qg_name 5 nd) qgs_nil)))) (glen_cons (glen_cons (glen_cons (glen_cons glen_nil))))))
  (qss_cons (q_ifS (qt_cmp (o_eq hr) (q_ix i_any (q_var 1) q_int) (q_gc Z.c_QUIET)) (qss_one (q_par 6 7 nd (qa_cons (q_or (q_not (q_var 5)) (q_one (q_cmp o_lt (q_ix i_any (q_var 1) q_int) (q_ix i_any (q_var 3) q_int)))) (qa_cons (q_cmp o_ge (q_ix i_any (q_var 1) q_int) (q_ix i_any (q_var 3) q_int)) qa_nil)))) (qss_one (q_par 6 7 nd (qa_cons (q_cmp o_lt (q_bin o_add (q_ix i_any (q_var 1) q_int) q_int) (q_ix i_any (q_var 2) q_int)) (qa_cons (q_cmp o_ge (q_bin o_add (q_ix i_any (q_var 1) q_int) q_int) (q_ix i_any (q_var 2) q_int)) qa_nil)))))
  (qss_one (q_ret (q_bin o_add (q_bin o_mul (q_lst (qa_cons q_bl qa_nil)) (q_callTy f_int Z.z_int boot_int (qa_cons (q_var 6) qa_nil))) (q_bin o_mul (q_lst (qa_cons q_bl qa_nil)) (q_callTy f_int Z.z_int boot_int (qa_cons (q_var 7) qa_nil))))))))
abbrev s_choices_of : Stmt := topS 18
abbrev N_choices_of : List Str := ["plan", "stand", "first", "second", "one", "other", "habit", "part"]
abbrev p_choices_of : List Str := ["plan", "stand"]
theorem sc_choices_of : FnScope N_choices_of p_choices_of (defScope s_choices_of) := ⟨rfl, rfl, rfl, by decide +kernel, rfl, by decide +kernel, by decide +kernel⟩
theorem d_choices_of (Z : Glob K mg) (Dx : Df K mg "choices_of" "choices_of" s_choices_of p_choices_of) (D_ways_of : ∀ T, DOk P w K mg base 1 "ways_of" (spD (kw P w K mg base) T F_ways_of)) : DOk P w K mg base 2 "choices_of" (spD (kw P w K mg base) T F_choices_of) := by
  refine dok_data (body := B_choices_of) Dx sc_choices_of rfl rfl fun f cdv A outer s H E hr => ?_
  have nd := (sc_choices_of).nd
  unfold B_choices_of
  exact (qss_cons (q_asg (q_lc [("habit", 6), ("part", 7)] nd (qi_zip Z.z_zip (qa_cons (q_ix i_any (q_var 0) q_int) (qa_cons (q_ix i_any (q_var 1) q_int) qa_nil))) (blkOk_by (N := N_choices_of) (sc := (defScope s_choices_of)) (by decide +kernel)) (by decide) (fun _ _ _ _ _ => (qg_tup (qgs_cons (qg_name 6 nd) (qgs_cons (qg_name 7 nd) qgs_nil)) (glen_cons (glen_cons glen_nil)))) (fun _ _ _ _ _ => qts_nil) (fun _ _ _ _ _ => (q_call ((D_ways_of _).at hr) (qa_cons (q_var 6) (qa_cons (q_var 7) qa_nil))))) (qg_lst (qgs_cons (qg_name 2 nd) (qgs_cons (qg_name 3 nd) qgs_nil)) (glen_cons (glen_cons glen_nil))))
  (qss_one (q_ret (q_lc2 [("one", 4), ("other", 5)] [5] nd (qi_seq (q_var 2)) (blkOk_by (N := N_choices_of) (sc := (defScope s_choices_of)) (by decide +kernel)) (by decide) (by decide) (by decide) (fun _ _ _ _ _ => (qg_name 4 nd)) (fun _ _ _ _ _ => (qi_seq (q_var 3))) (fun _ _ _ _ _ => (qg_name 5 nd)) (fun _ _ _ _ _ => (q_tup (qa_cons (q_var 4) (qa_cons (q_var 5) qa_nil))))))))
abbrev s_sign_of : Stmt := topS 19
abbrev N_sign_of : List Str := ["part", "chosen"]
abbrev p_sign_of : List Str := ["part", "chosen"]
theorem sc_sign_of : FnScope N_sign_of p_sign_of (defScope s_sign_of) := ⟨rfl, rfl, rfl, by decide +kernel, rfl, by decide +kernel, by decide +kernel⟩
theorem d_sign_of (Z : Glob K mg) (Dx : Df K mg "sign_of" "sign_of" s_sign_of p_sign_of)  : DOk P w K mg base 1 "sign_of" (spD (kw P w K mg base) T F_sign_of) := by
  refine dok_data (body := B_sign_of) Dx sc_sign_of rfl rfl fun f cdv A outer s H E hr => ?_
  have nd := (sc_sign_of).nd
  unfold B_sign_of
  exact (qss_cons (q_ifS (qt_cmp (o_eq hr) (q_ix i_any (q_var 0) q_int) (q_gc Z.c_QUIET)) (qss_one (q_ret (q_callTy f_int Z.z_int boot_int (qa_cons (q_var 1) qa_nil)))) qss_nil)
  (qss_one (q_ret (q_if (qt_val (q_var 1)) q_int q_int))))
abbrev s_signs_of : Stmt := topS 20
abbrev N_signs_of : List Str := ["stand", "choice", "part", "chosen"]
abbrev p_signs_of : List Str := ["stand", "choice"]
theorem sc_signs_of : FnScope N_signs_of p_signs_of (defScope s_signs_of) := ⟨rfl, rfl, rfl, by decide +kernel, rfl, by decide +kernel, by decide +kernel⟩
theorem d_signs_of (Z : Glob K mg) (Dx : Df K mg "signs_of" "signs_of" s_signs_of p_signs_of) (D_sign_of : ∀ T, DOk P w K mg base 1 "sign_of" (spD (kw P w K mg base) T F_sign_of)) : DOk P w K mg base 2 "signs_of" (spD (kw P w K mg base) T F_signs_of) := by
  refine dok_data (body := B_signs_of) Dx sc_signs_of rfl rfl fun f cdv A outer s H E hr => ?_
  have nd := (sc_signs_of).nd
  unfold B_signs_of
  exact (qss_one (q_ret (q_callTy f_tuple Z.z_tuple boot_tuple (qa_cons (q_lc [("part", 2), ("chosen", 3)] nd (qi_zip Z.z_zip (qa_cons (q_ix i_any (q_var 0) q_int) (qa_cons (q_var 1) qa_nil))) (blkOk_by (N := N_signs_of) (sc := (defScope s_signs_of)) (by decide +kernel)) (by decide) (fun _ _ _ _ _ => (qg_tup (qgs_cons (qg_name 2 nd) (qgs_cons (qg_name 3 nd) qgs_nil)) (glen_cons (glen_cons glen_nil)))) (fun _ _ _ _ _ => qts_nil) (fun _ _ _ _ _ => (q_call ((D_sign_of _).at hr) (qa_cons (q_var 2) (qa_cons (q_var 3) qa_nil))))) qa_nil))))
abbrev s_heard_by : Stmt := topS 21
abbrev N_heard_by : List Str := ["stand"]
abbrev p_heard_by : List Str := ["stand"]
theorem sc_heard_by : FnScope N_heard_by p_heard_by (defScope s_heard_by) := ⟨rfl, rfl, rfl, by decide +kernel, rfl, by decide +kernel, by decide +kernel⟩
theorem d_heard_by (Z : Glob K mg) (Dx : Df K mg "heard_by" "heard_by" s_heard_by p_heard_by)  : DOk P w K mg base 1 "heard_by" (spD (kw P w K mg base) T F_heard_by) := by
  refine dok_data (body := B_heard_by) Dx sc_heard_by rfl rfl fun f cdv A outer s H E hr => ?_
  have nd := (sc_heard_by).nd
  unfold B_heard_by
  exact (qss_one (q_ret (q_tup (qa_cons (q_ix i_any (q_ix i_any (q_ix i_any (q_var 0) q_int) q_int) q_int) (qa_cons (q_ix i_any (q_ix i_any (q_ix i_any (q_var 0) q_int) q_int) q_int) qa_nil)))))
abbrev s_hearing_of : Stmt := topS 22
abbrev N_hearing_of : List Str := ["before", "said", "heard"]
abbrev p_hearing_of : List Str := ["before", "said", "heard"]
theorem sc_hearing_of : FnScope N_hearing_of p_hearing_of (defScope s_hearing_of) := ⟨rfl, rfl, rfl, by decide +kernel, rfl, by decide +kernel, by decide +kernel⟩
theorem d_hearing_of (Z : Glob K mg) (Dx : Df K mg "hearing_of" "hearing_of" s_hearing_of p_hearing_of)  : DOk P w K mg base 1 "hearing_of" (spD (kw P w K mg base) T F_hearing_of) := by
  refine dok_data (body := B_hearing_of) Dx sc_hearing_of rfl rfl fun f cdv A outer s H E hr => ?_
  have nd := (sc_hearing_of).nd
  unfold B_hearing_of
  exact (qss_cons (q_ifS (qt_cmp (o_eq hr) (q_var 2) q_int) (qss_one (q_ret q_str)) qss_nil)
  (qss_cons (q_ifS (qt_cmp (o_ne hr) (q_var 1) q_int) (qss_one (q_ret q_str)) qss_nil)
  (qss_cons (q_ifS (qt_cmp (o_eq hr) (q_var 2) q_int) (qss_one (q_ret q_str)) qss_nil)
  (qss_one (q_ret (q_if (qt_cmp (o_eq hr) (q_var 0) q_str) q_str (q_var 0)))))))
abbrev s_is_whole : Stmt := topS 23
abbrev N_is_whole : List Str := ["part", "said", "heard"]
abbrev p_is_whole : List Str := ["part", "said", "heard"]
theorem sc_is_whole : FnScope N_is_whole p_is_whole (defScope s_is_whole) := ⟨rfl, rfl, rfl, by decide +kernel, rfl, by decide +kernel, by decide +kernel⟩
theorem d_is_whole (Z : Glob K mg) (Dx : Df K mg "is_whole" "is_whole" s_is_whole p_is_whole) (D_hearing_of : ∀ T, DOk P w K mg base 1 "hearing_of" (spD (kw P w K mg base) T F_hearing_of)) : DOk P w K mg base 2 "is_whole" (spD (kw P w K mg base) T F_is_whole) := by
  refine dok_data (body := B_is_whole) Dx sc_is_whole rfl rfl fun f cdv A outer s H E hr => ?_
  have nd := (sc_is_whole).nd
  unfold B_is_whole
  exact (qss_one (q_ret (q_and (q_cmp (o_eq hr) (q_var 2) q_int) (q_one (q_cmp (o_eq hr) (q_call ((D_hearing_of _).at hr) (qa_cons (q_ix i_any (q_var 0) q_int) (qa_cons (q_var 1) (qa_cons (q_var 2) qa_nil)))) q_str)))))
abbrev s_talker_behind : Stmt := topS 24
abbrev N_talker_behind : List Str := ["habit", "part", "said", "heard", "over", "hearing", "sentence", "wait", "stops", "eager"]
abbrev p_talker_behind : List Str := ["habit", "part", "said", "heard", "over"]
theorem sc_talker_behind : FnScope N_talker_behind p_talker_behind (defScope s_talker_behind) := ⟨rfl, rfl, rfl, by decide +kernel, rfl, by decide +kernel, by decide +kernel⟩
theorem d_talker_behind (Z : Glob K mg) (Dx : Df K mg "talker_behind" "talker_behind" s_talker_behind p_talker_behind) (D_hearing_of : ∀ T, DOk P w K mg base 1 "hearing_of" (spD (kw P w K mg base) T F_hearing_of)) (D_is_whole : ∀ T, DOk P w K mg base 2 "is_whole" (spD (kw P w K mg base) T F_is_whole)) : DOk P w K mg base 3 "talker_behind" (spD (kw P w K mg base) T F_talker_behind) := by
  refine dok_data (body := B_talker_behind) Dx sc_talker_behind rfl rfl fun f cdv A outer s H E hr => ?_
  have nd := (sc_talker_behind).nd
  unfold B_talker_behind
  exact (qss_cons (q_asg (q_var 0) (qg_tup (qgs_cons (qg_name 6 nd) (qgs_cons (qg_name 7 nd) (qgs_cons (qg_name 8 nd) (qgs_cons (qg_name 9 nd) qgs_nil)))) (glen_cons (glen_cons (glen_cons (glen_cons glen_nil))))))
  (qss_cons (q_set 5 nd (q_if (qt_cmp (o_eq hr) (q_var 3) q_int) q_str (q_call ((D_hearing_of _).at hr) (qa_cons (q_ix i_any (q_var 1) q_int) (qa_cons (q_var 2) (qa_cons (q_var 3) qa_nil))))))
  (qss_cons (q_ifS (qt_cmp (o_ne hr) (q_var 2) q_int) (qss_cons (q_ifS (qt_w (qw_or (qt_cmp (o_eq hr) (q_var 2) q_int) (qw_or1 (qt_w (qw_and (qt_val (q_var 8)) (qw_and1 (qt_cmp (o_ne hr) (q_var 3) q_int))))))) (qss_one (q_ret (q_tup (qa_cons (q_gc Z.c_QUIET) (qa_cons q_int (qa_cons (q_var 5) qa_nil)))))) qss_nil)
  (qss_one (q_ret (q_tup (qa_cons (q_gc Z.c_SPEAKS) (qa_cons (q_if (qt_cmp (o_eq hr) (q_var 2) q_int) q_int (q_bin o_add (q_ix i_any (q_var 1) q_int) q_int)) (qa_cons (q_var 5) qa_nil))))))) qss_nil)
  (qss_cons (q_ifS (qt_cmp (o_eq hr) (q_var 3) q_int) (qss_one (q_ret (q_tup (qa_cons (q_gc Z.c_QUIET) (qa_cons (q_callB (f_min2) Z.z_min boot_min (qa_cons (q_ix i_any (q_var 7) q_int) (qa_cons (q_bin o_add (q_ix i_any (q_var 1) q_int) q_int) qa_nil))) (qa_cons (q_var 5) qa_nil)))))) qss_nil)
  (qss_one (q_ret (q_tup (qa_cons (q_gc Z.c_QUIET) (qa_cons (q_if (qt_w (qw_and (qt_val (q_var 4)) (qw_and1 (qt_val (q_call ((D_is_whole _).at hr) (qa_cons (q_var 1) (qa_cons (q_var 2) (qa_cons (q_var 3) qa_nil)))))))) (q_ix i_any (q_var 7) q_int) q_int) (qa_cons (q_var 5) qa_nil))))))))))
abbrev s_behind : Stmt := topS 25
abbrev N_behind : List Str := ["plan", "stand", "choice", "number", "said", "heard", "found", "line", "sign"]
abbrev p_behind : List Str := ["plan", "stand", "choice"]
theorem sc_behind : FnScope N_behind p_behind (defScope s_behind) := ⟨rfl, rfl, rfl, by decide +kernel, rfl, by decide +kernel, by decide +kernel⟩
theorem d_behind (Z : Glob K mg) (Dx : Df K mg "behind" "behind" s_behind p_behind) (D_signs_of : ∀ T, DOk P w K mg base 2 "signs_of" (spD (kw P w K mg base) T F_signs_of)) (D_heard_by : ∀ T, DOk P w K mg base 1 "heard_by" (spD (kw P w K mg base) T F_heard_by)) (D_talker_behind : ∀ T, DOk P w K mg base 3 "talker_behind" (spD (kw P w K mg base) T F_talker_behind)) : DOk P w K mg base 4 "behind" (spD (kw P w K mg base) T F_behind) := by
  refine dok_data (body := B_behind) Dx sc_behind rfl rfl fun f cdv A outer s H E hr => ?_
  have nd := (sc_behind).nd
  unfold B_behind
  exact (qss_cons (q_par3O 4 5 6 nd (q_call ((D_signs_of _).at hr) (qa_cons (q_var 1) (qa_cons (q_var 2) qa_nil))) (q_call ((D_heard_by _).at hr) (qa_cons (q_var 1) qa_nil)))
  (qss_cons (q_for (qi_range1 Z.z_range (qa_cons q_int qa_nil)) (qg_name 3 nd) (qss_one (q_app 6 (q_call ((D_talker_behind _).at hr) (qa_cons (q_ix i_any (q_ix i_any (q_var 0) q_int) (q_var 3)) (qa_cons (q_ix i_any (q_ix i_any (q_var 1) q_int) (q_var 3)) (qa_cons (q_ix i_any (q_var 4) (q_var 3)) (qa_cons (q_ix i_any (q_var 5) (q_var 3)) (qa_cons (q_ix i_any (q_var 0) q_int) qa_nil)))))))))
  (qss_one (q_ret (q_tup (qa_cons (q_callTy f_tuple Z.z_tuple boot_tuple (qa_cons (q_take 6) qa_nil)) (qa_cons (q_callTy f_tuple Z.z_tuple boot_tuple (qa_cons (q_lc [("line", 7), ("sign", 8)] nd (qi_zip Z.z_zip (qa_cons (q_ix i_any (q_var 1) q_int) (qa_cons (q_var 4) qa_nil))) (blkOk_by (N := N_behind) (sc := (defScope s_behind)) (by decide +kernel)) (by decide) (fun _ _ _ _ _ => (qg_tup (qgs_cons (qg_name 7 nd) (qgs_cons (qg_name 8 nd) qgs_nil)) (glen_cons (glen_cons glen_nil)))) (fun _ _ _ _ _ => qts_nil) (fun _ _ _ _ _ => (q_bin o_add (q_slice (q_var 7) (qo_some q_int) qo_none) (q_tup (qa_cons (q_var 8) qa_nil))))) qa_nil)) qa_nil)))))))
abbrev s_whole_by : Stmt := topS 26
abbrev N_whole_by : List Str := ["stand", "choice", "said", "heard", "number"]
abbrev p_whole_by : List Str := ["stand", "choice"]
theorem sc_whole_by : FnScope N_whole_by p_whole_by (defScope s_whole_by) := ⟨rfl, rfl, rfl, by decide +kernel, rfl, by decide +kernel, by decide +kernel⟩
theorem d_whole_by (Z : Glob K mg) (Dx : Df K mg "whole_by" "whole_by" s_whole_by p_whole_by) (D_heard_by : ∀ T, DOk P w K mg base 1 "heard_by" (spD (kw P w K mg base) T F_heard_by)) (D_signs_of : ∀ T, DOk P w K mg base 2 "signs_of" (spD (kw P w K mg base) T F_signs_of)) (D_is_whole : ∀ T, DOk P w K mg base 2 "is_whole" (spD (kw P w K mg base) T F_is_whole)) : DOk P w K mg base 3 "whole_by" (spD (kw P w K mg base) T F_whole_by) := by
  refine dok_data (body := B_whole_by) Dx sc_whole_by rfl rfl fun f cdv A outer s H E hr => ?_
  have nd := (sc_whole_by).nd
  unfold B_whole_by
  exact (qss_cons (q_asg (q_tup (qa_cons (q_call ((D_signs_of _).at hr) (qa_cons (q_var 0) (qa_cons (q_var 1) qa_nil))) (qa_cons (q_call ((D_heard_by _).at hr) (qa_cons (q_var 0) qa_nil)) qa_nil))) (qg_tup (qgs_cons (qg_name 2 nd) (qgs_cons (qg_name 3 nd) qgs_nil)) (glen_cons (glen_cons glen_nil))))
  (qss_one (q_ret (q_callTy f_tuple Z.z_tuple boot_tuple (qa_cons (q_lc [("number", 4)] nd (qi_seq (q_tup (qa_cons q_int (qa_cons q_int qa_nil)))) (blkOk_by (N := N_whole_by) (sc := (defScope s_whole_by)) (by decide +kernel)) (by decide) (fun _ _ _ _ _ => (qg_name 4 nd)) (fun _ _ _ _ _ => (qts_one (qt_val (q_call ((D_is_whole _).at hr) (qa_cons (q_ix i_any (q_ix i_any (q_var 0) q_int) (q_var 4)) (qa_cons (q_ix i_any (q_var 2) (q_var 4)) (qa_cons (q_ix i_any (q_var 3) (q_var 4)) qa_nil))))))) (fun _ _ _ _ _ => (q_bin o_isub q_int (q_var 4)))) qa_nil)))))
abbrev s_ways_by : Stmt := topS 28
abbrev N_ways_by : List Str := ["plan", "first", "found", "waiting", "at", "stand", "choice", "there"]
abbrev p_ways_by : List Str := ["plan"]
theorem sc_ways_by : FnScope N_ways_by p_ways_by (defScope s_ways_by) := ⟨rfl, rfl, rfl, by decide +kernel, rfl, by decide +kernel, by decide +kernel⟩
theorem d_ways_by (Z : Glob K mg) (Dx : Df K mg "ways_by" "ways_by" s_ways_by p_ways_by) (D_begin_of : ∀ T, DOk P w K mg base 1 "begin_of" (spD (kw P w K mg base) T F_begin_of)) (D_choices_of : ∀ T, DOk P w K mg base 2 "choices_of" (spD (kw P w K mg base) T F_choices_of)) (D_behind : ∀ T, DOk P w K mg base 4 "behind" (spD (kw P w K mg base) T F_behind)) : DOk P w K mg base 5 "ways_by" (spD (kw P w K mg base) T F_ways_by) := by
  refine dok_data (body := B_ways_by) Dx sc_ways_by rfl rfl fun f cdv A outer s H E hr => ?_
  have nd := (sc_ways_by).nd
  unfold B_ways_by
  exact (qss_cons (q_set 1 nd (q_call ((D_begin_of _).at hr) (qa_cons (q_var 0) qa_nil)))
  (qss_cons (q_par3F 2 3 4 nd (qfs_cons (qf_d1 hr (q_var 1) (q_tup qa_nil)) (qfs_cons (qf_lst (qa_cons (q_var 1) qa_nil)) (qfs_cons (qf_dat q_int) qfs_nil))))
  (qss_cons (q_while (qt_cmp o_lt (q_var 4) (q_lenO 3 Z.z_len)) (qss_cons (q_set 5 nd (q_ixO 3 (q_var 4)))
  (qss_cons (q_set 4 nd (q_bin o_add (q_var 4) q_int))
  (qss_one (q_for (qi_seq (q_call ((D_choices_of _).at hr) (qa_cons (q_var 0) (qa_cons (q_var 5) qa_nil)))) (qg_name 6 nd) (qss_cons (q_set 7 nd (q_call ((D_behind _).at hr) (qa_cons (q_var 0) (qa_cons (q_var 5) (qa_cons (q_var 6) qa_nil)))))
  (qss_one (q_ifS (qt_dNin 2 hr (q_var 7)) (qss_cons (q_asg (q_bin o_add (q_dIx 2 hr (q_var 5)) (q_tup (qa_cons (q_var 6) qa_nil))) (qg_dSet 2 hr (q_var 7)))
  (qss_one (q_app 3 (q_var 7)))) qss_nil))))))))
  (qss_one (q_ret (q_dTake 2))))))
abbrev s_longest_way : Stmt := topS 29
abbrev N_longest_way : List Str := ["nexts", "stand", "open_ways", "many", "left", "back", "waiting", "done", "there", "other"]
abbrev p_longest_way : List Str := ["nexts"]
theorem sc_longest_way : FnScope N_longest_way p_longest_way (defScope s_longest_way) := ⟨rfl, rfl, rfl, by decide +kernel, rfl, by decide +kernel, by decide +kernel⟩
theorem d_longest_way (Z : Glob K mg) (Dx : Df K mg "longest_way" "longest_way" s_longest_way p_longest_way)  : DOk P w K mg base 1 "longest_way" (spD (kw P w K mg base) T F_longest_way) := by
  refine dok_data (body := B_longest_way) Dx sc_longest_way rfl rfl fun f cdv A outer s H E hr => ?_
  have nd := (sc_longest_way).nd
  unfold B_longest_way
  exact (qss_cons (q_par2C 3 4 nd (qfs_cons (qf_dc hr [("stand", 1)] nd (qi_keys (q_var 0)) (blkOk_by (N := N_longest_way) (sc := (defScope s_longest_way)) (by decide +kernel)) (by decide) (fun _ _ _ _ _ => (qg_name 1 nd)) (fun _ _ _ _ _ => (q_var 1)) (fun _ _ _ _ _ => q_int)) (qfs_cons qf_d0 qfs_nil)))
  (qss_cons (q_for (qi_keys (q_var 0)) (qg_name 1 nd) (qss_one (q_asg (q_lc [("there", 8)] nd (qi_seq (q_ix (i_dct hr) (q_var 0) (q_var 1))) (blkOk_by (N := N_longest_way) (sc := (defScope s_longest_way)) (by decide +kernel)) (by decide) (fun _ _ _ _ _ => (qg_name 8 nd)) (fun _ _ _ _ _ => (qts_one (qt_cmp (o_dIn hr) (q_var 8) (q_var 0)))) (fun _ _ _ _ _ => (q_var 8))) (qg_dSet 4 hr (q_var 1)))))
  (qss_cons (q_par3F 5 6 7 nd (qfs_cons (qf_dcL hr [("stand", 1)] nd (qi_keys (q_var 0)) (blkOk_by (N := N_longest_way) (sc := (defScope s_longest_way)) (by decide +kernel)) (by decide) (fun _ _ _ _ _ => (qg_name 1 nd)) (fun _ _ _ _ _ => (q_var 1))) (qfs_cons (qf_lst qa_nil) (qfs_cons (qf_dat q_int) qfs_nil))))
  (qss_cons (q_for (qi_keys (q_var 0)) (qg_name 1 nd) (qss_cons (q_asg (q_callTy f_int Z.z_int boot_int (qa_cons (q_cmp o_gt (q_callB f_len Z.z_len PySem.boot_len (qa_cons (q_ix (i_dct hr) (q_var 0) (q_var 1)) qa_nil)) q_int) qa_nil)) (qg_dSet 3 hr (q_var 1)))
  (qss_cons (q_for (qi_seq (q_dIx 4 hr (q_var 1))) (qg_name 8 nd) (qss_one (q_dApp 5 hr (qp_var 8) (qp_var 1) (hs := fun h1 h2 => pe_bm PySem.F.plainAttrs_list PySem.F.slot_list_append PySem.F.type_list_append mt_append h1 h2))))
  (qss_one (q_ifS (qt_cmp (o_eq hr) (q_dIx 4 hr (q_var 1)) (q_lst qa_nil)) (qss_one (q_app 6 (q_var 1))) qss_nil)))))
  (qss_cons (q_thaw 5 (q_setDc hr [("stand", 1)] 2 nd (qi_keys (q_var 0)) (blkOk_by (N := N_longest_way) (sc := (defScope s_longest_way)) (by decide +kernel)) (by decide) (swd_true rfl rfl rfl (by decide +kernel)) (fun _ _ _ _ _ => (qg_name 1 nd)) (fun _ _ _ _ _ => (q_var 1)) (fun _ _ _ _ _ => (q_callB f_len Z.z_len PySem.boot_len (qa_cons (q_dIx 4 hr (q_var 1)) qa_nil)))))
  (qss_cons (q_while (qt_neNil 6 hr) (qss_cons (q_set 1 nd (q_pop 6))
  (qss_cons (q_set 7 nd (q_bin o_add (q_var 7) q_int))
  (qss_one (q_for (qi_seq (q_dIx 5 hr (q_var 1))) (qg_name 9 nd) (qss_cons (q_asg (q_callB (f_max2) Z.z_max boot_max (qa_cons (q_dIx 3 hr (q_var 9)) (qa_cons (q_bin o_add (q_dIx 3 hr (q_var 1)) q_int) qa_nil))) (qg_dSet 3 hr (q_var 9)))
  (qss_cons (q_asg (q_bin o_isub (q_dIx 2 hr (q_var 9)) q_int) (qg_dSet 2 hr (q_var 9)))
  (qss_one (q_ifS (qt_cmp (o_eq hr) (q_dIx 2 hr (q_var 9)) q_int) (qss_one (q_app 6 (q_var 9))) qss_nil)))))))))
  (qss_one (q_ret (q_if (qt_cmp o_lt (q_var 7) (q_callB f_lenD Z.z_len PySem.boot_len (qa_cons (q_var 0) qa_nil))) q_non (q_callB (f_maxL) Z.z_max boot_max (qa_cons (q_bin o_add (q_lst (qa_cons q_int qa_nil)) (q_listVals Z.z_list (q_dTake 3))) qa_nil)))))))))))
abbrev s_steps_by : Stmt := topS 30
abbrev N_steps_by : List Str := ["plan", "good", "found", "stand", "choice"]
abbrev p_steps_by : List Str := ["plan", "good"]
theorem sc_steps_by : FnScope N_steps_by p_steps_by (defScope s_steps_by) := ⟨rfl, rfl, rfl, by decide +kernel, rfl, by decide +kernel, by decide +kernel⟩
theorem d_steps_by (Z : Glob K mg) (Dx : Df K mg "steps_by" "steps_by" s_steps_by p_steps_by) (D_ways_by : ∀ T, DOk P w K mg base 5 "ways_by" (spD (kw P w K mg base) T F_ways_by)) (D_choices_of : ∀ T, DOk P w K mg base 2 "choices_of" (spD (kw P w K mg base) T F_choices_of)) (D_behind : ∀ T, DOk P w K mg base 4 "behind" (spD (kw P w K mg base) T F_behind)) : DOk P w K mg base 7 "steps_by" (spS (kw P w K mg base) T F_steps_by) := by
  refine dok_dataS (body := B_steps_by) Dx sc_steps_by rfl rfl fun f cdv A outer s H E hr => ?_
  have nd := (sc_steps_by).nd
  unfold B_steps_by
  exact (qss_cons (q_set1 2 nd qf_d0)
  (qss_cons (q_for (qi_keys (q_call ((D_ways_by _).at hr) (qa_cons (q_var 0) qa_nil))) (qg_name 3 nd) (qss_one (q_asg (q_lc [("choice", 4)] nd (qi_seq (q_call ((D_choices_of _).at hr) (qa_cons (q_var 0) (qa_cons (q_var 3) qa_nil)))) (blkOk_by (N := N_steps_by) (sc := (defScope s_steps_by)) (by decide +kernel)) (by decide) (fun _ _ _ _ _ => (qg_name 4 nd)) (fun _ _ _ _ _ => (qts_one (qt_val (q_callV 1 (kk := 6) (hr.mono (by decide)) (qa_cons (q_var 3) (qa_cons (q_var 4) qa_nil)))))) (fun _ _ _ _ _ => (q_call ((D_behind _).at hr) (qa_cons (q_var 0) (qa_cons (q_var 3) (qa_cons (q_var 4) qa_nil)))))) (qg_dSet 2 hr (q_var 3)))))
  (qss_one (q_ret (q_dTake 2)))))
abbrev s_unheard_by : Stmt := topS 32
abbrev N_unheard_by : List Str := ["plan", "talker"]
abbrev p_unheard_by : List Str := ["plan", "talker"]
theorem sc_unheard_by : FnScope N_unheard_by p_unheard_by (defScope s_unheard_by) := ⟨rfl, rfl, rfl, by decide +kernel, rfl, by decide +kernel, by decide +kernel⟩
theorem d_unheard_by (Z : Glob K mg) (Dx : DfL K mg base T "unheard_by" "unheard_by" s_unheard_by p_unheard_by) (D_longest_way : ∀ T, DOk P w K mg base 1 "longest_way" (spD (kw P w K mg base) T F_longest_way)) (D_steps_by : ∀ T, DOk P w K mg base 7 "steps_by" (spS (kw P w K mg base) T F_steps_by)) (D_whole_by : ∀ T, DOk P w K mg base 3 "whole_by" (spD (kw P w K mg base) T F_whole_by)) : DOk P w K mg base 8 "unheard_by" (spD (kw P w K mg base) T F_unheard_by) := by
  refine dok_dataL (body := B_unheard_by) Dx sc_unheard_by rfl rfl fun f cdv A outer s H E LD hr => ?_
  have nd := (sc_unheard_by).nd
  unfold B_unheard_by
  exact (qss_one (q_ret (q_call ((D_longest_way _).at hr) (qa_cons (q_callL ((D_steps_by _).at hr) (qls_dat (q_var 0) (qls_lam LD (lamFit_by (k := 3) (a := "stand") (b := "choice") (cap := ["talker"]) (nn := 3) (fm := Lm_unheard_by_0) (js := [1]) (by decide +kernel) (fun T A outer s H cl f c hr => by unfold Lm_unheard_by_0; exact (q_cmp (o_nin hr) (q_var 2) (q_call ((D_whole_by _).at hr) (qa_cons (q_var 0) (qa_cons (q_var 1) qa_nil)))))) qls_nil))) qa_nil))))
abbrev s_longest_unheard : Stmt := topS 33
abbrev N_longest_unheard : List Str := ["plan", "talker"]
abbrev p_longest_unheard : List Str := ["plan", "talker"]
theorem sc_longest_unheard : FnScope N_longest_unheard p_longest_unheard (defScope s_longest_unheard) := ⟨rfl, rfl, rfl, by decide +kernel, rfl, by decide +kernel, by decide +kernel⟩
theorem d_longest_unheard (Z : Glob K mg) (Dx : Df K mg "longest_unheard" "longest_unheard" s_longest_unheard p_longest_unheard) (D_look_at_plan : ∀ T, DOk P w K mg base 5 "look_at_plan" (spD (kw P w K mg base) T F_look_at_plan)) (D_look_at_talker : ∀ T, DOk P w K mg base 2 "look_at_talker" (spD (kw P w K mg base) T F_look_at_talker)) (D_unheard_by : DOk P w K mg base 8 "unheard_by" (spD (kw P w K mg base) T F_unheard_by)) : DOk P w K mg base 9 "longest_unheard" (spD (kw P w K mg base) T F_longest_unheard) := by
  refine dok_data (body := B_longest_unheard) Dx sc_longest_unheard rfl rfl fun f cdv A outer s H E hr => ?_
  have nd := (sc_longest_unheard).nd
  unfold B_longest_unheard
  exact (qss_cons (q_drop (q_call ((D_look_at_plan _).at hr) (qa_cons (q_var 0) qa_nil)))
  (qss_cons (q_drop (q_call ((D_look_at_talker _).at hr) (qa_cons (q_var 1) qa_nil)))
  (qss_one (q_ret (q_call (D_unheard_by.at hr) (qa_cons (q_var 0) (qa_cons (q_var 1) qa_nil)))))))
abbrev s_over_saves : Stmt := topS 34
abbrev N_over_saves : List Str := ["plan", "talker", "over"]
abbrev p_over_saves : List Str := ["plan", "talker"]
theorem sc_over_saves : FnScope N_over_saves p_over_saves (defScope s_over_saves) := ⟨rfl, rfl, rfl, by decide +kernel, rfl, by decide +kernel, by decide +kernel⟩
theorem d_over_saves (Z : Glob K mg) (Dx : Df K mg "over_saves" "over_saves" s_over_saves p_over_saves) (D_look_at_plan : ∀ T, DOk P w K mg base 5 "look_at_plan" (spD (kw P w K mg base) T F_look_at_plan)) (D_look_at_talker : ∀ T, DOk P w K mg base 2 "look_at_talker" (spD (kw P w K mg base) T F_look_at_talker)) (D_unheard_by : DOk P w K mg base 8 "unheard_by" (spD (kw P w K mg base) T F_unheard_by)) : DOk P w K mg base 9 "over_saves" (spD (kw P w K mg base) T F_over_saves) := by
  refine dok_data (body := B_over_saves) Dx sc_over_saves rfl rfl fun f cdv A outer s H E hr => ?_
  have nd := (sc_over_saves).nd
  unfold B_over_saves
  exact (qss_cons (q_drop (q_call ((D_look_at_plan _).at hr) (qa_cons (q_var 0) qa_nil)))
  (qss_cons (q_drop (q_call ((D_look_at_talker _).at hr) (qa_cons (q_var 1) qa_nil)))
  (qss_one (q_ret (q_callTy f_tuple Z.z_tuple boot_tuple (qa_cons (q_lc [("over", 2)] nd (qi_seq (q_tup (qa_cons q_bl (qa_cons q_bl qa_nil)))) (blkOk_by (N := N_over_saves) (sc := (defScope s_over_saves)) (by decide +kernel)) (by decide) (fun _ _ _ _ _ => (qg_name 2 nd)) (fun _ _ _ _ _ => qts_nil) (fun _ _ _ _ _ => (q_call (D_unheard_by.at hr) (qa_cons (q_bin o_add (q_slice (q_var 0) qo_none (qo_some q_int)) (q_tup (qa_cons (q_var 2) qa_nil))) (qa_cons (q_var 1) qa_nil))))) qa_nil))))))
abbrev s__law_spring : Stmt := topS 36
abbrev N__law_spring : List Str := ["script", "at", "cell", "mixed"]
abbrev p__law_spring : List Str := ["script", "at"]
theorem sc__law_spring : FnScope N__law_spring p__law_spring (defScope s__law_spring) := ⟨rfl, rfl, rfl, by decide +kernel, rfl, by decide +kernel, by decide +kernel⟩
theorem d__law_spring (Z : Glob K mg) (Dx : Df K mg "_law_spring" "_law_spring" s__law_spring p__law_spring)  : DOk P w K mg base 1 "_law_spring" (spO (kw P w K mg base) T F__law_spring) := by
  refine dok_new (body := B__law_spring) Dx sc__law_spring rfl rfl fun f cdv A outer s H E hr => ?_
  have nd := (sc__law_spring).nd
  unfold B__law_spring
  exact (qss_cons (q_set 2 nd q_int)
  (qss_cons (q_ifS (qt_cmp o_lt (q_var 1) (q_callB f_len Z.z_len PySem.boot_len (qa_cons (q_var 0) qa_nil))) (qss_one (q_set 2 nd (q_callB f_abs Z.z_abs boot_abs (qa_cons (q_ix i_any (q_var 0) (q_var 1)) qa_nil)))) qss_nil)
  (qss_cons (q_set 3 nd (q_bin o_imod (q_callTy f_int Z.z_int boot_int (qa_cons (q_bin o_add (q_bin o_add (q_bin o_mul (q_var 2) q_int) (q_bin o_mul q_int (q_var 1))) q_int) qa_nil)) q_int))
  (qss_one (q_retO (qa_cons (q_if (qt_cmp o_ge (q_var 2) (q_bin o_ipow q_int q_int)) (q_var 2) q_int) (qa_cons (q_var 3) qa_nil)))))))
abbrev s__law_pick : Stmt := topS 37
abbrev N__law_pick : List Str := ["spring", "many", "digit"]
abbrev p__law_pick : List Str := ["spring", "many"]
theorem sc__law_pick : FnScope N__law_pick p__law_pick (defScope s__law_pick) := ⟨rfl, rfl, rfl, by decide +kernel, rfl, by decide +kernel, by decide +kernel⟩
theorem d__law_pick (Z : Glob K mg) (Dx : Df K mg "_law_pick" "_law_pick" s__law_pick p__law_pick)  : DOk P w K mg base 1 "_law_pick" (spB (kw P w K mg base) T F__law_pick) := by
  refine dok_borrow (body := B__law_pick) Dx sc__law_pick rfl rfl fun f cdv A outer s H E hr => ?_
  have nd := (sc__law_pick).nd
  unfold B__law_pick
  exact (qss_cons (q_ifS (qt_cmp o_gt (q_ixO 0 q_int) q_int) (qss_cons (q_set 2 nd (q_bin o_imod (q_callTy f_int Z.z_int boot_int (qa_cons (q_ixO 0 q_int) qa_nil)) (q_var 1)))
  (qss_cons (q_setO 0 (q_bin o_idiv (q_ixO 0 q_int) (q_var 1)) q_int)
  (qss_one (q_ret (q_var 2))))) qss_nil)
  (qss_cons (q_setO 0 (q_bin o_imod (q_callTy f_int Z.z_int boot_int (qa_cons (q_bin o_add (q_bin o_mul (q_ixO 0 q_int) q_int) q_int) qa_nil)) q_int) q_int)
  (qss_one (q_ret (q_bin o_imod (q_callTy f_int Z.z_int boot_int (qa_cons (q_bin o_idiv (q_ixO 0 q_int) q_int) qa_nil)) (q_var 1))))))
abbrev s__law_kind : Stmt := topS 38
abbrev N__law_kind : List Str := ["value"]
abbrev p__law_kind : List Str := ["value"]
theorem sc__law_kind : FnScope N__law_kind p__law_kind (defScope s__law_kind) := ⟨rfl, rfl, rfl, by decide +kernel, rfl, by decide +kernel, by decide +kernel⟩
theorem d__law_kind (Z : Glob K mg) (Dx : Df K mg "_law_kind" "_law_kind" s__law_kind p__law_kind)  : DOk P w K mg base 1 "_law_kind" (spD (kw P w K mg base) T F__law_kind) := by
  refine dok_data (body := B__law_kind) Dx sc__law_kind rfl rfl fun f cdv A outer s H E hr => ?_
  have nd := (sc__law_kind).nd
  unfold B__law_kind
  exact (qss_cons (q_ifS (qt_w (qw_or (qt_cmp o_isn (q_var 0) q_non) (qw_or1 (qt_val (q_isi .bool (q_var 0) rfl Z.z_isinstance Z.z_bool))))) (qss_one (q_ret (q_if (qt_cmp o_isn (q_var 0) q_non) q_int q_int))) qss_nil)
  (qss_cons (q_ifS (qt_val (q_isi2 .lst .tup (q_var 0) rfl rfl Z.z_isinstance Z.z_list Z.z_tuple)) (qss_one (q_ret (q_if (qt_val (q_isi .lst (q_var 0) rfl Z.z_isinstance Z.z_list)) q_int q_int))) qss_nil)
  (qss_one (q_ret (q_if (qt_val (q_isi .int (q_var 0) rfl Z.z_isinstance Z.z_int)) q_int (q_if (qt_val (q_isi .str (q_var 0) rfl Z.z_isinstance Z.z_str)) q_int q_int))))))
abbrev s__law_twins : Stmt := topS 39
abbrev N__law_twins : List Str := ["one", "other", "a", "b"]
abbrev p__law_twins : List Str := ["one", "other"]
theorem sc__law_twins : FnScope N__law_twins p__law_twins (defScope s__law_twins) := ⟨rfl, rfl, rfl, by decide +kernel, rfl, by decide +kernel, by decide +kernel⟩
theorem d__law_twins (Z : Glob K mg) (Dx : Df K mg "_law_twins" "_law_twins" s__law_twins p__law_twins) (D__law_kind : ∀ T, DOk P w K mg base 1 "_law_kind" (spD (kw P w K mg base) T F__law_kind)) : ∀ n : Nat, DOk P w K mg base (1 + n) "_law_twins" (spD (kw P w K mg base) T (F__law_twins n))
  | 0 => dok_noneD Dx
  | n + 1 => dok_data (body := B__law_twins (F__law_twins n)) Dx sc__law_twins rfl rfl fun f cdv A outer s H E hr => by
    have ih := d__law_twins Z Dx D__law_kind n
    have nd := (sc__law_twins).nd
    unfold B__law_twins
    exact (qss_cons (q_ifS (qt_cmp (o_ne hr) (q_call ((D__law_kind _).at hr (Nat.le_add_right_of_le (by decide))) (qa_cons (q_var 0) qa_nil)) (q_call ((D__law_kind _).at hr (Nat.le_add_right_of_le (by decide))) (qa_cons (q_var 1) qa_nil))) (qss_one (q_ret q_bl)) qss_nil)
  (qss_cons (q_ifS (qt_cmp (o_in hr) (q_call ((D__law_kind _).at hr (Nat.le_add_right_of_le (by decide))) (qa_cons (q_var 0) qa_nil)) (q_lst (qa_cons q_int (qa_cons q_int qa_nil)))) (qss_one (q_ret (q_and (q_cmp (o_eq hr) (q_callB f_len Z.z_len PySem.boot_len (qa_cons (q_var 0) qa_nil)) (q_callB f_len Z.z_len PySem.boot_len (qa_cons (q_var 1) qa_nil))) (q_one (q_cmp (o_eq hr) (q_lc [("a", 2), ("b", 3)] nd (qi_zip Z.z_zip (qa_cons (q_var 0) (qa_cons (q_var 1) qa_nil))) (blkOk_by (N := N__law_twins) (sc := (defScope s__law_twins)) (by decide +kernel)) (by decide) (fun _ _ _ _ _ => (qg_tup (qgs_cons (qg_name 2 nd) (qgs_cons (qg_name 3 nd) qgs_nil)) (glen_cons (glen_cons glen_nil)))) (fun _ _ _ _ _ => (qts_one (qt_not (qt_val (q_call (ih.at hr (Nat.le_refl _)) (qa_cons (q_var 2) (qa_cons (q_var 3) qa_nil))))))) (fun _ _ _ _ _ => q_int)) (q_lst qa_nil)))))) qss_nil)
  (qss_one (q_ret (q_cmp (o_eq hr) (q_var 0) (q_var 1))))))
abbrev s__law_habit : Stmt := topS 40
abbrev N__law_habit : List Str := ["spring", "most", "low", "sentence", "pause"]
abbrev p__law_habit : List Str := ["spring", "most"]
theorem sc__law_habit : FnScope N__law_habit p__law_habit (defScope s__law_habit) := ⟨rfl, rfl, rfl, by decide +kernel, rfl, by decide +kernel, by decide +kernel⟩
theorem d__law_habit (Z : Glob K mg) (Dx : Df K mg "_law_habit" "_law_habit" s__law_habit p__law_habit) (D__law_pick : ∀ T, DOk P w K mg base 1 "_law_pick" (spB (kw P w K mg base) T F__law_pick)) : DOk P w K mg base 2 "_law_habit" (spB (kw P w K mg base) T F__law_habit) := by
  refine dok_borrow (body := B__law_habit) Dx sc__law_habit rfl rfl fun f cdv A outer s H E hr => ?_
  have nd := (sc__law_habit).nd
  unfold B__law_habit
  exact (qss_cons (q_set 2 nd (q_bin o_add q_int (q_bor 0 ((D__law_pick _).at hr) (qa_cons q_int qa_nil))))
  (qss_cons (q_set 3 nd (q_tup (qa_cons (q_var 2) (qa_cons (q_callB (f_min2) Z.z_min boot_min (qa_cons q_int (qa_cons (q_bin o_add (q_var 2) (q_ix i_any (q_lst (qa_cons q_int (qa_cons q_int (qa_cons q_int qa_nil)))) (q_bor 0 ((D__law_pick _).at hr) (qa_cons q_int qa_nil)))) qa_nil))) qa_nil))))
  (qss_cons (q_set 2 nd (q_bin o_add q_int (q_bor 0 ((D__law_pick _).at hr) (qa_cons (q_var 1) qa_nil))))
  (qss_cons (q_set 4 nd (q_tup (qa_cons (q_var 2) (qa_cons (q_callB (f_min2) Z.z_min boot_min (qa_cons q_int (qa_cons (q_bin o_add (q_var 2) (q_ix i_any (q_lst (qa_cons q_int (qa_cons q_int (qa_cons q_int (qa_cons q_int qa_nil))))) (q_bor 0 ((D__law_pick _).at hr) (qa_cons q_int qa_nil)))) qa_nil))) qa_nil))))
  (qss_one (q_ret (q_tup (qa_cons (q_var 3) (qa_cons (q_var 4) (qa_cons (q_cmp o_gt (q_bor 0 ((D__law_pick _).at hr) (qa_cons q_int qa_nil)) q_int) (qa_cons (q_cmp o_gt (q_bor 0 ((D__law_pick _).at hr) (qa_cons q_int qa_nil)) q_int) qa_nil)))))))))))
abbrev s__law_size : Stmt := topS 41
abbrev N__law_size : List Str := ["plan", "size", "habit", "delay"]
abbrev p__law_size : List Str := ["plan"]
theorem sc__law_size : FnScope N__law_size p__law_size (defScope s__law_size) := ⟨rfl, rfl, rfl, by decide +kernel, rfl, by decide +kernel, by decide +kernel⟩
theorem d__law_size (Z : Glob K mg) (Dx : Df K mg "_law_size" "_law_size" s__law_size p__law_size)  : DOk P w K mg base 1 "_law_size" (spD (kw P w K mg base) T F__law_size) := by
  refine dok_data (body := B__law_size) Dx sc__law_size rfl rfl fun f cdv A outer s H E hr => ?_
  have nd := (sc__law_size).nd
  unfold B__law_size
  exact (qss_cons (q_set 1 nd q_int)
  (qss_cons (q_for (qi_zip Z.z_zip (qa_cons (q_ix i_any (q_var 0) q_int) (qa_cons (q_ix i_any (q_var 0) q_int) qa_nil))) (qg_tup (qgs_cons (qg_name 2 nd) (qgs_cons (qg_name 3 nd) qgs_nil)) (glen_cons (glen_cons glen_nil))) (qss_one (q_set 1 nd (q_bin o_mul (q_bin o_mul (q_bin o_mul (q_var 1) q_int) (q_bin o_add (q_bin o_add (q_ix i_any (q_ix i_any (q_var 2) q_int) q_int) (q_ix i_any (q_ix i_any (q_var 2) q_int) q_int)) q_int)) (q_bin o_add q_int (q_bin o_mul q_int (q_var 3)))))))
  (qss_one (q_ret (q_var 1)))))
abbrev s__law_plan : Stmt := topS 42
abbrev N__law_plan : List Str := ["spring", "bound", "habits", "delays", "plan"]
abbrev p__law_plan : List Str := ["spring", "bound"]
theorem sc__law_plan : FnScope N__law_plan p__law_plan (defScope s__law_plan) := ⟨rfl, rfl, rfl, by decide +kernel, rfl, by decide +kernel, by decide +kernel⟩
theorem d__law_plan (Z : Glob K mg) (Dx : Df K mg "_law_plan" "_law_plan" s__law_plan p__law_plan) (D__law_habit : ∀ T, DOk P w K mg base 2 "_law_habit" (spB (kw P w K mg base) T F__law_habit)) (D__law_pick : ∀ T, DOk P w K mg base 1 "_law_pick" (spB (kw P w K mg base) T F__law_pick)) (D__law_size : ∀ T, DOk P w K mg base 1 "_law_size" (spD (kw P w K mg base) T F__law_size)) : DOk P w K mg base 3 "_law_plan" (spB (kw P w K mg base) T F__law_plan) := by
  refine dok_borrow (body := B__law_plan) Dx sc__law_plan rfl rfl fun f cdv A outer s H E hr => ?_
  have nd := (sc__law_plan).nd
  unfold B__law_plan
  exact (qss_cons (q_set 2 nd (q_tup (qa_cons (q_bor 0 ((D__law_habit _).at hr) (qa_cons q_int qa_nil)) (qa_cons (q_bor 0 ((D__law_habit _).at hr) (qa_cons q_int qa_nil)) qa_nil))))
  (qss_cons (q_set 3 nd (q_tup (qa_cons (q_bin o_add q_int (q_bor 0 ((D__law_pick _).at hr) (qa_cons q_int qa_nil))) (qa_cons (q_bin o_add q_int (q_bor 0 ((D__law_pick _).at hr) (qa_cons q_int qa_nil))) qa_nil))))
  (qss_cons (q_set 4 nd (q_tup (qa_cons (q_var 2) (qa_cons (q_var 3) (qa_cons (q_cmp (o_eq hr) (q_bor 0 ((D__law_pick _).at hr) (qa_cons q_int qa_nil)) q_int) qa_nil)))))
  (qss_cons (q_ifS (qt_cmp o_gt (q_call ((D__law_size _).at hr) (qa_cons (q_var 4) qa_nil)) (q_var 1)) (qss_one (q_set 4 nd (q_tup (qa_cons (q_var 2) (qa_cons (q_tup (qa_cons q_int (qa_cons q_int qa_nil))) (qa_cons (q_ix i_any (q_var 4) q_int) qa_nil)))))) qss_nil)
  (qss_cons (q_ifS (qt_cmp o_gt (q_call ((D__law_size _).at hr) (qa_cons (q_var 4) qa_nil)) (q_var 1)) (qss_one (q_set 4 nd (q_tup (qa_cons (q_tup (qa_cons (q_ix i_any (q_var 2) q_int) (qa_cons (q_tup (qa_cons (q_tup (qa_cons q_int (qa_cons q_int qa_nil))) (qa_cons (q_tup (qa_cons q_int (qa_cons q_int qa_nil))) (qa_cons (q_ix i_any (q_ix i_any (q_var 2) q_int) q_int) (qa_cons q_bl qa_nil))))) qa_nil))) (qa_cons (q_tup (qa_cons q_int (qa_cons q_int qa_nil))) (qa_cons (q_ix i_any (q_var 4) q_int) qa_nil)))))) qss_nil)
  (qss_cons (q_ifS (qt_cmp o_gt (q_call ((D__law_size _).at hr) (qa_cons (q_var 4) qa_nil)) (q_var 1)) (qss_one (q_set 4 nd (q_tup (qa_cons (q_tup (qa_cons (q_tup (qa_cons (q_tup (qa_cons q_int (qa_cons q_int qa_nil))) (qa_cons (q_tup (qa_cons q_int (qa_cons q_int qa_nil))) (qa_cons q_bl (qa_cons q_bl qa_nil))))) (qa_cons (q_ix i_any (q_ix i_any (q_var 4) q_int) q_int) qa_nil))) (qa_cons (q_tup (qa_cons q_int (qa_cons q_int qa_nil))) (qa_cons (q_ix i_any (q_var 4) q_int) qa_nil)))))) qss_nil)
  (qss_one (q_ret (q_var 4)))))))))
abbrev s__law_first : Stmt := topS 43
abbrev N__law_first : List Str := ["plan"]
abbrev p__law_first : List Str := ["plan"]
theorem sc__law_first : FnScope N__law_first p__law_first (defScope s__law_first) := ⟨rfl, rfl, rfl, by decide +kernel, rfl, by decide +kernel, by decide +kernel⟩
theorem d__law_first (Z : Glob K mg) (Dx : Df K mg "_law_first" "_law_first" s__law_first p__law_first)  : DOk P w K mg base 1 "_law_first" (spD (kw P w K mg base) T F__law_first) := by
  refine dok_data (body := B__law_first) Dx sc__law_first rfl rfl fun f cdv A outer s H E hr => ?_
  have nd := (sc__law_first).nd
  unfold B__law_first
  exact (qss_one (q_ret (q_tup (qa_cons (q_tup (qa_cons (q_tup (qa_cons q_str (qa_cons q_int (qa_cons q_str qa_nil)))) (qa_cons (q_tup (qa_cons q_str (qa_cons q_int (qa_cons q_str qa_nil)))) qa_nil))) (qa_cons (q_tup (qa_cons (q_bin o_mul (q_tup (qa_cons q_int qa_nil)) (q_ix i_any (q_ix i_any (q_var 0) q_int) q_int)) (qa_cons (q_bin o_mul (q_tup (qa_cons q_int qa_nil)) (q_ix i_any (q_ix i_any (q_var 0) q_int) q_int)) qa_nil))) qa_nil)))))
abbrev s__law_options : Stmt := topS 44
abbrev N__law_options : List Str := ["habit", "part", "length", "stay"]
abbrev p__law_options : List Str := ["habit", "part"]
theorem sc__law_options : FnScope N__law_options p__law_options (defScope s__law_options) := ⟨rfl, rfl, rfl, by decide +kernel, rfl, by decide +kernel, by decide +kernel⟩
theorem d__law_options (Z : Glob K mg) (Dx : Df K mg "_law_options" "_law_options" s__law_options p__law_options)  : DOk P w K mg base 1 "_law_options" (spD (kw P w K mg base) T F__law_options) := by
  refine dok_data (body := B__law_options) Dx sc__law_options rfl rfl fun f cdv A outer s H E hr => ?_
  have nd := (sc__law_options).nd
  unfold B__law_options
  exact (qss_cons (q_ifS (qt_cmp (o_eq hr) (q_ix i_any (q_var 1) q_int) q_str) (qss_cons (q_set 3 nd (q_not (q_and (q_ix i_any (q_var 0) q_int) (q_one (q_cmp (o_eq hr) (q_ix i_any (q_var 1) q_int) (q_ix i_any (q_ix i_any (q_var 0) q_int) q_int))))))
  (qss_one (q_ret (q_bin o_add (q_bin o_mul (q_lst (qa_cons q_bl qa_nil)) (q_callTy f_int Z.z_int boot_int (qa_cons (q_var 3) qa_nil))) (q_bin o_mul (q_lst (qa_cons q_bl qa_nil)) (q_callTy f_int Z.z_int boot_int (qa_cons (q_cmp o_ge (q_ix i_any (q_var 1) q_int) (q_ix i_any (q_ix i_any (q_var 0) q_int) q_int)) qa_nil))))))) qss_nil)
  (qss_cons (q_set 2 nd (q_bin o_add (q_ix i_any (q_var 1) q_int) q_int))
  (qss_one (q_ret (q_bin o_add (q_bin o_mul (q_lst (qa_cons q_bl qa_nil)) (q_callTy f_int Z.z_int boot_int (qa_cons (q_cmp (o_ne hr) (q_var 2) (q_ix i_any (q_ix i_any (q_var 0) q_int) q_int)) qa_nil))) (q_bin o_mul (q_lst (qa_cons q_bl qa_nil)) (q_callTy f_int Z.z_int boot_int (qa_cons (q_cmp o_le (q_ix i_any (q_ix i_any (q_var 0) q_int) q_int) (q_var 2)) qa_nil))))))))
abbrev s__law_choices : Stmt := topS 45
abbrev N__law_choices : List Str := ["plan", "stand", "found", "one", "other"]
abbrev p__law_choices : List Str := ["plan", "stand"]
theorem sc__law_choices : FnScope N__law_choices p__law_choices (defScope s__law_choices) := ⟨rfl, rfl, rfl, by decide +kernel, rfl, by decide +kernel, by decide +kernel⟩
theorem d__law_choices (Z : Glob K mg) (Dx : Df K mg "_law_choices" "_law_choices" s__law_choices p__law_choices) (D__law_options : ∀ T, DOk P w K mg base 1 "_law_options" (spD (kw P w K mg base) T F__law_options)) : DOk P w K mg base 2 "_law_choices" (spD (kw P w K mg base) T F__law_choices) := by
  refine dok_data (body := B__law_choices) Dx sc__law_choices rfl rfl fun f cdv A outer s H E hr => ?_
  have nd := (sc__law_choices).nd
  unfold B__law_choices
  exact (qss_cons (q_set 2 nd (q_lst qa_nil))
  (qss_cons (q_for (qi_seq (q_call ((D__law_options _).at hr) (qa_cons (q_ix i_any (q_ix i_any (q_var 0) q_int) q_int) (qa_cons (q_ix i_any (q_ix i_any (q_var 1) q_int) q_int) qa_nil)))) (qg_name 3 nd) (qss_one (q_set 2 nd (q_bin o_add (q_var 2) (q_lc [("other", 4)] nd (qi_seq (q_call ((D__law_options _).at hr) (qa_cons (q_ix i_any (q_ix i_any (q_var 0) q_int) q_int) (qa_cons (q_ix i_any (q_ix i_any (q_var 1) q_int) q_int) qa_nil)))) (blkOk_by (N := N__law_choices) (sc := (defScope s__law_choices)) (by decide +kernel)) (by decide) (fun _ _ _ _ _ => (qg_name 4 nd)) (fun _ _ _ _ _ => qts_nil) (fun _ _ _ _ _ => (q_tup (qa_cons (q_var 3) (qa_cons (q_var 4) qa_nil)))))))))
  (qss_one (q_ret (q_var 2)))))
abbrev s__law_voice : Stmt := topS 46
abbrev N__law_voice : List Str := ["part", "chosen"]
abbrev p__law_voice : List Str := ["part", "chosen"]
theorem sc__law_voice : FnScope N__law_voice p__law_voice (defScope s__law_voice) := ⟨rfl, rfl, rfl, by decide +kernel, rfl, by decide +kernel, by decide +kernel⟩
theorem d__law_voice (Z : Glob K mg) (Dx : Df K mg "_law_voice" "_law_voice" s__law_voice p__law_voice)  : DOk P w K mg base 1 "_law_voice" (spD (kw P w K mg base) T F__law_voice) := by
  refine dok_data (body := B__law_voice) Dx sc__law_voice rfl rfl fun f cdv A outer s H E hr => ?_
  have nd := (sc__law_voice).nd
  unfold B__law_voice
  exact (qss_one (q_ret (q_ix i_any (q_ix i_any (q_lst (qa_cons (q_lst (qa_cons q_int (qa_cons q_int qa_nil))) (qa_cons (q_lst (qa_cons q_int (qa_cons q_int qa_nil))) qa_nil))) (q_callTy f_int Z.z_int boot_int (qa_cons (q_cmp (o_eq hr) (q_ix i_any (q_var 0) q_int) q_str) qa_nil))) (q_callTy f_int Z.z_int boot_int (qa_cons (q_var 1) qa_nil)))))
abbrev s__law_led : Stmt := topS 47
abbrev N__law_led : List Str := ["habit", "part", "voice", "ear", "over", "done", "got", "mode", "count"]
abbrev p__law_led : List Str := ["habit", "part", "voice", "ear", "over"]
theorem sc__law_led : FnScope N__law_led p__law_led (defScope s__law_led) := ⟨rfl, rfl, rfl, by decide +kernel, rfl, by decide +kernel, by decide +kernel⟩
theorem d__law_led (Z : Glob K mg) (Dx : Df K mg "_law_led" "_law_led" s__law_led p__law_led)  : DOk P w K mg base 1 "_law_led" (spD (kw P w K mg base) T F__law_led) := by
  refine dok_data (body := B__law_led) Dx sc__law_led rfl rfl fun f cdv A outer s H E hr => ?_
  have nd := (sc__law_led).nd
  unfold B__law_led
  exact (qss_cons (q_asg (q_var 1) (qg_tup (qgs_cons (qg_name 7 nd) (qgs_cons (qg_name 8 nd) (qgs_cons (qg_name 6 nd) qgs_nil))) (glen_cons (glen_cons (glen_cons glen_nil)))))
  (qss_cons (q_ifS (qt_cmp (o_eq hr) (q_var 3) q_int) (qss_one (q_set 6 nd q_str)) (qss_one (q_ifS (qt_w (qw_or (qt_cmp o_gt (q_var 2) q_int) (qw_or1 (qt_w (qw_and (qt_cmp o_gt (q_var 3) q_int) (qw_and1 (qt_cmp (o_eq hr) (q_var 6) q_str))))))) (qss_one (q_set 6 nd q_str)) (qss_one (q_ifS (qt_cmp (o_eq hr) (q_var 3) q_int) (qss_one (q_set 6 nd q_str)) qss_nil)))))
  (qss_cons (q_set 5 nd (q_and (q_cmp (o_eq hr) (q_var 3) q_int) (q_one (q_cmp (o_eq hr) (q_var 6) q_str))))
  (qss_cons (q_set 6 nd (q_if (qt_cmp (o_eq hr) (q_var 3) q_int) q_str (q_var 6)))
  (qss_cons (q_ifS (qt_w (qw_or (qt_cmp (o_eq hr) (q_var 2) q_int) (qw_or1 (qt_w (qw_and (qt_cmp o_gt (q_var 2) q_int) (qw_and (qt_val (q_ix i_any (q_var 0) q_int)) (qw_and1 (qt_cmp o_gt (q_var 3) q_int)))))))) (qss_one (q_ret (q_tup (qa_cons (q_tup (qa_cons q_str (qa_cons q_int (qa_cons (q_var 6) qa_nil)))) (qa_cons (q_var 5) qa_nil))))) qss_nil)
  (qss_cons (q_ifS (qt_cmp o_gt (q_var 2) q_int) (qss_one (q_ret (q_tup (qa_cons (q_tup (qa_cons q_str (qa_cons (q_if (qt_cmp (o_eq hr) (q_var 7) q_str) q_int (q_bin o_add (q_var 8) q_int)) (qa_cons (q_var 6) qa_nil)))) (qa_cons (q_var 5) qa_nil))))) qss_nil)
  (qss_cons (q_ifS (qt_cmp (o_eq hr) (q_var 3) q_int) (qss_one (q_ret (q_tup (qa_cons (q_tup (qa_cons q_str (qa_cons (q_callB (f_min2) Z.z_min boot_min (qa_cons (q_bin o_add (q_var 8) q_int) (qa_cons (q_ix i_any (q_ix i_any (q_var 0) q_int) q_int) qa_nil))) (qa_cons (q_var 6) qa_nil)))) (qa_cons (q_var 5) qa_nil))))) qss_nil)
  (qss_one (q_ret (q_tup (qa_cons (q_tup (qa_cons q_str (qa_cons (q_bin o_mul (q_ix i_any (q_ix i_any (q_var 0) q_int) q_int) (q_callTy f_int Z.z_int boot_int (qa_cons (q_and (q_var 5) (q_one (q_var 4))) qa_nil))) (qa_cons (q_var 6) qa_nil)))) (qa_cons (q_var 5) qa_nil))))))))))))
abbrev s__law_tick : Stmt := topS 48
abbrev N__law_tick : List Str := ["plan", "stand", "choice", "voices", "lines", "one", "got", "other", "given", "line", "back"]
abbrev p__law_tick : List Str := ["plan", "stand", "choice"]
theorem sc__law_tick : FnScope N__law_tick p__law_tick (defScope s__law_tick) := ⟨rfl, rfl, rfl, by decide +kernel, rfl, by decide +kernel, by decide +kernel⟩
theorem d__law_tick (Z : Glob K mg) (Dx : Df K mg "_law_tick" "_law_tick" s__law_tick p__law_tick) (D__law_voice : ∀ T, DOk P w K mg base 1 "_law_voice" (spD (kw P w K mg base) T F__law_voice)) (D__law_led : ∀ T, DOk P w K mg base 1 "_law_led" (spD (kw P w K mg base) T F__law_led)) : DOk P w K mg base 2 "_law_tick" (spD (kw P w K mg base) T F__law_tick) := by
  refine dok_data (body := B__law_tick) Dx sc__law_tick rfl rfl fun f cdv A outer s H E hr => ?_
  have nd := (sc__law_tick).nd
  unfold B__law_tick
  exact (qss_cons (q_asg (q_var 1) (qg_tup (qgs_cons (qg_tup (qgs_cons (qg_name 5 nd) (qgs_cons (qg_name 7 nd) qgs_nil)) (glen_cons (glen_cons glen_nil))) (qgs_cons (qg_tup (qgs_cons (qg_name 9 nd) (qgs_cons (qg_name 10 nd) qgs_nil)) (glen_cons (glen_cons glen_nil))) qgs_nil)) (glen_cons (glen_cons glen_nil))))
  (qss_cons (q_set 3 nd (q_tup (qa_cons (q_call ((D__law_voice _).at hr) (qa_cons (q_var 5) (qa_cons (q_ix i_any (q_var 2) q_int) qa_nil))) (qa_cons (q_call ((D__law_voice _).at hr) (qa_cons (q_var 7) (qa_cons (q_ix i_any (q_var 2) q_int) qa_nil))) qa_nil))))
  (qss_cons (q_asg (q_call ((D__law_led _).at hr) (qa_cons (q_ix i_any (q_ix i_any (q_var 0) q_int) q_int) (qa_cons (q_var 5) (qa_cons (q_ix i_any (q_var 3) q_int) (qa_cons (q_ix i_any (q_var 10) q_int) (qa_cons (q_ix i_any (q_var 0) q_int) qa_nil)))))) (qg_tup (qgs_cons (qg_name 5 nd) (qgs_cons (qg_name 6 nd) qgs_nil)) (glen_cons (glen_cons glen_nil))))
  (qss_cons (q_asg (q_call ((D__law_led _).at hr) (qa_cons (q_ix i_any (q_ix i_any (q_var 0) q_int) q_int) (qa_cons (q_var 7) (qa_cons (q_ix i_any (q_var 3) q_int) (qa_cons (q_ix i_any (q_var 9) q_int) (qa_cons (q_ix i_any (q_var 0) q_int) qa_nil)))))) (qg_tup (qgs_cons (qg_name 7 nd) (qgs_cons (qg_name 8 nd) qgs_nil)) (glen_cons (glen_cons glen_nil))))
  (qss_cons (q_set 4 nd (q_tup (qa_cons (q_bin o_add (q_slice (q_var 9) (qo_some q_int) qo_none) (q_slice (q_var 3) qo_none (qo_some q_int))) (qa_cons (q_bin o_add (q_slice (q_var 10) (qo_some q_int) qo_none) (q_slice (q_var 3) (qo_some q_int) qo_none)) qa_nil))))
  (qss_one (q_ret (q_tup (qa_cons (q_tup (qa_cons (q_tup (qa_cons (q_var 5) (qa_cons (q_var 7) qa_nil))) (qa_cons (q_var 4) qa_nil))) (qa_cons (q_var 3) (qa_cons (q_bin o_add (q_bin o_mul (q_tup (qa_cons q_int qa_nil)) (q_callTy f_int Z.z_int boot_int (qa_cons (q_var 8) qa_nil))) (q_bin o_mul (q_tup (qa_cons q_int qa_nil)) (q_callTy f_int Z.z_int boot_int (qa_cons (q_var 6) qa_nil)))) qa_nil)))))))))))
abbrev s__law_ways : Stmt := topS 49
abbrev N__law_ways : List Str := ["plan", "begin", "found", "queue", "at", "stand", "choice", "there"]
abbrev p__law_ways : List Str := ["plan"]
theorem sc__law_ways : FnScope N__law_ways p__law_ways (defScope s__law_ways) := ⟨rfl, rfl, rfl, by decide +kernel, rfl, by decide +kernel, by decide +kernel⟩
theorem d__law_ways (Z : Glob K mg) (Dx : Df K mg "_law_ways" "_law_ways" s__law_ways p__law_ways) (D__law_first : ∀ T, DOk P w K mg base 1 "_law_first" (spD (kw P w K mg base) T F__law_first)) (D__law_choices : ∀ T, DOk P w K mg base 2 "_law_choices" (spD (kw P w K mg base) T F__law_choices)) (D__law_tick : ∀ T, DOk P w K mg base 2 "_law_tick" (spD (kw P w K mg base) T F__law_tick)) : DOk P w K mg base 3 "_law_ways" (spD (kw P w K mg base) T F__law_ways) := by
  refine dok_data (body := B__law_ways) Dx sc__law_ways rfl rfl fun f cdv A outer s H E hr => ?_
  have nd := (sc__law_ways).nd
  unfold B__law_ways
  exact (qss_cons (q_set 1 nd (q_call ((D__law_first _).at hr) (qa_cons (q_var 0) qa_nil)))
  (qss_cons (q_par3F 2 3 4 nd (qfs_cons (qf_d1 hr (q_var 1) (q_tup qa_nil)) (qfs_cons (qf_lst (qa_cons (q_var 1) qa_nil)) (qfs_cons (qf_dat q_int) qfs_nil))))
  (qss_cons (q_while (qt_cmp o_lt (q_var 4) (q_lenO 3 Z.z_len)) (qss_cons (q_set 5 nd (q_ixO 3 (q_var 4)))
  (qss_cons (q_set 4 nd (q_bin o_add (q_var 4) q_int))
  (qss_one (q_for (qi_seq (q_call ((D__law_choices _).at hr) (qa_cons (q_var 0) (qa_cons (q_var 5) qa_nil)))) (qg_name 6 nd) (qss_cons (q_set 7 nd (q_ix i_any (q_call ((D__law_tick _).at hr) (qa_cons (q_var 0) (qa_cons (q_var 5) (qa_cons (q_var 6) qa_nil)))) q_int))
  (qss_one (q_ifS (qt_dNin 2 hr (q_var 7)) (qss_cons (q_asg (q_bin o_add (q_dIx 2 hr (q_var 5)) (q_tup (qa_cons (q_var 6) qa_nil))) (qg_dSet 2 hr (q_var 7)))
  (qss_one (q_app 3 (q_var 7)))) qss_nil))))))))
  (qss_one (q_ret (q_dTake 2))))))
abbrev s__law_edges : Stmt := topS 50
abbrev N__law_edges : List Str := ["plan", "found", "stand", "choice"]
abbrev p__law_edges : List Str := ["plan"]
theorem sc__law_edges : FnScope N__law_edges p__law_edges (defScope s__law_edges) := ⟨rfl, rfl, rfl, by decide +kernel, rfl, by decide +kernel, by decide +kernel⟩
theorem d__law_edges (Z : Glob K mg) (Dx : Df K mg "_law_edges" "_law_edges" s__law_edges p__law_edges) (D__law_ways : ∀ T, DOk P w K mg base 3 "_law_ways" (spD (kw P w K mg base) T F__law_ways)) (D__law_choices : ∀ T, DOk P w K mg base 2 "_law_choices" (spD (kw P w K mg base) T F__law_choices)) (D__law_tick : ∀ T, DOk P w K mg base 2 "_law_tick" (spD (kw P w K mg base) T F__law_tick)) : DOk P w K mg base 4 "_law_edges" (spD (kw P w K mg base) T F__law_edges) := by
  refine dok_data (body := B__law_edges) Dx sc__law_edges rfl rfl fun f cdv A outer s H E hr => ?_
  have nd := (sc__law_edges).nd
  unfold B__law_edges
  exact (qss_cons (q_own 1 nd qa_nil)
  (qss_cons (q_for (qi_keys (q_call ((D__law_ways _).at hr) (qa_cons (q_var 0) qa_nil))) (qg_name 2 nd) (qss_one (q_for (qi_seq (q_call ((D__law_choices _).at hr) (qa_cons (q_var 0) (qa_cons (q_var 2) qa_nil)))) (qg_name 3 nd) (qss_one (q_app 1 (q_bin o_add (q_tup (qa_cons (q_var 2) (qa_cons (q_var 3) qa_nil))) (q_call ((D__law_tick _).at hr) (qa_cons (q_var 0) (qa_cons (q_var 2) (qa_cons (q_var 3) qa_nil))))))))))
  (qss_one (q_ret (q_take 1)))))
abbrev s__law_longest : Stmt := topS 51
abbrev N__law_longest : List Str := ["edges", "edge", "left", "many", "ends", "stand", "there"]
abbrev p__law_longest : List Str := ["edges"]
theorem sc__law_longest : FnScope N__law_longest p__law_longest (defScope s__law_longest) := ⟨rfl, rfl, rfl, by decide +kernel, rfl, by decide +kernel, by decide +kernel⟩
theorem d__law_longest (Z : Glob K mg) (Dx : Df K mg "_law_longest" "_law_longest" s__law_longest p__law_longest)  : DOk P w K mg base 1 "_law_longest" (spD (kw P w K mg base) T F__law_longest) := by
  refine dok_data (body := B__law_longest) Dx sc__law_longest rfl rfl fun f cdv A outer s H E hr => ?_
  have nd := (sc__law_longest).nd
  unfold B__law_longest
  exact (qss_cons (q_par2C 2 3 nd (qfs_cons (qf_dictOf hr [("edge", 1)] Z.z_dict nd (qi_seq (q_var 0)) (blkOk_by (N := N__law_longest) (sc := (defScope s__law_longest)) (by decide +kernel)) (by decide) (fun _ _ _ _ _ => (qg_name 1 nd)) (fun _ _ _ _ _ => pe_tup (pa_cons (q_ix i_any (q_var 1) q_int) (pa_cons (pe_lst pa_nil) pa_nil)))) (qfs_cons qf_d0 qfs_nil)))
  (qss_cons (q_for (qi_seq (q_var 0)) (qg_name 1 nd) (qss_one (q_dApp 2 hr (qp_ix i_any (qp_var 1) qp_int) (qp_ix i_any (qp_var 1) qp_int) (hs := fun h1 h2 => pe_bm PySem.F.plainAttrs_list PySem.F.slot_list_append PySem.F.type_list_append mt_append h1 h2))))
  (qss_one (q_thaw 2 (q_while (qt_val q_bl) (qss_cons (q_lockD 4 2 (q_setLci [("stand", 5)] 4 nd (qi_keys (q_var 2)) (blkOk_by (N := N__law_longest) (sc := (defScope s__law_longest)) (by decide +kernel)) (by decide) (sw_true rfl rfl rfl (by decide +kernel)) (fun _ _ _ _ _ => (qg_name 5 nd)) (fun _ _ _ _ _ => (qts_one (qt_cmp (o_eq hr) (q_lc [("there", 6)] nd (qi_seq (q_ix (i_dct hr) (q_var 2) (q_var 5))) (blkOk_by (N := N__law_longest) (sc := (relS _ (defScope s__law_longest))) (by decide +kernel)) (by decide) (fun _ _ _ _ _ => (qg_name 6 nd)) (fun _ _ _ _ _ => (qts_one (qt_cmp (o_dIn hr) (q_var 6) (q_var 2)))) (fun _ _ _ _ _ => (q_var 6))) (q_lst qa_nil)))) (fun _ _ _ _ _ => (q_var 5))))
  (qss_cons (q_ifS (qt_cmp (o_eq hr) (q_var 4) (q_lst qa_nil)) (qss_one (q_ret (q_if (q_dEmpty 2 hr) (q_callB (f_maxL) Z.z_max boot_max (qa_cons (q_bin o_add (q_lst (qa_cons q_int qa_nil)) (q_listVals Z.z_list (q_dTake 3))) qa_nil)) q_non))) qss_nil)
  (qss_cons (q_for (qi_seq (q_var 4)) (qg_name 5 nd) (qss_one (q_asg (q_bin o_add q_int (q_callB (f_maxL) Z.z_max boot_max (qa_cons (q_bin o_add (q_lst (qa_cons q_int qa_nil)) (q_lc [("there", 6)] nd (qi_seq (q_dIx 2 hr (q_var 5))) (blkOk_by (N := N__law_longest) (sc := (defScope s__law_longest)) (by decide +kernel)) (by decide) (fun _ _ _ _ _ => (qg_name 6 nd)) (fun _ _ _ _ _ => qts_nil) (fun _ _ _ _ _ => (q_dGet 3 hr (qa_cons (q_var 6) (qa_cons q_int qa_nil)) (hs := fun h => pe_bd PySem.F.slot_dict_get PySem.F.type_dict_get (mt_dGet (Room.low hr)) (pv _) h))))) qa_nil))) (qg_dSet 3 hr (q_var 5)))))
  (qss_one (q_for (qi_seq (q_var 4)) (qg_name 5 nd) (qss_one (q_drop (q_dPop 2 hr (q_var 5) (hs := fun h => pe_bd PySem.F.slot_dict_pop PySem.F.type_dict_pop (mt_dPop (Room.low hr)) (pv _) h))))))))))))))
abbrev s__law_unheard : Stmt := topS 52
abbrev N__law_unheard : List Str := ["plan", "talker", "edge"]
abbrev p__law_unheard : List Str := ["plan", "talker"]
theorem sc__law_unheard : FnScope N__law_unheard p__law_unheard (defScope s__law_unheard) := ⟨rfl, rfl, rfl, by decide +kernel, rfl, by decide +kernel, by decide +kernel⟩
theorem d__law_unheard (Z : Glob K mg) (Dx : Df K mg "_law_unheard" "_law_unheard" s__law_unheard p__law_unheard) (D__law_longest : ∀ T, DOk P w K mg base 1 "_law_longest" (spD (kw P w K mg base) T F__law_longest)) (D__law_edges : ∀ T, DOk P w K mg base 4 "_law_edges" (spD (kw P w K mg base) T F__law_edges)) : DOk P w K mg base 5 "_law_unheard" (spD (kw P w K mg base) T F__law_unheard) := by
  refine dok_data (body := B__law_unheard) Dx sc__law_unheard rfl rfl fun f cdv A outer s H E hr => ?_
  have nd := (sc__law_unheard).nd
  unfold B__law_unheard
  exact (qss_one (q_ret (q_call ((D__law_longest _).at hr) (qa_cons (q_lc [("edge", 2)] nd (qi_seq (q_call ((D__law_edges _).at hr) (qa_cons (q_var 0) qa_nil))) (blkOk_by (N := N__law_unheard) (sc := (defScope s__law_unheard)) (by decide +kernel)) (by decide) (fun _ _ _ _ _ => (qg_name 2 nd)) (fun _ _ _ _ _ => (qts_one (qt_cmp (o_nin hr) (q_var 1) (q_ix i_any (q_var 2) q_int)))) (fun _ _ _ _ _ => (q_var 2))) qa_nil))))
abbrev s_law : Stmt := topS 53
abbrev N_law : List Str := ["script", "at", "spring", "plan", "one", "due", "told"]
abbrev p_law : List Str := ["script"]
theorem sc_law : FnScope N_law p_law (defScope s_law) := ⟨rfl, rfl, rfl, by decide +kernel, rfl, by decide +kernel, by decide +kernel⟩
theorem d_law (Z : Glob K mg) {f : Addr} {fd : FuncData} (Fx : Fun K "law" "law" s_law f fd) (D__law_spring : ∀ T, DOk P w K mg base 1 "_law_spring" (spO (kw P w K mg base) T F__law_spring)) (D__law_plan : ∀ T, DOk P w K mg base 3 "_law_plan" (spB (kw P w K mg base) T F__law_plan)) (D__law_unheard : ∀ T, DOk P w K mg base 5 "_law_unheard" (spD (kw P w K mg base) T F__law_unheard)) (D_over_saves : DOk P w K mg base 9 "over_saves" (spD (kw P w K mg base) T F_over_saves)) (D_longest_unheard : DOk P w K mg base 9 "longest_unheard" (spD (kw P w K mg base) T F_longest_unheard)) (D__law_twins : ∀ T, DOk P w K mg base 11 "_law_twins" (spD (kw P w K mg base) T (F__law_twins 10))) : FnOk P w K mg base CX0 12 f fd p_law (spD (kw P w K mg base) T F_law) := by
  refine fn_data (body := B_law) Fx sc_law rfl rfl fun f cdv A outer s H E hr => ?_
  have nd := (sc_law).nd
  unfold B_law
  exact (qss_cons (q_for (qi_range1 Z.z_range (qa_cons (q_bin o_add (q_callB (f_min2) Z.z_min boot_min (qa_cons (q_callB f_len Z.z_len PySem.boot_len (qa_cons (q_var 0) qa_nil)) (qa_cons q_int qa_nil))) q_int) qa_nil)) (qg_name 1 nd) (qss_cons (q_ownC 2 nd ((D__law_spring _).at hr) (qa_cons (q_var 0) (qa_cons (q_var 1) qa_nil)))
  (qss_cons (q_set 3 nd (q_bor 2 ((D__law_plan _).at hr) (qa_cons q_int qa_nil)))
  (qss_one (q_for (qi_range1 Z.z_range (qa_cons q_int qa_nil)) (qg_name 4 nd) (qss_cons (q_set 5 nd (q_tup (qa_cons (q_call ((D__law_unheard _).at hr) (qa_cons (q_bin o_add (q_slice (q_var 3) qo_none (qo_some q_int)) (q_tup (qa_cons q_bl qa_nil))) (qa_cons (q_var 4) qa_nil))) (qa_cons (q_call ((D__law_unheard _).at hr) (qa_cons (q_bin o_add (q_slice (q_var 3) qo_none (qo_some q_int)) (q_tup (qa_cons q_bl qa_nil))) (qa_cons (q_var 4) qa_nil))) qa_nil))))
  (qss_cons (q_set 6 nd (q_lst (qa_cons (q_call (D_longest_unheard.at hr) (qa_cons (q_var 3) (qa_cons (q_var 4) qa_nil))) (qa_cons (q_call (D_over_saves.at hr) (qa_cons (q_var 3) (qa_cons (q_var 4) qa_nil))) qa_nil))))
  (qss_one (q_ifS (qt_not (qt_val (q_call ((D__law_twins _).at hr) (qa_cons (q_var 6) (qa_cons (q_lst (qa_cons (q_ix i_any (q_var 5) (q_callTy f_int Z.z_int boot_int (qa_cons (q_ix i_any (q_var 3) q_int) qa_nil))) (qa_cons (q_var 5) qa_nil))) qa_nil))))) (qss_one (q_ret q_bl)) qss_nil)))))))))
  (qss_one (q_ret q_bl)))
end
/-- what the top left -/
structure Tops (K : PySem.W.Frag) (mg : Str → Option Value) (base : Heap) (T : Tb) : Prop where
  Z : Glob K mg
  t_is_within : Df K mg "is_within" "is_within" s_is_within p_is_within
  t_is_span : Df K mg "is_span" "is_span" s_is_span p_is_span
  t_is_habit : Df K mg "is_habit" "is_habit" s_is_habit p_is_habit
  t_size_of : Df K mg "size_of" "size_of" s_size_of p_size_of
  t_is_plan : Df K mg "is_plan" "is_plan" s_is_plan p_is_plan
  t_look_at_plan : Df K mg "look_at_plan" "look_at_plan" s_look_at_plan p_look_at_plan
  t_look_at_talker : Df K mg "look_at_talker" "look_at_talker" s_look_at_talker p_look_at_talker
  t_begin_of : Df K mg "begin_of" "begin_of" s_begin_of p_begin_of
  t_ways_of : Df K mg "ways_of" "ways_of" s_ways_of p_ways_of
  t_choices_of : Df K mg "choices_of" "choices_of" s_choices_of p_choices_of
  t_sign_of : Df K mg "sign_of" "sign_of" s_sign_of p_sign_of
  t_signs_of : Df K mg "signs_of" "signs_of" s_signs_of p_signs_of
  t_heard_by : Df K mg "heard_by" "heard_by" s_heard_by p_heard_by
  t_hearing_of : Df K mg "hearing_of" "hearing_of" s_hearing_of p_hearing_of
  t_is_whole : Df K mg "is_whole" "is_whole" s_is_whole p_is_whole
  t_talker_behind : Df K mg "talker_behind" "talker_behind" s_talker_behind p_talker_behind
  t_behind : Df K mg "behind" "behind" s_behind p_behind
  t_whole_by : Df K mg "whole_by" "whole_by" s_whole_by p_whole_by
  t_ways_by : Df K mg "ways_by" "ways_by" s_ways_by p_ways_by
  t_longest_way : Df K mg "longest_way" "longest_way" s_longest_way p_longest_way
  t_steps_by : Df K mg "steps_by" "steps_by" s_steps_by p_steps_by
  t_unheard_by : DfL K mg base T "unheard_by" "unheard_by" s_unheard_by p_unheard_by
  t_longest_unheard : Df K mg "longest_unheard" "longest_unheard" s_longest_unheard p_longest_unheard
  t_over_saves : Df K mg "over_saves" "over_saves" s_over_saves p_over_saves
  t__law_spring : Df K mg "_law_spring" "_law_spring" s__law_spring p__law_spring
  t__law_pick : Df K mg "_law_pick" "_law_pick" s__law_pick p__law_pick
  t__law_kind : Df K mg "_law_kind" "_law_kind" s__law_kind p__law_kind
  t__law_twins : Df K mg "_law_twins" "_law_twins" s__law_twins p__law_twins
  t__law_habit : Df K mg "_law_habit" "_law_habit" s__law_habit p__law_habit
  t__law_size : Df K mg "_law_size" "_law_size" s__law_size p__law_size
  t__law_plan : Df K mg "_law_plan" "_law_plan" s__law_plan p__law_plan
  t__law_first : Df K mg "_law_first" "_law_first" s__law_first p__law_first
  t__law_options : Df K mg "_law_options" "_law_options" s__law_options p__law_options
  t__law_choices : Df K mg "_law_choices" "_law_choices" s__law_choices p__law_choices
  t__law_voice : Df K mg "_law_voice" "_law_voice" s__law_voice p__law_voice
  t__law_led : Df K mg "_law_led" "_law_led" s__law_led p__law_led
  t__law_tick : Df K mg "_law_tick" "_law_tick" s__law_tick p__law_tick
  t__law_ways : Df K mg "_law_ways" "_law_ways" s__law_ways p__law_ways
  t__law_edges : Df K mg "_law_edges" "_law_edges" s__law_edges p__law_edges
  t__law_longest : Df K mg "_law_longest" "_law_longest" s__law_longest p__law_longest
  t__law_unheard : Df K mg "_law_unheard" "_law_unheard" s__law_unheard p__law_unheard
theorem all_ok {P : Program} {w : World} {K : PySem.W.Frag} {mg : Str → Option Value} {base : Heap} {T : Tb} (t : Tops K mg base T) {f : Addr} {fd : FuncData} (Fx : Fun K "law" "law" s_law f fd) : FnOk P w K mg base CX0 12 f fd p_law (spD (kw P w K mg base) T F_law) := by
  have D_is_within := fun T : Tb => d_is_within (P := P) (w := w) (base := base) (T := T) t.Z t.t_is_within 
  have D_is_span := fun T : Tb => d_is_span (P := P) (w := w) (base := base) (T := T) t.Z t.t_is_span D_is_within
  have D_is_habit := fun T : Tb => d_is_habit (P := P) (w := w) (base := base) (T := T) t.Z t.t_is_habit D_is_span
  have D_size_of := fun T : Tb => d_size_of (P := P) (w := w) (base := base) (T := T) t.Z t.t_size_of 
  have D_is_plan := fun T : Tb => d_is_plan (P := P) (w := w) (base := base) (T := T) t.Z t.t_is_plan D_is_habit D_is_within D_size_of
  have D_look_at_plan := fun T : Tb => d_look_at_plan (P := P) (w := w) (base := base) (T := T) t.Z t.t_look_at_plan D_is_plan
  have D_look_at_talker := fun T : Tb => d_look_at_talker (P := P) (w := w) (base := base) (T := T) t.Z t.t_look_at_talker D_is_within
  have D_begin_of := fun T : Tb => d_begin_of (P := P) (w := w) (base := base) (T := T) t.Z t.t_begin_of 
  have D_ways_of := fun T : Tb => d_ways_of (P := P) (w := w) (base := base) (T := T) t.Z t.t_ways_of 
  have D_choices_of := fun T : Tb => d_choices_of (P := P) (w := w) (base := base) (T := T) t.Z t.t_choices_of D_ways_of
  have D_sign_of := fun T : Tb => d_sign_of (P := P) (w := w) (base := base) (T := T) t.Z t.t_sign_of 
  have D_signs_of := fun T : Tb => d_signs_of (P := P) (w := w) (base := base) (T := T) t.Z t.t_signs_of D_sign_of
  have D_heard_by := fun T : Tb => d_heard_by (P := P) (w := w) (base := base) (T := T) t.Z t.t_heard_by 
  have D_hearing_of := fun T : Tb => d_hearing_of (P := P) (w := w) (base := base) (T := T) t.Z t.t_hearing_of 
  have D_is_whole := fun T : Tb => d_is_whole (P := P) (w := w) (base := base) (T := T) t.Z t.t_is_whole D_hearing_of
  have D_talker_behind := fun T : Tb => d_talker_behind (P := P) (w := w) (base := base) (T := T) t.Z t.t_talker_behind D_hearing_of D_is_whole
  have D_behind := fun T : Tb => d_behind (P := P) (w := w) (base := base) (T := T) t.Z t.t_behind D_signs_of D_heard_by D_talker_behind
  have D_whole_by := fun T : Tb => d_whole_by (P := P) (w := w) (base := base) (T := T) t.Z t.t_whole_by D_heard_by D_signs_of D_is_whole
  have D_ways_by := fun T : Tb => d_ways_by (P := P) (w := w) (base := base) (T := T) t.Z t.t_ways_by D_begin_of D_choices_of D_behind
  have D_longest_way := fun T : Tb => d_longest_way (P := P) (w := w) (base := base) (T := T) t.Z t.t_longest_way 
  have D_steps_by := fun T : Tb => d_steps_by (P := P) (w := w) (base := base) (T := T) t.Z t.t_steps_by D_ways_by D_choices_of D_behind
  have D_unheard_by := d_unheard_by (P := P) (w := w) (base := base) (T := T) t.Z t.t_unheard_by D_longest_way D_steps_by D_whole_by
  have D_longest_unheard := d_longest_unheard (P := P) (w := w) (base := base) (T := T) t.Z t.t_longest_unheard D_look_at_plan D_look_at_talker D_unheard_by
  have D_over_saves := d_over_saves (P := P) (w := w) (base := base) (T := T) t.Z t.t_over_saves D_look_at_plan D_look_at_talker D_unheard_by
  have D__law_spring := fun T : Tb => d__law_spring (P := P) (w := w) (base := base) (T := T) t.Z t.t__law_spring 
  have D__law_pick := fun T : Tb => d__law_pick (P := P) (w := w) (base := base) (T := T) t.Z t.t__law_pick 
  have D__law_kind := fun T : Tb => d__law_kind (P := P) (w := w) (base := base) (T := T) t.Z t.t__law_kind 
  have D__law_twins := fun T : Tb => d__law_twins (P := P) (w := w) (base := base) (T := T) t.Z t.t__law_twins D__law_kind 10
  have D__law_habit := fun T : Tb => d__law_habit (P := P) (w := w) (base := base) (T := T) t.Z t.t__law_habit D__law_pick
  have D__law_size := fun T : Tb => d__law_size (P := P) (w := w) (base := base) (T := T) t.Z t.t__law_size 
  have D__law_plan := fun T : Tb => d__law_plan (P := P) (w := w) (base := base) (T := T) t.Z t.t__law_plan D__law_habit D__law_pick D__law_size
  have D__law_first := fun T : Tb => d__law_first (P := P) (w := w) (base := base) (T := T) t.Z t.t__law_first 
  have D__law_options := fun T : Tb => d__law_options (P := P) (w := w) (base := base) (T := T) t.Z t.t__law_options 
  have D__law_choices := fun T : Tb => d__law_choices (P := P) (w := w) (base := base) (T := T) t.Z t.t__law_choices D__law_options
  have D__law_voice := fun T : Tb => d__law_voice (P := P) (w := w) (base := base) (T := T) t.Z t.t__law_voice 
  have D__law_led := fun T : Tb => d__law_led (P := P) (w := w) (base := base) (T := T) t.Z t.t__law_led 
  have D__law_tick := fun T : Tb => d__law_tick (P := P) (w := w) (base := base) (T := T) t.Z t.t__law_tick D__law_voice D__law_led
  have D__law_ways := fun T : Tb => d__law_ways (P := P) (w := w) (base := base) (T := T) t.Z t.t__law_ways D__law_first D__law_choices D__law_tick
  have D__law_edges := fun T : Tb => d__law_edges (P := P) (w := w) (base := base) (T := T) t.Z t.t__law_edges D__law_ways D__law_choices D__law_tick
  have D__law_longest := fun T : Tb => d__law_longest (P := P) (w := w) (base := base) (T := T) t.Z t.t__law_longest 
  have D__law_unheard := fun T : Tb => d__law_unheard (P := P) (w := w) (base := base) (T := T) t.Z t.t__law_unheard D__law_longest D__law_edges
  have D_law := d_law (P := P) (w := w) (base := base) (T := T) t.Z Fx D__law_spring D__law_plan D__law_unheard D_over_saves D_longest_unheard D__law_twins
  exact D_law
theorem bi_is_within : ∀ (kV doc pm : Value) (an : Option Addr) (cdv ct : Value) (us : List Value), us.length = p_is_within.length → bindArgs (PySem.W.fnOf "is_within" "is_within" (defArgs s_is_within) (defBody s_is_within) (defScope s_is_within) .none kV doc pm an cdv ct) ⟨us, []⟩ = pure (p_is_within.zip us) := fun _ _ _ _ _ _ us hl => match us, hl with | [_, _, _], _ => rfl
theorem bi_is_span : ∀ (kV doc pm : Value) (an : Option Addr) (cdv ct : Value) (us : List Value), us.length = p_is_span.length → bindArgs (PySem.W.fnOf "is_span" "is_span" (defArgs s_is_span) (defBody s_is_span) (defScope s_is_span) .none kV doc pm an cdv ct) ⟨us, []⟩ = pure (p_is_span.zip us) := fun _ _ _ _ _ _ us hl => match us, hl with | [_, _, _], _ => rfl
theorem bi_is_habit : ∀ (kV doc pm : Value) (an : Option Addr) (cdv ct : Value) (us : List Value), us.length = p_is_habit.length → bindArgs (PySem.W.fnOf "is_habit" "is_habit" (defArgs s_is_habit) (defBody s_is_habit) (defScope s_is_habit) .none kV doc pm an cdv ct) ⟨us, []⟩ = pure (p_is_habit.zip us) := fun _ _ _ _ _ _ us hl => match us, hl with | [_], _ => rfl
theorem bi_size_of : ∀ (kV doc pm : Value) (an : Option Addr) (cdv ct : Value) (us : List Value), us.length = p_size_of.length → bindArgs (PySem.W.fnOf "size_of" "size_of" (defArgs s_size_of) (defBody s_size_of) (defScope s_size_of) .none kV doc pm an cdv ct) ⟨us, []⟩ = pure (p_size_of.zip us) := fun _ _ _ _ _ _ us hl => match us, hl with | [_], _ => rfl
theorem bi_is_plan : ∀ (kV doc pm : Value) (an : Option Addr) (cdv ct : Value) (us : List Value), us.length = p_is_plan.length → bindArgs (PySem.W.fnOf "is_plan" "is_plan" (defArgs s_is_plan) (defBody s_is_plan) (defScope s_is_plan) .none kV doc pm an cdv ct) ⟨us, []⟩ = pure (p_is_plan.zip us) := fun _ _ _ _ _ _ us hl => match us, hl with | [_], _ => rfl
theorem bi_look_at_plan : ∀ (kV doc pm : Value) (an : Option Addr) (cdv ct : Value) (us : List Value), us.length = p_look_at_plan.length → bindArgs (PySem.W.fnOf "look_at_plan" "look_at_plan" (defArgs s_look_at_plan) (defBody s_look_at_plan) (defScope s_look_at_plan) .none kV doc pm an cdv ct) ⟨us, []⟩ = pure (p_look_at_plan.zip us) := fun _ _ _ _ _ _ us hl => match us, hl with | [_], _ => rfl
theorem bi_look_at_talker : ∀ (kV doc pm : Value) (an : Option Addr) (cdv ct : Value) (us : List Value), us.length = p_look_at_talker.length → bindArgs (PySem.W.fnOf "look_at_talker" "look_at_talker" (defArgs s_look_at_talker) (defBody s_look_at_talker) (defScope s_look_at_talker) .none kV doc pm an cdv ct) ⟨us, []⟩ = pure (p_look_at_talker.zip us) := fun _ _ _ _ _ _ us hl => match us, hl with | [_], _ => rfl
theorem bi_begin_of : ∀ (kV doc pm : Value) (an : Option Addr) (cdv ct : Value) (us : List Value), us.length = p_begin_of.length → bindArgs (PySem.W.fnOf "begin_of" "begin_of" (defArgs s_begin_of) (defBody s_begin_of) (defScope s_begin_of) .none kV doc pm an cdv ct) ⟨us, []⟩ = pure (p_begin_of.zip us) := fun _ _ _ _ _ _ us hl => match us, hl with | [_], _ => rfl
theorem bi_ways_of : ∀ (kV doc pm : Value) (an : Option Addr) (cdv ct : Value) (us : List Value), us.length = p_ways_of.length → bindArgs (PySem.W.fnOf "ways_of" "ways_of" (defArgs s_ways_of) (defBody s_ways_of) (defScope s_ways_of) .none kV doc pm an cdv ct) ⟨us, []⟩ = pure (p_ways_of.zip us) := fun _ _ _ _ _ _ us hl => match us, hl with | [_, _], _ => rfl
theorem bi_choices_of : ∀ (kV doc pm : Value) (an : Option Addr) (cdv ct : Value) (us : List Value), us.length = p_choices_of.length → bindArgs (PySem.W.fnOf "choices_of" "choices_of" (defArgs s_choices_of) (defBody s_choices_of) (defScope s_choices_of) .none kV doc pm an cdv ct) ⟨us, []⟩ = pure (p_choices_of.zip us) := fun _ _ _ _ _ _ us hl => match us, hl with | [_, _], _ => rfl
theorem bi_sign_of : ∀ (kV doc pm : Value) (an : Option Addr) (cdv ct : Value) (us : List Value), us.length = p_sign_of.length → bindArgs (PySem.W.fnOf "sign_of" "sign_of" (defArgs s_sign_of) (defBody s_sign_of) (defScope s_sign_of) .none kV doc pm an cdv ct) ⟨us, []⟩ = pure (p_sign_of.zip us) := fun _ _ _ _ _ _ us hl => match us, hl with | [_, _], _ => rfl
theorem bi_signs_of : ∀ (kV doc pm : Value) (an : Option Addr) (cdv ct : Value) (us : List Value), us.length = p_signs_of.length → bindArgs (PySem.W.fnOf "signs_of" "signs_of" (defArgs s_signs_of) (defBody s_signs_of) (defScope s_signs_of) .none kV doc pm an cdv ct) ⟨us, []⟩ = pure (p_signs_of.zip us) := fun _ _ _ _ _ _ us hl => match us, hl with | [_, _], _ => rfl
theorem bi_heard_by : ∀ (kV doc pm : Value) (an : Option Addr) (cdv ct : Value) (us : List Value), us.length = p_heard_by.length → bindArgs (PySem.W.fnOf "heard_by" "heard_by" (defArgs s_heard_by) (defBody s_heard_by) (defScope s_heard_by) .none kV doc pm an cdv ct) ⟨us, []⟩ = pure (p_heard_by.zip us) := fun _ _ _ _ _ _ us hl => match us, hl with | [_], _ => rfl
theorem bi_hearing_of : ∀ (kV doc pm : Value) (an : Option Addr) (cdv ct : Value) (us : List Value), us.length = p_hearing_of.length → bindArgs (PySem.W.fnOf "hearing_of" "hearing_of" (defArgs s_hearing_of) (defBody s_hearing_of) (defScope s_hearing_of) .none kV doc pm an cdv ct) ⟨us, []⟩ = pure (p_hearing_of.zip us) := fun _ _ _ _ _ _ us hl => match us, hl with | [_, _, _], _ => rfl
theorem bi_is_whole : ∀ (kV doc pm : Value) (an : Option Addr) (cdv ct : Value) (us : List Value), us.length = p_is_whole.length → bindArgs (PySem.W.fnOf "is_whole" "is_whole" (defArgs s_is_whole) (defBody s_is_whole) (defScope s_is_whole) .none kV doc pm an cdv ct) ⟨us, []⟩ = pure (p_is_whole.zip us) := fun _ _ _ _ _ _ us hl => match us, hl with | [_, _, _], _ => rfl
theorem bi_talker_behind : ∀ (kV doc pm : Value) (an : Option Addr) (cdv ct : Value) (us : List Value), us.length = p_talker_behind.length → bindArgs (PySem.W.fnOf "talker_behind" "talker_behind" (defArgs s_talker_behind) (defBody s_talker_behind) (defScope s_talker_behind) .none kV doc pm an cdv ct) ⟨us, []⟩ = pure (p_talker_behind.zip us) := fun _ _ _ _ _ _ us hl => match us, hl with | [_, _, _, _, _], _ => rfl
theorem bi_behind : ∀ (kV doc pm : Value) (an : Option Addr) (cdv ct : Value) (us : List Value), us.length = p_behind.length → bindArgs (PySem.W.fnOf "behind" "behind" (defArgs s_behind) (defBody s_behind) (defScope s_behind) .none kV doc pm an cdv ct) ⟨us, []⟩ = pure (p_behind.zip us) := fun _ _ _ _ _ _ us hl => match us, hl with | [_, _, _], _ => rfl
theorem bi_whole_by : ∀ (kV doc pm : Value) (an : Option Addr) (cdv ct : Value) (us : List Value), us.length = p_whole_by.length → bindArgs (PySem.W.fnOf "whole_by" "whole_by" (defArgs s_whole_by) (defBody s_whole_by) (defScope s_whole_by) .none kV doc pm an cdv ct) ⟨us, []⟩ = pure (p_whole_by.zip us) := fun _ _ _ _ _ _ us hl => match us, hl with | [_, _], _ => rfl
theorem bi_ways_by : ∀ (kV doc pm : Value) (an : Option Addr) (cdv ct : Value) (us : List Value), us.length = p_ways_by.length → bindArgs (PySem.W.fnOf "ways_by" "ways_by" (defArgs s_ways_by) (defBody s_ways_by) (defScope s_ways_by) .none kV doc pm an cdv ct) ⟨us, []⟩ = pure (p_ways_by.zip us) := fun _ _ _ _ _ _ us hl => match us, hl with | [_], _ => rfl
theorem bi_longest_way : ∀ (kV doc pm : Value) (an : Option Addr) (cdv ct : Value) (us : List Value), us.length = p_longest_way.length → bindArgs (PySem.W.fnOf "longest_way" "longest_way" (defArgs s_longest_way) (defBody s_longest_way) (defScope s_longest_way) .none kV doc pm an cdv ct) ⟨us, []⟩ = pure (p_longest_way.zip us) := fun _ _ _ _ _ _ us hl => match us, hl with | [_], _ => rfl
theorem bi_steps_by : ∀ (kV doc pm : Value) (an : Option Addr) (cdv ct : Value) (us : List Value), us.length = p_steps_by.length → bindArgs (PySem.W.fnOf "steps_by" "steps_by" (defArgs s_steps_by) (defBody s_steps_by) (defScope s_steps_by) .none kV doc pm an cdv ct) ⟨us, []⟩ = pure (p_steps_by.zip us) := fun _ _ _ _ _ _ us hl => match us, hl with | [_, _], _ => rfl
theorem bi_unheard_by : ∀ (kV doc pm : Value) (an : Option Addr) (cdv ct : Value) (us : List Value), us.length = p_unheard_by.length → bindArgs (PySem.W.fnOf "unheard_by" "unheard_by" (defArgs s_unheard_by) (defBody s_unheard_by) (defScope s_unheard_by) .none kV doc pm an cdv ct) ⟨us, []⟩ = pure (p_unheard_by.zip us) := fun _ _ _ _ _ _ us hl => match us, hl with | [_, _], _ => rfl
theorem bi_longest_unheard : ∀ (kV doc pm : Value) (an : Option Addr) (cdv ct : Value) (us : List Value), us.length = p_longest_unheard.length → bindArgs (PySem.W.fnOf "longest_unheard" "longest_unheard" (defArgs s_longest_unheard) (defBody s_longest_unheard) (defScope s_longest_unheard) .none kV doc pm an cdv ct) ⟨us, []⟩ = pure (p_longest_unheard.zip us) := fun _ _ _ _ _ _ us hl => match us, hl with | [_, _], _ => rfl
theorem bi_over_saves : ∀ (kV doc pm : Value) (an : Option Addr) (cdv ct : Value) (us : List Value), us.length = p_over_saves.length → bindArgs (PySem.W.fnOf "over_saves" "over_saves" (defArgs s_over_saves) (defBody s_over_saves) (defScope s_over_saves) .none kV doc pm an cdv ct) ⟨us, []⟩ = pure (p_over_saves.zip us) := fun _ _ _ _ _ _ us hl => match us, hl with | [_, _], _ => rfl
theorem bi__law_spring : ∀ (kV doc pm : Value) (an : Option Addr) (cdv ct : Value) (us : List Value), us.length = p__law_spring.length → bindArgs (PySem.W.fnOf "_law_spring" "_law_spring" (defArgs s__law_spring) (defBody s__law_spring) (defScope s__law_spring) .none kV doc pm an cdv ct) ⟨us, []⟩ = pure (p__law_spring.zip us) := fun _ _ _ _ _ _ us hl => match us, hl with | [_, _], _ => rfl
theorem bi__law_pick : ∀ (kV doc pm : Value) (an : Option Addr) (cdv ct : Value) (us : List Value), us.length = p__law_pick.length → bindArgs (PySem.W.fnOf "_law_pick" "_law_pick" (defArgs s__law_pick) (defBody s__law_pick) (defScope s__law_pick) .none kV doc pm an cdv ct) ⟨us, []⟩ = pure (p__law_pick.zip us) := fun _ _ _ _ _ _ us hl => match us, hl with | [_, _], _ => rfl
theorem bi__law_kind : ∀ (kV doc pm : Value) (an : Option Addr) (cdv ct : Value) (us : List Value), us.length = p__law_kind.length → bindArgs (PySem.W.fnOf "_law_kind" "_law_kind" (defArgs s__law_kind) (defBody s__law_kind) (defScope s__law_kind) .none kV doc pm an cdv ct) ⟨us, []⟩ = pure (p__law_kind.zip us) := fun _ _ _ _ _ _ us hl => match us, hl with | [_], _ => rfl
theorem bi__law_twins : ∀ (kV doc pm : Value) (an : Option Addr) (cdv ct : Value) (us : List Value), us.length = p__law_twins.length → bindArgs (PySem.W.fnOf "_law_twins" "_law_twins" (defArgs s__law_twins) (defBody s__law_twins) (defScope s__law_twins) .none kV doc pm an cdv ct) ⟨us, []⟩ = pure (p__law_twins.zip us) := fun _ _ _ _ _ _ us hl => match us, hl with | [_, _], _ => rfl
theorem bi__law_habit : ∀ (kV doc pm : Value) (an : Option Addr) (cdv ct : Value) (us : List Value), us.length = p__law_habit.length → bindArgs (PySem.W.fnOf "_law_habit" "_law_habit" (defArgs s__law_habit) (defBody s__law_habit) (defScope s__law_habit) .none kV doc pm an cdv ct) ⟨us, []⟩ = pure (p__law_habit.zip us) := fun _ _ _ _ _ _ us hl => match us, hl with | [_, _], _ => rfl
theorem bi__law_size : ∀ (kV doc pm : Value) (an : Option Addr) (cdv ct : Value) (us : List Value), us.length = p__law_size.length → bindArgs (PySem.W.fnOf "_law_size" "_law_size" (defArgs s__law_size) (defBody s__law_size) (defScope s__law_size) .none kV doc pm an cdv ct) ⟨us, []⟩ = pure (p__law_size.zip us) := fun _ _ _ _ _ _ us hl => match us, hl with | [_], _ => rfl
theorem bi__law_plan : ∀ (kV doc pm : Value) (an : Option Addr) (cdv ct : Value) (us : List Value), us.length = p__law_plan.length → bindArgs (PySem.W.fnOf "_law_plan" "_law_plan" (defArgs s__law_plan) (defBody s__law_plan) (defScope s__law_plan) .none kV doc pm an cdv ct) ⟨us, []⟩ = pure (p__law_plan.zip us) := fun _ _ _ _ _ _ us hl => match us, hl with | [_, _], _ => rfl
theorem bi__law_first : ∀ (kV doc pm : Value) (an : Option Addr) (cdv ct : Value) (us : List Value), us.length = p__law_first.length → bindArgs (PySem.W.fnOf "_law_first" "_law_first" (defArgs s__law_first) (defBody s__law_first) (defScope s__law_first) .none kV doc pm an cdv ct) ⟨us, []⟩ = pure (p__law_first.zip us) := fun _ _ _ _ _ _ us hl => match us, hl with | [_], _ => rfl
theorem bi__law_options : ∀ (kV doc pm : Value) (an : Option Addr) (cdv ct : Value) (us : List Value), us.length = p__law_options.length → bindArgs (PySem.W.fnOf "_law_options" "_law_options" (defArgs s__law_options) (defBody s__law_options) (defScope s__law_options) .none kV doc pm an cdv ct) ⟨us, []⟩ = pure (p__law_options.zip us) := fun _ _ _ _ _ _ us hl => match us, hl with | [_, _], _ => rfl
theorem bi__law_choices : ∀ (kV doc pm : Value) (an : Option Addr) (cdv ct : Value) (us : List Value), us.length = p__law_choices.length → bindArgs (PySem.W.fnOf "_law_choices" "_law_choices" (defArgs s__law_choices) (defBody s__law_choices) (defScope s__law_choices) .none kV doc pm an cdv ct) ⟨us, []⟩ = pure (p__law_choices.zip us) := fun _ _ _ _ _ _ us hl => match us, hl with | [_, _], _ => rfl
theorem bi__law_voice : ∀ (kV doc pm : Value) (an : Option Addr) (cdv ct : Value) (us : List Value), us.length = p__law_voice.length → bindArgs (PySem.W.fnOf "_law_voice" "_law_voice" (defArgs s__law_voice) (defBody s__law_voice) (defScope s__law_voice) .none kV doc pm an cdv ct) ⟨us, []⟩ = pure (p__law_voice.zip us) := fun _ _ _ _ _ _ us hl => match us, hl with | [_, _], _ => rfl
theorem bi__law_led : ∀ (kV doc pm : Value) (an : Option Addr) (cdv ct : Value) (us : List Value), us.length = p__law_led.length → bindArgs (PySem.W.fnOf "_law_led" "_law_led" (defArgs s__law_led) (defBody s__law_led) (defScope s__law_led) .none kV doc pm an cdv ct) ⟨us, []⟩ = pure (p__law_led.zip us) := fun _ _ _ _ _ _ us hl => match us, hl with | [_, _, _, _, _], _ => rfl
theorem bi__law_tick : ∀ (kV doc pm : Value) (an : Option Addr) (cdv ct : Value) (us : List Value), us.length = p__law_tick.length → bindArgs (PySem.W.fnOf "_law_tick" "_law_tick" (defArgs s__law_tick) (defBody s__law_tick) (defScope s__law_tick) .none kV doc pm an cdv ct) ⟨us, []⟩ = pure (p__law_tick.zip us) := fun _ _ _ _ _ _ us hl => match us, hl with | [_, _, _], _ => rfl
theorem bi__law_ways : ∀ (kV doc pm : Value) (an : Option Addr) (cdv ct : Value) (us : List Value), us.length = p__law_ways.length → bindArgs (PySem.W.fnOf "_law_ways" "_law_ways" (defArgs s__law_ways) (defBody s__law_ways) (defScope s__law_ways) .none kV doc pm an cdv ct) ⟨us, []⟩ = pure (p__law_ways.zip us) := fun _ _ _ _ _ _ us hl => match us, hl with | [_], _ => rfl
theorem bi__law_edges : ∀ (kV doc pm : Value) (an : Option Addr) (cdv ct : Value) (us : List Value), us.length = p__law_edges.length → bindArgs (PySem.W.fnOf "_law_edges" "_law_edges" (defArgs s__law_edges) (defBody s__law_edges) (defScope s__law_edges) .none kV doc pm an cdv ct) ⟨us, []⟩ = pure (p__law_edges.zip us) := fun _ _ _ _ _ _ us hl => match us, hl with | [_], _ => rfl
theorem bi__law_longest : ∀ (kV doc pm : Value) (an : Option Addr) (cdv ct : Value) (us : List Value), us.length = p__law_longest.length → bindArgs (PySem.W.fnOf "_law_longest" "_law_longest" (defArgs s__law_longest) (defBody s__law_longest) (defScope s__law_longest) .none kV doc pm an cdv ct) ⟨us, []⟩ = pure (p__law_longest.zip us) := fun _ _ _ _ _ _ us hl => match us, hl with | [_], _ => rfl
theorem bi__law_unheard : ∀ (kV doc pm : Value) (an : Option Addr) (cdv ct : Value) (us : List Value), us.length = p__law_unheard.length → bindArgs (PySem.W.fnOf "_law_unheard" "_law_unheard" (defArgs s__law_unheard) (defBody s__law_unheard) (defScope s__law_unheard) .none kV doc pm an cdv ct) ⟨us, []⟩ = pure (p__law_unheard.zip us) := fun _ _ _ _ _ _ us hl => match us, hl with | [_, _], _ => rfl
theorem bi_law : ∀ (kV doc pm : Value) (an : Option Addr) (cdv ct : Value) (us : List Value), us.length = p_law.length → bindArgs (PySem.W.fnOf "law" "law" (defArgs s_law) (defBody s_law) (defScope s_law) .none kV doc pm an cdv ct) ⟨us, []⟩ = pure (p_law.zip us) := fun _ _ _ _ _ _ us hl => match us, hl with | [_], _ => rfl
end VS

namespace VS
open PySem PySem.Spec PyProof.Rows L2

theorem over_saves_eq {p : Pln} (k : p.Sm) {t : Int} (h0 : 0 ≤ t) (h1 : t ≤ 1) {r0 r1 : Option Nat} (e0 : F_unheard_by [(p.wo false).d, .int t] = some (optD r0)) (e1' : F_unheard_by [(p.wo true).d, .int t] = some (optD r1)) :
    F_over_saves [p.d, .int t] = some (.tuple [optD r0, optD r1]) := by
  have a1 := look_at_plan_yes k.ok'
  have a2 : F_look_at_talker [.int t] = some .none := by simp [F_look_at_talker, B_look_at_talker, callD, callB, callO, args0, sSeq, sIf, sRet, sRetN, sRetO, sDrop, sAsg, sPar, sNx, sBk, sCt, sNever, eVar, eC, e1, e2, eIf, asB, eAnd, eOr, tAndM, tOrM, dNot, tNotB, aNil, aCons, mkT_ok, mkL_ok, gName, gsNil, gsCons, gTup, gLst, eChain, oNone, oSome, eSl, dIsi, dIsi2, tYesM, h0, h1]
  have c0 := cut_d p
  have c1 := cut_wo p false
  have c2 := cut_wo p true
  simp [F_over_saves, B_over_saves, callD, callB, callO, args0, sSeq, sIf, sRet, sRetN, sRetO, sDrop, sAsg, sPar, sNx, sBk, sCt, sNever, eVar, eC, e1, e2, eIf, asB, eAnd, eOr, tAndM, tOrM, dNot, tNotB, aNil, aCons, mkT_ok, mkL_ok, gName, gsNil, gsCons, gTup, gLst, eChain, oNone, oSome, eSl, dIsi, dIsi2, tYesM, most, eLc, okW, isOl, lcGo, wipeR, restR, fAll, boolsD, sFor, forGo, a1, a2, c0, c1, c2, e0, e1', fTuple]
theorem row {p : Pln} (k : p.Sm) {t : Int} (h0 : 0 ≤ t) (h1 : t ≤ 1) (x0 x1 x2 x3 x4 x5 x6 : Option SV) : ∃ y5 y6 : Option SV, L_law_0 [x0, x1, x2, some (.dat p.d), some (.dat (.int t)), x5, x6] = some (.nx, [x0, x1, x2, some (.dat p.d), some (.dat (.int t)), y5, y6]) := by
  obtain ⟨r0, a0, b0⟩ := unheard_same (wo_sm k false) t
  obtain ⟨r1, a1, b1⟩ := unheard_same (wo_sm k true) t
  have c0 := cut_d p
  have c1 := cut_wo p false
  have c2 := cut_wo p true
  have o1 := over_saves_eq k h0 h1 a0 a1
  have u1 : F_longest_unheard [p.d, .int t] = some (optD (if p.ov then r1 else r0)) := by
    rw [longest_unheard_eq k h0 h1]
    cases h : p.ov
    · have : p.wo false = p := by rw [← h]; rfl
      rw [this] at a0; simpa using a0
    · have : p.wo true = p := by rw [← h]; rfl
      rw [this] at a1; simpa using a1
  have q1 : dIx p.d (.int 2) = some (.bool p.ov) := ixT2
  have okr : ∀ r : Option Nat, okP 8 (optD r) = true := fun r => by cases r <;> rfl
  have okr' : ∀ r : Option Nat, okP 7 (optD r) = true := fun r => by cases r <;> rfl
  have t1 : F__law_twins 10 [.list [optD (if p.ov then r1 else r0), .tuple [optD r0, optD r1]], .list [optD (if p.ov then r1 else r0), .tuple [optD r0, optD r1]]] = some (.bool true) := twins_yes (n := 9) (list_okP (by simp) (by
    intro d hd
    simp only [List.mem_cons, List.not_mem_nil, or_false] at hd
    rcases hd with rfl | rfl
    · exact okr _
    · simp [okP, okPs, okr']))
  refine ⟨some (.dat (.tuple [optD r0, optD r1])), some (.dat (.list [optD (if p.ov then r1 else r0), .tuple [optD r0, optD r1]])), ?_⟩
  have q2 : dIx (.tuple [optD r0, optD r1]) (.int (if p.ov then 1 else 0)) = some (optD (if p.ov then r1 else r0)) := by cases p.ov <;> simp
  have q3 : fInt [.bool p.ov] = some (.int (if p.ov then 1 else 0)) := rfl
  unfold L_law_0
  refine (sSeq_nx (ρ1 := [x0, x1, x2, some (.dat p.d), some (.dat (.int t)), some (.dat (.tuple [optD r0, optD r1])), x6]) (by simp [callD, callB, callO, args0, sSeq, sIf, sRet, sRetN, sRetO, sDrop, sAsg, sPar, sNx, sBk, sCt, sNever, eVar, eC, e1, e2, eIf, asB, eAnd, eOr, tAndM, tOrM, dNot, tNotB, aNil, aCons, mkT_ok, mkL_ok, gName, gsNil, gsCons, gTup, gLst, eChain, oNone, oSome, eSl, dIsi, dIsi2, tYesM, c0, c1, c2, b0, b1])).trans ?_
  refine (sSeq_nx (ρ1 := [x0, x1, x2, some (.dat p.d), some (.dat (.int t)), some (.dat (.tuple [optD r0, optD r1])), some (.dat (.list [optD (if p.ov then r1 else r0), .tuple [optD r0, optD r1]]))]) (by simp [callD, callB, callO, args0, sSeq, sIf, sRet, sRetN, sRetO, sDrop, sAsg, sPar, sNx, sBk, sCt, sNever, eVar, eC, e1, e2, eIf, asB, eAnd, eOr, tAndM, tOrM, dNot, tNotB, aNil, aCons, mkT_ok, mkL_ok, gName, gsNil, gsCons, gTup, gLst, eChain, oNone, oSome, eSl, dIsi, dIsi2, tYesM, u1, o1])).trans ?_
  generalize optD (if p.ov then r1 else r0) = R at q2 t1
  simp [callD, callB, callO, args0, sSeq, sIf, sRet, sRetN, sRetO, sDrop, sAsg, sPar, sNx, sBk, sCt, sNever, eVar, eC, e1, e2, eIf, asB, eAnd, eOr, tAndM, tOrM, dNot, tNotB, aNil, aCons, mkT_ok, mkL_ok, gName, gsNil, gsCons, gTup, gLst, eChain, oNone, oSome, eSl, dIsi, dIsi2, tYesM, q1, q3, q2, t1]
theorem body (script : List Int) {n : Int} (h0 : 0 ≤ n) (x0 x1 x2 x3 x4 x5 x6 : Option SV) : ∃ (y2 y3 y4 y5 y6 : Option SV),
    L_law_1 [some (.dat (scrD script)), some (.dat (.int n)), x2, x3, x4, x5, x6] = some (.nx, [some (.dat (scrD script)), some (.dat (.int n)), y2, y3, y4, y5, y6]) := by
  obtain ⟨es0, a1, s0⟩ := spring_ok script n h0
  obtain ⟨p, es1, a2, sh, sz, s1, hx, hy⟩ := plan_okB s0 4500 (by decide)
  have k : p.Sm := ⟨sh, hx, hy, sz⟩
  obtain ⟨ρ', g, y4, y5, y6, e'⟩ := for_inv (t := gName 4) (b := L_law_0) (fun ρ => ∃ (y4 y5 y6 : Option SV), ρ = [some (.dat (scrD script)), some (.dat (.int n)), some (.ol es1), some (.dat p.d), y4, y5, y6]) (ds := rgD 0 2) (by
    rintro d hd ρ ⟨y4, y5, y6, rfl⟩
    obtain ⟨i, hi, rfl⟩ := rg_mem hd
    obtain ⟨z5, z6, q⟩ := row k (t := 0 + (i : Int)) (by omega) (by omega) (some (.dat (scrD script))) (some (.dat (.int n))) (some (.ol es1)) x3 x4 y5 y6
    exact ⟨_, _, rfl, q, _, _, _, rfl⟩) [some (.dat (scrD script)), some (.dat (.int n)), some (.ol es1), some (.dat p.d), x4, x5, x6] ⟨_, _, _, rfl⟩
  subst e'
  refine ⟨some (.ol es1), some (.dat p.d), y4, y5, y6, ?_⟩
  unfold L_law_1
  refine (sSeq_nx (ρ1 := [some (.dat (scrD script)), some (.dat (.int n)), some (.ol es0), x3, x4, x5, x6]) (by simp [sOwnC, callD, callB, callO, args0, sSeq, sIf, sRet, sRetN, sRetO, sDrop, sAsg, sPar, sNx, sBk, sCt, sNever, eVar, eC, e1, e2, eIf, asB, eAnd, eOr, tAndM, tOrM, dNot, tNotB, aNil, aCons, mkT_ok, mkL_ok, gName, gsNil, gsCons, gTup, gLst, eChain, oNone, oSome, eSl, dIsi, dIsi2, tYesM, a1])).trans ?_
  refine (sSeq_nx (ρ1 := [some (.dat (scrD script)), some (.dat (.int n)), some (.ol es1), some (.dat p.d), x4, x5, x6]) (by simp [eBor, isOl, callD, callB, callO, args0, sSeq, sIf, sRet, sRetN, sRetO, sDrop, sAsg, sPar, sNx, sBk, sCt, sNever, eVar, eC, e1, e2, eIf, asB, eAnd, eOr, tAndM, tOrM, dNot, tNotB, aNil, aCons, mkT_ok, mkL_ok, gName, gsNil, gsCons, gTup, gLst, eChain, oNone, oSome, eSl, dIsi, dIsi2, tYesM, a2])).trans ?_
  exact forS_of (ds := rgD 0 2) rfl g
theorem law_true (script : List Int) : F_law [scrD script] = some (.bool true) := by
  obtain ⟨ρ', q, x0, x1, x2, x3, x4, x5, x6, rfl⟩ := for_inv (t := gName 1) (b := L_law_1) (fun ρ => ∃ x0 x1 x2 x3 x4 x5 x6, ρ = [some (.dat (scrD script)), x1, x2, x3, x4, x5, x6]) (ds := rgD 0 ((if (5 : Int) < (script.length : Int) then 5 else (script.length : Int)) + 1).toNat) (by
    rintro d hd ρ ⟨x0, x1, x2, x3, x4, x5, x6, rfl⟩
    obtain ⟨i, hi, rfl⟩ := rg_mem hd
    obtain ⟨y2, y3, y4, y5, y6, q⟩ := body script (n := 0 + (i : Int)) (by omega) x0 x1 x2 x3 x4 x5 x6
    exact ⟨_, _, rfl, q, none, _, _, _, _, _, _, rfl⟩) (args0 7 [scrD script]) ⟨none, none, none, none, none, none, none, rfl⟩
  have k1 := turns_ok script 5 (by decide) (by decide)
  have main : B_law (args0 7 [scrD script]) = some (.rt (.bool true), [some (.dat (scrD script)), x1, x2, x3, x4, x5, x6]) := by
    unfold B_law
    refine (sSeq_nx (forS_of (ρ1 := args0 7 [scrD script]) (by simp [callD, callB, callO, args0, sSeq, sIf, sRet, sRetN, sRetO, sDrop, sAsg, sPar, sNx, sBk, sCt, sNever, eVar, eC, e1, e2, eIf, asB, eAnd, eOr, tAndM, tOrM, dNot, tNotB, aNil, aCons, mkT_ok, mkL_ok, gName, gsNil, gsCons, gTup, gLst, eChain, oNone, oSome, eSl, dIsi, dIsi2, tYesM, scrD, k1]) q)).trans ?_
    simp [callD, callB, callO, args0, sSeq, sIf, sRet, sRetN, sRetO, sDrop, sAsg, sPar, sNx, sBk, sCt, sNever, eVar, eC, e1, e2, eIf, asB, eAnd, eOr, tAndM, tOrM, dNot, tNotB, aNil, aCons, mkT_ok, mkL_ok, gName, gsNil, gsCons, gTup, gLst, eChain, oNone, oSome, eSl, dIsi, dIsi2, tYesM]
  simp [F_law, callD, main]
end VS

open PySem PySem.W PyProof.Rows
set_option maxHeartbeats 0 in
theorem PySem.Challenge.cw_lagtalk_k07_whole_stretches_unheard_holds : PySem.Challenge.rw_lagtalk_k07_whole_stretches_unheard.Holds := by
  w_on; o_law; k_head; (case hw => w_witness2)
  k_fill
  refine VS.walk_endT (l := PySem.Challenge.rw_lagtalk_k07_whole_stretches_unheard) (n := 63) (k := 12) (x := "script") (F := VS.F_law) rfl (by decide) rfl ⟨rfl, by decide, by decide⟩ VS.law_true (fun w h Y => PySem.W.km_in_of Y) ?L
  case L =>
    intro w mg fa h Y KX G hmg
    have hT8 := PySem.W.km_tabs_of Y
    have z_abs : mg "abs" = none := by (refine PySem.W.mg_none_of KX G ?a; (case a => (try unfold L2.KOf); k_is))
    have z_all : mg "all" = none := by (refine PySem.W.mg_none_of KX G ?a; (case a => (try unfold L2.KOf); k_is))
    have z_bool : mg "bool" = none := by (refine PySem.W.mg_none_of KX G ?a; (case a => (try unfold L2.KOf); k_is))
    have z_dict : mg "dict" = none := by (refine PySem.W.mg_none_of KX G ?a; (case a => (try unfold L2.KOf); k_is))
    have z_int : mg "int" = none := by (refine PySem.W.mg_none_of KX G ?a; (case a => (try unfold L2.KOf); k_is))
    have z_isinstance : mg "isinstance" = none := by (refine PySem.W.mg_none_of KX G ?a; (case a => (try unfold L2.KOf); k_is))
    have z_len : mg "len" = none := by (refine PySem.W.mg_none_of KX G ?a; (case a => (try unfold L2.KOf); k_is))
    have z_list : mg "list" = none := by (refine PySem.W.mg_none_of KX G ?a; (case a => (try unfold L2.KOf); k_is))
    have z_max : mg "max" = none := by (refine PySem.W.mg_none_of KX G ?a; (case a => (try unfold L2.KOf); k_is))
    have z_min : mg "min" = none := by (refine PySem.W.mg_none_of KX G ?a; (case a => (try unfold L2.KOf); k_is))
    have z_range : mg "range" = none := by (refine PySem.W.mg_none_of KX G ?a; (case a => (try unfold L2.KOf); k_is))
    have z_str : mg "str" = none := by (refine PySem.W.mg_none_of KX G ?a; (case a => (try unfold L2.KOf); k_is))
    have z_tuple : mg "tuple" = none := by (refine PySem.W.mg_none_of KX G ?a; (case a => (try unfold L2.KOf); k_is))
    have z_zip : mg "zip" = none := by (refine PySem.W.mg_none_of KX G ?a; (case a => (try unfold L2.KOf); k_is))
    have c_MOST_SIZE : VS.GCm (L2.KOf KX) mg "MOST_SIZE" VS.c_MOST_SIZE := by (refine' VS.gc_int KX G ?a; (case a => (try unfold L2.KOf); k_is))
    have c_QUIET : VS.GCm (L2.KOf KX) mg "QUIET" VS.c_QUIET := by (refine' VS.gc_str KX G ?a; (case a => (try unfold L2.KOf); k_is))
    have c_SPEAKS : VS.GCm (L2.KOf KX) mg "SPEAKS" VS.c_SPEAKS := by (refine' VS.gc_str KX G ?a; (case a => (try unfold L2.KOf); k_is))
    have Z : VS.Glob (L2.KOf KX) mg := ⟨z_abs, z_all, z_bool, z_dict, z_int, z_isinstance, z_len, z_list, z_max, z_min, z_range, z_str, z_tuple, z_zip, c_MOST_SIZE, c_QUIET, c_SPEAKS⟩
    have t_is_within : VS.Df (L2.KOf KX) mg "is_within" "is_within" VS.s_is_within VS.p_is_within := by (refine' VS.df_mk KX G VS.bi_is_within ?a ?l ?c ?k; (case a => (try unfold L2.KOf); k_is); (case l => (try unfold L2.KOf); k_is); (case c => (try unfold L2.KOf); k_is); (case k => (try unfold L2.KOf); k_is))
    have t_is_span : VS.Df (L2.KOf KX) mg "is_span" "is_span" VS.s_is_span VS.p_is_span := by (refine' VS.df_mk KX G VS.bi_is_span ?a ?l ?c ?k; (case a => (try unfold L2.KOf); k_is); (case l => (try unfold L2.KOf); k_is); (case c => (try unfold L2.KOf); k_is); (case k => (try unfold L2.KOf); k_is))
    have t_is_habit : VS.Df (L2.KOf KX) mg "is_habit" "is_habit" VS.s_is_habit VS.p_is_habit := by (refine' VS.df_mk KX G VS.bi_is_habit ?a ?l ?c ?k; (case a => (try unfold L2.KOf); k_is); (case l => (try unfold L2.KOf); k_is); (case c => (try unfold L2.KOf); k_is); (case k => (try unfold L2.KOf); k_is))
    have t_size_of : VS.Df (L2.KOf KX) mg "size_of" "size_of" VS.s_size_of VS.p_size_of := by (refine' VS.df_mk KX G VS.bi_size_of ?a ?l ?c ?k; (case a => (try unfold L2.KOf); k_is); (case l => (try unfold L2.KOf); k_is); (case c => (try unfold L2.KOf); k_is); (case k => (try unfold L2.KOf); k_is))
    have t_is_plan : VS.Df (L2.KOf KX) mg "is_plan" "is_plan" VS.s_is_plan VS.p_is_plan := by (refine' VS.df_mk KX G VS.bi_is_plan ?a ?l ?c ?k; (case a => (try unfold L2.KOf); k_is); (case l => (try unfold L2.KOf); k_is); (case c => (try unfold L2.KOf); k_is); (case k => (try unfold L2.KOf); k_is))
    have t_look_at_plan : VS.Df (L2.KOf KX) mg "look_at_plan" "look_at_plan" VS.s_look_at_plan VS.p_look_at_plan := by (refine' VS.df_mk KX G VS.bi_look_at_plan ?a ?l ?c ?k; (case a => (try unfold L2.KOf); k_is); (case l => (try unfold L2.KOf); k_is); (case c => (try unfold L2.KOf); k_is); (case k => (try unfold L2.KOf); k_is))
    have t_look_at_talker : VS.Df (L2.KOf KX) mg "look_at_talker" "look_at_talker" VS.s_look_at_talker VS.p_look_at_talker := by (refine' VS.df_mk KX G VS.bi_look_at_talker ?a ?l ?c ?k; (case a => (try unfold L2.KOf); k_is); (case l => (try unfold L2.KOf); k_is); (case c => (try unfold L2.KOf); k_is); (case k => (try unfold L2.KOf); k_is))
    have t_begin_of : VS.Df (L2.KOf KX) mg "begin_of" "begin_of" VS.s_begin_of VS.p_begin_of := by (refine' VS.df_mk KX G VS.bi_begin_of ?a ?l ?c ?k; (case a => (try unfold L2.KOf); k_is); (case l => (try unfold L2.KOf); k_is); (case c => (try unfold L2.KOf); k_is); (case k => (try unfold L2.KOf); k_is))
    have t_ways_of : VS.Df (L2.KOf KX) mg "ways_of" "ways_of" VS.s_ways_of VS.p_ways_of := by (refine' VS.df_mk KX G VS.bi_ways_of ?a ?l ?c ?k; (case a => (try unfold L2.KOf); k_is); (case l => (try unfold L2.KOf); k_is); (case c => (try unfold L2.KOf); k_is); (case k => (try unfold L2.KOf); k_is))
    have t_choices_of : VS.Df (L2.KOf KX) mg "choices_of" "choices_of" VS.s_choices_of VS.p_choices_of := by (refine' VS.df_mk KX G VS.bi_choices_of ?a ?l ?c ?k; (case a => (try unfold L2.KOf); k_is); (case l => (try unfold L2.KOf); k_is); (case c => (try unfold L2.KOf); k_is); (case k => (try unfold L2.KOf); k_is))
    have t_sign_of : VS.Df (L2.KOf KX) mg "sign_of" "sign_of" VS.s_sign_of VS.p_sign_of := by (refine' VS.df_mk KX G VS.bi_sign_of ?a ?l ?c ?k; (case a => (try unfold L2.KOf); k_is); (case l => (try unfold L2.KOf); k_is); (case c => (try unfold L2.KOf); k_is); (case k => (try unfold L2.KOf); k_is))
    have t_signs_of : VS.Df (L2.KOf KX) mg "signs_of" "signs_of" VS.s_signs_of VS.p_signs_of := by (refine' VS.df_mk KX G VS.bi_signs_of ?a ?l ?c ?k; (case a => (try unfold L2.KOf); k_is); (case l => (try unfold L2.KOf); k_is); (case c => (try unfold L2.KOf); k_is); (case k => (try unfold L2.KOf); k_is))
    have t_heard_by : VS.Df (L2.KOf KX) mg "heard_by" "heard_by" VS.s_heard_by VS.p_heard_by := by (refine' VS.df_mk KX G VS.bi_heard_by ?a ?l ?c ?k; (case a => (try unfold L2.KOf); k_is); (case l => (try unfold L2.KOf); k_is); (case c => (try unfold L2.KOf); k_is); (case k => (try unfold L2.KOf); k_is))
    have t_hearing_of : VS.Df (L2.KOf KX) mg "hearing_of" "hearing_of" VS.s_hearing_of VS.p_hearing_of := by (refine' VS.df_mk KX G VS.bi_hearing_of ?a ?l ?c ?k; (case a => (try unfold L2.KOf); k_is); (case l => (try unfold L2.KOf); k_is); (case c => (try unfold L2.KOf); k_is); (case k => (try unfold L2.KOf); k_is))
    have t_is_whole : VS.Df (L2.KOf KX) mg "is_whole" "is_whole" VS.s_is_whole VS.p_is_whole := by (refine' VS.df_mk KX G VS.bi_is_whole ?a ?l ?c ?k; (case a => (try unfold L2.KOf); k_is); (case l => (try unfold L2.KOf); k_is); (case c => (try unfold L2.KOf); k_is); (case k => (try unfold L2.KOf); k_is))
    have t_talker_behind : VS.Df (L2.KOf KX) mg "talker_behind" "talker_behind" VS.s_talker_behind VS.p_talker_behind := by (refine' VS.df_mk KX G VS.bi_talker_behind ?a ?l ?c ?k; (case a => (try unfold L2.KOf); k_is); (case l => (try unfold L2.KOf); k_is); (case c => (try unfold L2.KOf); k_is); (case k => (try unfold L2.KOf); k_is))
    have t_behind : VS.Df (L2.KOf KX) mg "behind" "behind" VS.s_behind VS.p_behind := by (refine' VS.df_mk KX G VS.bi_behind ?a ?l ?c ?k; (case a => (try unfold L2.KOf); k_is); (case l => (try unfold L2.KOf); k_is); (case c => (try unfold L2.KOf); k_is); (case k => (try unfold L2.KOf); k_is))
    have t_whole_by : VS.Df (L2.KOf KX) mg "whole_by" "whole_by" VS.s_whole_by VS.p_whole_by := by (refine' VS.df_mk KX G VS.bi_whole_by ?a ?l ?c ?k; (case a => (try unfold L2.KOf); k_is); (case l => (try unfold L2.KOf); k_is); (case c => (try unfold L2.KOf); k_is); (case k => (try unfold L2.KOf); k_is))
    have t_ways_by : VS.Df (L2.KOf KX) mg "ways_by" "ways_by" VS.s_ways_by VS.p_ways_by := by (refine' VS.df_mk KX G VS.bi_ways_by ?a ?l ?c ?k; (case a => (try unfold L2.KOf); k_is); (case l => (try unfold L2.KOf); k_is); (case c => (try unfold L2.KOf); k_is); (case k => (try unfold L2.KOf); k_is))
    have t_longest_way : VS.Df (L2.KOf KX) mg "longest_way" "longest_way" VS.s_longest_way VS.p_longest_way := by (refine' VS.df_mk KX G VS.bi_longest_way ?a ?l ?c ?k; (case a => (try unfold L2.KOf); k_is); (case l => (try unfold L2.KOf); k_is); (case c => (try unfold L2.KOf); k_is); (case k => (try unfold L2.KOf); k_is))
    have t_steps_by : VS.Df (L2.KOf KX) mg "steps_by" "steps_by" VS.s_steps_by VS.p_steps_by := by (refine' VS.df_mk KX G VS.bi_steps_by ?a ?l ?c ?k; (case a => (try unfold L2.KOf); k_is); (case l => (try unfold L2.KOf); k_is); (case c => (try unfold L2.KOf); k_is); (case k => (try unfold L2.KOf); k_is))
    have t_longest_unheard : VS.Df (L2.KOf KX) mg "longest_unheard" "longest_unheard" VS.s_longest_unheard VS.p_longest_unheard := by (refine' VS.df_mk KX G VS.bi_longest_unheard ?a ?l ?c ?k; (case a => (try unfold L2.KOf); k_is); (case l => (try unfold L2.KOf); k_is); (case c => (try unfold L2.KOf); k_is); (case k => (try unfold L2.KOf); k_is))
    have t_over_saves : VS.Df (L2.KOf KX) mg "over_saves" "over_saves" VS.s_over_saves VS.p_over_saves := by (refine' VS.df_mk KX G VS.bi_over_saves ?a ?l ?c ?k; (case a => (try unfold L2.KOf); k_is); (case l => (try unfold L2.KOf); k_is); (case c => (try unfold L2.KOf); k_is); (case k => (try unfold L2.KOf); k_is))
    have t__law_spring : VS.Df (L2.KOf KX) mg "_law_spring" "_law_spring" VS.s__law_spring VS.p__law_spring := by (refine' VS.df_mk KX G VS.bi__law_spring ?a ?l ?c ?k; (case a => (try unfold L2.KOf); k_is); (case l => (try unfold L2.KOf); k_is); (case c => (try unfold L2.KOf); k_is); (case k => (try unfold L2.KOf); k_is))
    have t__law_pick : VS.Df (L2.KOf KX) mg "_law_pick" "_law_pick" VS.s__law_pick VS.p__law_pick := by (refine' VS.df_mk KX G VS.bi__law_pick ?a ?l ?c ?k; (case a => (try unfold L2.KOf); k_is); (case l => (try unfold L2.KOf); k_is); (case c => (try unfold L2.KOf); k_is); (case k => (try unfold L2.KOf); k_is))
    have t__law_kind : VS.Df (L2.KOf KX) mg "_law_kind" "_law_kind" VS.s__law_kind VS.p__law_kind := by (refine' VS.df_mk KX G VS.bi__law_kind ?a ?l ?c ?k; (case a => (try unfold L2.KOf); k_is); (case l => (try unfold L2.KOf); k_is); (case c => (try unfold L2.KOf); k_is); (case k => (try unfold L2.KOf); k_is))
    have t__law_twins : VS.Df (L2.KOf KX) mg "_law_twins" "_law_twins" VS.s__law_twins VS.p__law_twins := by (refine' VS.df_mk KX G VS.bi__law_twins ?a ?l ?c ?k; (case a => (try unfold L2.KOf); k_is); (case l => (try unfold L2.KOf); k_is); (case c => (try unfold L2.KOf); k_is); (case k => (try unfold L2.KOf); k_is))
    have t__law_habit : VS.Df (L2.KOf KX) mg "_law_habit" "_law_habit" VS.s__law_habit VS.p__law_habit := by (refine' VS.df_mk KX G VS.bi__law_habit ?a ?l ?c ?k; (case a => (try unfold L2.KOf); k_is); (case l => (try unfold L2.KOf); k_is); (case c => (try unfold L2.KOf); k_is); (case k => (try unfold L2.KOf); k_is))
    have t__law_size : VS.Df (L2.KOf KX) mg "_law_size" "_law_size" VS.s__law_size VS.p__law_size := by (refine' VS.df_mk KX G VS.bi__law_size ?a ?l ?c ?k; (case a => (try unfold L2.KOf); k_is); (case l => (try unfold L2.KOf); k_is); (case c => (try unfold L2.KOf); k_is); (case k => (try unfold L2.KOf); k_is))
    have t__law_plan : VS.Df (L2.KOf KX) mg "_law_plan" "_law_plan" VS.s__law_plan VS.p__law_plan := by (refine' VS.df_mk KX G VS.bi__law_plan ?a ?l ?c ?k; (case a => (try unfold L2.KOf); k_is); (case l => (try unfold L2.KOf); k_is); (case c => (try unfold L2.KOf); k_is); (case k => (try unfold L2.KOf); k_is))
    have t__law_first : VS.Df (L2.KOf KX) mg "_law_first" "_law_first" VS.s__law_first VS.p__law_first := by (refine' VS.df_mk KX G VS.bi__law_first ?a ?l ?c ?k; (case a => (try unfold L2.KOf); k_is); (case l => (try unfold L2.KOf); k_is); (case c => (try unfold L2.KOf); k_is); (case k => (try unfold L2.KOf); k_is))
    have t__law_options : VS.Df (L2.KOf KX) mg "_law_options" "_law_options" VS.s__law_options VS.p__law_options := by (refine' VS.df_mk KX G VS.bi__law_options ?a ?l ?c ?k; (case a => (try unfold L2.KOf); k_is); (case l => (try unfold L2.KOf); k_is); (case c => (try unfold L2.KOf); k_is); (case k => (try unfold L2.KOf); k_is))
    have t__law_choices : VS.Df (L2.KOf KX) mg "_law_choices" "_law_choices" VS.s__law_choices VS.p__law_choices := by (refine' VS.df_mk KX G VS.bi__law_choices ?a ?l ?c ?k; (case a => (try unfold L2.KOf); k_is); (case l => (try unfold L2.KOf); k_is); (case c => (try unfold L2.KOf); k_is); (case k => (try unfold L2.KOf); k_is))
    have t__law_voice : VS.Df (L2.KOf KX) mg "_law_voice" "_law_voice" VS.s__law_voice VS.p__law_voice := by (refine' VS.df_mk KX G VS.bi__law_voice ?a ?l ?c ?k; (case a => (try unfold L2.KOf); k_is); (case l => (try unfold L2.KOf); k_is); (case c => (try unfold L2.KOf); k_is); (case k => (try unfold L2.KOf); k_is))
    have t__law_led : VS.Df (L2.KOf KX) mg "_law_led" "_law_led" VS.s__law_led VS.p__law_led := by (refine' VS.df_mk KX G VS.bi__law_led ?a ?l ?c ?k; (case a => (try unfold L2.KOf); k_is); (case l => (try unfold L2.KOf); k_is); (case c => (try unfold L2.KOf); k_is); (case k => (try unfold L2.KOf); k_is))
    have t__law_tick : VS.Df (L2.KOf KX) mg "_law_tick" "_law_tick" VS.s__law_tick VS.p__law_tick := by (refine' VS.df_mk KX G VS.bi__law_tick ?a ?l ?c ?k; (case a => (try unfold L2.KOf); k_is); (case l => (try unfold L2.KOf); k_is); (case c => (try unfold L2.KOf); k_is); (case k => (try unfold L2.KOf); k_is))
    have t__law_ways : VS.Df (L2.KOf KX) mg "_law_ways" "_law_ways" VS.s__law_ways VS.p__law_ways := by (refine' VS.df_mk KX G VS.bi__law_ways ?a ?l ?c ?k; (case a => (try unfold L2.KOf); k_is); (case l => (try unfold L2.KOf); k_is); (case c => (try unfold L2.KOf); k_is); (case k => (try unfold L2.KOf); k_is))
    have t__law_edges : VS.Df (L2.KOf KX) mg "_law_edges" "_law_edges" VS.s__law_edges VS.p__law_edges := by (refine' VS.df_mk KX G VS.bi__law_edges ?a ?l ?c ?k; (case a => (try unfold L2.KOf); k_is); (case l => (try unfold L2.KOf); k_is); (case c => (try unfold L2.KOf); k_is); (case k => (try unfold L2.KOf); k_is))
    have t__law_longest : VS.Df (L2.KOf KX) mg "_law_longest" "_law_longest" VS.s__law_longest VS.p__law_longest := by (refine' VS.df_mk KX G VS.bi__law_longest ?a ?l ?c ?k; (case a => (try unfold L2.KOf); k_is); (case l => (try unfold L2.KOf); k_is); (case c => (try unfold L2.KOf); k_is); (case k => (try unfold L2.KOf); k_is))
    have t__law_unheard : VS.Df (L2.KOf KX) mg "_law_unheard" "_law_unheard" VS.s__law_unheard VS.p__law_unheard := by (refine' VS.df_mk KX G VS.bi__law_unheard ?a ?l ?c ?k; (case a => (try unfold L2.KOf); k_is); (case l => (try unfold L2.KOf); k_is); (case c => (try unfold L2.KOf); k_is); (case k => (try unfold L2.KOf); k_is))
    obtain ⟨fd, Fx, hbind⟩ : ∃ fd : FuncData, L2.Fun (L2.KOf KX) "law" "law" VS.s_law fa fd ∧ VS.Binds1 fd "script" := by (refine' VS.law_at (st := VS.s_law) KX G hmg VS.bi_law ?a ?l ?c ?k; (case a => (try unfold L2.KOf); k_is); (case l => (try unfold L2.KOf); k_is); (case c => (try unfold L2.KOf); k_is); (case k => (try unfold L2.KOf); k_is))
    let T : VS.Tb := [(184, (("unheard_by" : Str) ++ ".<locals>.") ++ "<lambda>")]
    refine ⟨fd, [(188, 184)], T, ?h1, ?h2, ?h3, ?h4, hbind, fun base KB GB TB => ?h5⟩
    case h1 => exact List.forall_mem_cons.mpr ⟨hT8 184 (by k_mem), (fun _ h => nomatch h)⟩
    case h2 => exact List.forall_mem_cons.mpr ⟨by kernel_rfl, (fun _ h => nomatch h)⟩
    case h3 => exact List.forall_mem_cons.mpr ⟨PySem.W.codeHd_of_K KX (by kernel_rfl), (fun _ h => nomatch h)⟩
    case h4 => exact List.forall_mem_cons.mpr ⟨⟨(188, 184), by decide, rfl⟩, (fun _ h => nomatch h)⟩
    case h5 =>
      have t_unheard_by : VS.DfL (L2.KOf KX) mg base T "unheard_by" "unheard_by" VS.s_unheard_by VS.p_unheard_by := by (refine' VS.dfl_mk (c := 188) (P := 184) KX G VS.bi_unheard_by ?a ?l ?c ?k (TB (188, 184) (by decide)) (by decide) (by decide); (case a => (try unfold L2.KOf); k_is); (case l => (try unfold L2.KOf); k_is); (case c => (try unfold L2.KOf); k_is); (case k => (try unfold L2.KOf); k_is))
      exact VS.all_ok ⟨Z, t_is_within, t_is_span, t_is_habit, t_size_of, t_is_plan, t_look_at_plan, t_look_at_talker, t_begin_of, t_ways_of, t_choices_of, t_sign_of, t_signs_of, t_heard_by, t_hearing_of, t_is_whole, t_talker_behind, t_behind, t_whole_by, t_ways_by, t_longest_way, t_steps_by, t_unheard_by, t_longest_unheard, t_over_saves, t__law_spring, t__law_pick, t__law_kind, t__law_twins, t__law_habit, t__law_size, t__law_plan, t__law_first, t__law_options, t__law_choices, t__law_voice, t__law_led, t__law_tick, t__law_ways, t__law_edges, t__law_longest, t__law_unheard⟩ Fx
