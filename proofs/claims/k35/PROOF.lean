import PyProof.Rows.All
import HandS.ForMost
import HandS.Wide
import KE.DataEq
import KE.DataCmp
import KE.DataMinMax
import KE.DataFind
import KE.DataIsa
import KE.DataAny
import KE.SortData
import PyProof.Rows.SeqMore
import HandS.Codes
import HandS.IsInst
import HandS.Style
import HandS.Defaults
import HandS.Zip
import KE.KDictZip
import KE.GoesEnum
import KE.GoesNew
import HandS.TupMul
import HandS.Text
import KE.KTupSum
import HandS.Dict
import PySem.Challenge.RW_eachtongue_k35_whole_sums_of_octets_join
set_option Elab.async false
set_option linter.all false
set_option maxRecDepth 100000
set_option maxHeartbeats 4000000
/-! D-layer, part a: data D, what a value stands for (Rep), who owns which list (SR), judgements for expressions and statements. -/
namespace DL
open PySem PySem.Spec PyProof.Rows L2

/-- plain data: what a value stands for -/
inductive D where
  | non | bl (b : Bool) | int (i : Int) | str (x : Str)
  | tup (xs : List D) | lst (xs : List D)
  | dic (kvs : List (Key × D)) | set (xs : List D)
  | ins (C : Addr) (fs : List (Str × D))
  | obj (a : Addr) | ty (n : String)
  /-- a list that was there ahead of all and never changes -/
  | wls (xs : List D)

/-- objects that may change -/
def Mt : HO → Prop
  | .tup _ => False
  | .own _ => False
  | .frz _ _ => False
  | .tbl _ => False
  | _ => True

/-- all that was tracked is as it was, but for what may change at addresses of P -/
def Keep (P : Addr → Prop) (H H' : Hp) : Prop := ∀ a o, H a = some o → H' a = some o ∨ (P a ∧ Mt o ∧ ∃ o', H' a = some o' ∧ Mt o')
theorem Keep.refl (P : Addr → Prop) (H : Hp) : Keep P H H := fun _ _ h => .inl h
theorem Keep.of_same {P : Addr → Prop} {H H' : Hp} (h : Same H H') : Keep P H H' := fun a o e => .inl (h a o e)
theorem Keep.trans {P : Addr → Prop} {H H1 H2 : Hp} (a : Keep P H H1) (b : Keep P H1 H2) : Keep P H H2 := fun c o h => by
  rcases a c o h with h1 | ⟨p, m, o1, h1, m1⟩
  · exact b c o h1
  · rcases b c o1 h1 with h2 | ⟨_, _, o2, h2, m2⟩
    · exact .inr ⟨p, m, o1, h2, m1⟩
    · exact .inr ⟨p, m, o2, h2, m2⟩
theorem Keep.mono {P Q : Addr → Prop} {H H' : Hp} (a : Keep P H H') (h : ∀ x, P x → Q x) : Keep Q H H' := fun c o e => (a c o e).imp id fun ⟨p, r⟩ => ⟨h c p, r⟩
theorem Keep.there {P : Addr → Prop} {H H' : Hp} (k : Keep P H H') {a : Addr} (h : H a ≠ none) : H' a ≠ none := by
  cases e : H a with
  | none => exact absurd e h
  | some o =>
    rcases k a o e with h1 | ⟨_, _, o', h1, _⟩ <;> rw [h1] <;> simp
theorem Keep.free {P : Addr → Prop} {H H' : Hp} (k : Keep P H H') {a : Addr} (h : H' a = none) : H a = none := by
  cases e : H a with
  | none => rfl
  | some o => exact absurd h (k.there (by rw [e]; simp))
theorem Keep.at_ {P : Addr → Prop} {H H' : Hp} (k : Keep P H H') {a : Addr} {o : HO} (h : H a = some o) (hp : ¬ P a) : H' a = some o :=
  (k a o h).elim id fun x => absurd x.1 hp
theorem Keep.still {P : Addr → Prop} {H H' : Hp} (k : Keep P H H') {a : Addr} {o : HO} (h : H a = some o) (hp : ¬ Mt o) : H' a = some o :=
  (k a o h).elim id fun x => absurd x.2.1 hp
theorem same_upd {H : Hp} {p : Addr} {o : HO} (h : H p = none) : Same H (upd H p o) := fun b x e => by
  rw [upd_ne (ne_of_none e h)]
  exact e
/-- a tracked thing is changed -/
theorem keep_upd {P : Addr → Prop} {H : Hp} {p : Addr} {o o' : HO} (h : H p = some o) (m : Mt o) (m' : Mt o') (hp : P p) : Keep P H (upd H p o') := fun b x e => by
  by_cases hb : b = p
  · subst hb
    rw [h] at e
    cases e
    exact .inr ⟨hp, m, o', upd_same, m'⟩
  · exact .inl (by rw [upd_ne hb]; exact e)

theorem SqT.keep {P : Addr → Prop} {K : PySem.W.Frag} {H H' : Hp} {a : Addr} {xs : List V} (k : Keep P H H') (h : SqT K H a xs) : SqT K H' a xs := by
  rcases h with (h | ⟨o, h⟩) | h
  · exact .inl (.inl (k.still h (by exact id)))
  · exact .inl (.inr ⟨o, k.still h (by exact id)⟩)
  · exact .inr h

theorem rd_keep {P : Addr → Prop} {H H' : Hp} {a : Addr} {xs : List V} (k : Keep P H H') (h : Rd H a (.lst xs)) (n : ¬ P a) : Rd H' a (.lst xs) := by
  rcases h with h | ⟨o, h⟩
  · exact .inl (k.at_ h n)
  · exact .inr ⟨o, k.still h (by exact id)⟩
theorem rd_there {H : Hp} {a : Addr} {xs : List V} (h : Rd H a (.lst xs)) : ¬ H a = none := fun z => by
  rcases h with h | ⟨o, h⟩ <;> (rw [h] at z; cases z)
/-- a list that never changes -/
def WL (K : PySem.W.Frag) (H : Hp) (a : Addr) (xs : List V) : Prop := (∃ o, H a = some (.frz o (.lst xs))) ∨ ∃ (o : Obj) (its : Array Value) (n : Nat), K.lookup a = some o ∧ o.cls = .type "list" ∧ o.dict = none ∧ o.data = .seq its n ∧ its.size ≤ sizeLine ∧ Vals xs its.toList
theorem WL.keep {P : Addr → Prop} {K : PySem.W.Frag} {H H' : Hp} {a : Addr} {xs : List V} (k : Keep P H H') (h : WL K H a xs) : WL K H' a xs := by
  rcases h with ⟨o, h⟩ | h
  · exact .inl ⟨o, k.still h (by exact id)⟩
  · exact .inr h
theorem WL.sq {K : PySem.W.Frag} {H : Hp} {a : Addr} {xs : List V} (h : WL K H a xs) : SqL K H a xs := by
  rcases h with ⟨o, h⟩ | h
  · exact .inl (.inr ⟨o, h⟩)
  · exact .inr h
mutual
/-- v stands for the data; no list or instance of it lies at an address of O -/
inductive Rep (K : PySem.W.Frag) (O : Addr → Prop) (H : Hp) : V → D → Prop
  | non : Rep K O H .non .non
  | bl (b : Bool) : Rep K O H (.bl b) (.bl b)
  | int (i : Int) : Rep K O H (.int i) (.int i)
  | str (x : Str) : Rep K O H (.str x) (.str x)
  | tup {a : Addr} {xs : List V} {ds : List D} : SqT K H a xs → Reps K O H xs ds → Rep K O H (.ref a) (.tup ds)
  | lst {a : Addr} {xs : List V} {ds : List D} : H a = some (.lst xs) → ¬ O a → Reps K O H xs ds → Rep K O H (.ref a) (.lst ds)
  | ins {C a dx : Addr} {fs : List (Str × V)} {ds : List (Str × D)} : H a = some (.ins C dx fs) → ¬ O a → fs.map (·.1) = ds.map (·.1) → Reps K O H (fs.map (·.2)) (ds.map (·.2)) → Rep K O H (.ref a) (.ins C ds)
  | dic {a : Addr} {kvs : List (Key × V)} {ds : List (Key × D)} : H a = some (.dK kvs) → ¬ O a → kvs.map (·.1) = ds.map (·.1) → Reps K O H (kvs.map (·.2)) (ds.map (·.2)) → Rep K O H (.ref a) (.dic ds)
  | obj (a : Addr) : Rep K O H (.ref a) (.obj a)
  | ty (n : String) : Rep K O H (.ty n) (.ty n)
  | wls {a : Addr} {xs : List V} {ds : List D} : WL K H a xs → Reps K O H xs ds → Rep K O H (.ref a) (.wls ds)
inductive Reps (K : PySem.W.Frag) (O : Addr → Prop) (H : Hp) : List V → List D → Prop
  | nil : Reps K O H [] []
  | cons {v : V} {d : D} {vs : List V} {ds : List D} : Rep K O H v d → Reps K O H vs ds → Reps K O H (v :: vs) (d :: ds)
end

section
variable {K : PySem.W.Frag} {O O' P : Addr → Prop} {H H' : Hp} {v : V} {d : D} {vs : List V} {ds : List D}
mutual
theorem Rep.keep (k : Keep P H H') (hp : ∀ a, P a → O a) : ∀ {v : V} {d : D}, Rep K O H v d → Rep K O H' v d
  | _, _, .non => .non
  | _, _, .bl b => .bl b
  | _, _, .int i => .int i
  | _, _, .str x => .str x
  | _, _, .tup h r => .tup (SqT.keep k h) (Reps.keep k hp r)
  | _, _, .lst h n r => .lst (k.at_ h fun z => n (hp _ z)) n (Reps.keep k hp r)
  | _, _, .ins h n e r => .ins (k.at_ h fun z => n (hp _ z)) n e (Reps.keep k hp r)
  | _, _, .dic h n e r => .dic (k.at_ h fun z => n (hp _ z)) n e (Reps.keep k hp r)
  | _, _, .obj a => .obj a
  | _, _, .ty n => .ty n
  | _, _, .wls h r => .wls (WL.keep k h) (Reps.keep k hp r)
theorem Reps.keep (k : Keep P H H') (hp : ∀ a, P a → O a) : ∀ {vs : List V} {ds : List D}, Reps K O H vs ds → Reps K O H' vs ds
  | _, _, .nil => .nil
  | _, _, .cons h r => .cons (Rep.keep k hp h) (Reps.keep k hp r)
end
mutual
theorem Rep.weak (hp : ∀ a, O' a → O a) : ∀ {v : V} {d : D}, Rep K O H v d → Rep K O' H v d
  | _, _, .non => .non
  | _, _, .bl b => .bl b
  | _, _, .int i => .int i
  | _, _, .str x => .str x
  | _, _, .tup h r => .tup h (Reps.weak hp r)
  | _, _, .lst h n r => .lst h (fun z => n (hp _ z)) (Reps.weak hp r)
  | _, _, .ins h n e r => .ins h (fun z => n (hp _ z)) e (Reps.weak hp r)
  | _, _, .dic h n e r => .dic h (fun z => n (hp _ z)) e (Reps.weak hp r)
  | _, _, .obj a => .obj a
  | _, _, .ty n => .ty n
  | _, _, .wls h r => .wls (h) (Reps.weak hp r)
theorem Reps.weak (hp : ∀ a, O' a → O a) : ∀ {vs : List V} {ds : List D}, Reps K O H vs ds → Reps K O' H vs ds
  | _, _, .nil => .nil
  | _, _, .cons h r => .cons (Rep.weak hp h) (Reps.weak hp r)
end
theorem Rep.same (e : Same H H') (r : Rep K O H v d) : Rep K O H' v d := r.keep (P := fun _ => False) (Keep.of_same e) fun _ z => z.elim
theorem Reps.same (e : Same H H') (r : Reps K O H vs ds) : Reps K O H' vs ds := r.keep (P := fun _ => False) (Keep.of_same e) fun _ z => z.elim
mutual
/-- what is new (H p = none ahead) is no part of it -/
theorem Rep.more (hp : ∀ a, O' a → O a ∨ H a = none) : ∀ {v : V} {d : D}, Rep K O H v d → Rep K O' H v d
  | _, _, .non => .non
  | _, _, .bl b => .bl b
  | _, _, .int i => .int i
  | _, _, .str x => .str x
  | _, _, .tup h r => .tup h (Reps.more hp r)
  | _, _, .lst h n r => .lst h (fun z => (hp _ z).elim n fun z => rd_there (.inl h) z) (Reps.more hp r)
  | _, _, .ins h n e r => .ins h (fun z => (hp _ z).elim n fun z => by rw [h] at z; cases z) e (Reps.more hp r)
  | _, _, .dic h n e r => .dic h (fun z => (hp _ z).elim n fun z => by rw [h] at z; cases z) e (Reps.more hp r)
  | _, _, .obj a => .obj a
  | _, _, .ty n => .ty n
  | _, _, .wls h r => .wls (h) (Reps.more hp r)
theorem Reps.more (hp : ∀ a, O' a → O a ∨ H a = none) : ∀ {vs : List V} {ds : List D}, Reps K O H vs ds → Reps K O' H vs ds
  | _, _, .nil => .nil
  | _, _, .cons h r => .cons (Rep.more hp h) (Reps.more hp r)
end
theorem Reps.length : ∀ {vs : List V} {ds : List D}, Reps K O H vs ds → vs.length = ds.length
  | _, _, .nil => rfl
  | _, _, .cons _ r => by rw [List.length_cons, List.length_cons, r.length]
theorem Reps.append : ∀ {vs ws : List V} {ds es : List D}, Reps K O H vs ds → Reps K O H ws es → Reps K O H (vs ++ ws) (ds ++ es)
  | _, _, _, _, .nil, s => s
  | _, _, _, _, .cons h r, s => .cons h (Reps.append r s)
theorem Reps.get : ∀ {vs : List V} {ds : List D} {i : Nat} {v : V}, Reps K O H vs ds → vs[i]? = some v → ∃ d, ds[i]? = some d ∧ Rep K O H v d
  | _, _, _, _, .nil, e => by simp at e
  | _, _, 0, _, .cons h _, e => by simp at e; subst e; exact ⟨_, rfl, h⟩
  | _, _, i + 1, _, .cons _ r, e => by
    obtain ⟨d, h1, h2⟩ := Reps.get (i := i) r (by simpa using e)
    exact ⟨d, by simpa using h1, h2⟩
theorem Reps.getD : ∀ {vs : List V} {ds : List D} {i : Nat} {d : D}, Reps K O H vs ds → ds[i]? = some d → ∃ v, vs[i]? = some v ∧ Rep K O H v d
  | _, _, _, _, .nil, e => by simp at e
  | _, _, 0, _, .cons h _, e => by simp at e; subst e; exact ⟨_, rfl, h⟩
  | _, _, i + 1, _, .cons _ r, e => by
    obtain ⟨d, h1, h2⟩ := Reps.getD (i := i) r (by simpa using e)
    exact ⟨d, by simpa using h1, h2⟩
theorem Reps.take : ∀ {vs : List V} {ds : List D} (n : Nat), Reps K O H vs ds → Reps K O H (vs.take n) (ds.take n)
  | _, _, 0, _ => .nil
  | _, _, _ + 1, .nil => .nil
  | _, _, n + 1, .cons h r => .cons h (Reps.take n r)
theorem Reps.drop : ∀ {vs : List V} {ds : List D} (n : Nat), Reps K O H vs ds → Reps K O H (vs.drop n) (ds.drop n)
  | _, _, 0, r => r
  | _, _, _ + 1, .nil => .nil
  | _, _, n + 1, .cons _ r => Reps.drop n r
theorem Reps.set (i : Nat) (h : Rep K O H v d) : ∀ {vs : List V} {ds : List D} {i : Nat}, Reps K O H vs ds → Reps K O H (vs.set i v) (ds.set i d)
  | _, _, _, .nil => .nil
  | _, _, 0, .cons _ r => .cons h r
  | _, _, i + 1, .cons g r => .cons g (Reps.set i h r)
theorem Reps.eraseIdx : ∀ {vs : List V} {ds : List D} (i : Nat), Reps K O H vs ds → Reps K O H (vs.eraseIdx i) (ds.eraseIdx i)
  | _, _, _, .nil => .nil
  | _, _, 0, .cons _ r => r
  | _, _, i + 1, .cons g r => .cons g (Reps.eraseIdx i r)
theorem Reps.reverse (r : Reps K O H vs ds) : Reps K O H vs.reverse ds.reverse := by
  induction r using Reps.rec (motive_1 := fun _ _ _ => True) with
  | nil => exact .nil
  | cons h r _ ih =>
    rw [List.reverse_cons, List.reverse_cons]
    exact ih.append (.cons h .nil)
  | _ => trivial
theorem Reps.dropLast (r : Reps K O H vs ds) : Reps K O H vs.dropLast ds.dropLast := by
  rw [List.dropLast_eq_take, List.dropLast_eq_take, r.length]
  exact r.take _
theorem Reps.one {d : D} : Reps K O H vs [d] → ∃ v, vs = [v] ∧ Rep K O H v d
  | .cons h .nil => ⟨_, rfl, h⟩
theorem Reps.ints : ∀ {vs : List V} {is : List Int}, Reps K O H vs (is.map D.int) → vs = is.map V.int
  | [], [], _ => rfl
  | _ :: _, [], h => by cases h
  | [], _ :: _, h => by cases h
  | _ :: _, _ :: _, .cons h r => by
    cases h
    rw [List.map_cons, Reps.ints r]
theorem Reps.of_ints (is : List Int) : Reps K O H (is.map V.int) (is.map D.int) := by
  induction is with
  | nil => exact .nil
  | cons i r ih => exact .cons (.int i) ih
end

/-! ### who owns what -/
/-- what a def's run leans on: A what others own, P the draws' list and its cells -/
structure Gh where
  A : Addr → Prop
  P : Option (Addr × Addr)
def Gh.Pd (g : Gh) (a : Addr) : Prop := ∃ p q, g.P = some (p, q) ∧ (a = p ∨ a = q)
/-- a name's slot: unknown, data that stays, a list (dict, set) of one's own, the draws -/
inductive SV where
  | un | sh (d : D) | ow (d : D) | dl
abbrev Rho := List SV
/-- the draws: the cells, the mix -/
abbrev Dr := List Int × Int
abbrev Fp := Nat → List Addr
def Ow (F : Fp) (a : Addr) : Prop := ∃ i, a ∈ F i
def Av (g : Gh) (F : Fp) (a : Addr) : Prop := g.A a ∨ g.Pd a ∨ Ow F a
/-- the object at p is one's own thing -/
def Top (K : PySem.W.Frag) (O : Addr → Prop) (H : Hp) (p : Addr) : D → Prop
  | .lst ds => ∃ xs, H p = some (.lst xs) ∧ Reps K O H xs ds
  | .dic ds => ∃ kvs : List (Key × V), H p = some (.dK kvs) ∧ kvs.map (·.1) = ds.map (·.1) ∧ Reps K O H (kvs.map (·.2)) (ds.map (·.2))
  | _ => False
theorem Top.keep {K : PySem.W.Frag} {O P : Addr → Prop} {H H' : Hp} {p : Addr} {d : D} (k : Keep P H H') (hp : ∀ a, P a → O a) (np : ¬ P p) (t : Top K O H p d) : Top K O H' p d := by
  cases d with
  | lst ds =>
    obtain ⟨xs, h, r⟩ := t
    exact ⟨xs, k.at_ h np, r.keep k hp⟩
  | dic ds =>
    obtain ⟨xs, h, e, r⟩ := t
    exact ⟨xs, k.at_ h np, e, r.keep k hp⟩
  | _ => exact t.elim
theorem Top.weak {K : PySem.W.Frag} {O O' : Addr → Prop} {H : Hp} {p : Addr} {d : D} (hp : ∀ a, O' a → O a) (t : Top K O H p d) : Top K O' H p d := by
  cases d with
  | lst ds =>
    obtain ⟨xs, h, r⟩ := t
    exact ⟨xs, h, r.weak hp⟩
  | dic ds =>
    obtain ⟨xs, h, e, r⟩ := t
    exact ⟨xs, h, e, r.weak hp⟩
  | _ => exact t.elim
theorem Top.there {K : PySem.W.Frag} {O : Addr → Prop} {H : Hp} {p : Addr} {d : D} (t : Top K O H p d) : ∃ o, H p = some o ∧ Mt o := by
  cases d with
  | lst ds =>
    obtain ⟨xs, h, r⟩ := t
    exact ⟨_, h, trivial⟩
  | dic ds =>
    obtain ⟨xs, h, e, r⟩ := t
    exact ⟨_, h, trivial⟩
  | _ => exact t.elim
/-- given out of hand -/
theorem Top.rep {K : PySem.W.Frag} {O : Addr → Prop} {H : Hp} {p : Addr} {d : D} (hp : ¬ O p) (t : Top K O H p d) : Rep K O H (.ref p) d := by
  cases d with
  | lst ds =>
    obtain ⟨xs, h, r⟩ := t
    exact .lst h hp r
  | dic ds =>
    obtain ⟨xs, h, e, r⟩ := t
    exact .dic h hp e r
  | _ => exact t.elim

def SlotR (K : PySem.W.Frag) (g : Gh) (F : Fp) (H : Hp) (i : Nat) (s : Option (Option V)) : SV → Prop
  | .un => True
  | .sh d => ∃ v, s = some (some v) ∧ Rep K (Av g F) H v d
  | .ow d => ∃ p, s = some (some (.ref p)) ∧ F i = [p] ∧ Top K (Av g F) H p d
  | .dl => ∃ p q, g.P = some (p, q) ∧ s = some (some (.ref p))
def DealR (g : Gh) (H : Hp) (δ : Dr) : Prop := ∀ p q, g.P = some (p, q) → p ≠ q ∧ H p = some (.lst [.ref q, .int δ.2]) ∧ H q = some (.lst (δ.1.map .int))
structure SR (K : PySem.W.Frag) (g : Gh) (F : Fp) (σ : L2.St) (ρ : Rho) (δ : Dr) (H : Hp) : Prop where
  len : σ.length = ρ.length
  slot : ∀ i s, ρ[i]? = some s → SlotR K g F H i σ[i]? s
  apart : ∀ i j a, a ∈ F i → a ∈ F j → i = j
  new : ∀ i a, a ∈ F i → ¬ g.A a ∧ ¬ g.Pd a
  dom : ∀ a, g.A a → ¬ g.Pd a
  there : ∀ a, Av g F a → H a ≠ none
  mt : ∀ i a, a ∈ F i → ∃ o, H a = some o ∧ Mt o
  deal : DealR g H δ
/-- at a def's entry the heap was H0 -/
structure SH (H0 : Hp) (g : Gh) (F : Fp) (H : Hp) : Prop where
  new : ∀ i a, a ∈ F i → H0 a = none
  dom : ∀ a, g.A a → H0 a ≠ none
  pd : ∀ a, g.Pd a → H0 a ≠ none
  keep : Keep g.Pd H0 H
section
variable {K : PySem.W.Frag} {g : Gh} {F : Fp} {σ : L2.St} {ρ : Rho} {δ δ' : Dr} {H H' : Hp}
theorem SR.fresh (S : SR K g F σ ρ δ H) {a : Addr} (h : H a = none) : ¬ Av g F a := fun z => S.there a z h
theorem SlotR.keep {i : Nat} {s : Option (Option V)} {v : SV} (k : Keep g.Pd H H') (hn : ∀ a, a ∈ F i → ¬ g.Pd a) (r : SlotR K g F H i s v) : SlotR K g F H' i s v := by
  cases v with
  | un => trivial
  | sh d =>
    obtain ⟨x, h, r⟩ := r
    exact ⟨x, h, r.keep k fun a z => .inr (.inl z)⟩
  | ow d =>
    obtain ⟨p, h, hf, r⟩ := r
    exact ⟨p, h, hf, r.keep k (fun a z => .inr (.inl z)) (hn p (by rw [hf]; simp))⟩
  | dl => exact r
/-- the heap grows, the draws go on -/
theorem SR.grow (S : SR K g F σ ρ δ H) (k : Keep g.Pd H H') (d : DealR g H' δ') : SR K g F σ ρ δ' H' where
  len := S.len
  slot := fun i s h => (S.slot i s h).keep k fun a z => (S.new i a z).2
  apart := S.apart
  new := S.new
  dom := S.dom
  there := fun a h => k.there (S.there a h)
  mt := fun i a h => by
    obtain ⟨o, ho, m⟩ := S.mt i a h
    exact ⟨o, k.at_ ho (S.new i a h).2, m⟩
  deal := d
theorem DealR.same (d : DealR g H δ) (k : Same H H') : DealR g H' δ := fun p q e => ⟨(d p q e).1, k _ _ (d p q e).2.1, k _ _ (d p q e).2.2⟩
theorem SR.same (S : SR K g F σ ρ δ H) (k : Same H H') : SR K g F σ ρ δ H' := S.grow (Keep.of_same k) (S.deal.same k)
theorem SH.grow {H0 : Hp} (S : SH H0 g F H) (k : Keep g.Pd H H') : SH H0 g F H' := ⟨S.new, S.dom, S.pd, S.keep.trans k⟩
end

/-! ### expressions -/
/-- what comes: data to be handed on, a new thing of one's own, a name's own thing looked at -/
inductive Kd where
  | sh | ow | br
  deriving DecidableEq
/-- H ahead, H' behind -/
def Res (K : PySem.W.Frag) (g : Gh) (F : Fp) (H H' : Hp) : Kd → V → D → Prop
  | .sh, v, d => Rep K (Av g F) H' v d
  | .ow, v, d => ∃ p, v = .ref p ∧ H p = none ∧ Top K (fun a => Av g F a ∨ a = p) H' p d
  | .br, v, d => ∃ p, v = .ref p ∧ ¬ g.Pd p ∧ Top K (Av g F) H' p d
/-- it may be read -/
def Rd1 (K : PySem.W.Frag) (g : Gh) (F : Fp) (H : Hp) (v : V) (d : D) : Prop := Rep K (Av g F) H v d ∨ ∃ p, v = .ref p ∧ ¬ g.Pd p ∧ Top K (Av g F) H p d
/-- owned addresses are there -/
def Good (g : Gh) (F : Fp) (H : Hp) : Prop := ∀ a, Av g F a → H a ≠ none
theorem SR.good {K : PySem.W.Frag} {g : Gh} {F : Fp} {σ : L2.St} {ρ : Rho} {δ : Dr} {H : Hp} (S : SR K g F σ ρ δ H) : Good g F H := fun a h => S.there a h
section
variable {K : PySem.W.Frag} {g : Gh} {F : Fp} {σ : L2.St} {ρ : Rho} {δ δ' : Dr} {H H1 H' : Hp} {v : V} {d : D} {k : Kd}
theorem Good.grow {P : Addr → Prop} (G : Good g F H) (h : Keep P H H') : Good g F H' := fun a z => h.there (G a z)
theorem Rd1.keep (h : Keep g.Pd H H') (r : Rd1 K g F H v d) : Rd1 K g F H' v d := by
  rcases r with r | ⟨p, e, n, t⟩
  · exact .inl (r.keep h fun a z => .inr (.inl z))
  · exact .inr ⟨p, e, n, t.keep h (fun a z => .inr (.inl z)) n⟩
theorem Rd1.same (h : Same H H') (r : Rd1 K g F H v d) : Rd1 K g F H' v d := r.keep (Keep.of_same h)
theorem Res.keep (h : Keep g.Pd H1 H') (G : Good g F H) (r : Res K g F H H1 k v d) : Res K g F H H' k v d := by
  cases k with
  | sh => exact Rep.keep h (fun a z => .inr (.inl z)) r
  | ow =>
    obtain ⟨p, e, n, t⟩ := r
    exact ⟨p, e, n, t.keep h (fun a z => .inl (.inr (.inl z))) fun z => G p (.inr (.inl z)) n⟩
  | br =>
    obtain ⟨p, e, n, t⟩ := r
    exact ⟨p, e, n, t.keep h (fun a z => .inr (.inl z)) n⟩
theorem Res.rd (G : Good g F H) (r : Res K g F H H' k v d) : Rd1 K g F H' v d := by
  cases k with
  | sh => exact .inl r
  | ow =>
    obtain ⟨p, e, n, t⟩ := r
    exact .inr ⟨p, e, fun z => G p (.inr (.inl z)) n, t.weak fun a z => .inl z⟩
  | br => exact .inr r
/-- handed on -/
theorem Res.rep (G : Good g F H) (hk : k ≠ .br) (r : Res K g F H H' k v d) : Rep K (Av g F) H' v d := by
  cases k with
  | sh => exact r
  | ow =>
    obtain ⟨p, e, n, t⟩ := r
    subst e
    exact Top.rep (fun z => G p z n) (t.weak fun a z => .inl z)
  | br => exact absurd rfl hk
theorem Res.earlier {P : Addr → Prop} (h : Keep P H H1) (r : Res K g F H1 H' k v d) : Res K g F H H' k v d := by
  cases k with
  | sh => exact r
  | ow =>
    obtain ⟨p, e, n, t⟩ := r
    exact ⟨p, e, h.free n, t⟩
  | br => exact r
theorem Rd1.lst {ds : List D} (r : Rd1 K g F H v (.lst ds)) : ∃ p xs, v = .ref p ∧ Rd H p (.lst xs) ∧ Reps K (Av g F) H xs ds := by
  rcases r with r | ⟨p, e, n, xs, h, r⟩
  · cases r with
    | lst h n r => exact ⟨_, _, rfl, .inl h, r⟩
  · exact ⟨p, xs, e, .inl h, r⟩
theorem Rd1.dic {ds : List (Key × D)} (r : Rd1 K g F H v (.dic ds)) : ∃ p kvs, v = .ref p ∧ H p = some (.dK kvs) ∧ kvs.map (·.1) = ds.map (·.1) ∧ Reps K (Av g F) H (kvs.map (·.2)) (ds.map (·.2)) := by
  rcases r with r | ⟨p, e, n, kvs, h, e2, r⟩
  · cases r with
    | dic h n e r => exact ⟨_, _, rfl, h, e, r⟩
  · exact ⟨p, kvs, e, h, e2, r⟩
theorem Rd1.wls {ds : List D} (r : Rd1 K g F H v (.wls ds)) : ∃ p xs, v = .ref p ∧ WL K H p xs ∧ Reps K (Av g F) H xs ds := by
  rcases r with r | ⟨p, e, n, t⟩
  · cases r with
    | wls h r => exact ⟨_, _, rfl, h, r⟩
  · exact t.elim
theorem Rd1.tup {ds : List D} (r : Rd1 K g F H v (.tup ds)) : ∃ p xs, v = .ref p ∧ SqT K H p xs ∧ Reps K (Av g F) H xs ds := by
  rcases r with r | ⟨p, e, n, t⟩
  · cases r with
    | tup h r => exact ⟨_, _, rfl, h, r⟩
  · exact t.elim
theorem Rd1.int {i : Int} (r : Rd1 K g F H v (.int i)) : v = .int i := by
  rcases r with r | ⟨p, e, n, t⟩
  · cases r; rfl
  · exact t.elim
theorem Rd1.bl {b : Bool} (r : Rd1 K g F H v (.bl b)) : v = .bl b := by
  rcases r with r | ⟨p, e, n, t⟩
  · cases r; rfl
  · exact t.elim
theorem Rd1.str {x : Str} (r : Rd1 K g F H v (.str x)) : v = .str x := by
  rcases r with r | ⟨p, e, n, t⟩
  · cases r; rfl
  · exact t.elim
theorem Rd1.non (r : Rd1 K g F H v .non) : v = .non := by
  rcases r with r | ⟨p, e, n, t⟩
  · cases r; rfl
  · exact t.elim
theorem Rd1.ins {C : Addr} {ds : List (Str × D)} (r : Rd1 K g F H v (.ins C ds)) : ∃ a dx fs, v = .ref a ∧ H a = some (.ins C dx fs) ∧ fs.map (·.1) = ds.map (·.1) ∧ Reps K (Av g F) H (fs.map (·.2)) (ds.map (·.2)) := by
  rcases r with r | ⟨p, e, n, t⟩
  · cases r with
    | ins h n e r => exact ⟨_, _, _, rfl, h, e, r⟩
  · exact t.elim
end

/-- an expression's meaning: from the slots and the draws to data -/
abbrev EF := Rho → Dr → Option (D × Kd × Dr)
structure DE (X : Cx) (e : Expr) (f : EF) : Prop where
  ex : ∃ t : TE, PE X e t ∧ ∀ (g : Gh) (F : Fp) (σ : L2.St) (H : Hp) (ρ : Rho) (δ : Dr) (d : D) (k : Kd) (δ' : Dr) (Q : VK), SR X.K g F σ ρ δ H → f ρ δ = some (d, k, δ') →
    (∀ v H', Keep g.Pd H H' → SR X.K g F σ ρ δ' H' → Res X.K g F H H' k v d → Q v H') → t σ H Q
/-- a test -/
abbrev TF := Rho → Dr → Option (Bool × Dr)
structure DT (X : Cx) (e : Expr) (f : TF) : Prop where
  ex : ∃ t : TT, PT X e t ∧ ∀ (g : Gh) (F : Fp) (σ : L2.St) (H : Hp) (ρ : Rho) (δ : Dr) (b : Bool) (δ' : Dr) (Q : Bool → Hp → Prop), SR X.K g F σ ρ δ H → f ρ δ = some (b, δ') →
    (∀ H', Keep g.Pd H H' → SR X.K g F σ ρ δ' H' → Q b H') → t σ H Q
/-- arguments: all of them may be handed on -/
abbrev AF := Rho → Dr → Option (List D × Dr)
structure DA (X : Cx) (es : List Expr) (f : AF) : Prop where
  ex : ∃ t : TA, PA X es t ∧ ∀ (g : Gh) (F : Fp) (σ : L2.St) (H : Hp) (ρ : Rho) (δ : Dr) (ds : List D) (δ' : Dr) (Q : List V → Hp → Prop), SR X.K g F σ ρ δ H → f ρ δ = some (ds, δ') →
    (∀ vs H', Keep g.Pd H H' → SR X.K g F σ ρ δ' H' → Reps X.K (Av g F) H' vs ds → Q vs H') → t σ H Q
/-- arguments that are only read -/
structure DR (X : Cx) (es : List Expr) (f : AF) : Prop where
  ex : ∃ t : TA, PA X es t ∧ ∀ (g : Gh) (F : Fp) (σ : L2.St) (H : Hp) (ρ : Rho) (δ : Dr) (ds : List D) (δ' : Dr) (Q : List V → Hp → Prop), SR X.K g F σ ρ δ H → f ρ δ = some (ds, δ') →
    (∀ vs H', Keep g.Pd H H' → SR X.K g F σ ρ δ' H' → Paired (Rd1 X.K g F H') vs ds → Q vs H') → t σ H Q
end DL
/-! D-layer, part b: names, constants, operators, tests, displays, subscripts, calls of built-ins. -/
namespace DL
open PySem PySem.Spec PyProof.Rows L2
section
variable {X : Cx}
theorem run1 {e : Expr} {f : EF} (h : DE X e f) : ∃ t : TE, PE X e t ∧ ∀ (g : Gh) (F : Fp) (σ : L2.St) (H : Hp) (ρ : Rho) (δ : Dr) (d : D) (k : Kd) (δ' : Dr) (Q : VK), SR X.K g F σ ρ δ H → f ρ δ = some (d, k, δ') →
    (∀ v H', Keep g.Pd H H' → SR X.K g F σ ρ δ' H' → Res X.K g F H H' k v d → Q v H') → t σ H Q := h.ex

/-! ### names and constants -/
def fVar (i : Nat) : EF := fun ρ δ => match ρ[i]? with
  | some (.sh d) => some (d, .sh, δ)
  | some (.ow d) => some (d, .br, δ)
  | _ => none
theorem de_var {i : Nat} {x : Str} {pos : Pos} (h : PE X (.Name x pos) (tVar i)) : DE X (.Name x pos) (fVar i) := by
  refine ⟨_, h, fun g F σ H ρ δ d k δ' Q S hf q => ?_⟩
  unfold fVar at hf
  split at hf
  · rename_i d' e
    cases hf
    obtain ⟨v, e1, r⟩ := S.slot i _ e
    exact ⟨v, e1, q v H (.refl _ _) S r⟩
  · rename_i d' e
    cases hf
    obtain ⟨p, e1, hF, r⟩ := S.slot i _ e
    exact ⟨_, e1, q _ H (.refl _ _) S ⟨p, rfl, (S.new i p (by rw [hF]; simp)).2, r⟩⟩
  · cases hf
def fC (d : D) : EF := fun _ δ => some (d, .sh, δ)
theorem de_c {e : Expr} {v : V} {c : D} (h : PE X e (tC v)) (r : ∀ O H, Rep X.K O H v c) : DE X e (fC c) := by
  refine ⟨_, h, fun g F σ H ρ δ d k δ' Q S hf q => ?_⟩
  cases hf
  exact q v H (.refl _ _) S (r _ _)
theorem de_int {i j pos} : DE X (.Constant (.int i) j pos) (fC (.int i)) := de_c pe_int fun _ _ => .int i
theorem de_bl {b j pos} : DE X (.Constant (.bool b) j pos) (fC (.bl b)) := de_c pe_bl fun _ _ => .bl b
theorem de_non {j pos} : DE X (.Constant .none j pos) (fC .non) := de_c pe_non fun _ _ => .non
theorem de_str {x j pos} : DE X (.Constant (.str x) j pos) (fC (.str x)) := de_c pe_str fun _ _ => .str x
/-- whatever is never come to -/
def fNo : EF := fun _ _ => none
theorem de_no {e : Expr} : DE X e fNo := ⟨fun _ _ _ => False, ⟨fun _ _ _ _ _ _ h => h.elim⟩, fun _ _ _ _ _ _ _ _ _ _ _ h => by cases h⟩

/-! ### operators by data -/
abbrev OF2 := D → D → Option (D × Kd)
def Fit2 (K : PySem.W.Frag) (r : R2) (o : OF2) : Prop := ∀ (g : Gh) (F : Fp) (H : Hp) (x y : V) (dx dy d : D) (k : Kd) (Q : VK), Good g F H → Rd1 K g F H x dx → Rd1 K g F H y dy → o dx dy = some (d, k) →
  (∀ v H', Same H H' → Res K g F H H' k v d → Q v H') → r x y H Q
def Op2 (X : Cx) (f : Value → Value → Sem Value) (o : OF2) : Prop := ∃ r : R2, OpR X f r ∧ Fit2 X.K r o
def fBin (o : OF2) (fa fb : EF) : EF := fun ρ δ => (fa ρ δ).bind fun p => (fb ρ p.2.2).bind fun q => (o p.1 q.1).map fun r => (r.1, r.2, q.2.2)
theorem bin_run {a b : Expr} {fa fb : EF} {o : OF2} {r : R2} (ho : Fit2 X.K r o) (ha : DE X a fa) (hb : DE X b fb) : ∃ ta tb, PE X a ta ∧ PE X b tb ∧
    ∀ (g : Gh) (F : Fp) (σ : L2.St) (H : Hp) (ρ : Rho) (δ : Dr) (d : D) (k : Kd) (δ' : Dr) (Q : VK), SR X.K g F σ ρ δ H → fBin o fa fb ρ δ = some (d, k, δ') →
    (∀ v H', Keep g.Pd H H' → SR X.K g F σ ρ δ' H' → Res X.K g F H H' k v d → Q v H') → tOp r ta tb σ H Q := by
  obtain ⟨ta, pa, ea⟩ := ha.ex
  obtain ⟨tb, pb, eb⟩ := hb.ex
  refine ⟨ta, tb, pa, pb, fun g F σ H ρ δ d k δ' Q S hf q => ?_⟩
  unfold fBin at hf
  cases h1 : fa ρ δ with
  | none => rw [h1] at hf; cases hf
  | some p =>
    obtain ⟨dx, kx, δ1⟩ := p
    rw [h1] at hf
    simp only [Option.bind_some] at hf
    cases h2 : fb ρ δ1 with
    | none => rw [h2] at hf; cases hf
    | some p =>
      obtain ⟨dy, ky, δ2⟩ := p
      rw [h2] at hf
      simp only [Option.bind_some] at hf
      cases h3 : o dx dy with
      | none => rw [h3] at hf; cases hf
      | some p =>
        obtain ⟨d0, k0⟩ := p
        rw [h3] at hf
        cases hf
        refine ea g F σ H ρ δ dx kx δ1 _ S h1 fun x H1 k1 S1 r1 => ?_
        refine eb g F σ H1 ρ δ1 dy ky _ _ S1 h2 fun y H2 k2 S2 r2 => ?_
        have x1 := (r1.rd S.good).keep k2
        have x2 := r2.rd S1.good
        refine ho g F H2 x y dx dy _ _ Q S2.good x1 x2 h3 fun v H3 s3 r3 => ?_
        exact q v H3 (k1.trans (k2.trans (Keep.of_same s3))) (S2.same s3) (r3.earlier (k1.trans k2))
theorem de_bin {a b : Expr} {fa fb : EF} {o : OF2} {op : Operator} {pos : Pos} (ho : Op2 X (binaryOp op) o) (ha : DE X a fa) (hb : DE X b fb) : DE X (.BinOp a op b pos) (fBin o fa fb) := by
  obtain ⟨r, hr, hfit⟩ := ho
  obtain ⟨ta, tb, pa, pb, h⟩ := bin_run hfit ha hb
  exact ⟨_, pe_op hr pa pb, h⟩
theorem de_cmp {a b : Expr} {fa fb : EF} {o : OF2} {op : CmpOp} {pos : Pos} (ho : Op2 X (compareOp op) o) (ha : DE X a fa) (hb : DE X b fb) (hm : behindInMarks op b = false := by first | exact nomark _ | rfl) : DE X (.Compare a [op] [b] pos) (fBin o fa fb) := by
  obtain ⟨r, hr, hfit⟩ := ho
  obtain ⟨ta, tb, pa, pb, h⟩ := bin_run hfit ha hb
  exact ⟨_, pe_cmpR hr pa pb hm, h⟩
def asB (f : EF) : TF := fun ρ δ => (f ρ δ).bind fun p => match p.1 with
  | .bl b => some (b, p.2.2)
  | _ => none
theorem asB_some {f : EF} {ρ : Rho} {δ δ' : Dr} {b : Bool} (h : asB f ρ δ = some (b, δ')) : ∃ k, f ρ δ = some (.bl b, k, δ') := by
  unfold asB at h
  cases e : f ρ δ with
  | none => rw [e] at h; cases h
  | some p =>
    obtain ⟨d, k, δ1⟩ := p
    rw [e] at h
    simp only [Option.bind_some] at h
    cases d <;> first | cases h | (simp only [reduceCtorEq] at h)
    exact ⟨k, rfl⟩
theorem Res.blB {K : PySem.W.Frag} {g : Gh} {F : Fp} {H H' : Hp} {k : Kd} {v : V} {b : Bool} (r : Res K g F H H' k v (.bl b)) : v = .bl b := by
  cases k with
  | sh => cases r; rfl
  | ow => obtain ⟨_, _, _, t⟩ := r; exact t.elim
  | br => obtain ⟨_, _, _, t⟩ := r; exact t.elim
theorem dt_cmp {a b : Expr} {fa fb : EF} {o : OF2} {op : CmpOp} {pos : Pos} (ho : Op2 X (compareOp op) o) (ha : DE X a fa) (hb : DE X b fb) (hm : behindInMarks op b = false := by first | exact nomark _ | rfl) : DT X (.Compare a [op] [b] pos) (asB (fBin o fa fb)) := by
  obtain ⟨r, hr, hfit⟩ := ho
  obtain ⟨ta, tb, pa, pb, h⟩ := bin_run hfit ha hb
  refine ⟨_, pt_cmpR hr pa pb hm, fun g F σ H ρ δ b δ' Q S hf q => ?_⟩
  obtain ⟨k, e⟩ := asB_some hf
  exact h g F σ H ρ δ (.bl b) k δ' _ S e fun v H' k1 S1 r1 => ⟨b, r1.blB, q H' k1 S1⟩
theorem dt_val {e : Expr} {f : EF} (h : DE X e f) (he : ∀ whole, isTrue e X.env whole = (do let v ← whole; standAt e.pos; holding [v] (truthy v)) := by intro _; rfl) : DT X e (asB f) := by
  obtain ⟨t, p, x⟩ := h.ex
  refine ⟨_, pt_val p he, fun g F σ H ρ δ b δ' Q S hf q => ?_⟩
  obtain ⟨k, e⟩ := asB_some hf
  exact x g F σ H ρ δ (.bl b) k δ' _ S e fun v H' k1 S1 r1 => ⟨b, r1.blB, q H' k1 S1⟩
/-! ### not, and, or -/
def fNot (f : TF) : TF := fun ρ δ => (f ρ δ).map fun p => (!p.1, p.2)
theorem dt_not {a : Expr} {f : TF} {pos : Pos} (h : DT X a f) : DT X (.UnaryOp .Not a pos) (fNot f) := by
  obtain ⟨t, p, x⟩ := h.ex
  refine ⟨_, pt_not p, fun g F σ H ρ δ b δ' Q S hf q => ?_⟩
  unfold fNot at hf
  cases e : f ρ δ with
  | none => rw [e] at hf; cases hf
  | some c =>
    obtain ⟨c, δ1⟩ := c
    rw [e] at hf
    cases hf
    exact x g F σ H ρ δ c _ _ S e fun H' k1 S1 => q H' k1 S1
structure DW (X : Cx) (e : Expr) (f : TF) : Prop where
  ex : ∃ t : TT, PW X e t ∧ ∀ (g : Gh) (F : Fp) (σ : L2.St) (H : Hp) (ρ : Rho) (δ : Dr) (b : Bool) (δ' : Dr) (Q : Bool → Hp → Prop), SR X.K g F σ ρ δ H → f ρ δ = some (b, δ') →
    (∀ H', Keep g.Pd H H' → SR X.K g F σ ρ δ' H' → Q b H') → t σ H Q
theorem DW.t {e : Expr} {f : TF} (h : DW X e f) : DT X e f := by
  obtain ⟨t, p, x⟩ := h.ex
  exact ⟨t, p.pt, x⟩
def fAnd (f g : TF) : TF := fun ρ δ => (f ρ δ).bind fun p => if p.1 = true then g ρ p.2 else some (false, p.2)
def fOr (f g : TF) : TF := fun ρ δ => (f ρ δ).bind fun p => if p.1 = true then some (true, p.2) else g ρ p.2
theorem dw_and1 {a : Expr} {f : TF} {pos : Pos} (h : DT X a f) : DW X (.BoolOp .And [a] pos) f := by
  obtain ⟨t, p, x⟩ := h.ex
  exact ⟨t, pw_and1 p, x⟩
theorem dw_or1 {a : Expr} {f : TF} {pos : Pos} (h : DT X a f) : DW X (.BoolOp .Or [a] pos) f := by
  obtain ⟨t, p, x⟩ := h.ex
  exact ⟨t, pw_or1 p, x⟩
theorem dw_and {a b : Expr} {rest : List Expr} {f g : TF} {pos : Pos} (ha : DT X a f) (hb : DW X (.BoolOp .And (b :: rest) pos) g) : DW X (.BoolOp .And (a :: b :: rest) pos) (fAnd f g) := by
  obtain ⟨t, p, x⟩ := ha.ex
  obtain ⟨t2, p2, x2⟩ := hb.ex
  refine ⟨_, pw_and p p2, fun g0 F σ H ρ δ b δ' Q S hf q => ?_⟩
  unfold fAnd at hf
  cases e : f ρ δ with
  | none => rw [e] at hf; cases hf
  | some c =>
    obtain ⟨c, δ1⟩ := c
    rw [e] at hf
    simp only [Option.bind_some] at hf
    refine x g0 F σ H ρ δ c δ1 _ S e fun H1 k1 S1 => ?_
    cases c with
    | true => exact x2 g0 F σ H1 ρ δ1 b δ' Q S1 hf fun H2 k2 S2 => q H2 (k1.trans k2) S2
    | false =>
      cases hf
      exact q H1 k1 S1
theorem dw_or {a b : Expr} {rest : List Expr} {f g : TF} {pos : Pos} (ha : DT X a f) (hb : DW X (.BoolOp .Or (b :: rest) pos) g) : DW X (.BoolOp .Or (a :: b :: rest) pos) (fOr f g) := by
  obtain ⟨t, p, x⟩ := ha.ex
  obtain ⟨t2, p2, x2⟩ := hb.ex
  refine ⟨_, pw_or p p2, fun g0 F σ H ρ δ b δ' Q S hf q => ?_⟩
  unfold fOr at hf
  cases e : f ρ δ with
  | none => rw [e] at hf; cases hf
  | some c =>
    obtain ⟨c, δ1⟩ := c
    rw [e] at hf
    simp only [Option.bind_some] at hf
    refine x g0 F σ H ρ δ c δ1 _ S e fun H1 k1 S1 => ?_
    cases c with
    | false => exact x2 g0 F σ H1 ρ δ1 b δ' Q S1 hf fun H2 k2 S2 => q H2 (k1.trans k2) S2
    | true =>
      cases hf
      exact q H1 k1 S1
/-- .. as values -/
def ofT (f : TF) : EF := fun ρ δ => (f ρ δ).map fun p => (.bl p.1, .sh, p.2)
theorem ofT_some {f : TF} {ρ : Rho} {δ δ' : Dr} {d : D} {k : Kd} (h : ofT f ρ δ = some (d, k, δ')) : ∃ b, d = .bl b ∧ k = .sh ∧ f ρ δ = some (b, δ') := by
  unfold ofT at h
  cases e : f ρ δ with
  | none => rw [e] at h; cases h
  | some p =>
    rw [e] at h
    cases h
    exact ⟨_, rfl, rfl, rfl⟩
theorem de_one {a : Expr} {op} {f : EF} {pos : Pos} (h : DE X a f) : DE X (.BoolOp op [a] pos) f := by
  obtain ⟨t, p, x⟩ := h.ex
  exact ⟨t, pe_one p, x⟩
def fAndV (f : TF) (g : EF) : EF := fun ρ δ => (f ρ δ).bind fun p => if p.1 = true then g ρ p.2 else some (.bl false, .sh, p.2)
def fOrV (f : TF) (g : EF) : EF := fun ρ δ => (f ρ δ).bind fun p => if p.1 = true then some (.bl true, .sh, p.2) else g ρ p.2
theorem de_and {a b : Expr} {rest : List Expr} {f g : EF} {pos : Pos} (ha : DE X a f) (hb : DE X (.BoolOp .And (b :: rest) pos) g) : DE X (.BoolOp .And (a :: b :: rest) pos) (fAndV (asB f) g) := by
  obtain ⟨t, p, x⟩ := ha.ex
  obtain ⟨t2, p2, x2⟩ := hb.ex
  refine ⟨_, pe_and p p2, fun g0 F σ H ρ δ d k δ' Q S hf q => ?_⟩
  unfold fAndV at hf
  cases e : asB f ρ δ with
  | none => rw [e] at hf; cases hf
  | some c =>
    obtain ⟨c, δ1⟩ := c
    rw [e] at hf
    simp only [Option.bind_some] at hf
    obtain ⟨kk, e2⟩ := asB_some e
    refine x g0 F σ H ρ δ (.bl c) kk δ1 _ S e2 fun v H1 k1 S1 r1 => ⟨c, r1.blB, ?_⟩
    cases c with
    | true => exact x2 g0 F σ H1 ρ δ1 d k δ' Q S1 hf fun w H2 k2 S2 r2 => q w H2 (k1.trans k2) S2 (r2.earlier k1)
    | false =>
      cases hf
      exact q _ H1 k1 S1 (.bl false)
theorem de_or {a b : Expr} {rest : List Expr} {f g : EF} {pos : Pos} (ha : DE X a f) (hb : DE X (.BoolOp .Or (b :: rest) pos) g) : DE X (.BoolOp .Or (a :: b :: rest) pos) (fOrV (asB f) g) := by
  obtain ⟨t, p, x⟩ := ha.ex
  obtain ⟨t2, p2, x2⟩ := hb.ex
  refine ⟨_, pe_or p p2, fun g0 F σ H ρ δ d k δ' Q S hf q => ?_⟩
  unfold fOrV at hf
  cases e : asB f ρ δ with
  | none => rw [e] at hf; cases hf
  | some c =>
    obtain ⟨c, δ1⟩ := c
    rw [e] at hf
    simp only [Option.bind_some] at hf
    obtain ⟨kk, e2⟩ := asB_some e
    refine x g0 F σ H ρ δ (.bl c) kk δ1 _ S e2 fun v H1 k1 S1 r1 => ⟨c, r1.blB, ?_⟩
    cases c with
    | false => exact x2 g0 F σ H1 ρ δ1 d k δ' Q S1 hf fun w H2 k2 S2 r2 => q w H2 (k1.trans k2) S2 (r2.earlier k1)
    | true =>
      cases hf
      exact q _ H1 k1 S1 (.bl true)
theorem de_not {a : Expr} {f : EF} {pos : Pos} (h : DE X a f) : DE X (.UnaryOp .Not a pos) (ofT (fNot (asB f))) := by
  obtain ⟨t, p, x⟩ := h.ex
  refine ⟨_, pe_not p, fun g F σ H ρ δ d k δ' Q S hf q => ?_⟩
  obtain ⟨b, rfl, rfl, hg⟩ := ofT_some hf
  unfold fNot at hg
  cases e : asB f ρ δ with
  | none => rw [e] at hg; cases hg
  | some c =>
    obtain ⟨c, δ1⟩ := c
    rw [e] at hg
    cases hg
    obtain ⟨kk, e2⟩ := asB_some e
    exact x g F σ H ρ δ (.bl c) kk _ _ S e2 fun v H1 k1 S1 r1 => ⟨c, r1.blB, q _ H1 k1 S1 (.bl _)⟩
/-- a if t else b -/
def fIf (t : TF) (f g : EF) : EF := fun ρ δ => (t ρ δ).bind fun p => if p.1 = true then f ρ p.2 else g ρ p.2
theorem de_if {c a b : Expr} {t : TF} {f g : EF} {pos : Pos} (hc : DT X c t) (ha : DE X a f) (hb : DE X b g) : DE X (.IfExp c a b pos) (fIf t f g) := by
  obtain ⟨tc, pc, xc⟩ := hc.ex
  obtain ⟨ta, pa, xa⟩ := ha.ex
  obtain ⟨tb, pb, xb⟩ := hb.ex
  refine ⟨_, pe_ifExp pc pa pb, fun g0 F σ H ρ δ d k δ' Q S hf q => ?_⟩
  unfold fIf at hf
  cases e : t ρ δ with
  | none => rw [e] at hf; cases hf
  | some c =>
    obtain ⟨c, δ1⟩ := c
    rw [e] at hf
    simp only [Option.bind_some] at hf
    refine xc g0 F σ H ρ δ c δ1 _ S e fun H1 k1 S1 => ?_
    cases c with
    | true => exact xa g0 F σ H1 ρ δ1 d k δ' Q S1 hf fun w H2 k2 S2 r2 => q w H2 (k1.trans k2) S2 (r2.earlier k1)
    | false => exact xb g0 F σ H1 ρ δ1 d k δ' Q S1 hf fun w H2 k2 S2 r2 => q w H2 (k1.trans k2) S2 (r2.earlier k1)

/-! ### arguments, displays -/
def aNil : AF := fun _ δ => some ([], δ)
def aCons (f : EF) (r : AF) : AF := fun ρ δ => (f ρ δ).bind fun p => if p.2.1 = .br then none else (r ρ p.2.2).map fun q => (p.1 :: q.1, q.2)
theorem da_nil : DA X [] aNil := ⟨_, pa_nil, fun g F σ H ρ δ ds δ' Q S hf q => by
  cases hf
  exact q [] H (.refl _ _) S .nil⟩
theorem da_cons {e : Expr} {es : List Expr} {f : EF} {r : AF} (he : DE X e f) (hr : DA X es r) (hs : starEach (e :: es) X.env = (false, eval e X.env) :: starEach es X.env := by rfl) : DA X (e :: es) (aCons f r) := by
  obtain ⟨t, p, x⟩ := he.ex
  obtain ⟨t2, p2, x2⟩ := hr.ex
  refine ⟨_, pa_cons p p2 hs, fun g F σ H ρ δ ds δ' Q S hf q => ?_⟩
  unfold aCons at hf
  cases e1 : f ρ δ with
  | none => rw [e1] at hf; cases hf
  | some c =>
    obtain ⟨d, k, δ1⟩ := c
    rw [e1] at hf
    simp only [Option.bind_some] at hf
    split at hf
    · cases hf
    · rename_i hk
      cases e2 : r ρ δ1 with
      | none => rw [e2] at hf; cases hf
      | some c =>
        obtain ⟨ds2, δ2⟩ := c
        rw [e2] at hf
        cases hf
        refine x g F σ H ρ δ d k δ1 _ S e1 fun v H1 k1 S1 r1 => ?_
        refine x2 g F σ H1 ρ δ1 ds2 _ _ S1 e2 fun vs H2 k2 S2 r2 => ?_
        exact q (v :: vs) H2 (k1.trans k2) S2 (.cons ((r1.rep S.good hk).keep k2 fun a z => .inr (.inl z)) r2)
def rNil : AF := aNil
def rCons (f : EF) (r : AF) : AF := fun ρ δ => (f ρ δ).bind fun p => (r ρ p.2.2).map fun q => (p.1 :: q.1, q.2)
theorem dr_nil : DR X [] rNil := ⟨_, pa_nil, fun g F σ H ρ δ ds δ' Q S hf q => by
  cases hf
  exact q [] H (.refl _ _) S .nil⟩
theorem dr_cons {e : Expr} {es : List Expr} {f : EF} {r : AF} (he : DE X e f) (hr : DR X es r) (hs : starEach (e :: es) X.env = (false, eval e X.env) :: starEach es X.env := by rfl) : DR X (e :: es) (rCons f r) := by
  obtain ⟨t, p, x⟩ := he.ex
  obtain ⟨t2, p2, x2⟩ := hr.ex
  refine ⟨_, pa_cons p p2 hs, fun g F σ H ρ δ ds δ' Q S hf q => ?_⟩
  unfold rCons at hf
  cases e1 : f ρ δ with
  | none => rw [e1] at hf; cases hf
  | some c =>
    obtain ⟨d, k, δ1⟩ := c
    rw [e1] at hf
    simp only [Option.bind_some] at hf
    cases e2 : r ρ δ1 with
    | none => rw [e2] at hf; cases hf
    | some c =>
      obtain ⟨ds2, δ2⟩ := c
      rw [e2] at hf
      cases hf
      refine x g F σ H ρ δ d k δ1 _ S e1 fun v H1 k1 S1 r1 => ?_
      refine x2 g F σ H1 ρ δ1 ds2 _ _ S1 e2 fun vs H2 k2 S2 r2 => ?_
      exact q (v :: vs) H2 (k1.trans k2) S2 (.cons ((r1.rd S.good).keep k2) r2)
def fTup (f : AF) : EF := fun ρ δ => (f ρ δ).bind fun p => if p.1.length ≤ 1000 then some (.tup p.1, .sh, p.2) else none
def fLst (f : AF) : EF := fun ρ δ => (f ρ δ).bind fun p => if p.1.length ≤ 1000 then some (.lst p.1, .ow, p.2) else none
theorem line1000 {n : Nat} (h : n ≤ 1000) : n ≤ sizeLine := Nat.le_trans h (by decide)
theorem de_tup {es : List Expr} {f : AF} {x1 pos} (h : DA X es f) : DE X (.Tuple es x1 pos) (fTup f) := by
  obtain ⟨t, p, x⟩ := h.ex
  refine ⟨_, pe_tup p, fun g F σ H ρ δ d k δ' Q S hf q => ?_⟩
  unfold fTup at hf
  cases e1 : f ρ δ with
  | none => rw [e1] at hf; cases hf
  | some c =>
    obtain ⟨ds, δ1⟩ := c
    rw [e1] at hf
    simp only [Option.bind_some] at hf
    split at hf
    · rename_i hl
      cases hf
      refine x g F σ H ρ δ ds _ _ S e1 fun vs H1 k1 S1 r1 => ⟨by rw [r1.length]; exact line1000 hl, fun a ha => ?_⟩
      have sm := same_upd (o := .tup vs) ha
      exact q _ _ (k1.trans (Keep.of_same sm)) (S1.same sm) (.tup (.inl (.inl upd_same)) (r1.same sm))
    · cases hf
theorem de_lst {es : List Expr} {f : AF} {pos} (h : DA X es f) : DE X (.List es pos) (fLst f) := by
  obtain ⟨t, p, x⟩ := h.ex
  refine ⟨_, pe_lst p, fun g F σ H ρ δ d k δ' Q S hf q => ?_⟩
  unfold fLst at hf
  cases e1 : f ρ δ with
  | none => rw [e1] at hf; cases hf
  | some c =>
    obtain ⟨ds, δ1⟩ := c
    rw [e1] at hf
    simp only [Option.bind_some] at hf
    split at hf
    · rename_i hl
      cases hf
      refine x g F σ H ρ δ ds _ _ S e1 fun vs H1 k1 S1 r1 => ⟨by rw [r1.length]; exact line1000 hl, fun a ha => ?_⟩
      have sm := same_upd (o := .lst vs) ha
      refine q _ _ (k1.trans (Keep.of_same sm)) (S1.same sm) ⟨a, rfl, k1.free ha, vs, upd_same, ?_⟩
      exact (r1.more (O' := fun b => Av g F b ∨ b = a) fun b z => z.imp id fun z => by rw [z]; exact ha).same sm
    · cases hf
end
end DL
/-! D-layer, part c: data that reads off the heap: == and !=, <, in, truth, isinstance. -/
namespace DL
open PySem PySem.Spec PyProof.Rows L2 SeqAt
mutual
/-- Python's == of plain data -/
def eqD : D → D → Bool
  | .non, e => match e with | .non => true | _ => false
  | .bl a, e => match e with | .bl b => a == b | .int j => (if a then 1 else 0) == j | _ => false
  | .int i, e => match e with | .bl b => i == (if b then 1 else 0) | .int j => i == j | _ => false
  | .str x, e => match e with | .str y => x == y | _ => false
  | .tup xs, e => match e with | .tup ys => eqDs xs ys | _ => false
  | .lst xs, e => match e with | .lst ys => eqDs xs ys | _ => false
  | .dic _, _ => false
  | .set _, _ => false
  | .ins _ _, _ => false
  | .obj _, _ => false
  | .ty _, _ => false
  | .wls _, _ => false
def eqDs : List D → List D → Bool
  | [], ys => ys.isEmpty
  | x :: xs, ys => match ys with | [] => false | y :: ys => eqD x y && eqDs xs ys
end
mutual
/-- the library's word for the same data -/
def toP : D → PyData
  | .non => .none
  | .bl b => .bool b
  | .int i => .int i
  | .str x => .str x
  | .tup xs => .tuple (toPs xs)
  | .lst xs => .list (toPs xs)
  | .dic _ => .dict []
  | .set _ => .dict []
  | .ins _ _ => .dict []
  | .obj _ => .dict []
  | .ty _ => .dict []
  | .wls _ => .dict []
def toPs : List D → List PyData
  | [] => []
  | x :: xs => toP x :: toPs xs
end
theorem toPs_map : ∀ xs : List D, toPs xs = xs.map toP
  | [] => rfl
  | x :: xs => by rw [toPs, List.map_cons, toPs_map xs]
/-- plain data: of numbers, texts, lists and tuples, at most n within one another -/
def pl : Nat → D → Bool
  | _, .non => true
  | _, .bl _ => true
  | _, .int _ => true
  | _, .str _ => true
  | n + 1, .tup xs => xs.all (pl n)
  | n + 1, .lst xs => xs.all (pl n)
  | _, _ => false
theorem pl_cases {n : Nat} {d : D} (h : pl n d = true) : d = .non ∨ (∃ b, d = .bl b) ∨ (∃ i, d = .int i) ∨ (∃ x, d = .str x) ∨ (∃ m xs, n = m + 1 ∧ d = .tup xs ∧ xs.all (pl m) = true) ∨ ∃ m xs, n = m + 1 ∧ d = .lst xs ∧ xs.all (pl m) = true := by
  cases d with
  | non => exact .inl rfl
  | bl b => exact .inr (.inl ⟨b, rfl⟩)
  | int b => exact .inr (.inr (.inl ⟨b, rfl⟩))
  | str b => exact .inr (.inr (.inr (.inl ⟨b, rfl⟩)))
  | tup xs =>
    cases n with
    | zero => simp [pl] at h
    | succ n => exact .inr (.inr (.inr (.inr (.inl ⟨n, xs, rfl, rfl, by rw [pl] at h; exact h⟩))))
  | lst xs =>
    cases n with
    | zero => simp [pl] at h
    | succ n => exact .inr (.inr (.inr (.inr (.inr ⟨n, xs, rfl, rfl, by rw [pl] at h; exact h⟩))))
  | dic _ => cases n <;> simp [pl] at h
  | set _ => cases n <;> simp [pl] at h
  | ins _ _ => cases n <;> simp [pl] at h
  | obj _ => cases n <;> simp [pl] at h
  | ty _ => cases n <;> simp [pl] at h
  | wls _ => cases n <;> simp [pl] at h
theorem pl_all {n : Nat} {xs : List D} (h : xs.all (pl n) = true) {x : D} (hx : x ∈ xs) : pl n x = true := List.all_eq_true.mp h x hx
theorem pl_mono : ∀ (n m : Nat) (d : D), n ≤ m → pl n d = true → pl m d = true
  | n, m, d, h, p => by
    rcases pl_cases p with rfl | ⟨b, rfl⟩ | ⟨i, rfl⟩ | ⟨x, rfl⟩ | ⟨k, xs, rfl, rfl, q⟩ | ⟨k, xs, rfl, rfl, q⟩
    · cases m <;> simp [pl]
    · cases m <;> simp [pl]
    · cases m <;> simp [pl]
    · cases m <;> simp [pl]
    · cases m with
      | zero => exact absurd h (by omega)
      | succ m =>
        rw [pl, List.all_eq_true]
        exact fun x hx => pl_mono k m x (by omega) (pl_all q hx)
    · cases m with
      | zero => exact absurd h (by omega)
      | succ m =>
        rw [pl, List.all_eq_true]
        exact fun x hx => pl_mono k m x (by omega) (pl_all q hx)
theorem plain_toP : ∀ (n : Nat) (d : D), pl n d = true → (toP d).plain = true ∧ (toP d).depth ≤ n
  | n, d, p => by
    have go : ∀ k, (∀ d, pl k d = true → (toP d).plain = true ∧ (toP d).depth ≤ k) → ∀ xs : List D, xs.all (pl k) = true → PyData.plainAll (toPs xs) = true ∧ PyData.depthAll (toPs xs) ≤ k := by
      intro k ih xs
      induction xs with
      | nil => intro _; exact ⟨by simp [toPs, PyData.plainAll], by simp [toPs, PyData.depthAll]⟩
      | cons x xs ihx =>
        intro h
        rw [List.all_cons, Bool.and_eq_true] at h
        obtain ⟨a, b⟩ := ih x h.1
        obtain ⟨c, e⟩ := ihx h.2
        refine ⟨by simp [toPs, PyData.plainAll, a, c], ?_⟩
        rw [toPs, PyData.depthAll]
        exact Nat.max_le.mpr ⟨b, e⟩
    rcases pl_cases p with rfl | ⟨b, rfl⟩ | ⟨i, rfl⟩ | ⟨x, rfl⟩ | ⟨k, xs, rfl, rfl, q⟩ | ⟨k, xs, rfl, rfl, q⟩
    · simp [toP, PyData.plain, PyData.depth]
    · simp [toP, PyData.plain, PyData.depth]
    · simp [toP, PyData.plain, PyData.depth]
    · simp [toP, PyData.plain, PyData.depth]
    · obtain ⟨a, b⟩ := go k (plain_toP k) xs q
      exact ⟨by rw [toP, PyData.plain]; exact a, by rw [toP, PyData.depth]; omega⟩
    · obtain ⟨a, b⟩ := go k (plain_toP k) xs q
      exact ⟨by rw [toP, PyData.plain]; exact a, by rw [toP, PyData.depth]; omega⟩
theorem plainAll_toPs {k : Nat} {xs : List D} (h : xs.all (pl k) = true) : PyData.plainAll (toPs xs) = true ∧ PyData.depthAll (toPs xs) ≤ k := by
  have a := plain_toP (k + 1) (.tup xs) (by rw [pl]; exact h)
  rw [toP, PyData.plain, PyData.depth] at a
  exact ⟨a.1, by omega⟩
mutual
theorem eqv_toP : ∀ (n m : Nat) (d e : D), pl n d = true → pl m e = true → PyData.eqv (toP d) (toP e) = eqD d e
  | n, m, .non, e, p, q => by rcases pl_cases q with rfl | ⟨b, rfl⟩ | ⟨i, rfl⟩ | ⟨x, rfl⟩ | ⟨k, xs, rfl, rfl, q⟩ | ⟨k, xs, rfl, rfl, q⟩ <;> simp [toP, PyData.eqv, eqD]
  | n, m, .bl _, e, p, q => by rcases pl_cases q with rfl | ⟨b, rfl⟩ | ⟨i, rfl⟩ | ⟨x, rfl⟩ | ⟨k, xs, rfl, rfl, q⟩ | ⟨k, xs, rfl, rfl, q⟩ <;> simp [toP, PyData.eqv, eqD]
  | n, m, .int _, e, p, q => by rcases pl_cases q with rfl | ⟨b, rfl⟩ | ⟨i, rfl⟩ | ⟨x, rfl⟩ | ⟨k, xs, rfl, rfl, q⟩ | ⟨k, xs, rfl, rfl, q⟩ <;> simp [toP, PyData.eqv, eqD]
  | n, m, .str _, e, p, q => by rcases pl_cases q with rfl | ⟨b, rfl⟩ | ⟨i, rfl⟩ | ⟨x, rfl⟩ | ⟨k, xs, rfl, rfl, q⟩ | ⟨k, xs, rfl, rfl, q⟩ <;> simp [toP, PyData.eqv, eqD]
  | n, m, .tup ds, e, p, q => by
    rcases pl_cases p with h | ⟨b, h⟩ | ⟨i, h⟩ | ⟨x, h⟩ | ⟨k, xs, hn, h, p⟩ | ⟨k, xs, hn, h, p⟩ <;> first | cases h | skip
    rcases pl_cases q with rfl | ⟨b, rfl⟩ | ⟨i, rfl⟩ | ⟨x, rfl⟩ | ⟨k', ys, rfl, rfl, q⟩ | ⟨k', ys, rfl, rfl, q⟩ <;> first
      | (simp only [toP, PyData.eqv, eqD] <;> first | rfl | exact eqvs_toP k k' ds ys p q)
  | n, m, .lst ds, e, p, q => by
    rcases pl_cases p with h | ⟨b, h⟩ | ⟨i, h⟩ | ⟨x, h⟩ | ⟨k, xs, hn, h, p⟩ | ⟨k, xs, hn, h, p⟩ <;> first | cases h | skip
    rcases pl_cases q with rfl | ⟨b, rfl⟩ | ⟨i, rfl⟩ | ⟨x, rfl⟩ | ⟨k', ys, rfl, rfl, q⟩ | ⟨k', ys, rfl, rfl, q⟩ <;> first
      | (simp only [toP, PyData.eqv, eqD] <;> first | rfl | exact eqvs_toP k k' ds ys p q)
  | n, m, .dic _, e, p, q => by cases n <;> simp [pl] at p
  | n, m, .set _, e, p, q => by cases n <;> simp [pl] at p
  | n, m, .ins _ _, e, p, q => by cases n <;> simp [pl] at p
  | n, m, .obj _, e, p, q => by cases n <;> simp [pl] at p
  | n, m, .ty _, e, p, q => by cases n <;> simp [pl] at p
  | n, m, .wls _, e, p, q => by cases n <;> simp [pl] at p
theorem eqvs_toP : ∀ (n m : Nat) (xs ys : List D), xs.all (pl n) = true → ys.all (pl m) = true → PyData.eqvAll (toPs xs) (toPs ys) = eqDs xs ys
  | n, m, [], [], _, _ => by simp [toPs, PyData.eqvAll, eqDs]
  | n, m, [], y :: ys, _, _ => by simp [toPs, PyData.eqvAll, eqDs]
  | n, m, x :: xs, [], _, _ => by simp [toPs, PyData.eqvAll, eqDs]
  | n, m, x :: xs, y :: ys, p, q => by
    rw [List.all_cons, Bool.and_eq_true] at p q
    simp only [toPs, PyData.eqvAll, eqDs]
    rw [eqv_toP n m x y p.1 q.1, eqvs_toP n m xs ys p.2 q.2]
end
section
variable {K : PySem.W.Frag} {O O' : Addr → Prop} {H : Hp} {s : Shared}
/-- what the abstract heap says of the heap's sequences -/
structure HF (K : PySem.W.Frag) (H : Hp) (s : Shared) : Prop where
  tup : ∀ a xs, SqT K H a xs → ∃ its : List Value, Vals xs its ∧ s.heap.IsTuple a its.toArray
  lst : ∀ a xs, Rd H a (.lst xs) → ∃ its : List Value, Vals xs its ∧ s.heap.IsList a its.toArray
theorem hf_of {X : Cx} {pins : List (Addr × Obj)} {σ : L2.St} (I : Inv X pins σ H s) : HF X.K H s where
  tup := fun a xs h => by
    obtain ⟨its, r, p, _⟩ := I.tuple h
    exact ⟨its, r, p⟩
  lst := fun a xs h => by
    obtain ⟨its, r, p, _⟩ := I.list (.inl h)
    exact ⟨its, r, p.isList⟩
mutual
theorem reads_of (hf : HF K H s) : ∀ {n : Nat} {d : D} {v : V} {u : Value}, pl n d = true → Rep K O H v d → RelV v u → ∃ as, Reads s.heap u (toP d) as
  | n, .non, _, u, p, r, rv => by cases r; cases rv; exact ⟨_, .none⟩
  | n, .bl b, _, u, p, r, rv => by cases r; cases rv; exact ⟨_, .bool b⟩
  | n, .int i, _, u, p, r, rv => by cases r; obtain ⟨t, rfl⟩ := rv; exact ⟨_, .int i t⟩
  | n, .str i, _, u, p, r, rv => by cases r; obtain ⟨t, rfl⟩ := rv; exact ⟨_, .str i t⟩
  | n, .tup ds, _, u, p, .tup h r, rv => by
    cases rv
    obtain ⟨its, vi, o, e, c, k, hd⟩ := hf.tup _ _ h
    cases n with
    | zero => simp [pl] at p
    | succ n =>
      rw [pl] at p
      obtain ⟨as, ra⟩ := readsAll_of hf p r vi
      rw [toP]
      exact ⟨_, .tuple e c hd (by simpa using ra)⟩
  | n, .lst ds, _, u, p, .lst h _ r, rv => by
    cases rv
    obtain ⟨its, vi, o, e, c, k, hd⟩ := hf.lst _ _ (.inl h)
    cases n with
    | zero => simp [pl] at p
    | succ n =>
      rw [pl] at p
      obtain ⟨as, ra⟩ := readsAll_of hf p r vi
      rw [toP]
      exact ⟨_, .list e c hd (by simpa using ra)⟩
  | n, .ins _ _, _, u, p, _, rv => by cases n <;> simp [pl] at p
  | n, .obj _, _, u, p, _, rv => by cases n <;> simp [pl] at p
  | n, .ty _, _, u, p, _, rv => by cases n <;> simp [pl] at p
  | n, .wls _, _, u, p, _, rv => by cases n <;> simp [pl] at p
  | n, .dic _, _, u, p, _, rv => by cases n <;> simp [pl] at p
  | n, .set _, _, u, p, _, rv => by cases n <;> simp [pl] at p
theorem readsAll_of (hf : HF K H s) : ∀ {n : Nat} {ds : List D} {vs : List V} {us : List Value}, ds.all (pl n) = true → Reps K O H vs ds → Vals vs us → ∃ as, ReadsAll s.heap us (toPs ds) as
  | _, _, _, _, _, .nil, .nil => ⟨_, .nil⟩
  | n, _, _, _, p, .cons r rs, .cons rv rvs => by
    rw [List.all_cons, Bool.and_eq_true] at p
    obtain ⟨a1, h1⟩ := reads_of hf p.1 r rv
    obtain ⟨a2, h2⟩ := readsAll_of hf p.2 rs rvs
    exact ⟨_, .cons h1 h2⟩
end
end

section
variable {X : Cx}
/-- what is read stands for the data, whoever owns it -/
theorem Rd1.any {K : PySem.W.Frag} {g : Gh} {F : Fp} {H : Hp} {v : V} {d : D} (r : Rd1 K g F H v d) : ∃ O, Rep K O H v d := by
  rcases r with r | ⟨p, e, n, t⟩
  · exact ⟨_, r⟩
  · subst e
    exact ⟨fun _ => False, Top.rep (fun z => z) (t.weak fun a z => z.elim)⟩
/-- an operator read off the data alone -/
theorem op2_by {f : Value → Value → Sem Value} (C : D → D → Bool) (B : D → D → Bool)
    (rule : ∀ (H : Hp) (s : Shared) (O O' : Addr → Prop) (x y : V) (dx dy : D) (u w : Value) (Q : Value → Shared → Prop), HF X.K H s → Rep X.K O H x dx → Rep X.K O' H y dy → RelV x u → RelV y w → C dx dy = true → Q (.bool (B dx dy)) s →
      wpAny (model X.prog X.w) X.A (f u w) Q X.xe s) : Op2 X f (fun x y => if C x y = true then some (.bl (B x y), .sh) else none) := by
  refine ⟨fun x y H Q => ∃ dx dy O O', Rep X.K O H x dx ∧ Rep X.K O' H y dy ∧ C dx dy = true ∧ Q (.bl (B dx dy)) H, fun pins s σ H x y u w Q I rx ry h => ?_, fun g F H x y dx dy d k Q G r1 r2 ho q => ?_⟩
  · obtain ⟨dx, dy, O, O', a1, a2, c, q⟩ := h
    exact rule H s O O' x y dx dy u w _ (hf_of I) a1 a2 rx ry c ⟨.bl _, H, I, rfl, q⟩
  · obtain ⟨O, a1⟩ := r1.any
    obtain ⟨O', a2⟩ := r2.any
    dsimp only at ho
    split at ho
    · rename_i c
      cases ho
      exact ⟨dx, dy, O, O', a1, a2, c, q _ H (Same.refl _) (.bl _)⟩
    · cases ho
/-- both may be compared -/
def pl2 (x y : D) : Bool := pl 40 x && pl 40 y
theorem pl2_of {x y : D} (h : pl2 x y = true) : pl 40 x = true ∧ pl 40 y = true := by
  rw [pl2, Bool.and_eq_true] at h
  exact h
def oEq : OF2 := fun x y => if pl2 x y = true then some (.bl (eqD x y), .sh) else none
def oNe : OF2 := fun x y => if pl2 x y = true then some (.bl (!eqD x y), .sh) else none
theorem minD40 {a b n : Nat} (h : a ≤ 40) (hu : n + 64 < cLine) : n + min a b < cLine := by
  have := Nat.min_le_left a b
  omega
theorem o_eq (hu : X.A.units + 64 < cLine) : Op2 X (compareOp .Eq) oEq := by
  refine op2_by pl2 eqD fun H s O O' x y dx dy u w Q hf r1 r2 rx ry c q => ?_
  obtain ⟨c1, c2⟩ := pl2_of c
  obtain ⟨as, h1⟩ := reads_of hf c1 r1 rx
  obtain ⟨bs, h2⟩ := reads_of hf c2 r2 ry
  exact eq_plain h1 h2 (plain_toP _ _ c1).1 (plain_toP _ _ c2).1 (minD40 (plain_toP _ _ c1).2 hu) (by rw [eqv_toP _ _ _ _ c1 c2]; exact q)
theorem o_ne (hu : X.A.units + 64 < cLine) : Op2 X (compareOp .NotEq) oNe := by
  refine op2_by pl2 (fun x y => !eqD x y) fun H s O O' x y dx dy u w Q hf r1 r2 rx ry c q => ?_
  obtain ⟨c1, c2⟩ := pl2_of c
  obtain ⟨as, h1⟩ := reads_of hf c1 r1 rx
  obtain ⟨bs, h2⟩ := reads_of hf c2 r2 ry
  exact ne_plain h1 h2 (plain_toP _ _ c1).1 (plain_toP _ _ c2).1 (minD40 (plain_toP _ _ c1).2 hu) (by rw [eqv_toP _ _ _ _ c1 c2]; exact q)
/-! ### order -/
def ltD (x y : D) : Bool := PySem.W.dataLt (toP x) (toP y)
def notNon : D → Bool
  | .non => false
  | _ => true
/-- the two may be ordered -/
def al2 (x y : D) : Bool := pl2 x y && PySem.W.alike (toP x) (toP y) && notNon x
def oLt : OF2 := fun x y => if al2 x y = true then some (.bl (ltD x y), .sh) else none
def oGt : OF2 := fun x y => if al2 x y = true then some (.bl (ltD y x), .sh) else none
def oLe : OF2 := fun x y => if al2 x y = true then some (.bl (!ltD y x), .sh) else none
def oGe : OF2 := fun x y => if al2 x y = true then some (.bl (!ltD x y), .sh) else none
theorem al2_of {x y : D} (h : al2 x y = true) : pl 40 x = true ∧ pl 40 y = true ∧ PySem.W.alike (toP x) (toP y) = true ∧ toP x ≠ .none := by
  rw [al2, Bool.and_eq_true, Bool.and_eq_true] at h
  obtain ⟨⟨a, b⟩, c⟩ := h
  obtain ⟨a1, a2⟩ := pl2_of a
  refine ⟨a1, a2, b, fun z => ?_⟩
  cases x <;> simp [toP, notNon] at z c
theorem o_lt (hu : X.A.units + 64 < cLine) : Op2 X (compareOp .Lt) oLt := by
  refine op2_by al2 ltD fun H s O O' x y dx dy u w Q hf r1 r2 rx ry c q => ?_
  obtain ⟨c1, c2, c3, c4⟩ := al2_of c
  obtain ⟨as, h1⟩ := reads_of hf c1 r1 rx
  obtain ⟨bs, h2⟩ := reads_of hf c2 r2 ry
  exact PySem.W.lt_data h1 h2 c3 c4 (minD40 (plain_toP _ _ c1).2 hu) q
theorem o_gt (hu : X.A.units + 64 < cLine) : Op2 X (compareOp .Gt) oGt := by
  refine op2_by al2 (fun x y => ltD y x) fun H s O O' x y dx dy u w Q hf r1 r2 rx ry c q => ?_
  obtain ⟨c1, c2, c3, c4⟩ := al2_of c
  obtain ⟨as, h1⟩ := reads_of hf c1 r1 rx
  obtain ⟨bs, h2⟩ := reads_of hf c2 r2 ry
  exact PySem.W.gt_data h1 h2 c3 c4 (minD40 (plain_toP _ _ c1).2 hu) q
theorem o_le (hu : X.A.units + 64 < cLine) : Op2 X (compareOp .LtE) oLe := by
  refine op2_by al2 (fun x y => !ltD y x) fun H s O O' x y dx dy u w Q hf r1 r2 rx ry c q => ?_
  obtain ⟨c1, c2, c3, c4⟩ := al2_of c
  obtain ⟨as, h1⟩ := reads_of hf c1 r1 rx
  obtain ⟨bs, h2⟩ := reads_of hf c2 r2 ry
  exact PySem.W.le_data h1 h2 c3 c4 (minD40 (plain_toP _ _ c1).2 hu) q
theorem o_ge (hu : X.A.units + 64 < cLine) : Op2 X (compareOp .GtE) oGe := by
  refine op2_by al2 (fun x y => !ltD x y) fun H s O O' x y dx dy u w Q hf r1 r2 rx ry c q => ?_
  obtain ⟨c1, c2, c3, c4⟩ := al2_of c
  obtain ⟨as, h1⟩ := reads_of hf c1 r1 rx
  obtain ⟨bs, h2⟩ := reads_of hf c2 r2 ry
  exact PySem.W.ge_data h1 h2 c3 c4 (minD40 (plain_toP _ _ c1).2 hu) q
/-! ### in -/
def isIn (x : D) (xs : List D) : Bool := xs.any fun y => eqD y x
theorem isIn_toP {n m : Nat} {x : D} {xs : List D} (h1 : xs.all (pl n) = true) (h2 : pl m x = true) : ((toPs xs).any fun y => PyData.eqv y (toP x)) = isIn x xs := by
  induction xs with
  | nil => rfl
  | cons y ys ih =>
    rw [List.all_cons, Bool.and_eq_true] at h1
    rw [toPs, List.any_cons, ih h1.2, eqv_toP n m y x h1.1 h2]
    rfl
/-- where is looked: a list, a tuple, a text -/
def inC (x c : D) : Bool := match c with
  | .lst xs => xs.all (pl 40) && pl 40 x
  | .tup xs => xs.all (pl 40) && pl 40 x
  | .str _ => match x with | .str _ => true | _ => false
  | _ => false
def inB (x c : D) : Bool := match c with
  | .lst xs => isIn x xs
  | .tup xs => isIn x xs
  | .str y => match x with | .str z => !(Builtin.Str.occurrences y z 0 y.length 1).isEmpty | _ => false
  | _ => false
def oIn : OF2 := fun x y => if inC x y = true then some (.bl (inB x y), .sh) else none
def oNotIn : OF2 := fun x y => if inC x y = true then some (.bl (!inB x y), .sh) else none
theorem in40 {a b n : Nat} (h : a ≤ 40) (hu : n + 64 < cLine) : n + 1 + min a b < cLine := by
  have := Nat.min_le_left a b
  omega
theorem o_in (hu : X.A.units + 64 < cLine) : Op2 X (compareOp .In) oIn := by
  refine op2_by inC inB fun H s O O' x y dx dy u w Q hf r1 r2 rx ry c q => ?_
  cases dy with
  | lst xs =>
    have c' : (xs.all (pl 40) && pl 40 dx) = true := c
    rw [Bool.and_eq_true] at c'
    obtain ⟨as, h1⟩ := reads_of hf c'.2 r1 rx
    obtain ⟨bs, h2⟩ := reads_of hf (n := 41) (by rw [pl]; exact c'.1) r2 ry
    exact in_list_data h2 h1 (plainAll_toPs c'.1).1 (plain_toP _ _ c'.2).1 (in40 (plainAll_toPs c'.1).2 hu) (by rw [isIn_toP c'.1 c'.2]; exact q)
  | tup xs =>
    have c' : (xs.all (pl 40) && pl 40 dx) = true := c
    rw [Bool.and_eq_true] at c'
    obtain ⟨as, h1⟩ := reads_of hf c'.2 r1 rx
    obtain ⟨bs, h2⟩ := reads_of hf (n := 41) (by rw [pl]; exact c'.1) r2 ry
    exact in_tuple_data h2 h1 (plainAll_toPs c'.1).1 (plain_toP _ _ c'.2).1 (in40 (plainAll_toPs c'.1).2 hu) (by rw [isIn_toP c'.1 c'.2]; exact q)
  | str z =>
    cases dx with
    | str z' =>
      cases r1
      cases r2
      obtain ⟨t, rfl⟩ := rx
      obtain ⟨t', rfl⟩ := ry
      exact in_str q
    | _ => exact absurd c (by simp [inC])
  | _ => exact absurd c (by simp [inC])
theorem o_notIn (hu : X.A.units + 64 < cLine) : Op2 X (compareOp .NotIn) oNotIn := by
  refine op2_by inC (fun x y => !inB x y) fun H s O O' x y dx dy u w Q hf r1 r2 rx ry c q => ?_
  cases dy with
  | lst xs =>
    have c' : (xs.all (pl 40) && pl 40 dx) = true := c
    rw [Bool.and_eq_true] at c'
    obtain ⟨as, h1⟩ := reads_of hf c'.2 r1 rx
    obtain ⟨bs, h2⟩ := reads_of hf (n := 41) (by rw [pl]; exact c'.1) r2 ry
    exact notIn_list_data h2 h1 (plainAll_toPs c'.1).1 (plain_toP _ _ c'.2).1 (in40 (plainAll_toPs c'.1).2 hu) (by rw [isIn_toP c'.1 c'.2]; exact q)
  | tup xs =>
    have c' : (xs.all (pl 40) && pl 40 dx) = true := c
    rw [Bool.and_eq_true] at c'
    obtain ⟨as, h1⟩ := reads_of hf c'.2 r1 rx
    obtain ⟨bs, h2⟩ := reads_of hf (n := 41) (by rw [pl]; exact c'.1) r2 ry
    exact notIn_tuple_data h2 h1 (plainAll_toPs c'.1).1 (plain_toP _ _ c'.2).1 (in40 (plainAll_toPs c'.1).2 hu) (by rw [isIn_toP c'.1 c'.2]; exact q)
  | str z =>
    cases dx with
    | str z' =>
      cases r1
      cases r2
      obtain ⟨t, rfl⟩ := rx
      obtain ⟨t', rfl⟩ := ry
      exact notIn_str q
    | _ => exact absurd c (by simp [inC])
  | _ => exact absurd c (by simp [inC])
/-! ### is -/
def isC (_ y : D) : Bool := match y with
  | .non => true
  | .bl _ => true
  | _ => false
def isB (x y : D) : Bool := match x, y with
  | .non, .non => true
  | .bl a, .bl b => a == b
  | _, _ => false
end
end DL
/-! D-layer, part d: arithmetic, joining, places, slices. -/
namespace DL
open PySem PySem.Spec PyProof.Rows L2
section
variable {X : Cx}
/-! ### ints -/
theorem fit_int {C : Int → Int → Prop} [∀ i j, Decidable (C i j)] {g : Int → Int → Int} {f : Value → Value → Sem Value} (h : OpR X f (rI C fun i j => .int (g i j))) :
    Op2 X f (fun x y => match x, y with | .int i, .int j => if C i j then some (.int (g i j), .sh) else none | _, _ => none) := by
  refine ⟨_, h, fun g F H x y dx dy d k Q G r1 r2 ho q => ?_⟩
  cases dx <;> cases dy <;> dsimp only at ho <;> first
    | cases ho
    | (split at ho
       · rename_i c
         cases ho
         have e1 := r1.int
         have e2 := r2.int
         exact ⟨_, _, e1, e2, c, q _ H (Same.refl _) (.int _)⟩
       · cases ho)
def cMul (i j : Int) : Prop := i.natAbs.log2 + j.natAbs.log2 < 1000000
instance (i j : Int) : Decidable (cMul i j) := inferInstanceAs (Decidable (_ < _))
def cDiv (_ j : Int) : Prop := 0 < j ∧ j.natAbs.log2 < 9000
instance (i j : Int) : Decidable (cDiv i j) := inferInstanceAs (Decidable (_ ∧ _))
def cMod (_ j : Int) : Prop := 0 < j
instance (i j : Int) : Decidable (cMod i j) := inferInstanceAs (Decidable (_ < _))
def cPow (i j : Int) : Prop := 0 ≤ j ∧ j ≤ 1000000 ∧ i.natAbs < 2 ^ 64
instance (i j : Int) : Decidable (cPow i j) := inferInstanceAs (Decidable (_ ∧ _))
def oSub : OF2 := fun x y => match x, y with | .int i, .int j => some (.int (i - j), .sh) | _, _ => none
def oDiv : OF2 := fun x y => match x, y with | .int i, .int j => if cDiv i j then some (.int (i / j), .sh) else none | _, _ => none
def oMod : OF2 := fun x y => match x, y with | .int i, .int j => if cMod i j then some (.int (i % j), .sh) else none | _, _ => none
def oPow : OF2 := fun x y => match x, y with | .int i, .int j => if cPow i j then some (.int (i ^ j.toNat), .sh) else none | _, _ => none
theorem o_sub : Op2 X (binaryOp .Sub) oSub := by
  refine ⟨_, op_sub, fun g F H x y dx dy d k Q G r1 r2 ho q => ?_⟩
  cases dx <;> cases dy <;> dsimp only [oSub] at ho <;> first
    | cases ho
      done
    | (cases ho
       exact ⟨_, _, r1.int, r2.int, q _ H (Same.refl _) (.int _)⟩)
theorem o_div : Op2 X (binaryOp .FloorDiv) oDiv := fit_int (C := cDiv) op_fdivW
theorem o_mod : Op2 X (binaryOp .Mod) oMod := fit_int (C := cMod) op_mod
theorem o_pow : Op2 X (binaryOp .Pow) oPow := fit_int (C := cPow) op_pow
/-! ### + -/
theorem cat_tup0 {prog : Program} {w : World} {A : Around} {E : Value → Shared → Prop} {s : Shared} {t b : Addr} {ws : List Value} {Q : Value → Shared → Prop} (ht : IsTup s.heap t #[]) (hb : IsTup s.heap b ws.toArray) (h : Q (.ref b) s) :
    wpAny (model prog w) A (binaryOp .Add (.ref t) (.ref b)) Q E s := by
  obtain ⟨⟨cls, dd, data, sl⟩, ho, hc, n, hd⟩ := id ht
  obtain ⟨⟨cls2, dd2, data2, sl2⟩, ho2, hc2, n2, hd2⟩ := id hb
  dsimp only at hc hd hc2 hd2
  subst hc hd hc2 hd2
  exact concat_meets (s := s) ⟨_, ho, rfl⟩ ⟨_, ho2, rfl⟩ noFill_tuple_add seq_tuple_add PySem.F.slot_tuple_add PySem.F.entry_tuple_add (PySem.F.args_tuple_add_2 _ _) (tuple_addW0 t b #[] ws.toArray n n2 dd dd2 sl sl2 rfl) ⟨ho, ho2, h⟩
def rCatT0 (K : PySem.W.Frag) : R2 := fun x y H Q => ∃ a b ys, x = .ref a ∧ y = .ref b ∧ SqT K H a [] ∧ SqT K H b ys ∧ Q (.ref b) H
theorem op_catT0 : OpR X (binaryOp .Add) (rCatT0 X.K) := by
  intro pins s σ H x y v u Q I rx ry h
  obtain ⟨a, b, ys, rfl, rfl, ha, hb, q⟩ := h
  cases rx
  cases ry
  obtain ⟨its, r1, p1, _⟩ := I.tuple ha
  obtain ⟨its2, r2, p2, _⟩ := I.tuple hb
  cases r1
  exact cat_tup0 p1 p2 ⟨.ref b, H, I, rfl, q⟩
theorem lstR {pins : List (Addr × Obj)} {σ : L2.St} {H : Hp} {s : Shared} {l : Addr} {xs : List V} (I : Inv X pins σ H s) (h : Rd H l (.lst xs)) : ∃ (ws : List Value) (m : Nat), Vals xs ws ∧ s.heap.get? l = some { cls := .type "list", data := .seq ws.toArray m } ∧ ws.length ≤ sizeLine := by
  obtain ⟨a, ws, m, r, e⟩ := h.ok I.hok
  exact ⟨ws, m, r, e, by rw [← r.length]; exact a⟩
def rCatR : R2 := fun x y H Q => ∃ l b xs zs, x = .ref l ∧ y = .ref b ∧ Rd H l (.lst xs) ∧ Rd H b (.lst zs) ∧ xs.length + zs.length ≤ sizeLine ∧ ∀ p, H p = none → Q (.ref p) (upd H p (.lst (xs ++ zs)))
theorem op_catR : OpR X (binaryOp .Add) rCatR := by
  intro pins s σ H x y v u Q I rx ry h
  obtain ⟨l, b, xs, zs, rfl, rfl, h1, h2, hz, q⟩ := h
  cases rx
  cases ry
  obtain ⟨w1, m1, r1, g1, z1⟩ := lstR I h1
  obtain ⟨w2, m2, r2, g2, z2⟩ := lstR I h2
  refine PySem.P.add_list g1 g2 ?_ ?_
  · rw [show w1.toArray ++ w2.toArray = (w1 ++ w2).toArray from by simp]
    exact ⟨.ref _, _, I.lnew (t' := s.toks) (r1.append r2) (by rw [List.length_append]; exact hz), rfl, q _ I.fresh⟩
  · rw [List.size_toArray, List.size_toArray, ← r1.length, ← r2.length]
    omega
def oAdd : OF2 := fun x y => match x, y with
  | .int i, .int j => some (.int (i + j), .sh)
  | .str a, .str b => if a.length + b.length ≤ sizeLine then some (.str (a ++ b), .sh) else none
  | .lst a, .lst b => if a.length + b.length ≤ sizeLine then some (.lst (a ++ b), .ow) else none
  | .tup a, .tup b => if a.length + b.length ≤ sizeLine then some (.tup (a ++ b), .sh) else none
  | _, _ => none
theorem res_new {K : PySem.W.Frag} {g : Gh} {F : Fp} {H : Hp} {p : Addr} {xs : List V} {ds : List D} (hp : H p = none) (r : Reps K (Av g F) H xs ds) : Res K g F H (upd H p (.lst xs)) .ow (.ref p) (.lst ds) :=
  ⟨p, rfl, hp, xs, upd_same, (r.more (O' := fun b => Av g F b ∨ b = p) fun b z => z.imp id fun z => by rw [z]; exact hp).same (same_upd hp)⟩
theorem rep_newT {K : PySem.W.Frag} {O : Addr → Prop} {H : Hp} {p : Addr} {xs : List V} {ds : List D} (hp : H p = none) (r : Reps K O H xs ds) : Rep K O (upd H p (.tup xs)) (.ref p) (.tup ds) :=
  .tup (.inl (.inl upd_same)) (r.same (same_upd hp))
theorem o_add : Op2 X (binaryOp .Add) oAdd := by
  refine ⟨_, op_add.or (op_add_str.or (op_catR.or (op_catT0.or op_catT))), fun g F H x y dx dy d k Q G r1 r2 ho q => ?_⟩
  cases dx with
  | int i =>
    cases dy with
    | int j =>
      cases ho
      exact .inl ⟨_, _, r1.int, r2.int, q _ H (Same.refl _) (.int _)⟩
    | _ => cases ho
  | str a =>
    cases dy with
    | str b =>
      simp only [oAdd] at ho
      split at ho
      · rename_i c
        cases ho
        exact .inr (.inl ⟨_, _, r1.str, r2.str, c, q _ H (Same.refl _) (.str _)⟩)
      · cases ho
    | _ => cases ho
  | lst a =>
    cases dy with
    | lst b =>
      simp only [oAdd] at ho
      split at ho
      · rename_i c
        cases ho
        obtain ⟨p1, x1, rfl, h1, s1⟩ := r1.lst
        obtain ⟨p2, x2, rfl, h2, s2⟩ := r2.lst
        refine .inr (.inr (.inl ⟨_, _, _, _, rfl, rfl, h1, h2, by rw [s1.length, s2.length]; exact c, fun p hp => ?_⟩))
        exact q _ _ (same_upd hp) (res_new hp (s1.append s2))
      · cases ho
    | _ => cases ho
  | tup a =>
    cases dy with
    | tup b =>
      simp only [oAdd] at ho
      split at ho
      · rename_i c
        cases ho
        obtain ⟨p1, x1, rfl, h1, s1⟩ := r1.tup
        obtain ⟨p2, x2, rfl, h2, s2⟩ := r2.tup
        by_cases hx : x1 = []
        · subst hx
          cases s1
          exact .inr (.inr (.inr (.inl ⟨_, _, _, rfl, rfl, h1, h2, q _ H (Same.refl _) (.tup h2 s2)⟩)))
        · refine .inr (.inr (.inr (.inr ⟨_, _, _, _, rfl, rfl, h1, h2, hx, by rw [s1.length, s2.length]; exact c, fun e => ?_, fun _ p hp => ?_⟩)))
          · subst e
            cases s2
            exact q _ H (Same.refl _) (.tup h1 (by rw [List.append_nil]; exact s1))
          · exact q _ _ (same_upd hp) (rep_newT hp (s1.append s2))
      · cases ho
    | _ => cases ho
  | _ => cases ho
/-! ### * : ints, a list or a tuple some times over -/
def oMul : OF2 := fun x y => match x, y with
  | .int i, .int j => if cMul i j then some (.int (i * j), .sh) else none
  | .lst a, .int k => if -(2 ^ 63) ≤ k ∧ k < 2 ^ 63 ∧ a.length * k.toNat ≤ sizeLine then some (.lst (List.replicate k.toNat a).flatten, .ow) else none
  | _, _ => none
theorem Reps.rep {K : PySem.W.Frag} {O : Addr → Prop} {H : Hp} {xs : List V} {ds : List D} (r : Reps K O H xs ds) : ∀ k : Nat, Reps K O H (List.replicate k xs).flatten (List.replicate k ds).flatten
  | 0 => .nil
  | k + 1 => by
    rw [List.replicate_succ, List.replicate_succ, List.flatten_cons, List.flatten_cons]
    exact r.append (Reps.rep r k)
def rRepR : R2 := fun x y H Q => ∃ l k xs, x = .ref l ∧ y = .int k ∧ Rd H l (.lst xs) ∧ -(2 ^ 63) ≤ k ∧ k < 2 ^ 63 ∧ xs.length * k.toNat ≤ sizeLine ∧ ∀ p, H p = none → Q (.ref p) (upd H p (.lst (List.replicate k.toNat xs).flatten))
theorem op_repR : OpR X (binaryOp .Mult) rRepR := by
  intro pins s σ H x y v u Q I rx ry h
  obtain ⟨l, k, xs, rfl, rfl, h1, b1, b2, hz, q⟩ := h
  cases rx
  obtain ⟨t, rfl⟩ := ry
  obtain ⟨w1, m1, r1, g1, z1⟩ := lstR I h1
  have c1 : w1.toArray.size * k.toNat ≤ sizeLine := by rw [List.size_toArray, ← r1.length]; exact hz
  have c2 : ¬ w1.toArray.size * k.toNat > (2 ^ 63 - 1) / 8 := by
    have z : (sizeLine : Nat) ≤ (2 ^ 63 - 1) / 8 := by decide
    omega
  have c3 : ¬ (!Builtin.List.listFitsIndex k) = true := by rw [fitsIndex_both b1 b2]; simp
  have c4 : ¬ Builtin.List.listTooLong (w1.toArray.size * k.toNat) = true := by rw [notLongL c1]; simp
  have e1 : List.foldl (fun x1 x2 => x1 ++ x2) #[] (List.replicate (if w1.toArray.isEmpty = true then 0 else k.toNat) w1.toArray) = (List.replicate k.toNat w1).flatten.toArray := by
    have f1 : ∀ m : Nat, List.foldl (fun x1 x2 => x1 ++ x2) #[] (List.replicate m w1.toArray) = (List.replicate m w1).flatten.toArray := fun m => by
      simpa using foldl_rep w1 m []
    rw [f1]
    cases w1 with
    | nil => simp
    | cons a r' => rw [if_neg (by simp)]
  refine wpAny_binaryOp_repeat_ref (T := "list") (U := "int") (by decide) ⟨_, g1, rfl⟩ (fun s' => typeIs_int s' k t) noFill_list_mul PySem.F.fills_int_mul PySem.F.slot_int_rmul repeat_list PySem.F.slot_int_index.lookup
    (call_meets PySem.F.slot_int_rmul (typeIs_int s k t) PySem.F.entry_int_rmul (PySem.F.args_int_rmul_2 _ _) (int___rmul___int_list k t l w1.toArray m1) ⟨g1, rfl, ⟨_, g1, rfl⟩, call_meets PySem.F.slot_list_mul ⟨_, g1, rfl⟩ PySem.F.entry_list_mul (PySem.F.args_list_mul_2 _ _) (AutoListH.list___mul___list_int_3 l w1.toArray m1 k t c3 c2 c4) ⟨g1, ?_⟩⟩)
  rw [e1]
  exact ⟨.ref _, _, I.lnew (t' := s.toks) (r1.rep k.toNat) (by rw [PyProof.Rows.lm_len_rep_flat, Nat.mul_comm]; exact hz), rfl, q _ I.fresh⟩
theorem o_mul : Op2 X (binaryOp .Mult) oMul := by
  refine ⟨_, op_mulW.or op_repR, fun g F H x y dx dy d k Q G r1 r2 ho q => ?_⟩
  cases dx with
  | int i =>
    cases dy with
    | int j =>
      simp only [oMul] at ho
      split at ho
      · rename_i c
        cases ho
        exact .inl ⟨_, _, r1.int, r2.int, c, q _ H (Same.refl _) (.int _)⟩
      · cases ho
    | _ => cases ho
  | lst a =>
    cases dy with
    | int k =>
      simp only [oMul] at ho
      split at ho
      · rename_i c
        cases ho
        obtain ⟨p1, x1, rfl, h1, s1⟩ := r1.lst
        refine .inr ⟨_, _, _, rfl, r2.int, h1, c.1, c.2.1, by rw [s1.length]; exact c.2.2, fun p hp => ?_⟩
        exact q _ _ (same_upd hp) (res_new hp (s1.rep _))
      · cases ho
    | _ => cases ho
  | _ => cases ho
/-! ### -x -/
def fNeg (f : EF) : EF := fun ρ δ => (f ρ δ).bind fun p => match p.1 with | .int i => some (.int (-i), .sh, p.2.2) | _ => none
theorem de_neg {a : Expr} {f : EF} {pos : Pos} (h : DE X a f) : DE X (.UnaryOp .USub a pos) (fNeg f) := by
  obtain ⟨t, p, x⟩ := h.ex
  refine ⟨_, pe_un un_neg p, fun g F σ H ρ δ d k δ' Q S hf q => ?_⟩
  unfold fNeg at hf
  cases e : f ρ δ with
  | none => rw [e] at hf; cases hf
  | some c =>
    obtain ⟨c, k0, δ1⟩ := c
    rw [e] at hf
    cases c <;> simp only [Option.bind_some] at hf <;> first
      | cases hf
        done
      | (cases hf
         exact x g F σ H ρ δ _ k0 _ _ S e fun v H1 k1 S1 r1 => ⟨_, (r1.rd S.good).int, q _ H1 k1 S1 (.int _)⟩)
/-! ### places -/
def atD (xs : List D) (i : Int) : Option D := (ixN xs.length i).bind fun j => xs[j]?
theorem Reps.at {K : PySem.W.Frag} {O : Addr → Prop} {H : Hp} {xs : List V} {ds : List D} {i : Int} {d : D} (r : Reps K O H xs ds) (h : atD ds i = some d) : ∃ v, atI xs i = some v ∧ Rep K O H v d := by
  unfold atD at h
  unfold atI
  rw [← r.length] at h
  cases e : ixN xs.length i with
  | none => rw [e] at h; cases h
  | some j =>
    rw [e] at h
    exact r.getD h
def oIx : OF2 := fun x y => match x, y with
  | .lst a, .int i => (atD a i).map fun d => (d, .sh)
  | .tup a, .int i => (atD a i).map fun d => (d, .sh)
  | .str z, .int i => if z.length ≤ sizeLine then (atI z.cps.toList i).map fun c => (.str ⟨#[c]⟩, .sh) else none
  | _, _ => none
theorem fit_ix : Fit2 X.K (rIx X.K) oIx := by
  intro g F H x y dx dy d k Q G r1 r2 ho q
  cases dx with
  | lst a =>
    cases dy with
    | int i =>
      simp only [oIx] at ho
      cases e : atD a i with
      | none => rw [e] at ho; cases ho
      | some z =>
        rw [e] at ho
        cases ho
        obtain ⟨p1, x1, rfl, h1, s1⟩ := r1.lst
        obtain ⟨v, e1, e2⟩ := s1.at e
        exact .inl ⟨_, _, _, _, rfl, r2.int, .inl h1, e1, q _ H (Same.refl _) e2⟩
    | _ => cases ho
  | tup a =>
    cases dy with
    | int i =>
      simp only [oIx] at ho
      cases e : atD a i with
      | none => rw [e] at ho; cases ho
      | some z =>
        rw [e] at ho
        cases ho
        obtain ⟨p1, x1, rfl, h1, s1⟩ := r1.tup
        obtain ⟨v, e1, e2⟩ := s1.at e
        exact .inr (.inl ⟨_, _, _, _, rfl, r2.int, h1, e1, q _ H (Same.refl _) e2⟩)
    | _ => cases ho
  | str z =>
    cases dy with
    | int i =>
      simp only [oIx] at ho
      split at ho
      · rename_i hz
        cases e : atI z.cps.toList i with
        | none => rw [e] at ho; cases ho
        | some c =>
          rw [e] at ho
          cases ho
          exact .inr (.inr ⟨_, _, _, r1.str, r2.int, hz, e, q _ H (Same.refl _) (.str _)⟩)
      · cases ho
    | _ => cases ho
  | _ => cases ho
theorem de_ix {a b : Expr} {fa fb : EF} {pos : Pos} (ha : DE X a fa) (hb : DE X b fb) (hs : PlainIx b := by exact fun _ _ => rfl) : DE X (.Subscript a b pos) (fBin oIx fa fb) := by
  obtain ⟨ta, tb, pa, pb, h⟩ := bin_run fit_ix ha hb
  exact ⟨_, pe_ix ix_seq pa pb hs, h⟩
/-! ### slices -/
/-- a bound that may be left out -/
abbrev OF := Rho → Dr → Option (Option Int × Dr)
structure DO (X : Cx) (e : Option Expr) (f : OF) : Prop where
  ex : ∃ t : TO, PO X e t ∧ ∀ (g : Gh) (F : Fp) (σ : L2.St) (H : Hp) (ρ : Rho) (δ : Dr) (o : Option Int) (δ' : Dr) (Q : Option Int → Hp → Prop), SR X.K g F σ ρ δ H → f ρ δ = some (o, δ') →
    (∀ H', Keep g.Pd H H' → SR X.K g F σ ρ δ' H' → Q o H') → t σ H Q
def bNo : OF := fun _ δ => some (none, δ)
def bOf (f : EF) : OF := fun ρ δ => (f ρ δ).bind fun p => match p.1 with | .int i => some (some i, p.2.2) | _ => none
theorem do_no : DO X none bNo := ⟨_, po_none, fun g F σ H ρ δ o δ' Q S hf q => by
  cases hf
  exact q H (.refl _ _) S⟩
theorem do_of {e : Expr} {f : EF} (h : DE X e f) : DO X (some e) (bOf f) := by
  obtain ⟨t, p, x⟩ := h.ex
  refine ⟨_, po_some p, fun g F σ H ρ δ o δ' Q S hf q => ?_⟩
  unfold bOf at hf
  cases e1 : f ρ δ with
  | none => rw [e1] at hf; cases hf
  | some c =>
    obtain ⟨c, k0, δ1⟩ := c
    rw [e1] at hf
    cases c <;> simp only [Option.bind_some] at hf <;> first
      | cases hf
        done
      | (cases hf
         exact x g F σ H ρ δ _ k0 _ _ S e1 fun v H1 k1 S1 r1 => ⟨_, (r1.rd S.good).int, q H1 k1 S1⟩)
/-- a slice's bound as a place among n -/
abbrev sI := HT.sIx
def cutD (xs : List D) (lo hi : Option Int) : List D := (xs.drop (sI xs.length 0 lo)).take (sI xs.length xs.length hi - sI xs.length 0 lo)
theorem Reps.cut {K : PySem.W.Frag} {O : Addr → Prop} {H : Hp} {xs : List V} {ds : List D} (r : Reps K O H xs ds) (lo hi : Option Int) : Reps K O H (cutV xs lo hi) (cutD ds lo hi) := by
  unfold cutV cutD
  rw [r.length]
  exact (r.drop _).take _
end
end DL
/-! D-layer, part e: slices, built-in functions, own defs. -/
namespace DL
open PySem PySem.Spec PyProof.Rows L2
/-- t[lo:hi], the whole of it: t itself -/
theorem tuple_whole {prog : Program} {w : World} {A : Around} {E : Value → Shared → Prop} {s : Shared} {t sl : Addr} {its : Array Value} {vl vu : Value} {lo hi : Option Int} {Q : Value → Shared → Prop}
    (p1 : IsTup s.heap t its) (p2 : s.heap.IsSliceOf sl vl vu .none) (p3 : IsPart vl lo) (p4 : IsPart vu hi) (hw : sI its.size 0 lo = 0 ∧ sI its.size its.size hi = its.size) (h : Q (.ref t) s) :
    wpAny (model prog w) A (getItem (.ref t) (.ref sl)) Q E s := by
  obtain ⟨os, hos, hcs, hds⟩ := id p2
  have q2 : s.TypeIs (.ref sl) "slice" := ⟨os, hos, hcs⟩
  unfold getItem
  refine wpAny_holding (wpAny_bind (wpAny_sequenceKey p1.typeIs (by decide) (wpAny_bind (wpAny_callSpecial?_slot (name := Str.ofString "__getitem__") p1.typeIs PyProof.Rows.slot_tuple_getitem (wpAny_call_entry PyProof.Rows.slot_tuple_getitem p1.typeIs entry_tuple_getitem ?_ (args_tuple_getitem _ _))))))
  show wpAny (model prog w) _ (Builtin.Tuple.tupleItemsOf (.ref t) >>= _) _ _ s
  refine wpAny_bind (tupleItemsOf_ p1 (wpAny_bind (wpAny_typeOf q2 ?_)))
  rw [if_pos (by decide)]
  refine wpAny_bind (HT.sliceApplied_gen p2 p3 p4 ?_)
  have yes : ((((sI its.size 0 lo : Nat) : Int) == 0 && (1 : Int) == 1 && (sI its.size its.size hi - sI its.size 0 lo) == its.size) = true) := by
    rw [hw.1, hw.2]
    simp
  show wpAny (model prog w) _ (if ((((sI its.size 0 lo : Nat) : Int) == 0 && (1 : Int) == 1 && (sI its.size its.size hi - sI its.size 0 lo) == its.size) = true) then _ else _) _ _ s
  rw [if_pos yes]
  refine wpAny_bind ?_
  unfold Builtin.Tuple.tupleIsExact
  refine wpAny_bind (wpAny_typeOf p1.typeIs ?_)
  refine wpAny_pure ?_
  rw [if_pos (by decide)]
  exact wpAny_bind (wpAny_rule (wpAny_pure ⟨_, rfl, wpAny_pure h⟩))
section
variable {X : Cx}
def rWhole (K : PySem.W.Frag) : V → Option Int → Option Int → Hp → VK → Prop := fun x lo hi H Q => ∃ a xs, x = .ref a ∧ SqT K H a xs ∧ (sI xs.length 0 lo = 0 ∧ sI xs.length xs.length hi = xs.length) ∧ Q (.ref a) H
theorem sl_whole : SlR X (rWhole X.K) := by
  intro pins s σ H x v vl vu lo hi sl Q I rx hs pl pu h
  obtain ⟨a, xs, rfl, hx, hw, q⟩ := h
  cases rx
  obtain ⟨its, r, ht, hz⟩ := I.tuple hx
  have hlen : its.toArray.size = xs.length := by rw [List.size_toArray, r.length]
  exact ⟨"tuple", _, PyProof.Rows.slot_tuple_getitem.lookup, ht.typeIs, tuple_whole ht hs pl pu (by rw [hlen]; exact hw) ⟨.ref a, H, I, rfl, q⟩⟩
/-- what a slice gives -/
def cutR (d : D) (lo hi : Option Int) : Option (D × Kd) := match d with
  | .lst a => some (.lst (cutD a lo hi), .ow)
  | .wls a => some (.lst (cutD a lo hi), .ow)
  | .tup a => some (.tup (cutD a lo hi), .sh)
  | .str z => if z.length ≤ sizeLine then some (.str (cutS z lo hi), .sh) else none
  | _ => none
theorem cut_whole {xs : List V} {lo hi : Option Int} (h : sI xs.length 0 lo = 0 ∧ sI xs.length xs.length hi = xs.length) : cutV xs lo hi = xs := by
  unfold cutV
  rw [show HT.sIx xs.length 0 lo = 0 from h.1, show HT.sIx xs.length xs.length hi = xs.length from h.2]
  simp
def fCut (f : EF) (l h : OF) : EF := fun ρ δ => (f ρ δ).bind fun p => (l ρ p.2.2).bind fun q => (h ρ q.2).bind fun r => (cutR p.1 q.1 r.1).map fun z => (z.1, z.2, r.2)
theorem de_cut {e : Expr} {lo hi : Option Expr} {p2 pos : Pos} {f : EF} {l h : OF} (he : DE X e f) (hl : DO X lo l) (hh : DO X hi h) : DE X (.Subscript e (.Slice lo hi none p2) pos) (fCut f l h) := by
  obtain ⟨t, p, x⟩ := he.ex
  obtain ⟨tl, pl, xl⟩ := hl.ex
  obtain ⟨th, ph, xh⟩ := hh.ex
  refine ⟨_, pe_slice (sl_list.or (sl_whole.or (sl_tup.or sl_str))) p pl ph, fun g F σ H ρ δ d k δ' Q S hf q => ?_⟩
  unfold fCut at hf
  cases e1 : f ρ δ with
  | none => rw [e1] at hf; cases hf
  | some c =>
    obtain ⟨d1, k1, δ1⟩ := c
    rw [e1] at hf
    simp only [Option.bind_some] at hf
    cases e2 : l ρ δ1 with
    | none => rw [e2] at hf; cases hf
    | some c =>
      obtain ⟨o1, δ2⟩ := c
      rw [e2] at hf
      simp only [Option.bind_some] at hf
      cases e3 : h ρ δ2 with
      | none => rw [e3] at hf; cases hf
      | some c =>
        obtain ⟨o2, δ3⟩ := c
        rw [e3] at hf
        simp only [Option.bind_some] at hf
        cases e4 : cutR d1 o1 o2 with
        | none => rw [e4] at hf; cases hf
        | some z =>
          obtain ⟨d0, k0⟩ := z
          rw [e4] at hf
          cases hf
          refine x g F σ H ρ δ d1 k1 δ1 _ S e1 fun v H1 ke1 S1 r1 => xl g F σ H1 ρ δ1 o1 δ2 _ S1 e2 fun H2 ke2 S2 => xh g F σ H2 ρ δ2 o2 _ _ S2 e3 fun H3 ke3 S3 => ?_
          have rd := ((r1.rd S.good).keep ke2).keep ke3
          have kk := ke1.trans (ke2.trans ke3)
          cases d1 with
          | lst a =>
            cases e4
            obtain ⟨p1, x1, rfl, h1, s1⟩ := rd.lst
            refine .inl ⟨_, _, rfl, .inl h1, fun b hb => ?_⟩
            have sm := same_upd (o := .lst (cutV x1 o1 o2)) hb
            exact q _ _ (kk.trans (Keep.of_same sm)) (S3.same sm) ((res_new hb (s1.cut o1 o2)).earlier kk)
          | wls a =>
            cases e4
            obtain ⟨p1, x1, rfl, h1, s1⟩ := rd.wls
            refine .inl ⟨_, _, rfl, h1.sq, fun b hb => ?_⟩
            have sm := same_upd (o := .lst (cutV x1 o1 o2)) hb
            exact q _ _ (kk.trans (Keep.of_same sm)) (S3.same sm) ((res_new hb (s1.cut o1 o2)).earlier kk)
          | tup a =>
            cases e4
            obtain ⟨p1, x1, rfl, h1, s1⟩ := rd.tup
            by_cases hw : sI x1.length 0 o1 = 0 ∧ sI x1.length x1.length o2 = x1.length
            · refine .inr (.inl ⟨_, _, rfl, h1, hw, q _ H3 kk S3 ?_⟩)
              have z := s1.cut o1 o2
              rw [cut_whole hw] at z
              exact .tup h1 z
            · refine .inr (.inr (.inl ⟨_, _, rfl, h1, hw, fun b hb => ?_⟩))
              have sm := same_upd (o := .tup (cutV x1 o1 o2)) hb
              exact q _ _ (kk.trans (Keep.of_same sm)) (S3.same sm) (rep_newT hb (s1.cut o1 o2))
          | str z =>
            simp only [cutR] at e4
            split at e4
            · rename_i hz
              cases e4
              exact .inr (.inr (.inr ⟨z, rd.str, hz, q _ H3 kk S3 (.str _)⟩))
            · cases e4
          | _ => cases e4

/-! ### built-in functions -/
abbrev OFn := List D → Option (D × Kd)
def FitC (K : PySem.W.Frag) (r : List V → Hp → VK → Prop) (o : OFn) : Prop := ∀ (g : Gh) (F : Fp) (H : Hp) (vs : List V) (ds : List D) (d : D) (k : Kd) (Q : VK), Good g F H → Paired (Rd1 K g F H) vs ds → o ds = some (d, k) →
  (∀ v H', Same H H' → Res K g F H H' k v d → Q v H') → r vs H Q
def CallD (X : Cx) (f : Value) (o : OFn) : Prop := ∃ r, CallR X f r ∧ FitC X.K r o
def fCall (o : OFn) (a : AF) : EF := fun ρ δ => (a ρ δ).bind fun p => (o p.1).map fun r => (r.1, r.2, p.2)
theorem call_run {es : List Expr} {a : AF} {o : OFn} {r : List V → Hp → VK → Prop} (ho : FitC X.K r o) (ha : DR X es a) : ∃ t, PA X es t ∧
    ∀ (g : Gh) (F : Fp) (σ : L2.St) (H : Hp) (ρ : Rho) (δ : Dr) (d : D) (k : Kd) (δ' : Dr) (Q : VK), SR X.K g F σ ρ δ H → fCall o a ρ δ = some (d, k, δ') →
    (∀ v H', Keep g.Pd H H' → SR X.K g F σ ρ δ' H' → Res X.K g F H H' k v d → Q v H') → tCB r t σ H Q := by
  obtain ⟨t, p, x⟩ := ha.ex
  refine ⟨t, p, fun g F σ H ρ δ d k δ' Q S hf q => ?_⟩
  unfold fCall at hf
  cases e1 : a ρ δ with
  | none => rw [e1] at hf; cases hf
  | some c =>
    obtain ⟨ds, δ1⟩ := c
    rw [e1] at hf
    simp only [Option.bind_some] at hf
    cases e2 : o ds with
    | none => rw [e2] at hf; cases hf
    | some c =>
      obtain ⟨d0, k0⟩ := c
      rw [e2] at hf
      cases hf
      refine x g F σ H ρ δ ds _ _ S e1 fun vs H1 k1 S1 r1 => ?_
      exact ho g F H1 vs ds _ _ _ S1.good r1 e2 fun v H2 s2 r2 => q v H2 (k1.trans (Keep.of_same s2)) (S1.same s2) (r2.earlier k1)
theorem de_callB {x : Str} {p pos : Pos} {e : Expr} {es : List Expr} {id : String} {o : OFn} {a : AF} (hc : CallD X (.builtin id) o) (hg : Gl X x) (hm : X.mg x = none) (hv : bootBuiltins x = some (.builtin id)) (ha : DR X (e :: es) a) (hn : x ≠ "__name__" := by decide) (hdb : (x == ("__debug__" : Str)) = false := by decide)
    (he : starEach (e :: es) X.env = (false, eval e X.env) :: starEach es X.env := by rfl) (hpl : (backTo pos (starEach es X.env)).any (·.1) = false := by rfl) : DE X (.Call (.Name x p) (e :: es) [] pos) (fCall o a) := by
  obtain ⟨r, hr, hf⟩ := hc
  obtain ⟨t, pa, h⟩ := call_run hf ha
  exact ⟨_, pe_callB hr hg hm hv pa hn hdb he hpl, h⟩
theorem de_callTy {x : Str} {p pos : Pos} {e : Expr} {es : List Expr} {T : String} {o : OFn} {a : AF} (hc : CallD X (.type T) o) (hg : Gl X x) (hm : X.mg x = none) (hv : bootBuiltins x = some (.type T)) (ha : DR X (e :: es) a) (hn : x ≠ "__name__" := by decide) (hdb : (x == ("__debug__" : Str)) = false := by decide)
    (he : starEach (e :: es) X.env = (false, eval e X.env) :: starEach es X.env := by rfl) (hpl : (backTo pos (starEach es X.env)).any (·.1) = false := by rfl) : DE X (.Call (.Name x p) (e :: es) [] pos) (fCall o a) := by
  obtain ⟨r, hr, hf⟩ := hc
  obtain ⟨t, pa, h⟩ := call_run hf ha
  exact ⟨_, pe_callTy hr hg hm hv pa hn hdb he hpl, h⟩
/-- len -/
def oLen : OFn := fun ds => match ds with
  | [.lst a] => some (.int a.length, .sh)
  | [.tup a] => some (.int a.length, .sh)
  | [.str z] => if z.length ≤ sizeLine then some (.int z.length, .sh) else none
  | _ => none
theorem c_len : CallD X (.builtin "len") oLen := by
  refine ⟨_, call_len_seq.or call_len_str, fun g F H vs ds d k Q G r ho q => ?_⟩
  unfold oLen at ho
  split at ho
  · cases ho
    cases r with
    | cons r1 rr =>
      cases rr
      obtain ⟨p1, x1, rfl, h1, s1⟩ := r1.lst
      refine .inl ⟨_, _, rfl, .inl (.inl h1), ?_⟩
      rw [s1.length]
      exact q _ H (Same.refl _) (.int _)
  · cases ho
    cases r with
    | cons r1 rr =>
      cases rr
      obtain ⟨p1, x1, rfl, h1, s1⟩ := r1.tup
      refine .inl ⟨_, _, rfl, .inr h1, ?_⟩
      rw [s1.length]
      exact q _ H (Same.refl _) (.int _)
  · split at ho
    · rename_i hz
      cases ho
      cases r with
      | cons r1 rr =>
        cases rr
        exact .inr ⟨_, by rw [r1.str], hz, q _ H (Same.refl _) (.int _)⟩
    · cases ho
  · cases ho
/-- abs, int -/
def oAbs : OFn := fun ds => match ds with
  | [.int i] => some (.int (if i < 0 then -i else i), .sh)
  | _ => none
theorem c_abs : CallD X (.builtin "abs") oAbs := by
  refine ⟨_, call_abs, fun g F H vs ds d k Q G r ho q => ?_⟩
  unfold oAbs at ho
  split at ho
  · cases ho
    cases r with
    | cons r1 rr =>
      cases rr
      exact ⟨_, by rw [r1.int], q _ H (Same.refl _) (.int _)⟩
  · cases ho
def oInt : OFn := fun ds => match ds with
  | [.int i] => some (.int i, .sh)
  | [.bl b] => some (.int (if b then 1 else 0), .sh)
  | _ => none
theorem c_int : CallD X (.type "int") oInt := by
  refine ⟨_, call_int1, fun g F H vs ds d k Q G r ho q => ?_⟩
  unfold oInt at ho
  split at ho
  · cases ho
    cases r with
    | cons r1 rr =>
      cases rr
      exact .inl ⟨_, by rw [r1.int], q _ H (Same.refl _) (.int _)⟩
  · cases ho
    cases r with
    | cons r1 rr =>
      cases rr
      exact .inr ⟨_, by rw [r1.bl], q _ H (Same.refl _) (.int _)⟩
  · cases ho
/-- list(x), tuple(x) of a list or a tuple -/
def oList : OFn := fun ds => match ds with
  | [.lst a] => some (.lst a, .ow)
  | [.tup a] => some (.lst a, .ow)
  | _ => none
theorem c_list : CallD X (.type "list") oList := by
  refine ⟨_, call_list_of, fun g F H vs ds d k Q G r ho q => ?_⟩
  unfold oList at ho
  split at ho
  · cases ho
    cases r with
    | cons r1 rr =>
      cases rr
      obtain ⟨p1, x1, rfl, h1, s1⟩ := r1.lst
      exact ⟨_, _, rfl, .inl (.inl h1), fun b hb => q _ _ (same_upd hb) (res_new hb s1)⟩
  · cases ho
    cases r with
    | cons r1 rr =>
      cases rr
      obtain ⟨p1, x1, rfl, h1, s1⟩ := r1.tup
      exact ⟨_, _, rfl, .inr h1, fun b hb => q _ _ (same_upd hb) (res_new hb s1)⟩
  · cases ho
def oTuple : OFn := fun ds => match ds with
  | [.lst a] => some (.tup a, .sh)
  | [.tup a] => some (.tup a, .sh)
  | _ => none
theorem c_tuple : CallD X (.type "tuple") oTuple := by
  refine ⟨_, call_tuple_of, fun g F H vs ds d k Q G r ho q => ?_⟩
  unfold oTuple at ho
  split at ho
  · cases ho
    cases r with
    | cons r1 rr =>
      cases rr
      obtain ⟨p1, x1, rfl, h1, s1⟩ := r1.lst
      exact ⟨_, _, rfl, .inl ⟨.inl h1, fun b hb => q _ _ (same_upd hb) (rep_newT hb s1)⟩⟩
  · cases ho
    cases r with
    | cons r1 rr =>
      cases rr
      obtain ⟨p1, x1, rfl, h1, s1⟩ := r1.tup
      exact ⟨_, _, rfl, .inr ⟨h1, q _ H (Same.refl _) (.tup h1 s1)⟩⟩
  · cases ho
/-- max(i, j), min(i, j) of ints -/
def oMax2 : OFn := fun ds => match ds with
  | [.int i, .int j] => some (.int (if j > i then j else i), .sh)
  | _ => none
def oMin2 : OFn := fun ds => match ds with
  | [.int i, .int j] => some (.int (if j < i then j else i), .sh)
  | _ => none
theorem c_max2 (hc : X.calm = true) : CallD X (.builtin "max") oMax2 := by
  refine ⟨_, call_max2 hc, fun g F H vs ds d k Q G r ho q => ?_⟩
  unfold oMax2 at ho
  split at ho
  · cases ho
    cases r with
    | cons r1 rr =>
      cases rr with
      | cons r2 rr =>
        cases rr
        exact ⟨_, _, by rw [r1.int, r2.int], q _ H (Same.refl _) (.int _)⟩
  · cases ho
theorem c_min2 (hc : X.calm = true) : CallD X (.builtin "min") oMin2 := by
  refine ⟨_, call_min2 hc, fun g F H vs ds d k Q G r ho q => ?_⟩
  unfold oMin2 at ho
  split at ho
  · cases ho
    cases r with
    | cons r1 rr =>
      cases rr with
      | cons r2 rr =>
        cases rr
        exact ⟨_, _, by rw [r1.int, r2.int], q _ H (Same.refl _) (.int _)⟩
  · cases ho
/-- sum of a list of ints -/
def intsOf : List D → Option (List Int)
  | [] => some []
  | .int i :: r => (intsOf r).map fun l => i :: l
  | _ => none
theorem intsOf_some : ∀ {ds : List D} {is : List Int}, intsOf ds = some is → ds = is.map D.int
  | [], is, h => by cases h; rfl
  | d :: r, is, h => by
    cases d <;> simp only [intsOf] at h <;> first
      | cases h
        done
      | (cases e : intsOf r with
         | none => rw [e] at h; cases h
         | some l =>
           rw [e] at h
           cases h
           rw [List.map_cons, intsOf_some e])
def oSum : OFn := fun ds => match ds with
  | [.lst a] => (intsOf a).map fun l => (.int l.sum, .sh)
  | _ => none
theorem c_sum (hc : X.calm = true) : CallD X (.builtin "sum") oSum := by
  refine ⟨_, cr_sum hc, fun g F H vs ds d k Q G r ho q => ?_⟩
  unfold oSum at ho
  split at ho
  · rename_i a
    cases e : intsOf a with
    | none => rw [e] at ho; cases ho
    | some l =>
      rw [e] at ho
      cases ho
      cases r with
      | cons r1 rr =>
        cases rr
        obtain ⟨p1, x1, rfl, h1, s1⟩ := r1.lst
        have e2 := intsOf_some e
        subst e2
        have e3 := s1.ints
        subst e3
        exact ⟨_, _, rfl, .inl h1, q _ H (Same.refl _) (.int _)⟩
  · cases ho
end
end DL
/-! D-layer, part f: statements. -/
namespace DL
open PySem PySem.Spec PyProof.Rows L2
def fset (F : Fp) (i : Nat) (l : List Addr) : Fp := fun j => if j = i then l else F j
theorem fset_same {F : Fp} {i : Nat} {l : List Addr} : fset F i l i = l := if_pos rfl
theorem fset_ne {F : Fp} {i j : Nat} {l : List Addr} (h : j ≠ i) : fset F i l j = F j := if_neg h
/-- fewer things of one's own -/
def FSub (F' F : Fp) : Prop := ∀ i a, a ∈ F' i → a ∈ F i
theorem FSub.refl (F : Fp) : FSub F F := fun _ _ h => h
theorem FSub.trans {F F' F'' : Fp} (a : FSub F' F) (b : FSub F'' F') : FSub F'' F := fun i x h => a i x (b i x h)
theorem FSub.nil (F : Fp) (i : Nat) : FSub (fset F i []) F := fun j a h => by
  by_cases e : j = i
  · subst e
    rw [fset_same] at h
    cases h
  · rw [fset_ne e] at h
    exact h
theorem FSub.av {F F' : Fp} {g : Gh} (s : FSub F' F) {a : Addr} (h : Av g F' a) : Av g F a := by
  rcases h with h | h | ⟨i, h⟩
  · exact .inl h
  · exact .inr (.inl h)
  · exact .inr (.inr ⟨i, s i a h⟩)
theorem av_set {F : Fp} {g : Gh} {i : Nat} {p a : Addr} (h : Av g (fset F i [p]) a) : Av g F a ∨ a = p := by
  rcases h with h | h | ⟨j, h⟩
  · exact .inl (.inl h)
  · exact .inl (.inr (.inl h))
  · by_cases e : j = i
    · subst e
      rw [fset_same] at h
      exact .inr (List.mem_singleton.mp h)
    · rw [fset_ne e] at h
      exact .inl (.inr (.inr ⟨j, h⟩))
section
variable {K : PySem.W.Frag} {g : Gh} {F F' : Fp} {σ : L2.St} {ρ : Rho} {δ δ' : Dr} {H H' H0 : Hp} {v : V} {d : D} {i : Nat} {p : Addr}
theorem SH.sub (S : SH H0 g F H) (s : FSub F' F) : SH H0 g F' H := ⟨fun i a h => S.new i a (s i a h), S.dom, S.pd, S.keep⟩
theorem getSet {α : Type} {l : List α} {i j : Nat} {x y : α} (h : (l.set i x)[j]? = some y) : (j = i ∧ y = x ∧ i < l.length) ∨ (j ≠ i ∧ l[j]? = some y) := by
  by_cases e : j = i
  · subst e
    by_cases hl : j < l.length
    · rw [List.getElem?_set_self hl] at h
      cases h
      exact .inl ⟨rfl, rfl, hl⟩
    · rw [List.getElem?_eq_none (by simpa using hl)] at h
      cases h
  · rw [List.getElem?_set_ne (Ne.symm e)] at h
    exact .inr ⟨e, h⟩
/-- a name gets data -/
theorem SR.putS (S : SR K g F σ ρ δ H) (r : Rep K (Av g F) H v d) (i : Nat) : SR K g (fset F i []) (σ.set i (some v)) (ρ.set i (.sh d)) δ H where
  len := by rw [List.length_set, List.length_set, S.len]
  slot := fun j s h => by
    rcases getSet h with ⟨e, e2, hl⟩ | ⟨e, h⟩
    · subst e e2
      exact ⟨v, List.getElem?_set_self (by rw [S.len]; exact hl), r.weak fun a z => (FSub.nil F j).av z⟩
    · rw [List.getElem?_set_ne (Ne.symm e)]
      have q := S.slot j s h
      cases s with
      | un => trivial
      | sh d =>
        obtain ⟨x, a, r⟩ := q
        exact ⟨x, a, r.weak fun a z => (FSub.nil F i).av z⟩
      | ow d =>
        obtain ⟨p, a, hf, t⟩ := q
        exact ⟨p, a, by rw [fset_ne e]; exact hf, t.weak fun a z => (FSub.nil F i).av z⟩
      | dl => exact q
  apart := fun j k a h1 h2 => S.apart j k a (FSub.nil F i j a h1) (FSub.nil F i k a h2)
  new := fun j a h => S.new j a (FSub.nil F i j a h)
  dom := S.dom
  there := fun a h => S.there a ((FSub.nil F i).av h)
  mt := fun j a h => S.mt j a (FSub.nil F i j a h)
  deal := S.deal
/-- a name gets data; what it had stays put aside -/
theorem SR.putK (S : SR K g F σ ρ δ H) (r : Rep K (Av g F) H v d) (i : Nat) : SR K g F (σ.set i (some v)) (ρ.set i (.sh d)) δ H where
  len := by rw [List.length_set, List.length_set, S.len]
  slot := fun j s h => by
    rcases getSet h with ⟨e, e2, hl⟩ | ⟨e, h⟩
    · subst e e2
      exact ⟨v, List.getElem?_set_self (by rw [S.len]; exact hl), r⟩
    · rw [List.getElem?_set_ne (Ne.symm e)]
      exact S.slot j s h
  apart := S.apart
  new := S.new
  dom := S.dom
  there := S.there
  mt := S.mt
  deal := S.deal
theorem Top.more {O O' : Addr → Prop} (hp : ∀ a, O' a → O a ∨ H a = none) (t : Top K O H p d) : Top K O' H p d := by
  cases d with
  | lst ds =>
    obtain ⟨xs, h, r⟩ := t
    exact ⟨xs, h, r.more hp⟩
  | dic ds =>
    obtain ⟨xs, h, e, r⟩ := t
    exact ⟨xs, h, e, r.more hp⟩
  | _ => exact t.elim
/-- a name gets a new thing of its own -/
theorem SR.putO (S : SR K g F σ ρ δ H) (k : Keep g.Pd H H') (dl : DealR g H' δ') (hp : H p = none) (t : Top K (fun a => Av g F a ∨ a = p) H' p d) (i : Nat) :
    SR K g (fset F i [p]) (σ.set i (some (.ref p))) (ρ.set i (.ow d)) δ' H' where
  len := by rw [List.length_set, List.length_set, S.len]
  slot := fun j s h => by
    have more : ∀ a, Av g (fset F i [p]) a → Av g F a ∨ H a = none := fun a z => (av_set z).imp id fun z => by rw [z]; exact hp
    rcases getSet h with ⟨e, e2, hl⟩ | ⟨e, h⟩
    · subst e e2
      exact ⟨p, List.getElem?_set_self (by rw [S.len]; exact hl), fset_same, t.weak fun a z => av_set z⟩
    · rw [List.getElem?_set_ne (Ne.symm e)]
      have q := S.slot j s h
      cases s with
      | un => trivial
      | sh d =>
        obtain ⟨x, a, r⟩ := q
        exact ⟨x, a, (r.more more).keep k fun a z => .inr (.inl z)⟩
      | ow d =>
        obtain ⟨p', a, hf, t⟩ := q
        exact ⟨p', a, by rw [fset_ne e]; exact hf, (t.more more).keep k (fun a z => .inr (.inl z)) (S.new j p' (by rw [hf]; simp)).2⟩
      | dl => exact q
  apart := fun j k a h1 h2 => by
    have nf : ∀ j, p ∉ F j := fun j z => S.fresh hp (.inr (.inr ⟨j, z⟩))
    by_cases e1 : j = i <;> by_cases e2 : k = i
    · rw [e1, e2]
    · rw [e1, fset_same, List.mem_singleton] at h1
      rw [fset_ne e2, h1] at h2
      exact (nf k h2).elim
    · rw [e2, fset_same, List.mem_singleton] at h2
      rw [fset_ne e1, h2] at h1
      exact (nf j h1).elim
    · rw [fset_ne e1] at h1
      rw [fset_ne e2] at h2
      exact S.apart j k a h1 h2
  new := fun j a h => by
    by_cases e : j = i
    · rw [e, fset_same, List.mem_singleton] at h
      rw [h]
      exact ⟨fun z => S.fresh hp (.inl z), fun z => S.fresh hp (.inr (.inl z))⟩
    · rw [fset_ne e] at h
      exact S.new j a h
  dom := S.dom
  there := fun a h => by
    rcases av_set h with z | z
    · exact k.there (S.there a z)
    · obtain ⟨o, ho, _⟩ := t.there
      rw [z, ho]
      simp
  mt := fun j a h => by
    by_cases e : j = i
    · rw [e, fset_same, List.mem_singleton] at h
      rw [h]
      exact t.there
    · rw [fset_ne e] at h
      obtain ⟨o, ho, m⟩ := S.mt j a h
      exact ⟨o, k.at_ ho (S.new j a h).2, m⟩
  deal := dl
theorem SH.putO (S : SH H0 g F H) (k : Keep g.Pd H H') (hp : H p = none) (i : Nat) : SH H0 g (fset F i [p]) H' where
  new := fun j a h => by
    by_cases e : j = i
    · rw [e, fset_same, List.mem_singleton] at h
      rw [h]
      exact S.keep.free hp
    · rw [fset_ne e] at h
      exact S.new j a h
  dom := S.dom
  pd := S.pd
  keep := S.keep.trans k
/-- one's own thing changes -/
theorem SR.turn (S : SR K g F σ ρ δ H) {d' : D} (e1 : ρ[i]? = some (.ow d)) (e2 : F i = [p]) (e3 : σ[i]? = some (some (.ref p))) (k : Keep (fun a => a = p) H H') (t : Top K (Av g F) H' p d') : SR K g F σ (ρ.set i (.ow d')) δ H' where
  len := by rw [List.length_set, S.len]
  slot := fun j s h => by
    have hp : Av g F p := .inr (.inr ⟨i, by rw [e2]; simp⟩)
    rcases getSet h with ⟨e, e4, hl⟩ | ⟨e, h⟩
    · subst e e4
      exact ⟨p, e3, e2, t⟩
    · have q := S.slot j s h
      cases s with
      | un => trivial
      | sh d =>
        obtain ⟨x, a, r⟩ := q
        exact ⟨x, a, r.keep k fun a z => by rw [z]; exact hp⟩
      | ow d =>
        obtain ⟨p', a, hf, t⟩ := q
        refine ⟨p', a, hf, t.keep k (fun a z => by rw [z]; exact hp) fun z => e ?_⟩
        exact S.apart j i p (by rw [hf, z]; simp) (by rw [e2]; simp)
      | dl => exact q
  apart := S.apart
  new := S.new
  dom := S.dom
  there := fun a h => k.there (S.there a h)
  mt := fun j a h => by
    obtain ⟨o, ho, m⟩ := S.mt j a h
    rcases k a o ho with h1 | ⟨_, _, o', h1, m1⟩
    · exact ⟨o, h1, m⟩
    · exact ⟨o', h1, m1⟩
  deal := fun p' q' e => by
    have np : ¬ g.Pd p := (S.new i p (by rw [e2]; simp)).2
    obtain ⟨h1, h2, h3⟩ := S.deal p' q' e
    exact ⟨h1, k.at_ h2 fun z => np ⟨p', q', e, .inl z.symm⟩, k.at_ h3 fun z => np ⟨p', q', e, .inr z.symm⟩⟩
theorem SH.turn (S : SH H0 g F H) (e2 : F i = [p]) (k : Keep (fun a => a = p) H H') : SH H0 g F H' where
  new := S.new
  dom := S.dom
  pd := S.pd
  keep := fun a o h => by
    have hp : H0 p = none := S.new i p (by rw [e2]; simp)
    have hap : a ≠ p := fun z => by rw [z, hp] at h; cases h
    rcases S.keep a o h with h1 | ⟨x, m, o', h1, m1⟩
    · exact .inl (k.at_ h1 hap)
    · exact .inr ⟨x, m, o', k.at_ h1 hap, m1⟩
/-- one's own thing is given out of hand -/
theorem SR.freeze (S : SR K g F σ ρ δ H) (e1 : ρ[i]? = some (.ow d)) : ∃ p, σ[i]? = some (some (.ref p)) ∧ Rep K (Av g (fset F i [])) H (.ref p) d ∧ SR K g (fset F i []) σ (ρ.set i (.sh d)) δ H := by
  obtain ⟨p, e3, e2, t⟩ := S.slot i _ e1
  have np : ¬ Av g (fset F i []) p := by
    rintro (z | z | ⟨j, z⟩)
    · exact (S.new i p (by rw [e2]; simp)).1 z
    · exact (S.new i p (by rw [e2]; simp)).2 z
    · have hj := S.apart j i p (FSub.nil F i j p z) (by rw [e2]; simp)
      rw [hj, fset_same] at z
      cases z
  have r := Top.rep np (t.weak fun a z => (FSub.nil F i).av z)
  refine ⟨p, e3, r, ⟨by rw [List.length_set, S.len], fun j s h => ?_, fun j k a h1 h2 => S.apart j k a (FSub.nil F i j a h1) (FSub.nil F i k a h2), fun j a h => S.new j a (FSub.nil F i j a h), S.dom, fun a h => S.there a ((FSub.nil F i).av h), fun j a h => S.mt j a (FSub.nil F i j a h), S.deal⟩⟩
  rcases getSet h with ⟨e, e4, hl⟩ | ⟨e, h⟩
  · subst e e4
    exact ⟨_, e3, r⟩
  · have q := S.slot j s h
    cases s with
    | un => trivial
    | sh d =>
      obtain ⟨x, a, r⟩ := q
      exact ⟨x, a, r.weak fun a z => (FSub.nil F i).av z⟩
    | ow d =>
      obtain ⟨p', a, hf, t⟩ := q
      exact ⟨p', a, by rw [fset_ne e]; exact hf, t.weak fun a z => (FSub.nil F i).av z⟩
    | dl => exact q
/-- a name is forgotten -/
theorem SR.drop (S : SR K g F σ ρ δ H) (i : Nat) : SR K g F σ (ρ.set i .un) δ H where
  len := by rw [List.length_set, S.len]
  slot := fun j s h => by
    rcases getSet h with ⟨e, e2, hl⟩ | ⟨e, h⟩
    · subst e2
      trivial
    · exact S.slot j s h
  apart := S.apart
  new := S.new
  dom := S.dom
  there := S.there
  mt := S.mt
  deal := S.deal
/-- from one name to another one -/
theorem SR.move (S : SR K g F σ ρ δ H) {j : Nat} (hij : i ≠ j) (e1 : ρ[j]? = some (.ow d)) : ∃ p, σ[j]? = some (some (.ref p)) ∧ SR K g (fset (fset F j []) i (F j)) (σ.set i (some (.ref p))) ((ρ.set j .un).set i (.ow d)) δ H := by
  obtain ⟨p, e3, e2, t⟩ := S.slot j _ e1
  have sub : ∀ a, Av g (fset (fset F j []) i (F j)) a → Av g F a := by
    rintro a (z | z | ⟨k, z⟩)
    · exact .inl z
    · exact .inr (.inl z)
    · by_cases e : k = i
      · rw [e, fset_same] at z
        exact .inr (.inr ⟨j, z⟩)
      · rw [fset_ne e] at z
        exact .inr (.inr ⟨k, FSub.nil F j k a z⟩)
  have wh : ∀ k a, a ∈ fset (fset F j []) i (F j) k → (k = i ∧ a ∈ F j) ∨ (k ≠ i ∧ k ≠ j ∧ a ∈ F k) := fun k a z => by
    by_cases e : k = i
    · rw [e, fset_same] at z
      exact .inl ⟨e, z⟩
    · rw [fset_ne e] at z
      by_cases e' : k = j
      · rw [e', fset_same] at z
        cases z
      · rw [fset_ne e'] at z
        exact .inr ⟨e, e', z⟩
  refine ⟨p, e3, by rw [List.length_set, List.length_set, List.length_set, S.len], fun k s h => ?_, fun k l a h1 h2 => ?_, fun k a h => ?_, S.dom, fun a h => S.there a (sub a h), fun k a h => ?_, S.deal⟩
  · rcases getSet h with ⟨e, e4, hl⟩ | ⟨e, h⟩
    · subst e e4
      rw [List.length_set] at hl
      exact ⟨p, List.getElem?_set_self (by rw [S.len]; exact hl), by rw [fset_same, e2], t.weak sub⟩
    · rw [List.getElem?_set_ne (Ne.symm e)]
      rcases getSet h with ⟨e', e4, hl⟩ | ⟨e', h⟩
      · subst e4
        trivial
      · have q := S.slot k s h
        cases s with
        | un => trivial
        | sh d =>
          obtain ⟨x, a, r⟩ := q
          exact ⟨x, a, r.weak sub⟩
        | ow d =>
          obtain ⟨p', a, hf, t⟩ := q
          exact ⟨p', a, by rw [fset_ne e, fset_ne e']; exact hf, t.weak sub⟩
        | dl => exact q
  · rcases wh k a h1 with ⟨a1, a2⟩ | ⟨a1, a2, a3⟩ <;> rcases wh l a h2 with ⟨b1, b2⟩ | ⟨b1, b2, b3⟩
    · rw [a1, b1]
    · exact absurd (S.apart l j a b3 a2) b2
    · exact absurd (S.apart k j a a3 b2) a2
    · exact S.apart k l a a3 b3
  · rcases wh k a h with ⟨a1, a2⟩ | ⟨a1, a2, a3⟩
    · exact S.new j a a2
    · exact S.new k a a3
  · rcases wh k a h with ⟨a1, a2⟩ | ⟨a1, a2, a3⟩
    · exact S.mt j a a2
    · exact S.mt k a a3
theorem SH.move (S : SH H0 g F H) {j : Nat} : SH H0 g (fset (fset F j []) i (F j)) H where
  new := fun k a z => by
    by_cases e : k = i
    · rw [e, fset_same] at z
      exact S.new j a z
    · rw [fset_ne e] at z
      exact S.new k a (FSub.nil F j k a z)
  dom := S.dom
  pd := S.pd
  keep := S.keep
end

/-! ### the statements' judgement -/
/-- how a statement ends -/
inductive Ou where
  | nx | rt (d : D) (k : Kd) | bk | ct
abbrev HF' := Rho → Dr → Option (Ou × Rho × Dr)
/-- what a def's end must be -/
def Fin (K : PySem.W.Frag) (H0 : Hp) (g : Gh) (δ : Dr) (H : Hp) (k : Kd) (v : V) (d : D) : Prop :=
  Keep g.Pd H0 H ∧ DealR g H δ ∧ match k with
    | .sh => Rep K (fun a => g.A a ∨ g.Pd a) H v d
    | .ow => ∃ p, v = .ref p ∧ H0 p = none ∧ Top K (fun a => (g.A a ∨ g.Pd a) ∨ a = p) H p d
    | .br => False
def Post (K : PySem.W.Frag) (H0 : Hp) (g : Gh) (D' : Ends) (o : Ou) (ρ : Rho) (δ : Dr) : Prop := match o with
  | .nx => ∀ F σ H, SR K g F σ ρ δ H → SH H0 g F H → D'.nx σ H
  | .bk => ∀ F σ H, SR K g F σ ρ δ H → SH H0 g F H → D'.bk σ H
  | .ct => ∀ F σ H, SR K g F σ ρ δ H → SH H0 g F H → D'.ct σ H
  | .rt d k => ∀ v H, Fin K H0 g δ H k v d → D'.rt v H
structure DS (X : Cx) (st : Stmt) (h : HF') : Prop where
  ex : ∃ t : TS, PS X st t ∧ ∀ (H0 : Hp) (g : Gh) (F : Fp) (σ : L2.St) (H : Hp) (ρ : Rho) (δ : Dr) (o : Ou) (ρ' : Rho) (δ' : Dr) (D' : Ends), SR X.K g F σ ρ δ H → SH H0 g F H → h ρ δ = some (o, ρ', δ') → Post X.K H0 g D' o ρ' δ' → t D' σ H
structure DSs (X : Cx) (st : List Stmt) (h : HF') : Prop where
  ex : ∃ t : TS, PSs X st t ∧ ∀ (H0 : Hp) (g : Gh) (F : Fp) (σ : L2.St) (H : Hp) (ρ : Rho) (δ : Dr) (o : Ou) (ρ' : Rho) (δ' : Dr) (D' : Ends), SR X.K g F σ ρ δ H → SH H0 g F H → h ρ δ = some (o, ρ', δ') → Post X.K H0 g D' o ρ' δ' → t D' σ H
section
variable {X : Cx}
def hNil : HF' := fun ρ δ => some (.nx, ρ, δ)
def hSeq (a b : HF') : HF' := fun ρ δ => (a ρ δ).bind fun r => match r.1 with
  | .nx => b r.2.1 r.2.2
  | _ => some r
theorem dss_nil : DSs X [] hNil := ⟨_, pss_nil, fun H0 g F σ H ρ δ o ρ' δ' D' S W hf q => by
  cases hf
  exact q F σ H S W⟩
theorem dss_one {st : Stmt} {h : HF'} (a : DS X st h) : DSs X [st] h := by
  obtain ⟨t, p, x⟩ := a.ex
  exact ⟨t, pss_one p, x⟩
theorem dss_cons {st : Stmt} {rest : List Stmt} {a b : HF'} (ha : DS X st a) (hb : DSs X rest b) : DSs X (st :: rest) (hSeq a b) := by
  obtain ⟨t, p, x⟩ := ha.ex
  obtain ⟨u, p2, x2⟩ := hb.ex
  refine ⟨_, pss_cons p p2, fun H0 g F σ H ρ δ o ρ' δ' D' S W hf q => ?_⟩
  unfold hSeq at hf
  cases e : a ρ δ with
  | none => rw [e] at hf; cases hf
  | some c =>
    obtain ⟨o1, ρ1, δ1⟩ := c
    rw [e] at hf
    simp only [Option.bind_some] at hf
    refine x H0 g F σ H ρ δ o1 ρ1 δ1 _ S W e ?_
    cases o1 with
    | nx => exact fun F' σ' H' S' W' => x2 H0 g F' σ' H' ρ1 δ1 o ρ' δ' D' S' W' hf q
    | rt d k => cases hf; exact q
    | bk => cases hf; exact q
    | ct => cases hf; exact q
/-- whatever is never come to -/
def hNo : HF' := fun _ _ => none
theorem ds_no {st : Stmt} : DS X st hNo := ⟨_, ps_never, fun _ _ _ _ _ _ _ _ _ _ _ _ _ h => by cases h⟩
theorem dss_no {st : List Stmt} : DSs X st hNo := ⟨_, pss_never, fun _ _ _ _ _ _ _ _ _ _ _ _ _ h => by cases h⟩
theorem ds_pass {pos} : DS X (.Pass pos) hNil := ⟨_, ps_pass, fun H0 g F σ H ρ δ o ρ' δ' D' S W hf q => by
  cases hf
  exact q F σ H S W⟩
def hBrk : HF' := fun ρ δ => some (.bk, ρ, δ)
def hCnt : HF' := fun ρ δ => some (.ct, ρ, δ)
theorem ds_break {pos} : DS X (.Break pos) hBrk := ⟨_, ps_break, fun H0 g F σ H ρ δ o ρ' δ' D' S W hf q => by
  cases hf
  exact q F σ H S W⟩
theorem ds_continue {pos} : DS X (.Continue pos) hCnt := ⟨_, ps_continue, fun H0 g F σ H ρ δ o ρ' δ' D' S W hf q => by
  cases hf
  exact q F σ H S W⟩
def hIf (c : TF) (a b : HF') : HF' := fun ρ δ => (c ρ δ).bind fun p => if p.1 = true then a ρ p.2 else b ρ p.2
theorem ds_if {c : Expr} {a b : List Stmt} {tc : TF} {ha hb : HF'} {pos : Pos} (h1 : DT X c tc) (h2 : DSs X a ha) (h3 : DSs X b hb) : DS X (.If c a b pos) (hIf tc ha hb) := by
  obtain ⟨t1, p1, x1⟩ := h1.ex
  obtain ⟨t2, p2, x2⟩ := h2.ex
  obtain ⟨t3, p3, x3⟩ := h3.ex
  refine ⟨_, ps_if p1 p2 p3, fun H0 g F σ H ρ δ o ρ' δ' D' S W hf q => ?_⟩
  unfold hIf at hf
  cases e : tc ρ δ with
  | none => rw [e] at hf; cases hf
  | some c =>
    obtain ⟨c, δ1⟩ := c
    rw [e] at hf
    simp only [Option.bind_some] at hf
    refine x1 g F σ H ρ δ c δ1 _ S e fun H1 k1 S1 => ?_
    cases c with
    | true => exact x2 H0 g F σ H1 ρ δ1 o ρ' δ' D' S1 (W.grow k1) hf q
    | false => exact x3 H0 g F σ H1 ρ δ1 o ρ' δ' D' S1 (W.grow k1) hf q
/-- an expression whose value is dropped -/
def hExpr (f : EF) : HF' := fun ρ δ => (f ρ δ).map fun p => (.nx, ρ, p.2.2)
theorem ds_expr {e : Expr} {f : EF} {pos : Pos} (he : DE X e f) (hs : swapsWith e none pos.line X.env = pure false := by rfl) : DS X (.Expr e pos) (hExpr f) := by
  obtain ⟨t, p, x⟩ := he.ex
  refine ⟨_, ps_expr p hs, fun H0 g F σ H ρ δ o ρ' δ' D' S W hf q => ?_⟩
  unfold hExpr at hf
  cases e1 : f ρ δ with
  | none => rw [e1] at hf; cases hf
  | some c =>
    obtain ⟨d, k, δ1⟩ := c
    rw [e1] at hf
    cases hf
    exact x g F σ H _ δ d k _ _ S e1 fun v H1 k1 S1 r1 => q F σ H1 S1 (W.grow k1)
/-! ### return -/
def hRet (f : EF) : HF' := fun ρ δ => (f ρ δ).bind fun p => if p.2.1 = .br then none else some (.rt p.1 p.2.1, ρ, p.2.2)
theorem fin_of {H0 : Hp} {g : Gh} {F : Fp} {H H' : Hp} {δ : Dr} {k : Kd} {v : V} {d : D} (W : SH H0 g F H) (kp : Keep g.Pd H H') (dl : DealR g H' δ) (hk : k ≠ .br) (r : Res X.K g F H H' k v d) : Fin X.K H0 g δ H' k v d := by
  refine ⟨W.keep.trans kp, dl, ?_⟩
  cases k with
  | sh => exact Rep.weak (fun a z => z.elim .inl fun z => .inr (.inl z)) r
  | ow =>
    obtain ⟨p, e, n, t⟩ := r
    exact ⟨p, e, W.keep.free n, t.weak fun a z => z.imp (fun z => z.elim .inl fun z => .inr (.inl z)) id⟩
  | br => exact absurd rfl hk
theorem ds_ret {e : Expr} {f : EF} {pos : Pos} (he : DE X e f) : DS X (.Return (some e) pos) (hRet f) := by
  obtain ⟨t, p, x⟩ := he.ex
  refine ⟨_, ps_ret p, fun H0 g F σ H ρ δ o ρ' δ' D' S W hf q => ?_⟩
  unfold hRet at hf
  cases e1 : f ρ δ with
  | none => rw [e1] at hf; cases hf
  | some c =>
    obtain ⟨d, k, δ1⟩ := c
    rw [e1] at hf
    simp only [Option.bind_some] at hf
    split at hf
    · cases hf
    · rename_i hk
      cases hf
      exact x g F σ H _ δ d k _ _ S e1 fun v H1 k1 S1 r1 => q v H1 (fin_of W k1 S1.deal hk r1)
def hRetN : HF' := fun ρ δ => some (.rt .non .sh, ρ, δ)
theorem ds_retN {pos} : DS X (.Return none pos) hRetN := ⟨_, ps_retN, fun H0 g F σ H ρ δ o ρ' δ' D' S W hf q => by
  cases hf
  exact q .non H ⟨W.keep, S.deal, .non⟩⟩
/-- return x: one's own thing goes to the caller -/
def hRetV (i : Nat) : HF' := fun ρ δ => match ρ[i]? with
  | some (.sh d) => some (.rt d .sh, ρ, δ)
  | some (.ow d) => some (.rt d .ow, ρ, δ)
  | _ => none
theorem ds_retV {i : Nat} {x : Str} {p pos : Pos} (h : PE X (.Name x p) (tVar i)) : DS X (.Return (some (.Name x p)) pos) (hRetV i) := by
  refine ⟨_, ps_ret h, fun H0 g F σ H ρ δ o ρ' δ' D' S W hf q => ?_⟩
  unfold hRetV at hf
  split at hf
  · rename_i d e
    cases hf
    obtain ⟨v, e1, r⟩ := S.slot i _ e
    exact ⟨v, e1, q v H ⟨W.keep, S.deal, Rep.weak (fun a z => z.elim .inl fun z => .inr (.inl z)) r⟩⟩
  · rename_i d e
    cases hf
    obtain ⟨p, e1, hF, t⟩ := S.slot i _ e
    refine ⟨_, e1, q _ H ⟨W.keep, S.deal, p, rfl, W.new i p (by rw [hF]; simp), t.weak fun a z => ?_⟩⟩
    rcases z with (z | z) | z
    · exact .inl z
    · exact .inr (.inl z)
    · exact .inr (.inr ⟨i, by rw [hF, z]; simp⟩)
  · cases hf
/-! ### name = e -/
def sv (d : D) : Kd → Option SV
  | .sh => some (.sh d)
  | .ow => some (.ow d)
  | .br => none
def hSet (i : Nat) (f : EF) : HF' := fun ρ δ => (f ρ δ).bind fun p => (sv p.1 p.2.1).map fun s => (.nx, ρ.set i s, p.2.2)
/-- the state with the name set, behind an expression -/
theorem put_of {H0 : Hp} {g : Gh} {F : Fp} {σ : L2.St} {ρ : Rho} {δ δ' : Dr} {H H' : Hp} {k : Kd} {v : V} {d : D} {s : SV} (S : SR X.K g F σ ρ δ H) (W : SH H0 g F H) (kp : Keep g.Pd H H') (S' : SR X.K g F σ ρ δ' H') (r : Res X.K g F H H' k v d) (hs : sv d k = some s) (i : Nat) :
    ∃ F', SR X.K g F' (σ.set i (some v)) (ρ.set i s) δ' H' ∧ SH H0 g F' H' ∧ ∀ a, Av g F' a → Av g F a ∨ H a = none := by
  cases k with
  | sh =>
    cases hs
    exact ⟨_, S'.putS r i, (W.grow kp).sub (FSub.nil F i), fun a z => .inl ((FSub.nil F i).av z)⟩
  | ow =>
    cases hs
    obtain ⟨p, e, n, t⟩ := r
    subst e
    exact ⟨_, S.putO kp S'.deal n t i, W.putO kp n i, fun a z => (av_set z).imp id fun z => by rw [z]; exact n⟩
  | br => cases hs
theorem ds_set {i : Nat} {x : Str} {e : Expr} {f : EF} {pos pos' : Pos} (hN : X.N.Nodup) (hi : X.N[i]? = some x) (hx : Loc X.env.scope x) (he : DE X e f) (hs : swapsWith e (some (.Name x pos')) pos.line X.env = pure false := by rfl)
    (hf : X.fn x = true ∨ X.env.scope.names.lookup x = some .local := by first | exact .inl rfl | exact .inr rfl | assumption) : DS X (.Assign [.Name x pos'] e pos) (hSet i f) := by
  obtain ⟨t, p, x'⟩ := he.ex
  refine ⟨_, ps_set hN hi hx p hs hf, fun H0 g F σ H ρ δ o ρ' δ' D' S W hg q => ?_⟩
  unfold hSet at hg
  cases e1 : f ρ δ with
  | none => rw [e1] at hg; cases hg
  | some c =>
    obtain ⟨d, k, δ1⟩ := c
    rw [e1] at hg
    simp only [Option.bind_some] at hg
    cases e2 : sv d k with
    | none => rw [e2] at hg; cases hg
    | some s =>
      rw [e2] at hg
      cases hg
      refine x' g F σ H _ δ d k _ _ S e1 fun v H1 k1 S1 r1 => ?_
      obtain ⟨F', a1, a2, _⟩ := put_of S W k1 S1 r1 e2 i
      exact q F' _ H1 a1 a2
/-- x = y: one's own thing goes over -/
def hMove (i j : Nat) : HF' := fun ρ δ => match ρ[j]? with
  | some (.sh d) => some (.nx, ρ.set i (.sh d), δ)
  | some (.ow d) => some (.nx, (ρ.set j .un).set i (.ow d), δ)
  | _ => none
theorem ds_move {i j : Nat} {x y : Str} {pos pos' py : Pos} (hN : X.N.Nodup) (hi : X.N[i]? = some x) (hx : Loc X.env.scope x) (hij : i ≠ j) (he : PE X (.Name y py) (tVar j)) (hs : swapsWith (.Name y py) (some (.Name x pos')) pos.line X.env = pure false := by rfl)
    (hf : X.fn x = true ∨ X.env.scope.names.lookup x = some .local := by first | exact .inl rfl | exact .inr rfl | assumption) : DS X (.Assign [.Name x pos'] (.Name y py) pos) (hMove i j) := by
  refine ⟨_, ps_set hN hi hx he hs hf, fun H0 g F σ H ρ δ o ρ' δ' D' S W hg q => ?_⟩
  unfold hMove at hg
  split at hg
  · rename_i d e
    cases hg
    obtain ⟨v, e1, r⟩ := S.slot j _ e
    exact ⟨v, e1, q _ _ H (S.putS r i) (W.sub (FSub.nil F i))⟩
  · rename_i d e
    cases hg
    obtain ⟨p, e1, S'⟩ := S.move hij e
    exact ⟨_, e1, q _ _ H S' W.move⟩
  · cases hg
/-! ### name, name = e, e -/
def hPar (i j : Nat) (f1 f2 : EF) : HF' := fun ρ δ => (f1 ρ δ).bind fun p => (f2 ρ p.2.2).bind fun q => (sv p.1 p.2.1).bind fun s => (sv q.1 q.2.1).map fun u => (.nx, (ρ.set i s).set j u, q.2.2)
theorem SR.wide {K : PySem.W.Frag} {g : Gh} {F : Fp} {σ : L2.St} {ρ : Rho} {δ δ' : Dr} {H H' : Hp} {p : Addr} (S : SR K g F σ ρ δ H) (k : Keep g.Pd H H') (dl : DealR g H' δ') (hp : H p = none) (hp' : H' p ≠ none) : SR K ⟨fun a => g.A a ∨ a = p, g.P⟩ F σ ρ δ' H' where
  len := S.len
  slot := fun j s h => by
    have more : ∀ a, Av ⟨fun a => g.A a ∨ a = p, g.P⟩ F a → Av g F a ∨ H a = none := by
      rintro a ((z | z) | z | z)
      · exact .inl (.inl z)
      · exact .inr (by rw [z]; exact hp)
      · exact .inl (.inr (.inl z))
      · exact .inl (.inr (.inr z))
    have q := S.slot j s h
    cases s with
    | un => trivial
    | sh d =>
      obtain ⟨x, a, r⟩ := q
      exact ⟨x, a, (r.more more).keep k fun a z => .inr (.inl z)⟩
    | ow d =>
      obtain ⟨p', a, hf, t⟩ := q
      exact ⟨p', a, hf, (t.more more).keep k (fun a z => .inr (.inl z)) (S.new j p' (by rw [hf]; simp)).2⟩
    | dl => exact q
  apart := S.apart
  new := fun i a h => ⟨fun z => z.elim (S.new i a h).1 fun z => S.fresh hp (.inr (.inr ⟨i, by rw [← z]; exact h⟩)), (S.new i a h).2⟩
  dom := fun a h => h.elim (S.dom a) fun z => by rw [z]; exact fun z => S.fresh hp (.inr (.inl z))
  there := by
    rintro a ((z | z) | z | z)
    · exact k.there (S.there a (.inl z))
    · rw [z]; exact hp'
    · exact k.there (S.there a (.inr (.inl z)))
    · exact k.there (S.there a (.inr (.inr z)))
  mt := fun i a h => by
    obtain ⟨o, ho, m⟩ := S.mt i a h
    exact ⟨o, k.at_ ho (S.new i a h).2, m⟩
  deal := dl
theorem ds_par {i j : Nat} {x y : Str} {a b : Expr} {f1 f2 : EF} {px py pt pos : Pos} {kt k2 pt2} (hc : X.calm = true) (hN : X.N.Nodup) (hi : X.N[i]? = some x) (hj : X.N[j]? = some y) (hij : i ≠ j)
    (hx : X.env.scope.names.lookup x = some .local) (hy : X.env.scope.names.lookup y = some .local) (ha : DE X a f1) (hb : DE X b f2)
    (hw : swappedStores [.Tuple [.Name x px, .Name y py] kt pt] (.Tuple [a, b] k2 pt2) X.env = pure (some [x, y]))
    (hs : swapsWithSole [.Tuple [.Name x px, .Name y py] kt pt] (.Tuple [a, b] k2 pt2) pos.line X.env = pure false := by rfl)
    (s1 : starEach [a, b] X.env = (false, eval a X.env) :: starEach [b] X.env := by rfl) (s2 : starEach [b] X.env = (false, eval b X.env) :: starEach [] X.env := by rfl) :
    DS X (.Assign [.Tuple [.Name x px, .Name y py] kt pt] (.Tuple [a, b] k2 pt2) pos) (hPar i j f1 f2) := by
  obtain ⟨t1, p1, x1⟩ := ha.ex
  obtain ⟨t2, p2, x2⟩ := hb.ex
  refine ⟨_, ps_par hc hN hi hj hij hx hy (pa_cons p1 (pa_cons p2 pa_nil s2) s1) hw hs, fun H0 g F σ H ρ δ o ρ' δ' D' S W hg q => ?_⟩
  unfold hPar at hg
  cases e1 : f1 ρ δ with
  | none => rw [e1] at hg; cases hg
  | some c =>
    obtain ⟨d1, k1, δ1⟩ := c
    rw [e1] at hg
    simp only [Option.bind_some] at hg
    cases e2 : f2 ρ δ1 with
    | none => rw [e2] at hg; cases hg
    | some c =>
      obtain ⟨d2, kd2, δ2⟩ := c
      rw [e2] at hg
      simp only [Option.bind_some] at hg
      cases e3 : sv d1 k1 with
      | none => rw [e3] at hg; cases hg
      | some s =>
        rw [e3] at hg
        simp only [Option.bind_some] at hg
        cases e4 : sv d2 kd2 with
        | none => rw [e4] at hg; cases hg
        | some u =>
          rw [e4] at hg
          cases hg
          refine x1 g F σ H ρ δ d1 k1 δ1 _ S e1 fun v H1 ke1 S1 r1 => ?_
          cases k1 with
          | br => cases e3
          | sh =>
            cases e3
            refine x2 g F σ H1 ρ δ1 d2 kd2 _ _ S1 e2 fun w H2 ke2 S2 r2 => ⟨v, w, rfl, ?_⟩
            -- first the one, then the other
            have T1 := S1.putS r1 i
            have r2' : Res X.K g (fset F i []) H1 H2 kd2 w d2 := by
              cases kd2 with
              | sh => exact Rep.weak (fun a z => (FSub.nil F i).av z) r2
              | ow =>
                obtain ⟨p, e, n, t⟩ := r2
                exact ⟨p, e, n, t.weak fun a z => z.imp (fun z => (FSub.nil F i).av z) id⟩
              | br => cases e4
            obtain ⟨F', a1, a2, _⟩ := put_of T1 ((W.grow ke1).sub (FSub.nil F i)) ke2 (T1.grow ke2 S2.deal) r2' e4 j
            exact q F' _ H2 a1 a2
          | ow =>
            cases e3
            obtain ⟨p, e, n, t⟩ := r1
            subst e
            obtain ⟨op, hop, _⟩ := t.there
            have S1w := S.wide ke1 S1.deal n (by rw [hop]; simp)
            refine x2 ⟨fun a => g.A a ∨ a = p, g.P⟩ F σ H1 ρ δ1 d2 kd2 _ _ S1w e2 fun w H2 ke2 S2 r2 => ⟨_, w, rfl, ?_⟩
            have ke2 : Keep g.Pd H1 H2 := ke2
            have T1 := S.putO ke1 S1.deal n t i
            have sub : ∀ a, Av g (fset F i [p]) a → Av ⟨fun a => g.A a ∨ a = p, g.P⟩ F a := fun a z => by
              rcases av_set z with (z | z | z) | z
              · exact .inl (.inl z)
              · exact .inr (.inl z)
              · exact .inr (.inr z)
              · exact .inl (.inr z)
            have r2' : Res X.K g (fset F i [p]) H1 H2 kd2 w d2 := by
              cases kd2 with
              | sh => exact Rep.weak sub r2
              | ow =>
                obtain ⟨p', e, n', t'⟩ := r2
                exact ⟨p', e, n', t'.weak fun a z => z.imp (sub a) id⟩
              | br => cases e4
            obtain ⟨F', a1, a2, _⟩ := put_of T1 (W.putO ke1 n i) ke2 (T1.grow ke2 S2.deal) r2' e4 j
            exact q F' _ H2 a1 a2
end
end DL
/-! D-layer, part g: lists that change, targets, loops. -/
namespace DL
open PySem PySem.Spec PyProof.Rows L2
section
variable {K : PySem.W.Frag} {g : Gh} {F F' : Fp} {σ σ' : L2.St} {ρ ρ' : Rho} {δ δ' : Dr} {H H' H0 : Hp} {v : V} {d : D}
/-- the heap without one's own things -/
noncomputable def Base (F : Fp) (H : Hp) : Hp := fun a => open Classical in if Ow F a then none else H a
theorem base_some {a : Addr} {o : HO} (h : Base F H a = some o) : H a = some o ∧ ¬ Ow F a := by
  unfold Base at h
  split at h
  · cases h
  · rename_i n
    exact ⟨h, n⟩
theorem base_of {a : Addr} {o : HO} (h : H a = some o) (n : ¬ Ow F a) : Base F H a = some o := by
  unfold Base
  rw [if_neg n]
  exact h
theorem base_ow {a : Addr} (n : Ow F a) : Base F H a = none := by
  unfold Base
  rw [if_pos n]
theorem SH.inner (S : SR K g F σ ρ δ H) : SH (Base F H) g F H where
  new := fun i a h => base_ow ⟨i, h⟩
  dom := fun a h => by
    cases e : H a with
    | none => exact absurd e (S.there a (.inl h))
    | some o =>
      rw [base_of e fun ⟨i, z⟩ => (S.new i a z).1 h]
      simp
  pd := fun a h => by
    cases e : H a with
    | none => exact absurd e (S.there a (.inr (.inl h)))
    | some o =>
      rw [base_of e fun ⟨i, z⟩ => (S.new i a z).2 h]
      simp
  keep := fun a o h => .inl (base_some h).1
theorem SH.outer (W : SH H0 g F H) (W' : SH (Base F H) g F' H') : SH H0 g F' H' where
  new := fun i a h => by
    have z := W'.new i a h
    by_cases n : Ow F a
    · obtain ⟨j, hj⟩ := n
      exact W.new j a hj
    · cases e : H a with
      | none => exact W.keep.free e
      | some o => rw [base_of e n] at z; cases z
  dom := W.dom
  pd := W.pd
  keep := fun a o h => by
    have n : ¬ Ow F a := fun ⟨j, hj⟩ => by rw [W.new j a hj] at h; cases h
    rcases W.keep a o h with h1 | ⟨x, m, o', h1, m1⟩
    · exact W'.keep a o (base_of h1 n)
    · rcases W'.keep a o' (base_of h1 n) with h2 | ⟨_, _, o2, h2, m2⟩
      · exact .inr ⟨x, m, o', h2, m1⟩
      · exact .inr ⟨x, m, o2, h2, m2⟩
theorem stay_at (S : SR K g F σ ρ δ H) (W' : SH (Base F H) g F' H') {a : Addr} {o : HO} (h : H a = some o) (n : ¬ Av g F a) : H' a = some o ∧ ¬ Av g F' a := by
  have b : Base F H a = some o := base_of h fun z => n (.inr (.inr z))
  refine ⟨W'.keep.at_ b fun z => n (.inr (.inl z)), ?_⟩
  rintro (z | z | ⟨i, z⟩)
  · exact n (.inl z)
  · exact n (.inr (.inl z))
  · rw [W'.new i a z] at b
    cases b
theorem stay_R (S : SR K g F σ ρ δ H) (W' : SH (Base F H) g F' H') {a : Addr} {xs : List V} (h : Rd H a (.lst xs)) (n : ¬ Av g F a) : Rd H' a (.lst xs) ∧ ¬ Av g F' a := by
  rcases h with h | ⟨o, h⟩
  · exact ⟨.inl (stay_at S W' h n).1, (stay_at S W' h n).2⟩
  · exact ⟨.inr ⟨o, (stay_at S W' h n).1⟩, (stay_at S W' h n).2⟩
theorem stay_T (S : SR K g F σ ρ δ H) (W' : SH (Base F H) g F' H') {a : Addr} {xs : List V} (h : SqT K H a xs) : SqT K H' a xs := by
  have go : ∀ o, ¬ Mt o → H a = some o → H' a = some o := fun o m h => by
    refine W'.keep.still (base_of h fun ⟨i, z⟩ => ?_) m
    obtain ⟨o', h1, m1⟩ := S.mt i a z
    rw [h] at h1
    cases h1
    exact m m1
  rcases h with (h | ⟨o, h⟩) | h
  · exact .inl (.inl (go _ (by exact id) h))
  · exact .inl (.inr ⟨o, go _ (by exact id) h⟩)
  · exact .inr h
theorem stay_W (S : SR K g F σ ρ δ H) (W' : SH (Base F H) g F' H') {a : Addr} {xs : List V} (h : WL K H a xs) : WL K H' a xs := by
  rcases h with ⟨o, h⟩ | h
  · refine .inl ⟨o, W'.keep.still (base_of h fun ⟨i, z⟩ => ?_) (by exact id)⟩
    obtain ⟨o', h1, m1⟩ := S.mt i a z
    rw [h] at h1
    cases h1
    exact m1
  · exact .inr h
mutual
theorem Rep.stay (S : SR K g F σ ρ δ H) (W' : SH (Base F H) g F' H') : ∀ {v : V} {d : D}, Rep K (Av g F) H v d → Rep K (Av g F') H' v d
  | _, _, .non => .non
  | _, _, .bl b => .bl b
  | _, _, .int i => .int i
  | _, _, .str x => .str x
  | _, _, .tup h r => .tup (stay_T S W' h) (Reps.stay S W' r)
  | _, _, .lst h n r => .lst (stay_at S W' h n).1 (stay_at S W' h n).2 (Reps.stay S W' r)
  | _, _, .ins h n e r => .ins (stay_at S W' h n).1 (stay_at S W' h n).2 e (Reps.stay S W' r)
  | _, _, .dic h n e r => .dic (stay_at S W' h n).1 (stay_at S W' h n).2 e (Reps.stay S W' r)
  | _, _, .obj a => .obj a
  | _, _, .ty n => .ty n
  | _, _, .wls h r => .wls (stay_W S W' h) (Reps.stay S W' r)
theorem Reps.stay (S : SR K g F σ ρ δ H) (W' : SH (Base F H) g F' H') : ∀ {vs : List V} {ds : List D}, Reps K (Av g F) H vs ds → Reps K (Av g F') H' vs ds
  | _, _, .nil => .nil
  | _, _, .cons h r => .cons (Rep.stay S W' h) (Reps.stay S W' r)
end
end

section
variable {X : Cx}
/-! ### targets -/
abbrev BF := D → Rho → Option Rho
/-- sl: the slots that are stored -/
structure DG (X : Cx) (tg : Expr) (b : BF) (sl : List Nat) : Prop where
  ex : ∃ t : TG, PG X tg t ∧ ∀ (g : Gh) (F : Fp) (σ : L2.St) (H : Hp) (ρ : Rho) (δ : Dr) (v : V) (d : D) (ρ' : Rho) (Q : L2.St → Hp → Prop), SR X.K g F σ ρ δ H → Rep X.K (Av g F) H v d → b d ρ = some ρ' →
    (∀ σ', SR X.K g F σ' ρ' δ H → (∀ own : List Nat, (∀ i, i ∈ sl → i ∈ own) → wipe σ' own = wipe σ own) → Q σ' H) → t v σ H Q
abbrev BFs := List D → Rho → Option Rho
structure DGs (X : Cx) (ts : List Expr) (n : Nat) (b : BFs) (sl : List Nat) : Prop where
  ex : ∃ t : TGs, PGs X ts t ∧ ∀ (g : Gh) (F : Fp) (σ : L2.St) (H : Hp) (ρ : Rho) (δ : Dr) (vs : List V) (ds : List D) (ρ' : Rho) (Q : L2.St → Hp → Prop), SR X.K g F σ ρ δ H → Reps X.K (Av g F) H vs ds → b ds ρ = some ρ' →
    (∀ σ', SR X.K g F σ' ρ' δ H → (∀ own : List Nat, (∀ i, i ∈ sl → i ∈ own) → wipe σ' own = wipe σ own) → Q σ' H) → t vs σ H Q
  len : ∀ ds ρ ρ', b ds ρ = some ρ' → ds.length = n
theorem wipe_set {σ : L2.St} {i : Nat} {x : Option V} : ∀ {own : List Nat}, i ∈ own → wipe (σ.set i x) own = wipe σ own
  | [], h => by cases h
  | v :: vs, h => by
    show (wipe (σ.set i x) vs).set v none = (wipe σ vs).set v none
    by_cases e : i ∈ vs
    · rw [wipe_set e]
    · have e2 : i = v := by
        rcases List.mem_cons.mp h with h | h
        · exact h
        · exact absurd h e
      subst e2
      have go : ∀ (vs : List Nat) (σ : L2.St), i ∉ vs → wipe (σ.set i x) vs = (wipe σ vs).set i x := by
        intro vs
        induction vs with
        | nil => intro σ _; rfl
        | cons w ws ih =>
          intro σ hn
          rw [List.mem_cons, not_or] at hn
          show (wipe (σ.set i x) ws).set w none = ((wipe σ ws).set w none).set i x
          rw [ih σ hn.2, List.set_comm _ _ hn.1]
      rw [go vs σ e, List.set_set]
def bName (i : Nat) : BF := fun d ρ => some (ρ.set i (.sh d))
theorem dg_name {i : Nat} {x : Str} {pos : Pos} (hN : X.N.Nodup) (hi : X.N[i]? = some x) (hx : Loc X.env.scope x) (hf : X.fn x = true ∨ X.env.scope.names.lookup x = some .local := by first | exact .inl rfl | exact .inr rfl | assumption) : DG X (.Name x pos) (bName i) [i] :=
  ⟨_, pg_name hN hi hx hf, fun g F σ H ρ δ v d ρ' Q S r hb q => by
    cases hb
    exact q _ (S.putK r i) fun own h => wipe_set (h i (List.mem_singleton.mpr rfl))⟩
def bNil : BFs := fun ds ρ => match ds with | [] => some ρ | _ => none
def bCons (b : BF) (r : BFs) : BFs := fun ds ρ => match ds with | d :: ds => (b d ρ).bind fun ρ' => r ds ρ' | [] => none
theorem dgs_nil : DGs X [] 0 bNil [] := ⟨⟨_, pgs_nil, fun g F σ H ρ δ vs ds ρ' Q S r hb q => by
  cases r with
  | nil =>
    cases hb
    exact ⟨rfl, q σ S fun _ _ => rfl⟩
  | cons _ _ => cases hb⟩, fun ds ρ ρ' h => by cases ds with | nil => rfl | cons _ _ => cases h⟩
theorem dgs_cons {e : Expr} {es : List Expr} {n : Nat} {b : BF} {r : BFs} {l1 l2 : List Nat} (h1 : DG X e b l1) (h2 : DGs X es n r l2) (hs : (assignEach (e :: es) X.env).map (·.2) = assign e X.env :: (assignEach es X.env).map (·.2) := by rfl) : DGs X (e :: es) (n + 1) (bCons b r) (l1 ++ l2) := by
  obtain ⟨t, p, x⟩ := h1.ex
  obtain ⟨u, p2, x2⟩ := h2.ex
  refine ⟨⟨_, pgs_cons p p2 hs, fun g F σ H ρ δ vs ds ρ' Q S rp hb q => ?_⟩, fun ds ρ ρ' h => ?_⟩
  · cases rp with
    | nil => cases hb
    | cons r1 rr =>
      rename_i v d vs ds
      simp only [bCons] at hb
      cases e1 : b d ρ with
      | none => rw [e1] at hb; cases hb
      | some ρ1 =>
        rw [e1] at hb
        refine ⟨v, vs, rfl, x g F σ H ρ δ v d ρ1 _ S r1 e1 fun σ1 S1 w1 => ?_⟩
        exact x2 g F σ1 H ρ1 δ vs ds ρ' Q S1 rr hb fun σ2 S2 w2 => q σ2 S2 fun own h => (w2 own fun i hi => h i (List.mem_append_right _ hi)).trans (w1 own fun i hi => h i (List.mem_append_left _ hi))
  · cases ds with
    | nil => cases h
    | cons d ds =>
      simp only [bCons] at h
      cases e1 : b d ρ with
      | none => rw [e1] at h; cases h
      | some ρ1 =>
        rw [e1] at h
        rw [List.length_cons, h2.len ds ρ1 ρ' h]
def bTup (r : BFs) : BF := fun d ρ => match d with | .tup ds => r ds ρ | _ => none
theorem dg_tup {es : List Expr} {k n : Nat} {pos : Pos} {r : BFs} {sl : List Nat} (hc : X.calm = true) (h : DGs X es n r sl) (hn : (assignEach es X.env).length = n := by rfl) (hst : (assignEach es X.env).findIdx? (·.1) = none := by rfl) : DG X (.Tuple es k pos) (bTup r) sl := by
  obtain ⟨t, p, x⟩ := h.ex
  refine ⟨_, pg_tup hc p hn hst, fun g F σ H ρ δ v d ρ' Q S rp hb q => ?_⟩
  cases rp with
  | tup h1 r1 =>
    rename_i a xs ds
    exact ⟨a, xs, rfl, h1, by rw [r1.length]; exact h.len ds ρ ρ' hb, x g F σ H ρ δ xs ds ρ' Q S r1 hb q⟩
  | _ => cases hb
/-- target = e -/
def hAsg (b : BF) (f : EF) : HF' := fun ρ δ => (f ρ δ).bind fun p => if p.2.1 = .br then none else (b p.1 ρ).map fun ρ' => (.nx, ρ', p.2.2)
theorem ds_asg {tg e : Expr} {b : BF} {sl : List Nat} {f : EF} {pos : Pos} (he : DE X e f) (hg : DG X tg b sl) (hs : swapsWithSole [tg] e pos.line X.env = pure false := by rfl) (hw : swappedStores [tg] e X.env = pure none := by rfl)
    (h1 : (assignEach [tg] X.env).map (·.2) = [assign tg X.env] := by rfl) : DS X (.Assign [tg] e pos) (hAsg b f) := by
  obtain ⟨t, p, x⟩ := he.ex
  obtain ⟨u, p2, x2⟩ := hg.ex
  refine ⟨_, ps_asg p p2 hs hw h1, fun H0 g F σ H ρ δ o ρ' δ' D' S W hf q => ?_⟩
  unfold hAsg at hf
  cases e1 : f ρ δ with
  | none => rw [e1] at hf; cases hf
  | some c =>
    obtain ⟨d, k, δ1⟩ := c
    rw [e1] at hf
    simp only [Option.bind_some] at hf
    split at hf
    · cases hf
    · rename_i hk
      cases e2 : b d ρ with
      | none => rw [e2] at hf; cases hf
      | some ρ1 =>
        rw [e2] at hf
        cases hf
        refine x g F σ H ρ δ d k _ _ S e1 fun v H1 k1 S1 r1 => ?_
        exact x2 g F σ H1 ρ _ v d _ _ S1 (r1.rep S.good hk) e2 fun σ2 S2 _ => q F σ2 H1 S2 (W.grow k1)
/-! ### one's own lists change -/
theorem own_at {g : Gh} {F : Fp} {σ : L2.St} {ρ : Rho} {δ : Dr} {H : Hp} {i : Nat} {xs : List D} (S : SR X.K g F σ ρ δ H) (e : ρ[i]? = some (.ow (.lst xs))) :
    ∃ p vs, σ[i]? = some (some (.ref p)) ∧ F i = [p] ∧ H p = some (.lst vs) ∧ Reps X.K (Av g F) H vs xs := by
  obtain ⟨p, e3, e2, t⟩ := S.slot i _ e
  obtain ⟨vs, h, r⟩ := t
  exact ⟨p, vs, e3, e2, h, r⟩
/-- the state with the list changed -/
theorem turned {g : Gh} {F : Fp} {σ : L2.St} {ρ : Rho} {δ : Dr} {H H0 : Hp} {i : Nat} {xs ys : List D} {p : Addr} {vs ws : List V} (S : SR X.K g F σ ρ δ H) (W : SH H0 g F H) (e : ρ[i]? = some (.ow (.lst xs))) (e3 : σ[i]? = some (some (.ref p))) (e2 : F i = [p])
    (h : H p = some (.lst vs)) (r : Reps X.K (Av g F) H ws ys) : SR X.K g F σ (ρ.set i (.ow (.lst ys))) δ (upd H p (.lst ws)) ∧ SH H0 g F (upd H p (.lst ws)) := by
  have k : Keep (fun a => a = p) H (upd H p (.lst ws)) := keep_upd h trivial trivial rfl
  exact ⟨S.turn e e2 e3 k ⟨ws, upd_same, r.keep k fun a z => by rw [z]; exact .inr (.inr ⟨i, by rw [e2]; simp⟩)⟩, W.turn e2 k⟩
def hApp (i : Nat) (f : EF) : HF' := fun ρ δ => match ρ[i]? with
  | some (.ow (.lst xs)) => (f ρ δ).bind fun p => if p.2.1 = .br then none else if xs.length < sizeLine then some (.nx, ρ.set i (.ow (.lst (xs ++ [p.1]))), p.2.2) else none
  | _ => none
theorem ds_append {i : Nat} {x : Str} {e : Expr} {f : EF} {px pa pc pos : Pos} (hx : PE X (.Name x px) (tVar i)) (he : DE X e f) (hse : starEach [e] X.env = (false, eval e X.env) :: starEach [] X.env := by rfl)
    (hs : swapsWith (.Call (.Attribute (.Name x px) "append" pa) [e] [] pc) none pos.line X.env = pure false := by rfl)
    (hm : ∀ (ta : TE), PE X (.Name x px) (tVar i) → ∀ t, PA X [e] t → PE X (.Call (.Attribute (.Name x px) "append" pa) [e] [] pc) (tBM X.K "list" rAppend (tVar i) t) := by
      exact fun _ h1 t h2 => pe_bm PySem.F.plainAttrs_list PySem.F.slot_list_append PySem.F.type_list_append mt_append h1 h2) : DS X (.Expr (.Call (.Attribute (.Name x px) "append" pa) [e] [] pc) pos) (hApp i f) := by
  obtain ⟨t, p, x'⟩ := he.ex
  refine ⟨_, ps_expr (hm (tVar i) hx _ (pa_cons p pa_nil hse)) hs, fun H0 g F σ H ρ δ o ρ' δ' D' S W hf q => ?_⟩
  unfold hApp at hf
  split at hf
  · rename_i xs e0
    cases e1 : f ρ δ with
    | none => rw [e1] at hf; cases hf
    | some c =>
      obtain ⟨d, k, δ1⟩ := c
      rw [e1] at hf
      simp only [Option.bind_some] at hf
      split at hf
      · cases hf
      · rename_i hk
        split at hf
        · rename_i hl
          cases hf
          obtain ⟨a, vs, a1, a2, a3, a4⟩ := own_at S e0
          refine ⟨_, a1, .inl ⟨rfl, _, .inl (.inl a3)⟩, x' g F σ H ρ δ d k _ _ S e1 fun v H1 k1 S1 r1 => ?_⟩
          obtain ⟨b, vs', b1, b2, b3, b4⟩ := own_at S1 e0
          rw [a1] at b1
          cases b1
          refine ⟨a, vs', v, rfl, rfl, b3, by rw [b4.length]; exact hl, ?_⟩
          obtain ⟨S2, W2⟩ := turned S1 (W.grow k1) e0 a1 b2 b3 (b4.append (.cons (r1.rep S.good hk) .nil))
          exact q F σ _ S2 W2
        · cases hf
  · cases hf
/-- x.pop() as a statement; x.pop() given to a target -/
def hPop (i : Nat) : HF' := fun ρ δ => match ρ[i]? with
  | some (.ow (.lst xs)) => if xs.length = 0 then none else some (.nx, ρ.set i (.ow (.lst xs.dropLast)), δ)
  | _ => none
theorem pop_run {g : Gh} {F : Fp} {σ : L2.St} {ρ : Rho} {δ : Dr} {H H0 : Hp} {i : Nat} {xs : List D} (S : SR X.K g F σ ρ δ H) (W : SH H0 g F H) (e : ρ[i]? = some (.ow (.lst xs))) (hl : ¬ xs.length = 0) :
    ∃ p vs v d, σ[i]? = some (some (.ref p)) ∧ H p = some (.lst vs) ∧ vs[vs.length - 1]? = some v ∧ xs[xs.length - 1]? = some d ∧ SR X.K g F σ (ρ.set i (.ow (.lst xs.dropLast))) δ (upd H p (.lst vs.dropLast)) ∧ SH H0 g F (upd H p (.lst vs.dropLast)) ∧
      Rep X.K (Av g F) (upd H p (.lst vs.dropLast)) v d := by
  obtain ⟨p, vs, a1, a2, a3, a4⟩ := own_at S e
  obtain ⟨S2, W2⟩ := turned S W e a1 a2 a3 a4.dropLast
  have h1 : xs.length - 1 < xs.length := by omega
  have e1 : xs[xs.length - 1]? = some xs[xs.length - 1] := List.getElem?_eq_getElem h1
  obtain ⟨v, e2, r⟩ := a4.getD e1
  rw [← a4.length] at e2
  refine ⟨p, vs, v, _, a1, a3, e2, e1, S2, W2, r.keep (P := fun a => a = p) (keep_upd (o' := .lst vs.dropLast) a3 trivial trivial rfl) fun a z => by rw [z]; exact .inr (.inr ⟨i, by rw [a2]; simp⟩)⟩
theorem ds_pop {i : Nat} {x : Str} {px pa pc pos : Pos} (hx : PE X (.Name x px) (tVar i))
    (hs : swapsWith (.Call (.Attribute (.Name x px) "pop" pa) [] [] pc) none pos.line X.env = pure false := by rfl)
    (hm : PE X (.Name x px) (tVar i) → PE X (.Call (.Attribute (.Name x px) "pop" pa) [] [] pc) (tBM0 X.K "list" rPop (tVar i)) := by
      exact fun h1 => pe_bm0 PySem.F.plainAttrs_list PySem.F.slot_list_pop PySem.F.type_list_pop mt_pop h1) : DS X (.Expr (.Call (.Attribute (.Name x px) "pop" pa) [] [] pc) pos) (hPop i) := by
  refine ⟨_, ps_expr (hm hx) hs, fun H0 g F σ H ρ δ o ρ' δ' D' S W hf q => ?_⟩
  unfold hPop at hf
  split at hf
  · rename_i xs e0
    split at hf
    · cases hf
    · rename_i hl
      cases hf
      obtain ⟨p, vs, v, d, a1, a2, a3, a4, S2, W2, r⟩ := pop_run S W e0 hl
      exact ⟨_, a1, .inl ⟨rfl, _, .inl (.inl a2)⟩, p, vs, v, rfl, rfl, a2, a3, q F σ _ S2 W2⟩
  · cases hf
def hPopTo (b : BF) (i : Nat) : HF' := fun ρ δ => match ρ[i]? with
  | some (.ow (.lst xs)) => (xs[xs.length - 1]?).bind fun d => (b d (ρ.set i (.ow (.lst xs.dropLast)))).map fun ρ' => (.nx, ρ', δ)
  | _ => none
theorem ds_popTo {i : Nat} {x : Str} {tg : Expr} {b : BF} {sl : List Nat} {px pa pc pos : Pos} (hx : PE X (.Name x px) (tVar i)) (hg : DG X tg b sl)
    (hs : swapsWithSole [tg] (.Call (.Attribute (.Name x px) "pop" pa) [] [] pc) pos.line X.env = pure false := by rfl) (hw : swappedStores [tg] (.Call (.Attribute (.Name x px) "pop" pa) [] [] pc) X.env = pure none := by rfl)
    (h1 : (assignEach [tg] X.env).map (·.2) = [assign tg X.env] := by rfl)
    (hm : PE X (.Name x px) (tVar i) → PE X (.Call (.Attribute (.Name x px) "pop" pa) [] [] pc) (tBM0 X.K "list" rPop (tVar i)) := by
      exact fun h1 => pe_bm0 PySem.F.plainAttrs_list PySem.F.slot_list_pop PySem.F.type_list_pop mt_pop h1) : DS X (.Assign [tg] (.Call (.Attribute (.Name x px) "pop" pa) [] [] pc) pos) (hPopTo b i) := by
  obtain ⟨u, p2, x2⟩ := hg.ex
  refine ⟨_, ps_asg (hm hx) p2 hs hw h1, fun H0 g F σ H ρ δ o ρ' δ' D' S W hf q => ?_⟩
  unfold hPopTo at hf
  split at hf
  · rename_i xs e0
    cases e1 : xs[xs.length - 1]? with
    | none => rw [e1] at hf; cases hf
    | some d =>
      rw [e1] at hf
      simp only [Option.bind_some] at hf
      cases e2 : b d (ρ.set i (.ow (.lst xs.dropLast))) with
      | none => rw [e2] at hf; cases hf
      | some ρ1 =>
        rw [e2] at hf
        cases hf
        have hl : ¬ xs.length = 0 := fun z => by
          rw [List.length_eq_zero_iff.mp z] at e1
          cases e1
        obtain ⟨p, vs, v, d', a1, a2, a3, a4, S2, W2, r⟩ := pop_run S W e0 hl
        rw [e1] at a4
        cases a4
        exact ⟨_, a1, .inl ⟨rfl, _, .inl (.inl a2)⟩, p, vs, v, rfl, rfl, a2, a3, x2 g F σ _ _ _ v d _ _ S2 r e2 fun σ2 S3 _ => q F σ2 _ S3 W2⟩
  · cases hf
/-! ### name op= e, ints -/
def hAug (i : Nat) (o : OF2) (f : EF) : HF' := fun ρ δ => match ρ[i]? with
  | some (.sh x) => (f ρ δ).bind fun p => (o x p.1).bind fun r => (sv r.1 r.2).map fun s => (.nx, ρ.set i s, p.2.2)
  | _ => none
def IpD (X : Cx) (op : Operator) (o : OF2) : Prop := ∃ t : TIp, PIp X op t ∧ Fit2 X.K t o
theorem ds_aug {i : Nat} {x : Str} {e : Expr} {f : EF} {o : OF2} {op : Operator} {pos pos' : Pos} (hN : X.N.Nodup) (hi : X.N[i]? = some x) (hx : Loc X.env.scope x) (he : DE X e f) (ho : IpD X op o)
    (hf : X.fn x = true ∨ X.env.scope.names.lookup x = some .local := by first | exact .inl rfl | exact .inr rfl | assumption) : DS X (.AugAssign (.Name x pos') op e pos) (hAug i o f) := by
  obtain ⟨t, p, x'⟩ := he.ex
  obtain ⟨ti, pi, fit⟩ := ho
  refine ⟨_, ps_aug hN hi hx p pi hf, fun H0 g F σ H ρ δ oo ρ' δ' D' S W hf q => ?_⟩
  unfold hAug at hf
  split at hf
  · rename_i dx e0
    obtain ⟨v, a1, a2⟩ := S.slot i _ e0
    cases e1 : f ρ δ with
    | none => rw [e1] at hf; cases hf
    | some c =>
      obtain ⟨d, k, δ1⟩ := c
      rw [e1] at hf
      simp only [Option.bind_some] at hf
      cases e2 : o dx d with
      | none => rw [e2] at hf; cases hf
      | some c =>
        obtain ⟨d2, k2⟩ := c
        rw [e2] at hf
        simp only [Option.bind_some] at hf
        cases e3 : sv d2 k2 with
        | none => rw [e3] at hf; cases hf
        | some s =>
          rw [e3] at hf
          cases hf
          refine ⟨v, a1, x' g F σ H ρ δ d k _ _ S e1 fun w H1 k1 S1 r1 => ?_⟩
          refine fit g F H1 v w dx d d2 k2 _ S1.good (.inl (a2.keep k1 fun a z => .inr (.inl z))) (r1.rd S.good) e2 fun z H2 s2 r2 => ?_
          obtain ⟨F', b1, b2, _⟩ := put_of S1 (W.grow k1) (Keep.of_same s2) (S1.same s2) r2 e3 i
          exact q F' _ H2 b1 b2
  · cases hf
def oAddI : OF2 := fun x y => match x, y with | .int i, .int j => some (.int (i + j), .sh) | _, _ => none
theorem ip_addI : IpD X .Add oAddI := by
  refine ⟨_, ip_add, fun g F H x y dx dy d k Q G r1 r2 ho q => ?_⟩
  cases dx <;> cases dy <;> dsimp only [oAddI] at ho <;> first
    | cases ho
      done
    | (cases ho
       exact ⟨_, _, r1.int, r2.int, q _ H (Same.refl _) (.int _)⟩)
theorem ip_by {op : Operator} {r : R2} {o : OF2} (h : OpR X (inplaceOp op) r) (f : Fit2 X.K r o) : IpD X op o := ⟨r, fun pins s σ H x y v u Q I r1 r2 q => h pins s σ H x y v u Q I r1 r2 q, f⟩
/-! ### what a loop walks -/
structure Src (K : PySem.W.Frag) (g : Gh) (F : Fp) (H : Hp) (J : It) (ds : List D) (rt : Addr → Prop) : Prop where
  go : ∀ (O : Addr → Prop) (H' : Hp), (∀ a o, rt a → H a = some o → H' a = some o) → (∀ a xs, SqT K H a xs → SqT K H' a xs) → (∀ v d, Rep K (Av g F) H v d → Rep K O H' v d) →
    ∀ i d, ds[i]? = some d → J.go i H' ∧ ∀ x H2, J.yld i H' x H2 → Same H' H2 ∧ Rep K O H2 x d
  stop : ∀ (H' : Hp), (∀ a o, rt a → H a = some o → H' a = some o) → (∀ a xs, SqT K H a xs → SqT K H' a xs) → J.stop ds.length H'
abbrev SF := Rho → Dr → Option (List D × Kd × Dr)
structure DI (X : Cx) (tg it : Expr) (s : SF) : Prop where
  ex : ∃ wi : TI, PI X tg it wi ∧ ∀ (g : Gh) (F : Fp) (σ : L2.St) (H : Hp) (ρ : Rho) (δ : Dr) (ds : List D) (k : Kd) (δ' : Dr) (R : It → Hp → Prop), SR X.K g F σ ρ δ H → s ρ δ = some (ds, k, δ') →
    (∀ J H' rt, Keep g.Pd H H' → SR X.K g F σ ρ δ' H' → Src X.K g F H' J ds rt → (∀ a, rt a → H' a ≠ none ∧ ¬ g.Pd a ∧ (k ≠ .br → ¬ Av g F a)) → R J H') → wi σ H R
theorem pi_or {tg it : Expr} {w1 w2 : TI} (h1 : PI X tg it w1) (h2 : PI X tg it w2) : PI X tg it (fun σ H R => w1 σ H R ∨ w2 σ H R) :=
  ⟨fun pins s σ H R I h => h.elim (h1.run pins s σ H R I) (h2.run pins s σ H R I)⟩
theorem src_list {K : PySem.W.Frag} {g : Gh} {F : Fp} {H : Hp} {p : Addr} {vs : List V} {ds : List D} (h : Rd H p (.lst vs)) (r : Reps K (Av g F) H vs ds) : Src K g F H (Itl K p) ds (fun a => a = p) where
  go := fun O H' hr ht hp i d e => by
    obtain ⟨v, e1, e2⟩ := r.getD e
    have h' : Rd H' p (.lst vs) := h.elim (fun h => .inl (hr p _ rfl h)) fun ⟨o, h⟩ => .inr ⟨o, hr p _ rfl h⟩
    refine ⟨⟨vs, v, .inl h', e1⟩, fun x H2 y => ?_⟩
    obtain ⟨rfl, y⟩ := y
    have z := y vs (.inl h')
    rw [e1] at z
    cases z
    exact ⟨Same.refl _, hp _ _ e2⟩
  stop := fun H' hr ht => ⟨vs, .inl (h.elim (fun h => .inl (hr p _ rfl h)) fun ⟨o, h⟩ => .inr ⟨o, hr p _ rfl h⟩), by rw [r.length]; exact Nat.le_refl _⟩
theorem src_tup {K : PySem.W.Frag} {g : Gh} {F : Fp} {H : Hp} {p : Addr} {vs : List V} {ds : List D} (h : SqT K H p vs) (r : Reps K (Av g F) H vs ds) : Src K g F H (Itt K p) ds (fun _ => False) where
  go := fun O H' hr ht hp i d e => by
    obtain ⟨v, e1, e2⟩ := r.getD e
    have h' := ht p _ h
    refine ⟨⟨vs, v, h', e1⟩, fun x H2 y => ?_⟩
    obtain ⟨rfl, y⟩ := y
    have z := y vs h'
    rw [e1] at z
    cases z
    exact ⟨Same.refl _, hp _ _ e2⟩
  stop := fun H' hr ht => ⟨vs, ht p _ h, by rw [r.length]; exact Nat.le_refl _⟩
/-- the ints lo, lo + 1, .. -/
def rng (lo : Int) (n : Nat) : List D := (List.range n).map fun i => .int (lo + (i : Nat))
theorem src_rng {K : PySem.W.Frag} {g : Gh} {F : Fp} {H : Hp} (lo : Int) (n : Nat) : Src K g F H (Itr lo n) (rng lo n) (fun _ => False) where
  go := fun O H' hr ht hp i d e => by
    unfold rng at e
    rw [List.getElem?_map] at e
    have hi : i < n := by
      by_cases hi : i < n
      · exact hi
      · rw [List.getElem?_eq_none (by simpa using hi)] at e
        cases e
    rw [List.getElem?_range hi] at e
    cases e
    refine ⟨hi, fun x H2 y => ?_⟩
    obtain ⟨rfl, rfl⟩ := y
    exact ⟨Same.refl _, .int _⟩
  stop := fun H' hr ht => by
    show n ≤ (rng lo n).length
    unfold rng
    rw [List.length_map, List.length_range]
    exact Nat.le_refl _
/-- a bound that a range may have (the choice is never reckoned) -/
def cRng (i : Int) : Prop := -(2 ^ 62) ≤ i ∧ i < 2 ^ 62
noncomputable instance (i : Int) : Decidable (cRng i) := Classical.propDecidable _
noncomputable def sRng1 (a : AF) : SF := fun ρ δ => (a ρ δ).bind fun p => match p.1 with
  | [.int j] => if cRng j then some (rng 0 j.toNat, .sh, p.2) else none
  | _ => none
noncomputable def sRng2 (a : AF) : SF := fun ρ δ => (a ρ δ).bind fun p => match p.1 with
  | [.int i, .int j] => if cRng i ∧ cRng j then some (rng i (j - i).toNat, .sh, p.2) else none
  | _ => none
theorem Reps.int1 {K : PySem.W.Frag} {g : Gh} {F : Fp} {H : Hp} {vs : List V} {j : Int} (r : Paired (Rd1 K g F H) vs [.int j]) : vs = [.int j] := by
  cases r with
  | cons r1 rr =>
    cases rr
    rw [r1.int]
theorem Reps.int2 {K : PySem.W.Frag} {g : Gh} {F : Fp} {H : Hp} {vs : List V} {i j : Int} (r : Paired (Rd1 K g F H) vs [.int i, .int j]) : vs = [.int i, .int j] := by
  cases r with
  | cons r1 rr =>
    cases rr with
    | cons r2 rr =>
      cases rr
      rw [r1.int, r2.int]
theorem di_rng1 {tg a : Expr} {fa : AF} {p pos : Pos} (hg : Gl X "range") (hm : X.mg "range" = none) (ha : DR X [a] fa) (hs : starEach [a] X.env = [(false, eval a X.env)] := by rfl) : DI X tg (.Call (.Name "range" p) [a] [] pos) (sRng1 fa) := by
  obtain ⟨t, pa, x⟩ := ha.ex
  refine ⟨_, pi_range1 hg hm pa hs, fun g F σ H ρ δ ds k δ' R S hf q => ?_⟩
  unfold sRng1 at hf
  cases e1 : fa ρ δ with
  | none => rw [e1] at hf; cases hf
  | some c =>
    obtain ⟨es, δ1⟩ := c
    rw [e1] at hf
    simp only [Option.bind_some] at hf
    split at hf
    · rename_i j
      split at hf
      · rename_i hj
        cases hf
        exact x g F σ H ρ δ _ _ _ S e1 fun vs H1 k1 S1 r1 => ⟨j, Reps.int1 r1, hj.1, hj.2, q _ H1 _ k1 S1 (src_rng 0 _) fun a z => z.elim⟩
      · cases hf
    · cases hf
theorem di_rng2 {tg a b : Expr} {fa : AF} {p pos : Pos} (hg : Gl X "range") (hm : X.mg "range" = none) (ha : DR X [a, b] fa) (hs : starEach [a, b] X.env = [(false, eval a X.env), (false, eval b X.env)] := by rfl) (hs2 : starEach [b] X.env = [(false, eval b X.env)] := by rfl) :
    DI X tg (.Call (.Name "range" p) [a, b] [] pos) (sRng2 fa) := by
  obtain ⟨t, pa, x⟩ := ha.ex
  refine ⟨_, pi_range2 hg hm pa hs hs2, fun g F σ H ρ δ ds k δ' R S hf q => ?_⟩
  unfold sRng2 at hf
  cases e1 : fa ρ δ with
  | none => rw [e1] at hf; cases hf
  | some c =>
    obtain ⟨es, δ1⟩ := c
    rw [e1] at hf
    simp only [Option.bind_some] at hf
    split at hf
    · rename_i i j
      split at hf
      · rename_i hj
        cases hf
        exact x g F σ H ρ δ _ _ _ S e1 fun vs H1 k1 S1 r1 => ⟨i, j, Reps.int2 r1, ⟨hj.1.1, hj.1.2, hj.2.1, hj.2.2⟩, q _ H1 _ k1 S1 (src_rng i _) fun a z => z.elim⟩
      · cases hf
    · cases hf
/-- a list, a tuple, the signs of a text -/
def sSeq (f : EF) : SF := fun ρ δ => (f ρ δ).bind fun p => match p.1 with
  | .lst ds => some (ds, p.2.1, p.2.2)
  | .tup ds => some (ds, .sh, p.2.2)
  | .str z => some (z.cps.toList.map fun c => .str ⟨#[c]⟩, .sh, p.2.2)
  | _ => none
theorem src_str {K : PySem.W.Frag} {g : Gh} {F : Fp} {H : Hp} (z : Str) : Src K g F H (Its z) (z.cps.toList.map fun c => .str ⟨#[c]⟩) (fun _ => False) where
  go := fun O H' hr ht hp i d e => by
    rw [List.getElem?_map] at e
    cases e1 : z.cps.toList[i]? with
    | none => rw [e1] at e; cases e
    | some c =>
      rw [e1] at e
      cases e
      have hi : i < z.cps.size := by
        have := (List.getElem?_eq_some_iff.mp e1).1
        simpa using this
      refine ⟨hi, fun x H2 y => ?_⟩
      obtain ⟨rfl, c', h1, rfl⟩ := y
      have e2 : z.cps[i]? = some c := by simpa using e1
      rw [e2] at h1
      cases h1
      exact ⟨Same.refl _, .str _⟩
  stop := fun H' hr ht => by
    show z.cps.size ≤ _
    rw [List.length_map, Array.length_toList]
    exact Nat.le_refl _
theorem di_seq {tg e : Expr} {f : EF} (h : DE X e f) : DI X tg e (sSeq f) := by
  obtain ⟨t, p, x⟩ := h.ex
  refine ⟨_, pi_or (pi_list p) (pi_or (pi_tup p) (pi_str p)), fun g F σ H ρ δ ds k δ' R S hf q => ?_⟩
  unfold sSeq at hf
  cases e1 : f ρ δ with
  | none => rw [e1] at hf; cases hf
  | some c =>
    obtain ⟨d, k0, δ1⟩ := c
    rw [e1] at hf
    simp only [Option.bind_some] at hf
    split at hf
    · rename_i es
      cases hf
      refine .inl (x g F σ H ρ δ _ _ _ _ S e1 fun v H1 k1 S1 r1 => ?_)
      obtain ⟨a, vs, rfl, h1, rs⟩ := (r1.rd S.good).lst
      refine ⟨a, rfl, ⟨vs, .inl h1⟩, q _ H1 _ k1 S1 (src_list h1 rs) fun b hb => ?_⟩
      subst hb
      refine ⟨fun z => rd_there h1 z, ?_, fun hk z => ?_⟩
      · rcases k with _ | _ | _
        · cases r1 with
          | lst _ n _ => exact fun z => n (.inr (.inl z))
        · obtain ⟨p', e', n, t'⟩ := r1
          cases e'
          exact fun z => S.good _ (.inr (.inl z)) n
        · obtain ⟨p', e', n, t'⟩ := r1
          cases e'
          exact n
      · rcases k with _ | _ | _
        · cases r1 with
          | lst _ n _ => exact n z
        · obtain ⟨p', e', n, t'⟩ := r1
          cases e'
          exact S.good _ z n
        · exact absurd rfl hk
    · rename_i es
      cases hf
      refine .inr (.inl (x g F σ H ρ δ _ _ _ _ S e1 fun v H1 k1 S1 r1 => ?_))
      obtain ⟨a, vs, rfl, h1, rs⟩ := (r1.rd S.good).tup
      exact ⟨a, rfl, ⟨vs, h1⟩, q _ H1 _ k1 S1 (src_tup h1 rs) fun b hb => hb.elim⟩
    · rename_i z
      cases hf
      refine .inr (.inr (x g F σ H ρ δ _ _ _ _ S e1 fun v H1 k1 S1 r1 => ?_))
      exact ⟨z, (r1.rd S.good).str, q _ H1 _ k1 S1 (src_str z) fun b hb => hb.elim⟩
    · cases hf
end
end DL
/-! D-layer, part h: for, while, comprehensions, what a def promises, calls of own defs. -/
namespace DL
open PySem PySem.Spec PyProof.Rows L2
section
variable {X : Cx}
/-! ### for -/
/-- the turns of a for -/
def forD (b : BF) (h : HF') : List D → HF'
  | [], ρ, δ => some (.nx, ρ, δ)
  | x :: xs, ρ, δ => (b x ρ).bind fun ρ1 => (h ρ1 δ).bind fun r => match r.1 with
    | .nx => forD b h xs r.2.1 r.2.2
    | .ct => forD b h xs r.2.1 r.2.2
    | .bk => some (.nx, r.2.1, r.2.2)
    | .rt d k => some (.rt d k, r.2.1, r.2.2)
def hFor (s : SF) (b : BF) (h : HF') : HF' := fun ρ δ => (s ρ δ).bind fun p => if p.2.1 = .br then none else forD b h p.1 ρ p.2.2
/-- the loop itself: J yields ds, whose roots nobody of us owns -/
theorem for_run {K : PySem.W.Frag} {H0 : Hp} {g : Gh} {F : Fp} {σ : L2.St} {H : Hp} {ρ ρ' : Rho} {δ δ' : Dr} {ds : List D} {J : It} {rt : Addr → Prop} {o : Ou} {D' : Ends} {b : BF} {h : HF'} {sl : List Nat} {tg : TG} {tb : TS}
    (hb : ∀ (g : Gh) (F : Fp) (σ : L2.St) (H : Hp) (ρ : Rho) (δ : Dr) (v : V) (d : D) (ρ' : Rho) (Q : L2.St → Hp → Prop), SR K g F σ ρ δ H → Rep K (Av g F) H v d → b d ρ = some ρ' → (∀ σ', SR K g F σ' ρ' δ H → (∀ own : List Nat, (∀ i, i ∈ sl → i ∈ own) → wipe σ' own = wipe σ own) → Q σ' H) → tg v σ H Q)
    (ht : ∀ (H0 : Hp) (g : Gh) (F : Fp) (σ : L2.St) (H : Hp) (ρ : Rho) (δ : Dr) (o : Ou) (ρ' : Rho) (δ' : Dr) (D' : Ends), SR K g F σ ρ δ H → SH H0 g F H → h ρ δ = some (o, ρ', δ') → Post K H0 g D' o ρ' δ' → tb D' σ H)
    (S : SR K g F σ ρ δ H) (W : SH H0 g F H) (src : Src K g F H J ds rt) (hr : ∀ a, rt a → H a ≠ none ∧ ¬ Av g F a) (hf : forD b h ds ρ δ = some (o, ρ', δ')) (q : Post K H0 g D' o ρ' δ') :
    ∃ Wv : Nat → Nat → L2.St → Hp → Prop, (∃ m, Wv 0 m σ H) ∧ ∀ i m σ H, Wv i m σ H →
      (J.stop i H ∧ D'.nx σ H) ∨ (J.go i H ∧ ∃ N : L2.St → Hp → Prop, (∀ σ' H', N σ' H' → ∃ m', m' < m ∧ Wv (i + 1) m' σ' H') ∧ ∀ x H', J.yld i H x H' → tg x σ H' fun σ2 H2 => tb { D' with nx := N, ct := N, bk := D'.nx } σ2 H2) := by
  refine ⟨fun i m σ1 H1 => m = ds.length - i ∧ i ≤ ds.length ∧ ∃ F1 ρ1 δ1, SR K g F1 σ1 ρ1 δ1 H1 ∧ SH (Base F H) g F1 H1 ∧ forD b h (ds.drop i) ρ1 δ1 = some (o, ρ', δ'), ⟨ds.length, rfl, Nat.zero_le _, F, ρ, δ, S, SH.inner S, hf⟩, ?_⟩
  rintro i m σ1 H1 ⟨rfl, hi, F1, ρ1, δ1, S1, W1, hf1⟩
  have st1 : ∀ a o, rt a → H a = some o → H1 a = some o := fun a o ha he => (stay_at S W1 he (hr a ha).2).1
  have st2 : ∀ a xs, SqT K H a xs → SqT K H1 a xs := fun a xs he => stay_T S W1 he
  by_cases hlt : i < ds.length
  · have e0 : ds[i]? = some ds[i] := List.getElem?_eq_getElem hlt
    obtain ⟨gg, yy⟩ := src.go (Av g F1) H1 st1 st2 (fun v d r => Rep.stay S W1 r) i _ e0
    refine .inr ⟨gg, fun σ2 H2 => ∃ F2 ρ2 δ2, SR K g F2 σ2 ρ2 δ2 H2 ∧ SH (Base F H) g F2 H2 ∧ forD b h (ds.drop (i + 1)) ρ2 δ2 = some (o, ρ', δ'), fun σ2 H2 ⟨F2, ρ2, δ2, a1, a2, a3⟩ => ⟨ds.length - (i + 1), by omega, rfl, hlt, F2, ρ2, δ2, a1, a2, a3⟩, fun x H2 y => ?_⟩
    obtain ⟨sm, rx⟩ := yy x H2 y
    rw [List.drop_eq_getElem_cons hlt] at hf1
    simp only [forD] at hf1
    cases e1 : b ds[i] ρ1 with
    | none => rw [e1] at hf1; cases hf1
    | some ρ2 =>
      rw [e1] at hf1
      simp only [Option.bind_some] at hf1
      refine hb g F1 σ1 H2 ρ1 δ1 x _ ρ2 _ (S1.same sm) rx e1 fun σ3 S3 _ => ?_
      cases e2 : h ρ2 δ1 with
      | none => rw [e2] at hf1; cases hf1
      | some c =>
        obtain ⟨o3, ρ3, δ3⟩ := c
        rw [e2] at hf1
        simp only [Option.bind_some] at hf1
        have W3 : SH (Base F H) g F1 H2 := W1.grow (Keep.of_same sm)
        cases o3 with
        | nx => exact ht (Base F H) g F1 σ3 H2 ρ2 δ1 .nx ρ3 δ3 _ S3 W3 e2 fun F4 σ4 H4 S4 W4 => ⟨F4, ρ3, δ3, S4, W4, hf1⟩
        | ct => exact ht (Base F H) g F1 σ3 H2 ρ2 δ1 .ct ρ3 δ3 _ S3 W3 e2 fun F4 σ4 H4 S4 W4 => ⟨F4, ρ3, δ3, S4, W4, hf1⟩
        | bk =>
          cases hf1
          exact ht (Base F H) g F1 σ3 H2 ρ2 δ1 .bk _ _ _ S3 W3 e2 fun F4 σ4 H4 S4 W4 => q F4 σ4 H4 S4 (W.outer W4)
        | rt d k =>
          cases hf1
          refine ht H0 g F1 σ3 H2 ρ2 δ1 (.rt d k) _ _ _ S3 ((W.outer W3)) e2 fun v H4 fin => ?_
          exact q v H4 fin
  · have e : i = ds.length := by omega
    subst e
    rw [List.drop_length] at hf1
    cases hf1
    exact .inl ⟨src.stop H1 st1 st2, q F1 σ1 H1 S1 (W.outer W1)⟩
theorem ds_for {tg iter : Expr} {body : List Stmt} {pos : Pos} {s : SF} {b : BF} {h : HF'} {sl : List Nat} (hp : PassesOwn (model X.prog X.w) X.A X.env X.xe) (hc : X.calm = true) (hi : DI X tg iter s) (hg : DG X tg b sl) (hb : DSs X body h)
    (hs : ∀ x, foldedSetIterable iter X.env x = pure x := by intro _; rfl) : DS X (.For tg iter body [] pos) (hFor s b h) := by
  obtain ⟨wi, p1, x1⟩ := hi.ex
  obtain ⟨tg', p2, x2⟩ := hg.ex
  obtain ⟨tb, p3, x3⟩ := hb.ex
  refine ⟨_, ps_for hp hc p1 p2 p3 hs, fun H0 g F σ H ρ δ o ρ' δ' D' S W hf q => ?_⟩
  unfold hFor at hf
  cases e1 : s ρ δ with
  | none => rw [e1] at hf; cases hf
  | some c =>
    obtain ⟨ds, k, δ1⟩ := c
    rw [e1] at hf
    simp only [Option.bind_some] at hf
    split at hf
    · cases hf
    · rename_i hk
      exact x1 g F σ H ρ δ ds k δ1 _ S e1 fun J H1 rt k1 S1 src hr => for_run x2 x3 S1 (W.grow k1) src (fun a z => ⟨(hr a z).1, (hr a z).2.2 hk⟩) hf q
/-- for x in y: y one's own list, out of hand from then on -/
def hForV (j : Nat) (b : BF) (h : HF') : HF' := fun ρ δ => match ρ[j]? with
  | some (.ow (.lst ds)) => forD b h ds (ρ.set j (.sh (.lst ds))) δ
  | some (.sh (.lst ds)) => forD b h ds ρ δ
  | some (.sh (.tup ds)) => forD b h ds ρ δ
  | some (.sh (.str z)) => forD b h (z.cps.toList.map fun c => .str ⟨#[c]⟩) ρ δ
  | _ => none
theorem ds_forV {tg : Expr} {body : List Stmt} {pos py : Pos} {j : Nat} {y : Str} {b : BF} {h : HF'} {sl : List Nat} (hp : PassesOwn (model X.prog X.w) X.A X.env X.xe) (hc : X.calm = true) (hy : PE X (.Name y py) (tVar j)) (hg : DG X tg b sl) (hb : DSs X body h)
    (hs : ∀ x, foldedSetIterable (.Name y py) X.env x = pure x := by intro _; rfl) : DS X (.For tg (.Name y py) body [] pos) (hForV j b h) := by
  obtain ⟨tg', p2, x2⟩ := hg.ex
  obtain ⟨tb, p3, x3⟩ := hb.ex
  refine ⟨_, ps_for hp hc (pi_or (pi_list hy) (pi_or (pi_tup hy) (pi_str hy))) p2 p3 hs, fun H0 g F σ H ρ δ o ρ' δ' D' S W hf q => ?_⟩
  unfold hForV at hf
  split at hf
  · rename_i ds e0
    obtain ⟨p, a1, a2, S2⟩ := S.freeze e0
    cases a2 with
    | lst h1 n r1 =>
      rename_i vs
      exact .inl ⟨_, a1, _, rfl, ⟨_, .inl (.inl h1)⟩, for_run x2 x3 S2 (W.sub (FSub.nil F j)) (src_list (.inl h1) r1) (fun a z => by rw [z]; exact ⟨fun z => rd_there (.inl h1) z, n⟩) hf q⟩
  · rename_i ds e0
    obtain ⟨v, a1, a2⟩ := S.slot j _ e0
    cases a2 with
    | lst h1 n r1 =>
      exact .inl ⟨_, a1, _, rfl, ⟨_, .inl (.inl h1)⟩, for_run x2 x3 S W (src_list (.inl h1) r1) (fun a z => by rw [z]; exact ⟨fun z => rd_there (.inl h1) z, n⟩) hf q⟩
  · rename_i ds e0
    obtain ⟨v, a1, a2⟩ := S.slot j _ e0
    cases a2 with
    | tup h1 r1 => exact .inr (.inl ⟨_, a1, _, rfl, ⟨_, h1⟩, for_run x2 x3 S W (src_tup h1 r1) (fun a z => z.elim) hf q⟩)
  · rename_i z e0
    obtain ⟨v, a1, a2⟩ := S.slot j _ e0
    cases a2
    exact .inr (.inr ⟨_, a1, _, rfl, for_run x2 x3 S W (src_str z) (fun a z => z.elim) hf q⟩)
  · cases hf
/-! ### while -/
/-- so many turns at most -/
def whD (c : TF) (h : HF') : Nat → HF'
  | 0, _, _ => none
  | n + 1, ρ, δ => (c ρ δ).bind fun p => if p.1 = true then (h ρ p.2).bind fun r => match r.1 with
      | .nx => whD c h n r.2.1 r.2.2
      | .ct => whD c h n r.2.1 r.2.2
      | .bk => some (.nx, r.2.1, r.2.2)
      | .rt d k => some (.rt d k, r.2.1, r.2.2)
    else some (.nx, ρ, p.2)
theorem whD_mono {c : TF} {h : HF'} : ∀ {n m : Nat} {ρ : Rho} {δ : Dr} {r : Ou × Rho × Dr}, n ≤ m → whD c h n ρ δ = some r → whD c h m ρ δ = some r
  | 0, _, _, _, _, _, e => by cases e
  | n + 1, 0, _, _, _, hl, _ => absurd hl (by omega)
  | n + 1, m + 1, ρ, δ, r, hl, e => by
    simp only [whD] at e ⊢
    cases e1 : c ρ δ with
    | none => rw [e1] at e; cases e
    | some p =>
      obtain ⟨b, δ1⟩ := p
      rw [e1] at e
      simp only [Option.bind_some] at e ⊢
      cases b with
      | false => exact e
      | true =>
        simp only [if_true] at e ⊢
        cases e2 : h ρ δ1 with
        | none => rw [e2] at e; cases e
        | some q =>
          obtain ⟨o, ρ2, δ2⟩ := q
          rw [e2] at e
          simp only [Option.bind_some] at e ⊢
          cases o with
          | nx => exact whD_mono (by omega) e
          | ct => exact whD_mono (by omega) e
          | bk => exact e
          | rt d k => exact e
/-- more turns than any loop takes -/
def turns : Nat := 1000000000
def hWhile (c : TF) (h : HF') : HF' := fun ρ δ => whD c h turns ρ δ
theorem ds_while {c : Expr} {body : List Stmt} {pos : Pos} {tc : TF} {h : HF'} (hp : PassesOwn (model X.prog X.w) X.A X.env X.xe) (hc : DT X c tc) (hb : DSs X body h) : DS X (.While c body [] pos) (hWhile tc h) := by
  obtain ⟨t1, p1, x1⟩ := hc.ex
  obtain ⟨t2, p2, x2⟩ := hb.ex
  refine ⟨_, ps_while hp p1 p2, fun H0 g F σ H ρ δ o ρ' δ' D' S W hf q => ?_⟩
  refine ⟨fun n σ1 H1 => ∃ F1 ρ1 δ1, SR X.K g F1 σ1 ρ1 δ1 H1 ∧ SH H0 g F1 H1 ∧ whD tc h n ρ1 δ1 = some (o, ρ', δ'), ⟨turns, F, ρ, δ, S, W, hf⟩, ?_⟩
  rintro n σ1 H1 ⟨F1, ρ1, δ1, S1, W1, hf1⟩
  cases n with
  | zero => cases hf1
  | succ n =>
    simp only [whD] at hf1
    cases e1 : tc ρ1 δ1 with
    | none => rw [e1] at hf1; cases hf1
    | some p =>
      obtain ⟨b, δ2⟩ := p
      rw [e1] at hf1
      simp only [Option.bind_some] at hf1
      refine x1 g F1 σ1 H1 ρ1 δ1 b δ2 _ S1 e1 fun H2 k2 S2 => ?_
      cases b with
      | false =>
        rw [if_neg Bool.false_ne_true]
        cases hf1
        exact q F1 σ1 H2 S2 (W1.grow k2)
      | true =>
        rw [if_pos rfl]
        simp only [if_true] at hf1
        cases e2 : h ρ1 δ2 with
        | none => rw [e2] at hf1; cases hf1
        | some c =>
          obtain ⟨o3, ρ3, δ3⟩ := c
          rw [e2] at hf1
          simp only [Option.bind_some] at hf1
          refine ⟨fun σ3 H3 => ∃ F3 ρ3 δ3, SR X.K g F3 σ3 ρ3 δ3 H3 ∧ SH H0 g F3 H3 ∧ whD tc h n ρ3 δ3 = some (o, ρ', δ'), fun σ3 H3 z => ⟨n, Nat.lt_succ_self n, z⟩, ?_⟩
          cases o3 with
          | nx => exact x2 H0 g F1 σ1 H2 ρ1 δ2 .nx ρ3 δ3 _ S2 (W1.grow k2) e2 fun F4 σ4 H4 S4 W4 => ⟨F4, ρ3, δ3, S4, W4, hf1⟩
          | ct => exact x2 H0 g F1 σ1 H2 ρ1 δ2 .ct ρ3 δ3 _ S2 (W1.grow k2) e2 fun F4 σ4 H4 S4 W4 => ⟨F4, ρ3, δ3, S4, W4, hf1⟩
          | bk =>
            cases hf1
            exact x2 H0 g F1 σ1 H2 ρ1 δ2 .bk _ _ _ S2 (W1.grow k2) e2 fun F4 σ4 H4 S4 W4 => q F4 σ4 H4 S4 W4
          | rt d k =>
            cases hf1
            exact x2 H0 g F1 σ1 H2 ρ1 δ2 (.rt d k) _ _ _ S2 (W1.grow k2) e2 fun v H4 fin => q v H4 fin
/-! ### list comprehensions -/
/-- the tests of a comprehension -/
structure DTs (X : Cx) (ifs : List Expr) (f : TF) : Prop where
  ex : ∃ t : TT, PTs X ifs t ∧ ∀ (g : Gh) (F : Fp) (σ : L2.St) (H : Hp) (ρ : Rho) (δ : Dr) (b : Bool) (δ' : Dr) (Q : Bool → Hp → Prop), SR X.K g F σ ρ δ H → f ρ δ = some (b, δ') →
    (∀ H', Keep g.Pd H H' → SR X.K g F σ ρ δ' H' → Q b H') → t σ H Q
def fYes : TF := fun _ δ => some (true, δ)
theorem dts_nil : DTs X [] fYes := ⟨_, pts_nil, fun g F σ H ρ δ b δ' Q S hf q => by
  cases hf
  exact q H (.refl _ _) S⟩
theorem dts_one {c : Expr} {f : TF} (h : DT X c f) : DTs X [c] f := by
  obtain ⟨t, p, x⟩ := h.ex
  exact ⟨t, pts_one p, x⟩
/-- the names of a comprehension's block are forgotten -/
def wip (ρ : Rho) : List Nat → Rho
  | [] => ρ
  | v :: vs => (wip ρ vs).set v .un
def lcD (b : BF) (t : TF) (f : EF) (ρ : Rho) : List D → Dr → Option (List D × Dr)
  | [], δ => some ([], δ)
  | x :: xs, δ => (b x ρ).bind fun ρ1 => (t ρ1 δ).bind fun c => if c.1 = true then (f ρ1 c.2).bind fun p => if p.2.1 = .br then none else (lcD b t f ρ xs p.2.2).map fun q => (p.1 :: q.1, q.2)
    else lcD b t f ρ xs c.2
def fLc (s : SF) (b : BF) (t : TF) (f : EF) (own : List Nat) : EF := fun ρ δ => (s ρ δ).bind fun p => if p.1.length ≤ sizeLine then (lcD b t f (wip ρ own) p.1 p.2.2).map fun q => (.lst q.1, .ow, q.2) else none
theorem SR.wip {K : PySem.W.Frag} {g : Gh} {F : Fp} {σ : L2.St} {ρ : Rho} {δ : Dr} {H : Hp} (S : SR K g F σ ρ δ H) : ∀ own : List Nat, SR K g F (wipe σ own) (wip ρ own) δ H
  | [] => S
  | v :: vs => by
    have T := (S.wip vs).drop v
    refine ⟨by show ((wipe σ vs).set v none).length = ((DL.wip ρ vs).set v .un).length; rw [List.length_set]; exact T.len, fun i s h => ?_, T.apart, T.new, T.dom, T.there, T.mt, T.deal⟩
    have h : ((DL.wip ρ vs).set v .un)[i]? = some s := h
    rcases getSet h with ⟨e, e2, hl⟩ | ⟨e, h'⟩
    · subst e2
      trivial
    · have z := T.slot i s h
      show SlotR K g F H i ((wipe σ vs).set v none)[i]? s
      rw [List.getElem?_set_ne (Ne.symm e)]
      exact z
theorem wipe_none {σ : L2.St} : ∀ {own : List Nat} {i : Nat}, i ∈ own → i < σ.length → (wipe σ own)[i]? = some none
  | v :: vs, i, h, hl => by
    show ((wipe σ vs).set v none)[i]? = some none
    by_cases e : v = i
    · subst e
      exact List.getElem?_set_self (by rw [wipe_length]; exact hl)
    · rw [List.getElem?_set_ne e]
      rcases List.mem_cons.mp h with h | h
      · exact absurd h.symm e
      · exact wipe_none h hl
theorem wipe_same {σ : L2.St} : ∀ {own : List Nat} {i : Nat}, i ∉ own → (wipe σ own)[i]? = σ[i]?
  | [], _, _ => rfl
  | v :: vs, i, h => by
    rw [List.mem_cons, not_or] at h
    show ((wipe σ vs).set v none)[i]? = _
    rw [List.getElem?_set_ne (Ne.symm h.1)]
    exact wipe_same h.2
theorem wipe_wipe (σ : L2.St) (own : List Nat) : wipe (wipe σ own) own = wipe σ own := by
  apply List.ext_getElem?
  intro i
  by_cases h : i ∈ own
  · by_cases hl : i < σ.length
    · rw [wipe_none h (by rw [wipe_length]; exact hl), wipe_none h hl]
    · rw [List.getElem?_eq_none (by rw [wipe_length, wipe_length]; omega), List.getElem?_eq_none (by rw [wipe_length]; omega)]
  · rw [wipe_same h]
theorem lc_run {K : PySem.W.Frag} {g : Gh} {F : Fp} {σ : L2.St} {H : Hp} {ρ : Rho} {δ δ' : Dr} {ds out : List D} {J : It} {rt : Addr → Prop} {b : BF} {t : TF} {f : EF} {own sl : List Nat} {tg : TG} {tt : TT} {te : TE} {Q : VK}
    (hb : ∀ (g : Gh) (F : Fp) (σ : L2.St) (H : Hp) (ρ : Rho) (δ : Dr) (v : V) (d : D) (ρ' : Rho) (Q : L2.St → Hp → Prop), SR K g F σ ρ δ H → Rep K (Av g F) H v d → b d ρ = some ρ' → (∀ σ', SR K g F σ' ρ' δ H → (∀ own : List Nat, (∀ i, i ∈ sl → i ∈ own) → wipe σ' own = wipe σ own) → Q σ' H) → tg v σ H Q)
    (ht : ∀ (g : Gh) (F : Fp) (σ : L2.St) (H : Hp) (ρ : Rho) (δ : Dr) (b : Bool) (δ' : Dr) (Q : Bool → Hp → Prop), SR K g F σ ρ δ H → t ρ δ = some (b, δ') → (∀ H', Keep g.Pd H H' → SR K g F σ ρ δ' H' → Q b H') → tt σ H Q)
    (he : ∀ (g : Gh) (F : Fp) (σ : L2.St) (H : Hp) (ρ : Rho) (δ : Dr) (d : D) (k : Kd) (δ' : Dr) (Q : VK), SR K g F σ ρ δ H → f ρ δ = some (d, k, δ') → (∀ v H', Keep g.Pd H H' → SR K g F σ ρ δ' H' → Res K g F H H' k v d → Q v H') → te σ H Q)
    (S : SR K g F σ ρ δ H) (src : Src K g F H J ds rt) (hr : ∀ a, rt a → H a ≠ none ∧ ¬ g.Pd a) (hl : ds.length ≤ sizeLine) (hf : lcD b t f (wip ρ own) ds δ = some (out, δ'))
    (hw : ∀ i, i ∈ sl → i ∈ own)
    (q : ∀ D H', Keep g.Pd H H' → SR K g F σ ρ δ' H' → Res K g F H H' .ow (.ref D) (.lst out) → Q (.ref D) H') :
    ∀ D, H D = none → ∃ Wv : Nat → Nat → Hp → Prop, (∃ m, Wv 0 m (upd H D (.lst []))) ∧ ∀ i m H, Wv i m H →
      (J.stop i H ∧ Q (.ref D) H) ∨ (J.go i H ∧ ∃ Nx : Hp → Prop, (∀ H', Nx H' → ∃ m', m' < m ∧ Wv (i + 1) m' H') ∧ ∀ x H', J.yld i H x H' → tg x (wipe σ own) H' fun σ2 H2 => wipe σ2 own = wipe σ own ∧ tt σ2 H2 fun b H3 =>
        if b = true then te σ2 H3 fun y H4 => ∃ acc, H4 D = some (.lst acc) ∧ acc.length < sizeLine ∧ Nx (upd H4 D (.lst (acc ++ [y]))) else Nx H3) := by
  intro D hD
  have npd : ¬ g.Pd D := fun z => S.fresh hD (.inr (.inl z))
  -- the new list is nobody's but ours
  let g' : Gh := ⟨fun a => g.A a ∨ a = D, g.P⟩
  refine ⟨fun i m H1 => m = ds.length - i ∧ i ≤ ds.length ∧ ∃ δ1 acc os rest, H1 D = some (.lst acc) ∧ Reps K (Av g' F) H1 acc os ∧ os.length ≤ i ∧ Keep g.Pd H H1 ∧ SR K g' F σ ρ δ1 H1 ∧ lcD b t f (wip ρ own) (ds.drop i) δ1 = some (rest, δ') ∧ os ++ rest = out,
    ⟨ds.length, rfl, Nat.zero_le _, δ, [], [], out, upd_same, .nil, Nat.le_refl _, Keep.of_same (same_upd hD), S.wide (Keep.of_same (same_upd hD)) (S.deal.same (same_upd hD)) hD (by rw [upd_same]; simp), hf, rfl⟩, ?_⟩
  rintro i m H1 ⟨rfl, hi, δ1, acc, os, rest, a1, a2, a3, k1, S1, a4, a5⟩
  have av : ∀ a, Av g' F a → Av g F a ∨ H a = none := by
    rintro a ((z | z) | z | z)
    · exact .inl (.inl z)
    · exact .inr (by rw [z]; exact hD)
    · exact .inl (.inr (.inl z))
    · exact .inl (.inr (.inr z))
  have st1 : ∀ a o, rt a → H a = some o → H1 a = some o := fun a o ha h => k1.at_ h (hr a ha).2
  have st2 : ∀ a xs, SqT K H a xs → SqT K H1 a xs := fun a xs h => SqT.keep k1 h
  have st3 : ∀ v d, Rep K (Av g F) H v d → Rep K (Av g' F) H1 v d := fun v d r => (r.more av).keep k1 fun a z => .inr (.inl z)
  by_cases hlt : i < ds.length
  · have e0 : ds[i]? = some ds[i] := List.getElem?_eq_getElem hlt
    obtain ⟨gg, yy⟩ := src.go (Av g' F) H1 st1 st2 st3 i _ e0
    refine .inr ⟨gg, fun H2 => ∃ δ2 acc2 os2 rest2, H2 D = some (.lst acc2) ∧ Reps K (Av g' F) H2 acc2 os2 ∧ os2.length ≤ i + 1 ∧ Keep g.Pd H H2 ∧ SR K g' F σ ρ δ2 H2 ∧ lcD b t f (wip ρ own) (ds.drop (i + 1)) δ2 = some (rest2, δ') ∧ os2 ++ rest2 = out,
      fun H2 ⟨δ2, acc2, os2, rest2, z⟩ => ⟨ds.length - (i + 1), by omega, rfl, hlt, δ2, acc2, os2, rest2, z⟩, fun x H2 y => ?_⟩
    obtain ⟨sm, rx⟩ := yy x H2 y
    have a4' := a4
    rw [List.drop_eq_getElem_cons hlt] at a4
    simp only [lcD] at a4
    cases e1 : b ds[i] (wip ρ own) with
    | none => rw [e1] at a4; cases a4
    | some ρ2 =>
      rw [e1] at a4
      simp only [Option.bind_some] at a4
      have S2 := S1.same sm
      refine hb g' F (wipe σ own) H2 (wip ρ own) δ1 x _ ρ2 _ (S2.wip own) rx e1 fun σ2 T2 hw3 => ⟨(hw3 own hw).trans (wipe_wipe σ own), ?_⟩
      cases e2 : t ρ2 δ1 with
      | none => rw [e2] at a4; cases a4
      | some c =>
        obtain ⟨c, δ2⟩ := c
        rw [e2] at a4
        simp only [Option.bind_some] at a4
        refine ht g' F σ2 H2 ρ2 δ1 c δ2 _ T2 e2 fun H3 k3 T3 => ?_
        have k13 : Keep g.Pd H1 H3 := (Keep.of_same sm).trans k3
        have S3 : SR K g' F σ ρ δ2 H3 := S1.grow k13 T3.deal
        have b1 : H3 D = some (.lst acc) := k13.at_ a1 npd
        have b2 : Reps K (Av g' F) H3 acc os := a2.keep k13 fun a z => .inr (.inl z)
        cases c with
        | false =>
          rw [if_neg Bool.false_ne_true]
          simp only [Bool.false_eq_true, if_false] at a4
          exact ⟨δ2, acc, os, rest, b1, b2, by omega, k1.trans k13, S3, a4, a5⟩
        | true =>
          rw [if_pos rfl]
          simp only [if_true] at a4
          cases e3 : f ρ2 δ2 with
          | none => rw [e3] at a4; cases a4
          | some c =>
            obtain ⟨d, kd, δ3⟩ := c
            rw [e3] at a4
            simp only [Option.bind_some] at a4
            split at a4
            · cases a4
            · rename_i hk
              cases e4 : lcD b t f (wip ρ own) (ds.drop (i + 1)) δ3 with
              | none => rw [e4] at a4; cases a4
              | some c =>
                obtain ⟨r2, δ4⟩ := c
                rw [e4] at a4
                cases a4
                refine he g' F σ2 H3 ρ2 δ2 d kd δ3 _ T3 e3 fun v H4 k4 T4 r4 => ?_
                have k34 : Keep g.Pd H3 H4 := k4
                have c1 : H4 D = some (.lst acc) := k34.at_ b1 npd
                have rv := r4.rep T3.good hk
                have c2 : Reps K (Av g' F) H4 (acc ++ [v]) (os ++ [d]) := (b2.keep k34 fun a z => .inr (.inl z)).append (.cons rv .nil)
                have kD : Keep (fun a => a = D) H4 (upd H4 D (.lst (acc ++ [v]))) := keep_upd c1 trivial trivial rfl
                have hla := b2.length
                refine ⟨acc, c1, by omega, δ3, acc ++ [v], os ++ [d], r2, upd_same, c2.keep kD fun a z => .inl (.inr z), by rw [List.length_append, List.length_singleton]; omega, ?_, ?_, e4, by rw [← a5]; simp⟩
                · intro a o h
                  have na : a ≠ D := fun z => by rw [z, hD] at h; cases h
                  rcases (k1.trans (k13.trans k34)) a o h with h1 | ⟨p, m, o', h1, m1⟩
                  · exact .inl (by rw [upd_ne na]; exact h1)
                  · exact .inr ⟨p, m, o', by rw [upd_ne na]; exact h1, m1⟩
                · have S4 : SR K g' F σ ρ δ3 H4 := S3.grow k34 T4.deal
                  refine ⟨S4.len, fun j s h => ?_, S4.apart, S4.new, S4.dom, fun a h => kD.there (S4.there a h), fun j a h => ?_, fun p' q' e => ?_⟩
                  · have z := S4.slot j s h
                    cases s with
                    | un => trivial
                    | sh d =>
                      obtain ⟨x, a, r⟩ := z
                      exact ⟨x, a, r.keep kD fun a z => .inl (.inr z)⟩
                    | ow d =>
                      obtain ⟨p', a, hf', tp⟩ := z
                      exact ⟨p', a, hf', tp.keep kD (fun a z => .inl (.inr z)) fun z => (S4.new j p' (by rw [hf']; simp)).1 (.inr z)⟩
                    | dl => exact z
                  · obtain ⟨o, ho, mo⟩ := S4.mt j a h
                    exact ⟨o, kD.at_ ho fun z => (S4.new j a h).1 (.inr z), mo⟩
                  · obtain ⟨h1, h2, h3⟩ := S4.deal p' q' e
                    exact ⟨h1, kD.at_ h2 fun z => npd ⟨p', q', e, .inl z.symm⟩, kD.at_ h3 fun z => npd ⟨p', q', e, .inr z.symm⟩⟩
  · have e : i = ds.length := by omega
    subst e
    rw [List.drop_length] at a4
    cases a4
    rw [List.append_nil] at a5
    subst a5
    refine .inl ⟨src.stop H1 st1 st2, q D H1 k1 ⟨S1.len, fun j s h => ?_, S1.apart, fun j a h => ⟨fun z => (S1.new j a h).1 (.inl z), (S1.new j a h).2⟩, fun a h => S1.dom a (.inl h), fun a h => S1.there a (h.elim (fun z => .inl (.inl z)) .inr), S1.mt, S1.deal⟩ ⟨D, rfl, hD, acc, a1, a2.weak fun a z => ?_⟩⟩
    · have z := S1.slot j s h
      have wk : ∀ a, Av g F a → Av g' F a := fun a z => z.elim (fun z => .inl (.inl z)) .inr
      cases s with
      | un => trivial
      | sh d =>
        obtain ⟨x, a, r⟩ := z
        exact ⟨x, a, r.weak wk⟩
      | ow d =>
        obtain ⟨p', a, hf', tp⟩ := z
        exact ⟨p', a, hf', tp.weak wk⟩
      | dl => exact z
    · rcases z with (z | z) | z
      · exact .inl (.inl z)
      · exact .inr z
      · exact .inl (.inr z)
theorem de_lc {elt tg iter : Expr} {ifs : List Expr} {scope : Scope} {own : List (Str × Nat)} {pos : Pos} {s : SF} {b : BF} {t : TF} {f : EF} {sl : List Nat} (hc : X.calm = true) (hN : X.N.Nodup) (hi : DI X tg iter s) (ok : BlkOk X.N X.env.scope scope own)
    (hg : ∃ g0 : TG, (∀ (s : Shared) (H : Hp) (C : Addr) (cl : List (Str × Addr)) (fp : List Addr), PG (X.blk s H scope (compEnvC scope cl C X.env) fp) tg g0) ∧ ∀ (g : Gh) (F : Fp) (σ : L2.St) (H : Hp) (ρ : Rho) (δ : Dr) (v : V) (d : D) (ρ' : Rho) (Q : L2.St → Hp → Prop), SR X.K g F σ ρ δ H → Rep X.K (Av g F) H v d → b d ρ = some ρ' →
      (∀ σ', SR X.K g F σ' ρ' δ H → (∀ own : List Nat, (∀ i, i ∈ sl → i ∈ own) → wipe σ' own = wipe σ own) → Q σ' H) → g0 v σ H Q)
    (ht : ∃ t0 : TT, (∀ (s : Shared) (H : Hp) (C : Addr) (cl : List (Str × Addr)) (fp : List Addr), PTs (X.blk s H scope (compEnvC scope cl C X.env) fp) ifs t0) ∧ ∀ (g : Gh) (F : Fp) (σ : L2.St) (H : Hp) (ρ : Rho) (δ : Dr) (b : Bool) (δ' : Dr) (Q : Bool → Hp → Prop), SR X.K g F σ ρ δ H → t ρ δ = some (b, δ') →
      (∀ H', Keep g.Pd H H' → SR X.K g F σ ρ δ' H' → Q b H') → t0 σ H Q)
    (he : ∃ e0 : TE, (∀ (s : Shared) (H : Hp) (C : Addr) (cl : List (Str × Addr)) (fp : List Addr), PE (X.blk s H scope (compEnvC scope cl C X.env) fp) elt e0) ∧ ∀ (g : Gh) (F : Fp) (σ : L2.St) (H : Hp) (ρ : Rho) (δ : Dr) (d : D) (k : Kd) (δ' : Dr) (Q : VK), SR X.K g F σ ρ δ H → f ρ δ = some (d, k, δ') →
      (∀ v H', Keep g.Pd H H' → SR X.K g F σ ρ δ' H' → Res X.K g F H H' k v d → Q v H') → e0 σ H Q)
    (hsl : ∀ i, i ∈ sl → i ∈ own.map (·.2)) (hs : ∀ x, foldedSetIterable iter X.env x = pure x := by intro _; rfl) : DE X (.ListComp elt [⟨tg, iter, ifs, 0⟩] scope pos) (fLc s b t f (own.map (·.2))) := by
  obtain ⟨wi, p1, x1⟩ := hi.ex
  obtain ⟨g0, pg, xg⟩ := hg
  obtain ⟨t0, pt, xt⟩ := ht
  obtain ⟨e0, pe, xe⟩ := he
  refine ⟨_, pe_lc hc hN p1 ok pg pt pe hs, fun g F σ H ρ δ d k δ' Q S hf q => ?_⟩
  unfold fLc at hf
  cases e1 : s ρ δ with
  | none => rw [e1] at hf; cases hf
  | some c =>
    obtain ⟨ds, k0, δ1⟩ := c
    rw [e1] at hf
    simp only [Option.bind_some] at hf
    split at hf
    · rename_i hl
      cases e2 : lcD b t f (wip ρ (own.map (·.2))) ds δ1 with
      | none => rw [e2] at hf; cases hf
      | some c =>
        obtain ⟨out, δ2⟩ := c
        rw [e2] at hf
        cases hf
        refine x1 g F σ H ρ δ ds k0 δ1 _ S e1 fun J H1 rt k1 S1 src hr => ?_
        exact lc_run xg xt xe S1 src (fun a z => ⟨(hr a z).1, (hr a z).2.1⟩) hl e2 hsl fun D H2 k2 S2 r2 => q _ H2 (k1.trans k2) S2 (r2.earlier k1)
    · cases hf
/-- the reading that an expression's meaning gives, whatever the context -/
def tD (K : PySem.W.Frag) (f : EF) : TE := fun σ H Q => ∃ (g : Gh) (F : Fp) (ρ : Rho) (δ : Dr) (d : D) (k : Kd) (δ' : Dr), SR K g F σ ρ δ H ∧ f ρ δ = some (d, k, δ') ∧ ∀ v H', Keep g.Pd H H' → SR K g F σ ρ δ' H' → Res K g F H H' k v d → Q v H'
theorem DE.can {e : Expr} {f : EF} (h : DE X e f) : PE X e (tD X.K f) := by
  obtain ⟨t, p, x⟩ := h.ex
  refine ⟨fun pins s σ H Q I ⟨g, F, ρ, δ, d, k, δ', S, hf, q⟩ => p.run pins s σ H Q I ?_⟩
  exact x g F σ H ρ δ d k δ' Q S hf q
def tT (K : PySem.W.Frag) (f : TF) : TT := fun σ H Q => ∃ (g : Gh) (F : Fp) (ρ : Rho) (δ : Dr) (b : Bool) (δ' : Dr), SR K g F σ ρ δ H ∧ f ρ δ = some (b, δ') ∧ ∀ H', Keep g.Pd H H' → SR K g F σ ρ δ' H' → Q b H'
theorem DTs.can {ifs : List Expr} {f : TF} (h : DTs X ifs f) : PTs X ifs (tT X.K f) := by
  obtain ⟨t, p, x⟩ := h.ex
  refine ⟨fun pins s σ H Q I ⟨g, F, ρ, δ, b, δ', S, hf, q⟩ => p.run pins s σ H Q I ?_⟩
  exact x g F σ H ρ δ b δ' Q S hf q
def tGt (K : PySem.W.Frag) (b : BF) (sl : List Nat) : TG := fun v σ H Q => ∃ (g : Gh) (F : Fp) (ρ : Rho) (δ : Dr) (d : D) (ρ' : Rho), SR K g F σ ρ δ H ∧ Rep K (Av g F) H v d ∧ b d ρ = some ρ' ∧ ∀ σ', SR K g F σ' ρ' δ H → (∀ own : List Nat, (∀ i, i ∈ sl → i ∈ own) → wipe σ' own = wipe σ own) → Q σ' H
theorem DG.can {tg : Expr} {b : BF} {sl : List Nat} (h : DG X tg b sl) : PG X tg (tGt X.K b sl) := by
  obtain ⟨t, p, x⟩ := h.ex
  refine ⟨fun pins s σ H v u Q I r ⟨g, F, ρ, δ, d, ρ', S, rp, hb, q⟩ => p.run pins s σ H v u Q I r ?_⟩
  exact x g F σ H ρ δ v d ρ' Q S rp hb q
/-- [elt for tg in iter if ..] -/
theorem de_list {elt tg iter : Expr} {ifs : List Expr} {scope : Scope} {own : List (Str × Nat)} {pos : Pos} {s : SF} {b : BF} {t : TF} {f : EF} {sl : List Nat} (hc : X.calm = true) (hN : X.N.Nodup) (hi : DI X tg iter s) (ok : BlkOk X.N X.env.scope scope own)
    (hg : ∀ (s : Shared) (H : Hp) (C : Addr) (cl : List (Str × Addr)) (fp : List Addr), DG (X.blk s H scope (compEnvC scope cl C X.env) fp) tg b sl) (ht : ∀ (s : Shared) (H : Hp) (C : Addr) (cl : List (Str × Addr)) (fp : List Addr), DTs (X.blk s H scope (compEnvC scope cl C X.env) fp) ifs t)
    (he : ∀ (s : Shared) (H : Hp) (C : Addr) (cl : List (Str × Addr)) (fp : List Addr), DE (X.blk s H scope (compEnvC scope cl C X.env) fp) elt f) (hsl : ∀ i, i ∈ sl → i ∈ own.map (·.2) := by decide) (hs : ∀ x, foldedSetIterable iter X.env x = pure x := by intro _; rfl) :
    DE X (.ListComp elt [⟨tg, iter, ifs, 0⟩] scope pos) (fLc s b t f (own.map (·.2))) :=
  de_lc hc hN hi ok ⟨tGt X.K b sl, fun s H C cl fp => (hg s H C cl fp).can, fun g F σ H ρ δ v d ρ' Q S r hb q => ⟨g, F, ρ, δ, d, ρ', S, r, hb, q⟩⟩
    ⟨tT X.K t, fun s H C cl fp => (ht s H C cl fp).can, fun g F σ H ρ δ b δ' Q S hf q => ⟨g, F, ρ, δ, b, δ', S, hf, q⟩⟩
    ⟨tD X.K f, fun s H C cl fp => (he s H C cl fp).can, fun g F σ H ρ δ d k δ' Q S hf q => ⟨g, F, ρ, δ, d, k, δ', S, hf, q⟩⟩ hsl hs
/-- y = [..] on one line -/
theorem ds_setLc {i : Nat} {y : Str} {py : Pos} {elt tg iter : Expr} {ifs : List Expr} {scope : Scope} {own : List (Str × Nat)} {pos spos : Pos} {s : SF} {b : BF} {t : TF} {f : EF} {sl : List Nat} (hc : X.calm = true) (hN : X.N.Nodup) (hy : X.N[i]? = some y) (hyl : X.env.scope.names.lookup y = some .local)
    (hsw : swapsWith (.ListComp elt [⟨tg, iter, ifs, 0⟩] scope pos) (some (.Name y py)) spos.line X.env = pure true) (hi : DI X tg iter s) (ok : BlkOk X.N X.env.scope scope own)
    (hg : ∀ (s : Shared) (H : Hp) (C : Addr) (cl : List (Str × Addr)) (fp : List Addr), DG (X.blk s H scope (compEnvC scope cl C X.env) fp) tg b sl) (ht : ∀ (s : Shared) (H : Hp) (C : Addr) (cl : List (Str × Addr)) (fp : List Addr), DTs (X.blk s H scope (compEnvC scope cl C X.env) fp) ifs t)
    (he : ∀ (s : Shared) (H : Hp) (C : Addr) (cl : List (Str × Addr)) (fp : List Addr), DE (X.blk s H scope (compEnvC scope cl C X.env) fp) elt f) (hsl : ∀ i, i ∈ sl → i ∈ own.map (·.2) := by decide) (hs : ∀ x, foldedSetIterable iter X.env x = pure x := by intro _; rfl) :
    DS X (.Assign [.Name y py] (.ListComp elt [⟨tg, iter, ifs, 0⟩] scope pos) spos) (hSet i (fLc s b t f (own.map (·.2)))) := by
  obtain ⟨wi, p1, x1⟩ := hi.ex
  refine ⟨_, ps_setLc (g := tGt X.K b sl) (tt := tT X.K t) (te := tD X.K f) hc hN hy hyl hsw p1 ok (fun s H C cl fp => (hg s H C cl fp).can) (fun s H C cl fp => (ht s H C cl fp).can) (fun s H C cl fp => (he s H C cl fp).can) hs, fun H0 g F σ H ρ δ o ρ' δ' D' S W hf q => ?_⟩
  unfold hSet fLc at hf
  cases e1 : s ρ δ with
  | none => rw [e1] at hf; cases hf
  | some c =>
    obtain ⟨ds, k0, δ1⟩ := c
    rw [e1] at hf
    simp only [Option.bind_some] at hf
    split at hf
    · rename_i hl
      cases e2 : lcD b t f (wip ρ (own.map (·.2))) ds δ1 with
      | none => rw [e2] at hf; cases hf
      | some c =>
        obtain ⟨out, δ2⟩ := c
        rw [e2] at hf
        cases hf
        refine x1 g F σ H ρ δ ds k0 δ1 _ S e1 fun J H1 rt k1 S1 src hr => ?_
        exact lc_run (Q := fun x H1 => gName i x σ H1 D'.nx) (K := X.K) (tg := tGt X.K b sl) (tt := tT X.K t) (te := tD X.K f) (fun g F σ H ρ δ v d ρ' Q S r hb q => ⟨g, F, ρ, δ, d, ρ', S, r, hb, q⟩) (fun g F σ H ρ δ b δ' Q S hf q => ⟨g, F, ρ, δ, b, δ', S, hf, q⟩)
          (fun g F σ H ρ δ d k δ' Q S hf q => ⟨g, F, ρ, δ, d, k, δ', S, hf, q⟩) S1 src (fun a z => ⟨(hr a z).1, (hr a z).2.1⟩) hl e2 hsl fun D H2 k2 S2 r2 => by
            obtain ⟨F', a1, a2, _⟩ := put_of (k := .ow) S W (k1.trans k2) S2 (r2.earlier k1) rfl i
            exact q F' _ H2 a1 a2
    · cases hf
/-! ### own defs -/
/-- what comes out of a def -/
def Out (K : PySem.W.Frag) (A : Addr → Prop) (H H' : Hp) : Kd → V → D → Prop
  | .sh, v, d => Rep K A H' v d
  | .ow, v, d => ∃ p, v = .ref p ∧ H p = none ∧ Top K (fun a => A a ∨ a = p) H' p d
  | .br, _, _ => False
/-- a pure def promises: on such data it hands back that, and what stood stands -/
def spP (K : PySem.W.Frag) (n : Nat) (gf : List D → Option (D × Kd)) : Sp := fun vs H Q _ => vs.length = n ∧ ∃ (A : Addr → Prop) (ds : List D) (d : D) (k : Kd), (∀ a, A a → H a ≠ none) ∧ Reps K A H vs ds ∧ gf ds = some (d, k) ∧ ∀ v H', Same H H' → Out K A H H' k v d → Q v H'
/-- a def whose first argument are the draws -/
def spW (K : PySem.W.Frag) (n : Nat) (gf : List D → Dr → Option (D × Kd × Dr)) : Sp := fun vs H Q _ => vs.length = n + 1 ∧ ∃ (A : Addr → Prop) (p q : Addr) (us : List V) (ds : List D) (δ : Dr) (d : D) (k : Kd) (δ' : Dr), vs = .ref p :: us ∧ (∀ a, A a → H a ≠ none ∧ a ≠ p ∧ a ≠ q) ∧ DealR ⟨A, some (p, q)⟩ H δ ∧
  Reps K (fun a => A a ∨ a = p ∨ a = q) H us ds ∧ gf ds δ = some (d, k, δ') ∧ ∀ v H', Keep (fun a => a = p ∨ a = q) H H' → DealR ⟨A, some (p, q)⟩ H' δ' → Out K (fun a => A a ∨ a = p ∨ a = q) H H' k v d → Q v H'
/-- what a body comes to -/
def endD (r : Option (Ou × Rho × Dr)) : Option (D × Kd × Dr) := match r with
  | some (.nx, _, δ) => some (.non, .sh, δ)
  | some (.rt d .sh, _, δ) => some (d, .sh, δ)
  | some (.rt d .ow, _, δ) => some (d, .ow, δ)
  | _ => none
/-- a pure def's meaning, from its body's: n parameters, m slots more -/
def fnP (n m : Nat) (h : HF') : List D → Option (D × Kd) := fun ds => if ds.length = n then (endD (h (ds.map .sh ++ List.replicate m .un) ([], 0))).map fun r => (r.1, r.2.1) else none
def fnW (n m : Nat) (h : HF') : List D → Dr → Option (D × Kd × Dr) := fun ds δ => if ds.length = n then endD (h (.dl :: ds.map .sh ++ List.replicate m .un) δ) else none
end
section
variable {P : Program} {w : World} {K : PySem.W.Frag} {mg : Str → Option Value} {base : Heap}
theorem start_slots {vs : List V} {i m : Nat} {N : List Str} (hN : N.length = vs.length + m) (hi : i < vs.length) : (L2.start N vs)[i]? = (vs[i]?).map some := by
  unfold L2.start
  rw [List.getElem?_append_left (by simpa using hi), List.getElem?_map]
theorem sr_start {A : Addr → Prop} {N : List Str} {vs : List V} {ds : List D} {m : Nat} {H : Hp} {δ : Dr} (hN : N.length = vs.length + m) (hA : ∀ a, A a → H a ≠ none) (r : Reps K A H vs ds) : SR K ⟨A, none⟩ (fun _ => []) (L2.start N vs) (ds.map .sh ++ List.replicate m .un) δ H where
  len := by
    unfold L2.start
    rw [List.length_append, List.length_append, List.length_map, List.length_map, List.length_replicate, List.length_replicate, r.length]
    have := r.length
    omega
  slot := fun i s h => by
    by_cases hi : i < vs.length
    · rw [List.getElem?_append_left (by rw [List.length_map, ← r.length]; exact hi), List.getElem?_map] at h
      cases e : ds[i]? with
      | none => rw [e] at h; cases h
      | some d =>
        rw [e] at h
        cases h
        obtain ⟨v, e1, e2⟩ := r.getD e
        refine ⟨v, by rw [start_slots hN hi, e1]; rfl, e2.weak fun a z => ?_⟩
        rcases z with z | ⟨p, q, z, _⟩ | ⟨j, z⟩
        · exact z
        · cases z
        · cases z
    · rw [List.getElem?_append_right (by rw [List.length_map, ← r.length]; omega)] at h
      have e : s = .un := (List.mem_replicate.mp (List.mem_of_getElem? h)).2
      subst e
      trivial
  apart := fun i j a h => by cases h
  new := fun i a h => by cases h
  dom := fun a _ ⟨p, q, z, _⟩ => by cases z
  there := fun a h => by
    rcases h with z | ⟨p, q, z, _⟩ | ⟨j, z⟩
    · exact hA a z
    · cases z
    · cases z
  mt := fun i a h => by cases h
  deal := fun p q z => by cases z
/-- THE RULE for a pure def -/
theorem fn_pure {x qual : Str} {st : Stmt} {f : Addr} {fd : FuncData} {N ps : List Str} {k n m : Nat} {h : HF'} (Fn : Fun K x qual st f fd) (S : FnScope N ps (defScope st)) (hn : ps.length = n) (hN : N.length = n + m)
    (hb : ∀ (cdv : Value) (A : Around) (outer : List Env) (s : Shared) (H : Hp) (E : XK), Room k (A.deeper (envOfC qual (defScope st) s.heap.objs.size f cdv)) → DSs (cxOf CX0 P w K mg base N qual (defScope st) f cdv A outer s H E).nox (defBody st) h) :
    FnOk P w K mg base CX0 (k + 1) f fd ps (spP K n (fnP n m h)) := by
  refine Fn.ok S (fun vs H Q E z => by rw [z.1, hn]) fun cdv A outer s H vs Q E hr z => ?_
  obtain ⟨hl, Av0, ds, d, kd, hA, r, hg, q⟩ := z
  obtain ⟨t, p, x⟩ := (hb cdv A outer s H E hr).ex
  refine ⟨t, p, ?_⟩
  unfold fnP at hg
  split at hg
  · cases e : h (ds.map .sh ++ List.replicate m .un) ([], 0) with
    | none => rw [e] at hg; cases hg
    | some c =>
      obtain ⟨o, ρ', δ'⟩ := c
      rw [e] at hg
      have S0 : SR K ⟨Av0, none⟩ (fun _ => []) (L2.start N vs) (ds.map .sh ++ List.replicate m .un) ([], 0) H := sr_start (by rw [hN, hl]) hA r
      have nopd : ∀ a, ¬ Gh.Pd ⟨Av0, none⟩ a := fun a ⟨p, q, z, _⟩ => by cases z
      have W0 : SH H ⟨Av0, none⟩ (fun _ => []) H := ⟨fun i a z => (by cases z), hA, fun a z => (nopd a z).elim, Keep.refl _ _⟩
      have same : ∀ {H'}, Keep (Gh.Pd ⟨Av0, none⟩) H H' → Same H H' := fun {H'} kp a o ha => kp.at_ ha (nopd a)
      refine x H ⟨Av0, none⟩ (fun _ => []) (L2.start N vs) H _ _ o ρ' δ' _ S0 W0 e ?_
      cases o with
      | nx =>
        cases hg
        exact fun F σ H' S' W' => q .non H' (same W'.keep) .non
      | rt d' k' =>
        cases k' with
        | sh =>
          cases hg
          exact fun v H' ⟨a, _, b⟩ => q v H' (same a) (b.weak fun a z => .inl z)
        | ow =>
          cases hg
          exact fun v H' ⟨a, _, p, e, n, t⟩ => q v H' (same a) ⟨p, e, n, t.weak fun a z => z.imp .inl id⟩
        | br => cases hg
      | bk => cases hg
      | ct => cases hg
  · cases hg
end
end DL
/-! D-layer, part i: calls of own defs, is, isinstance, globals. -/
namespace DL
open PySem PySem.Spec PyProof.Rows L2
mutual
/-- no list, no instance within -/
def flat : D → Bool
  | .non => true
  | .bl _ => true
  | .int _ => true
  | .str _ => true
  | .obj _ => true
  | .ty _ => true
  | .tup xs => flats xs
  | .wls xs => flats xs
  | .lst _ => false
  | .dic _ => false
  | .set _ => false
  | .ins _ _ => false
def flats : List D → Bool
  | [] => true
  | d :: ds => flat d && flats ds
end
mutual
theorem Rep.flat {K : PySem.W.Frag} {O O' : Addr → Prop} {H : Hp} : ∀ {v : V} {d : D}, DL.flat d = true → Rep K O H v d → Rep K O' H v d
  | _, _, _, .non => .non
  | _, _, _, .bl b => .bl b
  | _, _, _, .int i => .int i
  | _, _, _, .str x => .str x
  | _, _, h, .tup s r => .tup s (Reps.flat (by simpa [DL.flat] using h) r)
  | _, _, h, .lst _ _ _ => by simp [DL.flat] at h
  | _, _, h, .ins _ _ _ _ => by simp [DL.flat] at h
  | _, _, h, .dic _ _ _ _ => by simp [DL.flat] at h
  | _, _, _, .obj a => .obj a
  | _, _, _, .ty n => .ty n
  | _, _, h, .wls s r => .wls s (Reps.flat (by simpa [DL.flat] using h) r)
theorem Reps.flat {K : PySem.W.Frag} {O O' : Addr → Prop} {H : Hp} : ∀ {vs : List V} {ds : List D}, DL.flats ds = true → Reps K O H vs ds → Reps K O' H vs ds
  | _, _, _, .nil => .nil
  | _, _, h, .cons a r => .cons (Rep.flat (by simp [DL.flats] at h; exact h.1) a) (Reps.flat (by simp [DL.flats] at h; exact h.2) r)
end
/-- values with their kinds -/
abbrev VF := Rho → Dr → Option (List (D × Kd) × Dr)
structure DV (X : Cx) (es : List Expr) (f : VF) : Prop where
  ex : ∃ t : TA, PA X es t ∧ ∀ (g : Gh) (F : Fp) (σ : L2.St) (H : Hp) (ρ : Rho) (δ : Dr) (cs : List (D × Kd)) (δ' : Dr) (Q : List V → Hp → Prop), SR X.K g F σ ρ δ H → f ρ δ = some (cs, δ') →
    (∀ vs H', Keep g.Pd H H' → SR X.K g F σ ρ δ' H' → Paired (fun v c => Res X.K g F H H' c.2 v c.1) vs cs → Q vs H') → t σ H Q
structure DKw (X : Cx) (es : List Keyword) (f : VF) : Prop where
  ex : ∃ t : TA, PK X es t ∧ ∀ (g : Gh) (F : Fp) (σ : L2.St) (H : Hp) (ρ : Rho) (δ : Dr) (cs : List (D × Kd)) (δ' : Dr) (Q : List V → Hp → Prop), SR X.K g F σ ρ δ H → f ρ δ = some (cs, δ') →
    (∀ vs H', Keep g.Pd H H' → SR X.K g F σ ρ δ' H' → Paired (fun v c => Res X.K g F H H' c.2 v c.1) vs cs → Q vs H') → t σ H Q
def vNil : VF := fun _ δ => some ([], δ)
def vCons (f : EF) (r : VF) : VF := fun ρ δ => (f ρ δ).bind fun p => (r ρ p.2.2).map fun q => ((p.1, p.2.1) :: q.1, q.2)
section
variable {X : Cx}
theorem res_pair_keep {K : PySem.W.Frag} {g : Gh} {F : Fp} {H H1 H' : Hp} (k : Keep g.Pd H1 H') (G : Good g F H) : ∀ {vs : List V} {cs : List (D × Kd)}, Paired (fun v c => Res K g F H H1 c.2 v c.1) vs cs → Paired (fun v c => Res K g F H H' c.2 v c.1) vs cs
  | _, _, .nil => .nil
  | _, _, .cons a r => .cons (a.keep k G) (res_pair_keep k G r)
theorem res_pair_ear {K : PySem.W.Frag} {g : Gh} {F : Fp} {P : Addr → Prop} {H H1 H' : Hp} (k : Keep P H H1) : ∀ {vs : List V} {cs : List (D × Kd)}, Paired (fun v c => Res K g F H1 H' c.2 v c.1) vs cs → Paired (fun v c => Res K g F H H' c.2 v c.1) vs cs
  | _, _, .nil => .nil
  | _, _, .cons a r => .cons (a.earlier k) (res_pair_ear k r)
theorem dv_nil : DV X [] vNil := ⟨tNil, pa_nil, fun g F σ H ρ δ cs δ' Q S hf q => by
  cases hf
  exact q [] H (.refl _ _) S .nil⟩
theorem dw_nil : DKw X [] vNil := ⟨tNil, pk_nil, fun g F σ H ρ δ cs δ' Q S hf q => by
  cases hf
  exact q [] H (.refl _ _) S .nil⟩
theorem vCons_run {K : PySem.W.Frag} {t : TE} {t2 : TA} {f : EF} {r : VF}
    (x : ∀ (g : Gh) (F : Fp) (σ : L2.St) (H : Hp) (ρ : Rho) (δ : Dr) (d : D) (k : Kd) (δ' : Dr) (Q : VK), SR K g F σ ρ δ H → f ρ δ = some (d, k, δ') → (∀ v H', Keep g.Pd H H' → SR K g F σ ρ δ' H' → Res K g F H H' k v d → Q v H') → t σ H Q)
    (x2 : ∀ (g : Gh) (F : Fp) (σ : L2.St) (H : Hp) (ρ : Rho) (δ : Dr) (cs : List (D × Kd)) (δ' : Dr) (Q : List V → Hp → Prop), SR K g F σ ρ δ H → r ρ δ = some (cs, δ') → (∀ vs H', Keep g.Pd H H' → SR K g F σ ρ δ' H' → Paired (fun v c => Res K g F H H' c.2 v c.1) vs cs → Q vs H') → t2 σ H Q) :
    ∀ (g : Gh) (F : Fp) (σ : L2.St) (H : Hp) (ρ : Rho) (δ : Dr) (cs : List (D × Kd)) (δ' : Dr) (Q : List V → Hp → Prop), SR K g F σ ρ δ H → vCons f r ρ δ = some (cs, δ') → (∀ vs H', Keep g.Pd H H' → SR K g F σ ρ δ' H' → Paired (fun v c => Res K g F H H' c.2 v c.1) vs cs → Q vs H') → tCons t t2 σ H Q := by
  intro g F σ H ρ δ cs δ' Q S hf q
  unfold vCons at hf
  cases e1 : f ρ δ with
  | none => rw [e1] at hf; cases hf
  | some c =>
    obtain ⟨d, k, δ1⟩ := c
    rw [e1] at hf
    simp only [Option.bind_some] at hf
    cases e2 : r ρ δ1 with
    | none => rw [e2] at hf; cases hf
    | some c =>
      obtain ⟨ds2, δ2⟩ := c
      rw [e2] at hf
      cases hf
      refine x g F σ H ρ δ d k δ1 _ S e1 fun v H1 k1 S1 r1 => ?_
      refine x2 g F σ H1 ρ δ1 ds2 _ _ S1 e2 fun vs H2 k2 S2 r2 => ?_
      exact q (v :: vs) H2 (k1.trans k2) S2 (.cons (r1.keep k2 S.good) (res_pair_ear k1 r2))
theorem dv_cons {e : Expr} {es : List Expr} {f : EF} {r : VF} (he : DE X e f) (hr : DV X es r) (hs : starEach (e :: es) X.env = (false, eval e X.env) :: starEach es X.env := by rfl) : DV X (e :: es) (vCons f r) := by
  obtain ⟨t, p, x⟩ := he.ex
  obtain ⟨t2, p2, x2⟩ := hr.ex
  exact ⟨_, pa_cons p p2 hs, vCons_run x x2⟩
theorem dw_cons {e : Expr} {nm : Option Str} {kpos : Pos} {es : List Keyword} {f : EF} {r : VF} (he : DE X e f) (hr : DKw X es r) : DKw X (⟨nm, e, kpos⟩ :: es) (vCons f r) := by
  obtain ⟨t, p, x⟩ := he.ex
  obtain ⟨t2, p2, x2⟩ := hr.ex
  exact ⟨_, pk_cons p p2, vCons_run x x2⟩
/-! ### what a call may hand back -/
def flatK (d : D) (k : Kd) : Bool := match k, d with
  | .sh, d => flat d
  | .ow, .lst ds => flats ds
  | .ow, .dic ds => flats (ds.map (·.2))
  | _, _ => false
def okR (cs : List (D × Kd)) (d : D) (k : Kd) : Bool := cs.all (fun c => c.2 != .br) || flatK d k
theorem reps_of {K : PySem.W.Frag} {g : Gh} {F : Fp} {H0 H : Hp} (G : Good g F H0) : ∀ {vs : List V} {cs : List (D × Kd)}, Paired (fun v c => Res K g F H0 H c.2 v c.1) vs cs → cs.all (fun c => c.2 != .br) = true → Reps K (Av g F) H vs (cs.map (·.1))
  | _, _, .nil, _ => .nil
  | _, c :: _, .cons a r, h => by
    simp only [List.all_cons, Bool.and_eq_true, bne_iff_ne, ne_eq] at h
    exact .cons (a.rep G h.1) (reps_of G r h.2)
theorem reps_rd {K : PySem.W.Frag} {g : Gh} {F : Fp} {O : Addr → Prop} {H0 H : Hp} (G : Good g F H0) (hO : ∀ a, O a → g.Pd a) : ∀ {vs : List V} {cs : List (D × Kd)}, Paired (fun v c => Res K g F H0 H c.2 v c.1) vs cs → Reps K O H vs (cs.map (·.1))
  | _, _, .nil => .nil
  | _, c :: _, .cons a r => by
    refine .cons ?_ (reps_rd G hO r)
    rcases a.rd G with z | ⟨p, e, n, t⟩
    · exact z.weak fun a h => .inr (.inl (hO a h))
    · subst e
      exact Top.rep (fun z => n (hO p z)) (t.weak fun a h => .inr (.inl (hO a h)))
theorem paired_len {α β : Type} {R : α → β → Prop} : ∀ {vs : List α} {cs : List β}, Paired R vs cs → vs.length = cs.length
  | _, _, .nil => rfl
  | _, _, .cons _ r => congrArg Nat.succ (paired_len r)
theorem out_res {K : PySem.W.Frag} {g : Gh} {F : Fp} {H H' : Hp} {k : Kd} {v : V} {d : D} (o : Out K (Av g F) H H' k v d) : Res K g F H H' k v d := by
  cases k with
  | sh => exact o
  | ow => exact o
  | br => exact o.elim
theorem out_flat {K : PySem.W.Frag} {g : Gh} {F : Fp} {A : Addr → Prop} {H H' : Hp} {k : Kd} {v : V} {d : D} (h : flatK d k = true) (o : Out K A H H' k v d) : Res K g F H H' k v d := by
  cases k with
  | sh => exact Rep.flat (by simpa [flatK] using h) o
  | ow =>
    obtain ⟨p, e, n, t⟩ := o
    cases d with
    | lst ds =>
      obtain ⟨xs, h1, r⟩ := t
      exact ⟨p, e, n, xs, h1, Reps.flat (by simpa [flatK] using h) r⟩
    | dic ds =>
      obtain ⟨xs, h1, e1, r⟩ := t
      exact ⟨p, e, n, xs, h1, e1, Reps.flat (by simpa [flatK] using h) r⟩
    | _ => exact t.elim
  | br => exact o.elim
def fCallP (gf : List D → Option (D × Kd)) (f : VF) : EF := fun ρ δ => (f ρ δ).bind fun r => (gf (r.1.map (·.1))).bind fun c => if okR r.1 c.1 c.2 = true then some (c.1, c.2, r.2) else none
theorem callP_run {g : Gh} {F : Fp} {n : Nat} {gf : List D → Option (D × Kd)} {H H1 : Hp} {vs : List V} {cs : List (D × Kd)} {d : D} {k : Kd} {Q : VK} {E : XK} {K : PySem.W.Frag} (hn : ∀ ds c, gf ds = some c → ds.length = n)
    (G : Good g F H) (G1 : Good g F H1) (r : Paired (fun v c => Res K g F H H1 c.2 v c.1) vs cs) (hg : gf (cs.map (·.1)) = some (d, k)) (ho : okR cs d k = true) (q : ∀ v H', Same H1 H' → Res K g F H1 H' k v d → Q v H') : spP K n gf vs H1 Q E := by
  refine ⟨by rw [paired_len r, ← hn _ _ hg, List.length_map], ?_⟩
  simp only [okR, Bool.or_eq_true] at ho
  rcases ho with ho | ho
  · exact ⟨Av g F, _, d, k, G1, reps_of G r ho, hg, fun v H' s o => q v H' s (out_res o)⟩
  · exact ⟨fun _ => False, _, d, k, fun a z => z.elim, reps_rd G (fun a z => z.elim) r, hg, fun v H' s o => q v H' s (out_flat ho o)⟩
theorem fCallP_some {gf : List D → Option (D × Kd)} {f : VF} {ρ : Rho} {δ δ' : Dr} {d : D} {k : Kd} (h : fCallP gf f ρ δ = some (d, k, δ')) : ∃ cs, f ρ δ = some (cs, δ') ∧ gf (cs.map (·.1)) = some (d, k) ∧ okR cs d k = true := by
  unfold fCallP at h
  cases e : f ρ δ with
  | none => rw [e] at h; cases h
  | some c =>
    obtain ⟨cs, δ1⟩ := c
    rw [e] at h
    simp only [Option.bind_some] at h
    cases e2 : gf (cs.map (·.1)) with
    | none => rw [e2] at h; cases h
    | some c =>
      rw [e2] at h
      simp only [Option.bind_some] at h
      split at h
      · cases h
        exact ⟨cs, rfl, e2, by assumption⟩
      · cases h
theorem fnP_len {n m : Nat} {h : HF'} : ∀ ds c, fnP n m h ds = some c → ds.length = n := fun ds c e => by
  unfold fnP at e
  split at e
  · assumption
  · cases e
theorem fnW_len {n m : Nat} {h : HF'} : ∀ ds δ c, fnW n m h ds δ = some c → ds.length = n := fun ds δ c e => by
  unfold fnW at e
  split at e
  · assumption
  · cases e
/-! ### own defs that stand behind the top -/
structure OwnF (P : Program) (w : World) (K : PySem.W.Frag) (mg : Str → Option Value) (base : Heap) (k : Nat) (x qual : Str) (st : Stmt) (ps : List Str) (sp : Sp) : Prop where
  ex : ∃ (f : Addr) (fd : FuncData), FnOk P w K mg base CX0 k f fd ps sp ∧ mg x = some (.ref f) ∧ Fun K x qual st f fd ∧ Binds K fd ps []
theorem OwnF.mono {P : Program} {w : World} {K : PySem.W.Frag} {mg : Str → Option Value} {base : Heap} {j k : Nat} {x qual : Str} {st : Stmt} {ps : List Str} {sp : Sp} (F : OwnF P w K mg base j x qual st ps sp) (h : j ≤ k) : OwnF P w K mg base k x qual st ps sp := by
  obtain ⟨f, fd, a, b⟩ := F.ex
  exact ⟨f, fd, a.mono h, b⟩
section
variable {k n m : Nat} {x qual : Str} {st : Stmt} {ps : List Str} {gf : List D → Option (D × Kd)} {gw : List D → Dr → Option (D × Kd × Dr)} {p pos : Pos} {e : Expr} {es : List Expr} {kws : List Keyword} {fv fw : VF}
/-- f(e, ..), f a pure def -/
theorem de_call (C : OwnF X.prog X.w X.K X.mg X.base k x qual st ps (spP X.K n gf)) (hr : Room k X.A) (hg : Gl X x)
    (hn : ∀ ds c, gf ds = some c → ds.length = n) (ha : DV X (e :: es) fv) (hdb : (x == ("__debug__" : Str)) = false := by decide) (he : starEach (e :: es) X.env = (false, eval e X.env) :: starEach es X.env := by rfl) (hpl : (backTo pos (starEach es X.env)).any (·.1) = false := by rfl) :
    DE X (.Call (.Name x p) (e :: es) [] pos) (fCallP gf fv) := by
  obtain ⟨f, fd, Fk, hm, Fn, hb⟩ := C.ex
  obtain ⟨t, pa, xa⟩ := ha.ex
  refine ⟨_, pe_call Fk hr hg hm Fn.kp hb .nil pass0 pa hdb he hpl, fun g F σ H ρ δ d kd δ' Q S hf q => ?_⟩
  obtain ⟨cs, e1, e2, e3⟩ := fCallP_some hf
  refine xa g F σ H ρ δ cs δ' _ S e1 fun vs H1 k1 S1 r1 => ?_
  rw [List.append_nil]
  exact callP_run hn S.good S1.good r1 e2 e3 fun v H' s r => q v H' (k1.trans (Keep.of_same s)) (S1.same s) (r.earlier k1)
theorem de_call0 (C : OwnF X.prog X.w X.K X.mg X.base k x qual st ps (spP X.K n gf)) (hr : Room k X.A) (hg : Gl X x)
    (hn : ∀ ds c, gf ds = some c → ds.length = n) (hdb : (x == ("__debug__" : Str)) = false := by decide) : DE X (.Call (.Name x p) [] [] pos) (fCallP gf vNil) := by
  obtain ⟨f, fd, Fk, hm, Fn, hb⟩ := C.ex
  refine ⟨_, pe_call0 Fk hr hg hm Fn.kp hb .nil pass0 hdb, fun g F σ H ρ δ d kd δ' Q S hf q => ?_⟩
  obtain ⟨cs, e1, e2, e3⟩ := fCallP_some hf
  cases e1
  have h := callP_run (H := H) (Q := Q) (E := E0) hn S.good S.good (cs := []) (vs := []) .nil e2 e3 fun v H' s r => q v H' (Keep.of_same s) (S.same s) r
  exact h
/-- f(deal, e, ..) -/
def fCallW (i : Nat) (gf : List D → Dr → Option (D × Kd × Dr)) (f : VF) : EF := fun ρ δ => match ρ[i]? with
  | some .dl => (f ρ δ).bind fun r => (gf (r.1.map (·.1)) r.2).bind fun c => if okR r.1 c.1 c.2.1 = true then some c else none
  | _ => none
theorem fCallW_some {i : Nat} {f : VF} {ρ : Rho} {δ δ' : Dr} {d : D} {k : Kd} (h : fCallW i gw f ρ δ = some (d, k, δ')) : ρ[i]? = some .dl ∧ ∃ cs δ1, f ρ δ = some (cs, δ1) ∧ gw (cs.map (·.1)) δ1 = some (d, k, δ') ∧ okR cs d k = true := by
  unfold fCallW at h
  split at h
  · rename_i hi
    refine ⟨hi, ?_⟩
    cases e : f ρ δ with
    | none => rw [e] at h; cases h
    | some c =>
      obtain ⟨cs, δ1⟩ := c
      rw [e] at h
      simp only [Option.bind_some] at h
      cases e2 : gw (cs.map (·.1)) δ1 with
      | none => rw [e2] at h; cases h
      | some c =>
        rw [e2] at h
        simp only [Option.bind_some] at h
        split at h
        · cases h
          exact ⟨cs, δ1, rfl, e2, by assumption⟩
        · cases h
  · cases h
theorem SR.free {K : PySem.W.Frag} {g : Gh} {F : Fp} {σ : L2.St} {ρ : Rho} {δ : Dr} {H : Hp} (S : SR K g F σ ρ δ H) : ∀ a, (g.A a ∨ Ow F a) → H a ≠ none ∧ ¬ g.Pd a := fun a z => by
  rcases z with z | ⟨i, z⟩
  · exact ⟨S.there a (.inl z), S.dom a z⟩
  · exact ⟨S.there a (.inr (.inr ⟨i, z⟩)), (S.new i a z).2⟩
theorem callW_run {g : Gh} {F : Fp} {σ : L2.St} {ρ : Rho} {δ δ' : Dr} {H H1 : Hp} {vs : List V} {cs : List (D × Kd)} {d : D} {kd : Kd} {Q : VK} {E : XK} {K : PySem.W.Frag} {a b : Addr} (hn : ∀ ds δ c, gw ds δ = some c → ds.length = n)
    (hP : g.P = some (a, b)) (G : Good g F H) (S : SR K g F σ ρ δ H1) (r : Paired (fun v c => Res K g F H H1 c.2 v c.1) vs cs) (hg : gw (cs.map (·.1)) δ = some (d, kd, δ')) (ho : okR cs d kd = true)
    (q : ∀ v H', Keep g.Pd H1 H' → SR K g F σ ρ δ' H' → Res K g F H1 H' kd v d → Q v H') : spW K n gw (.ref a :: vs) H1 Q E := by
  have pd : ∀ x, g.Pd x ↔ x = a ∨ x = b := fun x => by
    unfold Gh.Pd
    rw [hP]
    constructor
    · rintro ⟨p, q, e, z⟩
      cases e
      exact z
    · exact fun z => ⟨a, b, rfl, z⟩
  have kp : ∀ {H'}, Keep (fun x => x = a ∨ x = b) H1 H' → Keep g.Pd H1 H' := fun k => k.mono fun x z => (pd x).mpr z
  have dl : ∀ {A : Addr → Prop} {H' δ''}, DealR ⟨A, some (a, b)⟩ H' δ'' → DealR g H' δ'' := fun z x y e => z x y (by rw [hP] at e; exact e)
  have dl2 : ∀ {A : Addr → Prop}, DealR ⟨A, some (a, b)⟩ H1 δ := fun {A} x y e => S.deal x y (by rw [hP]; exact e)
  have avE : ∀ x, Av g F x ↔ ((g.A x ∨ Ow F x) ∨ x = a ∨ x = b) := fun x => by
    unfold Av
    rw [pd x]
    constructor
    · rintro (z | z | z)
      · exact .inl (.inl z)
      · exact .inr z
      · exact .inl (.inr z)
    · rintro ((z | z) | z)
      · exact .inl z
      · exact .inr (.inr z)
      · exact .inr (.inl z)
  refine ⟨by rw [List.length_cons, paired_len r, ← hn _ _ _ hg, List.length_map], ?_⟩
  simp only [okR, Bool.or_eq_true] at ho
  have hav : (fun x => (g.A x ∨ Ow F x) ∨ x = a ∨ x = b) = Av g F := by
    funext x
    exact propext (avE x).symm
  rcases ho with ho | ho
  · refine ⟨fun x => g.A x ∨ Ow F x, a, b, vs, _, δ, d, kd, δ', rfl, fun x z => ⟨(S.free x z).1, fun e => (S.free x z).2 ((pd x).mpr (.inl e)), fun e => (S.free x z).2 ((pd x).mpr (.inr e))⟩, dl2, ?_, hg, fun v H' k de o => ?_⟩
    · show Reps K (fun x => (g.A x ∨ Ow F x) ∨ x = a ∨ x = b) H1 vs _
      rw [hav]
      exact reps_of G r ho
    · refine q v H' (kp k) (S.grow (kp k) (dl de)) (out_res ?_)
      have o : Out K (fun x => (g.A x ∨ Ow F x) ∨ x = a ∨ x = b) H1 H' kd v d := o
      rw [hav] at o
      exact o
  · refine ⟨fun _ => False, a, b, vs, _, δ, d, kd, δ', rfl, fun x z => z.elim, dl2, reps_rd G (fun x z => (pd x).mpr (z.elim (fun z => z.elim) id)) r, hg, fun v H' k de o => ?_⟩
    exact q v H' (kp k) (S.grow (kp k) (dl de)) (out_flat ho o)
theorem de_callW {i : Nat} {y : Str} {yp : Pos} (C : OwnF X.prog X.w X.K X.mg X.base k x qual st ps (spW X.K n gw)) (hr : Room k X.A) (hg : Gl X x)
    (hn : ∀ ds δ c, gw ds δ = some c → ds.length = n) (hy : PE X (.Name y yp) (tVar i)) (ha : DV X es fv) (hdb : (x == ("__debug__" : Str)) = false := by decide)
    (he : starEach (.Name y yp :: es) X.env = (false, eval (.Name y yp) X.env) :: starEach es X.env := by rfl) (hpl : (backTo pos (starEach es X.env)).any (·.1) = false := by rfl) :
    DE X (.Call (.Name x p) (.Name y yp :: es) [] pos) (fCallW i gw fv) := by
  obtain ⟨f, fd, Fk, hm, Fn, hb⟩ := C.ex
  obtain ⟨t, pa, xa⟩ := ha.ex
  refine ⟨_, pe_call Fk hr hg hm Fn.kp hb .nil pass0 (pa_cons hy pa he) hdb he hpl, fun g F σ H ρ δ d kd δ' Q S hf q => ?_⟩
  obtain ⟨hi, cs, δ1, e1, e2, e3⟩ := fCallW_some hf
  obtain ⟨a, b, hP, hs⟩ := S.slot i _ hi
  refine ⟨_, hs, xa g F σ H ρ δ cs δ1 _ S e1 fun vs H1 k1 S1 r1 => ?_⟩
  show spW X.K n gw ((V.ref a :: vs) ++ []) H1 Q E0
  rw [List.append_nil]
  exact callW_run hn hP S.good S1 r1 e2 e3 fun v H' s S2 r => q v H' (k1.trans s) S2 (r.earlier k1)
/-! ### keywords -/
/-- l's things in the order ix -/
def perm {α : Type} (ix : List Nat) (l : List α) : List α := ix.filterMap (l[·]?)
theorem paired_get {α β : Type} {R : α → β → Prop} : ∀ {vs : List α} {cs : List β} (i : Nat), Paired R vs cs → (∃ v c, vs[i]? = some v ∧ cs[i]? = some c ∧ R v c) ∨ (vs[i]? = none ∧ cs[i]? = none)
  | _, _, _, .nil => .inr ⟨rfl, rfl⟩
  | _, _, 0, .cons a r => .inl ⟨_, _, rfl, rfl, a⟩
  | _, _, i + 1, .cons a r => by simpa using paired_get i r
theorem paired_perm {α β : Type} {R : α → β → Prop} {vs : List α} {cs : List β} (r : Paired R vs cs) : ∀ ix : List Nat, Paired R (perm ix vs) (perm ix cs)
  | [] => .nil
  | i :: ix => by
    unfold perm
    rcases paired_get i r with ⟨v, c, e1, e2, h⟩ | ⟨e1, e2⟩
    · rw [List.filterMap_cons_some e1, List.filterMap_cons_some e2]
      exact .cons h (paired_perm r ix)
    · rw [List.filterMap_cons_none e1, List.filterMap_cons_none e2]
      exact paired_perm r ix
theorem paired_app {α β : Type} {R : α → β → Prop} : ∀ {vs ws : List α} {cs ds : List β}, Paired R vs cs → Paired R ws ds → Paired R (vs ++ ws) (cs ++ ds)
  | _, _, _, _, .nil, r => r
  | _, _, _, _, .cons a r, s => .cons a (paired_app r s)
theorem fun_kbn {K : PySem.W.Frag} {f : Addr} {fd : FuncData} {ks : List Str} {ix : List Nat} (F : Fun K x qual st f fd)
    (h : ∀ (kV doc pm : Value) (an : Option Addr) (cdv ct : Value) (us ws : List Value), us.length = n → ws.length = ks.length → bindArgs (PySem.W.fnOf x qual (defArgs st) (defBody st) (defScope st) .none kV doc pm an cdv ct) ⟨us, ks.zip ws⟩ = pure (ps.zip (perm ix (us ++ ws)))) :
    KBn K fd ps n ks (fun us ws => perm ix (us ++ ws)) (fun vs zs => perm ix (vs ++ zs)) := by
  obtain ⟨oc, od, kV, doc, pm, an, cdv, ct, osl, rfl, lk, hcd⟩ := F.ex
  exact ⟨fun s us ws _ l1 l2 => .of_eq (h kV doc pm an cdv ct us ws l1 l2), fun r1 r2 => paired_perm (paired_app r1 r2) ix⟩
def vPerm (ix : List Nat) (n m : Nat) (a b : VF) : VF := fun ρ δ => (a ρ δ).bind fun r => (b ρ r.2).bind fun s => if r.1.length = n ∧ s.1.length = m then some (perm ix (r.1 ++ s.1), s.2) else none
theorem vPerm_some {ix : List Nat} {a b : VF} {ρ : Rho} {δ δ' : Dr} {cs : List (D × Kd)} (h : vPerm ix n m a b ρ δ = some (cs, δ')) : ∃ c1 δ1 c2, a ρ δ = some (c1, δ1) ∧ b ρ δ1 = some (c2, δ') ∧ c1.length = n ∧ c2.length = m ∧ cs = perm ix (c1 ++ c2) := by
  unfold vPerm at h
  cases e : a ρ δ with
  | none => rw [e] at h; cases h
  | some c =>
    obtain ⟨c1, δ1⟩ := c
    rw [e] at h
    simp only [Option.bind_some] at h
    cases e2 : b ρ δ1 with
    | none => rw [e2] at h; cases h
    | some c =>
      obtain ⟨c2, δ2⟩ := c
      rw [e2] at h
      simp only [Option.bind_some] at h
      split at h
      · rename_i hl
        cases h
        exact ⟨c1, δ1, c2, rfl, e2, hl.1, hl.2, rfl⟩
      · cases h
abbrev KwB (x qual : Str) (st : Stmt) (ps ks : List Str) (n : Nat) (ix : List Nat) : Prop := ∀ (kV doc pm : Value) (an : Option Addr) (cdv ct : Value) (us ws : List Value), us.length = n → ws.length = ks.length → bindArgs (PySem.W.fnOf x qual (defArgs st) (defBody st) (defScope st) .none kV doc pm an cdv ct) ⟨us, ks.zip ws⟩ = pure (ps.zip (perm ix (us ++ ws)))
/-- f(e, .., k = v, ..) -/
theorem de_callK {ks : List Str} {ix : List Nat} {j : Nat} (C : OwnF X.prog X.w X.K X.mg X.base k x qual st ps (spP X.K n gf)) (hr : Room k X.A) (hg : Gl X x)
    (hn : ∀ ds c, gf ds = some c → ds.length = n) (hb : KwB x qual st ps ks j ix) (ha : DV X (e :: es) fv) (hw : DKw X kws fw)
    (hall : (backToKw pos (keywordEach kws X.env)).all (·.1.isSome) = true := by rfl) (hks : (backToKw pos (keywordEach kws X.env)).filterMap (·.1) = ks := by rfl)
    (hdb : (x == ("__debug__" : Str)) = false := by decide) (he : starEach (e :: es) X.env = (false, eval e X.env) :: starEach es X.env := by rfl)
    (hpl : ((backTo pos (starEach (e :: es) X.env)).any (·.1) || (backToKw pos (keywordEach kws X.env)).any (·.1.isNone)) = false := by rfl) :
    DE X (.Call (.Name x p) (e :: es) kws pos) (fCallP gf (vPerm ix j ks.length fv fw)) := by
  obtain ⟨f, fd, Fk, hm, Fn, _⟩ := C.ex
  obtain ⟨t, pa, xa⟩ := ha.ex
  obtain ⟨tk, pk, xk⟩ := hw.ex
  refine ⟨_, pe_callN Fk hr hg hm Fn.kp (fun_kbn Fn hb) pass0 pa pk hall hks hdb he hpl, fun g F σ H ρ δ d kd δ' Q S hf q => ?_⟩
  obtain ⟨cs, e1, e2, e3⟩ := fCallP_some hf
  obtain ⟨c1, δ1, c2, h1, h2, l1, l2, rfl⟩ := vPerm_some e1
  refine xa g F σ H ρ δ c1 δ1 _ S h1 fun vs H1 k1 S1 r1 => ?_
  refine xk g F σ H1 ρ δ1 c2 _ _ S1 h2 fun zs H2 k2 S2 r2 => ⟨by rw [paired_len r1, l1], by rw [paired_len r2, l2], ?_⟩
  exact callP_run hn S.good S2.good (paired_perm (paired_app (res_pair_keep k2 S.good r1) (res_pair_ear k1 r2)) ix) e2 e3 fun v H' s r => q v H' (k1.trans (k2.trans (Keep.of_same s))) (S2.same s) (r.earlier (k1.trans k2))
theorem pe_callN0 {X : Cx} {CX : CXT} {k : Nat} {f : Addr} {fd : FuncData} {ps ks : List Str} {sp : Sp} {E : XK} {x : Str} {p pos : Pos} {kws : List Keyword} {tk : TA} {g : List Value → List Value → List Value} {gV : List V → List V → List V} (F : FnOk X.prog X.w X.K X.mg X.base CX k f fd ps sp) (hr : Room k X.A) (hg : Gl X x) (hm : X.mg x = some (.ref f)) (hk : PySem.W.keepIn X.K (.ref f) = true) (hb : KBn X.K fd ps 0 ks g gV) (hx : Passes CX X E) (hkw : PK X kws tk)
    (hall : (backToKw pos (keywordEach kws X.env)).all (·.1.isSome) = true := by rfl) (hks : (backToKw pos (keywordEach kws X.env)).filterMap (·.1) = ks := by rfl) (hdb : (x == ("__debug__" : Str)) = false := by decide)
    (hpl : ((backTo pos (starEach [] X.env)).any (·.1) || (backToKw pos (keywordEach kws X.env)).any (·.1.isNone)) = false := by rfl) :
    PE X (.Call (.Name x p) [] kws pos) (tCallN 0 ks.length sp gV E tNil tk) := by
  refine ⟨fun pins s σ H Q I h => ?_⟩
  refine wpAny_Call_Name_kw (ld_glob I hg hm ?_ hdb)
  refine PySem.W.callWith_KW0 (h₀ := X.base) I.ok.mod.kin hk hall ?_ hpl
  refine thn (hkw.run pos pins s σ H _ I h) fun ws s2 ⟨zs, H2, I2, rz, l1, l2, q2⟩ => ⟨I2.kIn, ?_⟩
  rw [hks]
  exact run_fnN (us := []) (vs := []) F hr hb hx I2 .nil rz rfl l2 q2
/-- f(k = v, ..) -/
theorem de_callK0 {ks : List Str} {ix : List Nat} (C : OwnF X.prog X.w X.K X.mg X.base k x qual st ps (spP X.K n gf)) (hr : Room k X.A) (hg : Gl X x)
    (hn : ∀ ds c, gf ds = some c → ds.length = n) (hb : KwB x qual st ps ks 0 ix) (hw : DKw X kws fw)
    (hall : (backToKw pos (keywordEach kws X.env)).all (·.1.isSome) = true := by rfl) (hks : (backToKw pos (keywordEach kws X.env)).filterMap (·.1) = ks := by rfl)
    (hdb : (x == ("__debug__" : Str)) = false := by decide)
    (hpl : ((backTo pos (starEach [] X.env)).any (·.1) || (backToKw pos (keywordEach kws X.env)).any (·.1.isNone)) = false := by rfl) :
    DE X (.Call (.Name x p) [] kws pos) (fCallP gf (vPerm ix 0 ks.length vNil fw)) := by
  obtain ⟨f, fd, Fk, hm, Fn, _⟩ := C.ex
  obtain ⟨tk, pk, xk⟩ := hw.ex
  refine ⟨_, pe_callN0 Fk hr hg hm Fn.kp (fun_kbn Fn hb) pass0 pk hall hks hdb hpl, fun g F σ H ρ δ d kd δ' Q S hf q => ?_⟩
  obtain ⟨cs, e1, e2, e3⟩ := fCallP_some hf
  obtain ⟨c1, δ1, c2, h1, h2, l1, l2, rfl⟩ := vPerm_some e1
  cases h1
  refine xk g F σ H ρ δ c2 _ _ S h2 fun zs H2 k2 S2 r2 => ⟨rfl, by rw [paired_len r2, l2], ?_⟩
  exact callP_run hn S.good S2.good (paired_perm (vs := [] ++ zs) (cs := [] ++ c2) r2 ix) e2 e3 fun v H' s r => q v H' (k2.trans (Keep.of_same s)) (S2.same s) (r.earlier k2)
end
end
end DL
/-! D-layer, part j: is, isinstance, xs[::-1], ranges with a step, the rules for defs with draws and for the law. -/
namespace DL
open PySem PySem.Spec PyProof.Rows L2
section
variable {X : Cx}
/-! ### is, is not -/
def rIsX (neg : Bool) : R2 := fun x y H Q => (y = .non ∨ ∃ b, y = .bl b) ∧ Q (.bl (decide (x = y) != neg)) H
theorem is_x {prog : Program} {w : World} {A : Around} {E : Value → Shared → Prop} {s : Shared} {x y : V} {v u : Value} {R : Bool → Shared → Prop} (rx : RelV x v) (ry : RelV y u) (hy : y = .non ∨ ∃ b, y = .bl b) (q : R (decide (x = y)) s) : wpAny (model prog w) A (isSame v u) R E s := by
  have go : ∀ {b : Bool}, plainIs v u = true → (v == u) = b → decide (x = y) = b → wpAny (model prog w) A (isSame v u) R E s := fun h1 h2 h3 => wpAny_isSame_plain h1 (by rw [h2, ← h3]; exact q)
  rcases hy with rfl | ⟨b, rfl⟩
  · cases ry
    cases x with
    | non => cases rx; exact go rfl rfl (by decide)
    | bl b => cases rx; exact go rfl rfl (by simp)
    | int i => obtain ⟨t, rfl⟩ := rx; exact go rfl rfl (by simp)
    | str i => obtain ⟨t, rfl⟩ := rx; exact go rfl rfl (by simp)
    | byt i => obtain ⟨t, rfl⟩ := rx; exact go rfl rfl (by simp)
    | flt i => obtain ⟨t, rfl⟩ := rx; exact go rfl rfl (by simp)
    | ref a => cases rx; exact go rfl rfl (by simp)
    | ty n => cases rx; exact go rfl rfl (by simp)
  · cases ry
    cases x with
    | non => cases rx; exact go rfl rfl (by simp)
    | bl c =>
      cases rx
      cases b <;> cases c <;> exact go rfl rfl (by simp)
    | int i => obtain ⟨t, rfl⟩ := rx; exact go rfl rfl (by simp)
    | str i => obtain ⟨t, rfl⟩ := rx; exact go rfl rfl (by simp)
    | byt i => obtain ⟨t, rfl⟩ := rx; exact go rfl rfl (by simp)
    | flt i => obtain ⟨t, rfl⟩ := rx; exact go rfl rfl (by simp)
    | ref a => cases rx; exact go rfl rfl (by simp)
    | ty n => cases rx; exact go rfl rfl (by simp)
theorem op_isX : OpR X (compareOp .Is) (rIsX false) := by
  intro pins s σ H x y v u Q I rx ry ⟨hy, q⟩
  show wpAny _ _ ((isSame v u) >>= fun z => pure (Value.bool z)) _ _ s
  exact wpAny_bind (is_x rx ry hy (wpAny_pure (fin_bl I q (by simp))))
theorem op_notX : OpR X (compareOp .IsNot) (rIsX true) := by
  intro pins s σ H x y v u Q I rx ry ⟨hy, q⟩
  show wpAny _ _ ((isSame v u) >>= fun z => pure (Value.bool (!z))) _ _ s
  exact wpAny_bind (is_x rx ry hy (wpAny_pure (fin_bl I q (by simp))))
def isD (x y : D) : Option Bool := match y with
  | .non => match x with | .non => some true | _ => some false
  | .bl b => match x with | .bl c => some (c == b) | _ => some false
  | _ => none
def oIs : OF2 := fun x y => (isD x y).map fun b => (.bl b, .sh)
def oIsNot : OF2 := fun x y => (isD x y).map fun b => (.bl (!b), .sh)
theorem rd1_is {K : PySem.W.Frag} {g : Gh} {F : Fp} {H : Hp} {x y : V} {dx dy : D} {b : Bool} (r1 : Rd1 K g F H x dx) (r2 : Rd1 K g F H y dy) (h : isD dx dy = some b) : (y = .non ∨ ∃ b, y = .bl b) ∧ decide (x = y) = b := by
  cases dy with
  | non =>
    cases r2.non
    refine ⟨.inl rfl, ?_⟩
    rcases r1 with r1 | ⟨p, e, n, t⟩
    · cases r1 <;> (cases h; simp)
    · subst e
      cases dx <;> first | exact t.elim | (cases h; simp)
  | bl c =>
    cases r2.bl
    refine ⟨.inr ⟨c, rfl⟩, ?_⟩
    rcases r1 with r1 | ⟨p, e, n, t⟩
    · cases r1 <;> (cases h; simp)
      rename_i c'
      cases c <;> cases c' <;> simp
    · subst e
      cases dx <;> first | exact t.elim | (cases h; simp)
  | _ => cases h
theorem o_is : Op2 X (compareOp .Is) oIs := by
  refine ⟨_, op_isX, fun g F H x y dx dy d k Q G r1 r2 ho q => ?_⟩
  unfold oIs at ho
  cases e : isD dx dy with
  | none => rw [e] at ho; cases ho
  | some b =>
    rw [e] at ho
    cases ho
    obtain ⟨h1, h2⟩ := rd1_is r1 r2 e
    refine ⟨h1, q _ H (Same.refl _) ?_⟩
    rw [h2]
    cases b <;> exact .bl _
theorem o_isNot : Op2 X (compareOp .IsNot) oIsNot := by
  refine ⟨_, op_notX, fun g F H x y dx dy d k Q G r1 r2 ho q => ?_⟩
  unfold oIsNot at ho
  cases e : isD dx dy with
  | none => rw [e] at ho; cases ho
  | some b =>
    rw [e] at ho
    cases ho
    obtain ⟨h1, h2⟩ := rd1_is r1 r2 e
    refine ⟨h1, q _ H (Same.refl _) ?_⟩
    rw [h2]
    cases b <;> exact .bl _
/-! ### isinstance -/
def tyD : D → Option String
  | .non => some "NoneType"
  | .bl _ => some "bool"
  | .int _ => some "int"
  | .str _ => some "str"
  | .tup _ => some "tuple"
  | .lst _ => some "list"
  | _ => none
theorem rd1_ty {g : Gh} {F : Fp} {H : Hp} {x : V} {d : D} {n : String} (r : Rd1 X.K g F H x d) (h : tyD d = some n) : TyX X.K H x (.type n) := by
  cases d with
  | non => cases h; cases r.non; exact .base .non
  | bl b => cases h; cases r.bl; exact .base (.bl b)
  | int b => cases h; cases r.int; exact .base (.int b)
  | str b => cases h; cases r.str; exact .base (.str b)
  | tup ds =>
    cases h
    obtain ⟨p, xs, rfl, h1, _⟩ := r.tup
    rcases h1 with (h1 | ⟨o, h1⟩) | ⟨o, its, m, h1, h2, _⟩
    · exact .base (.tup h1)
    · exact .fTuple h1
    · exact .kTuple h1 h2
  | lst ds =>
    cases h
    obtain ⟨p, xs, rfl, h1, _⟩ := r.lst
    rcases h1 with h1 | ⟨o, h1⟩
    · exact .base (.lst h1)
    · exact .base (.frz h1)
  | _ => cases h
def oIsa : OFn := fun ds => match ds with
  | [x, .ty n] => (tyD x).bind fun a => (kitB a n).map fun b => (.bl b, .sh)
  | _ => none
theorem c_isa : CallD X (.builtin "isinstance") oIsa := by
  refine ⟨_, call_isi, fun g F H vs ds d k Q G r ho q => ?_⟩
  unfold oIsa at ho
  split at ho
  · rename_i x n
    cases e1 : tyD x with
    | none => rw [e1] at ho; cases ho
    | some a =>
      rw [e1] at ho
      simp only [Option.bind_some] at ho
      cases e2 : kitB a n with
      | none => rw [e2] at ho; cases ho
      | some b =>
        rw [e2] at ho
        cases ho
        cases r with
        | cons r1 r =>
          cases r with
          | cons r2 r =>
            cases r
            rename_i v1 v2
            have e3 : v2 = V.ty n := by
              rcases r2 with r2 | ⟨p, e, n', t⟩
              · cases r2; rfl
              · exact t.elim
            subst e3
            exact ⟨_, _, _, _, b, rfl, .ty n, rd1_ty r1 e1, kit_ty e2, q _ H (Same.refl _) (.bl b)⟩
  · cases ho
/-- isinstance(x, (A, B, ..)) of built-in types -/
def anyTy (a : String) : List String → Option Bool
  | [] => some false
  | n :: ns => (kitB a n).bind fun b => if b then some true else anyTy a ns
theorem anyTy_kit {K : PySem.W.Frag} {a : String} : ∀ {ns : List String} {b : Bool}, anyTy a ns = some b → PySem.W.kitAny K (.type a) (ns.map Value.type) = some b
  | [], b, h => by cases h; exact kitAny_nil
  | n :: ns, b, h => by
    unfold anyTy at h
    cases e : kitB a n with
    | none => rw [e] at h; cases h
    | some c =>
      rw [e] at h
      simp only [Option.bind_some] at h
      cases c with
      | true =>
        rw [if_pos rfl] at h
        cases h
        exact kitAny_cons (kit_ty e) (fun z => by cases z) (fun _ => rfl)
      | false =>
        rw [if_neg (by simp)] at h
        exact kitAny_cons (kit_ty e) (fun _ => anyTy_kit h) (fun z => by cases z)
theorem tys_cls : ∀ ns : List String, Paired ClsV (ns.map V.ty) (ns.map Value.type)
  | [] => .nil
  | n :: ns => .cons (.ty n) (tys_cls ns)
/-- names of built-in types in a row -/
structure TyArgs (X : Cx) (es : List Expr) (ns : List String) : Prop where
  ex : ∃ t : TA, PA X es t ∧ ∀ (σ : L2.St) (H : Hp) (Q : List V → Hp → Prop), Q (ns.map V.ty) H → t σ H Q
theorem ty_nil : TyArgs X [] [] := ⟨_, pa_nil, fun σ H Q q => q⟩
theorem ty_cons {e : Expr} {es : List Expr} {n : String} {ns : List String} (h : PE X e (tC (.ty n))) (r : TyArgs X es ns) (hs : starEach (e :: es) X.env = (false, eval e X.env) :: starEach es X.env := by rfl) : TyArgs X (e :: es) (n :: ns) := by
  obtain ⟨t, p, x⟩ := r.ex
  exact ⟨_, pa_cons h p hs, fun σ H Q q => x σ H _ q⟩
def fIsaT (f : EF) (ns : List String) : EF := fun ρ δ => (f ρ δ).bind fun p => (tyD p.1).bind fun a => (anyTy a ns).map fun b => (.bl b, .sh, p.2.2)
theorem de_isaT {p pos tp : Pos} {x1} {e : Expr} {es : List Expr} {f : EF} {ns : List String} (hg : Gl X "isinstance") (hm : X.mg "isinstance" = none) (he : DE X e f) (ht : TyArgs X es ns) (hl : ns.length ≤ 100 := by decide)
    (h1 : starEach [e, .Tuple es x1 tp] X.env = (false, eval e X.env) :: starEach [.Tuple es x1 tp] X.env := by rfl) (h2 : starEach [.Tuple es x1 tp] X.env = (false, eval (.Tuple es x1 tp) X.env) :: starEach [] X.env := by rfl) (hpl : (backTo pos (starEach [.Tuple es x1 tp] X.env)).any (·.1) = false := by rfl) :
    DE X (.Call (.Name "isinstance" p) [e, .Tuple es x1 tp] [] pos) (fIsaT f ns) := by
  obtain ⟨t, pe, x⟩ := he.ex
  obtain ⟨t2, p2, x2⟩ := ht.ex
  refine ⟨_, pe_callB call_isiT hg hm boot_isinstance (pa_cons pe (pa_cons (pe_tup p2) pa_nil h2) h1) (by decide) (by decide) h1 hpl, fun g F σ H ρ δ d k δ' Q S hf q => ?_⟩
  unfold fIsaT at hf
  cases e1 : f ρ δ with
  | none => rw [e1] at hf; cases hf
  | some c =>
    obtain ⟨d1, k1, δ1⟩ := c
    rw [e1] at hf
    simp only [Option.bind_some] at hf
    cases e2 : tyD d1 with
    | none => rw [e2] at hf; cases hf
    | some a =>
      rw [e2] at hf
      simp only [Option.bind_some] at hf
      cases e3 : anyTy a ns with
      | none => rw [e3] at hf; cases hf
      | some b =>
        rw [e3] at hf
        cases hf
        refine x g F σ H ρ δ d1 k1 _ _ S e1 fun v H1 ke S1 r1 => ?_
        refine x2 σ H1 _ ⟨by rw [List.length_map]; exact Nat.le_trans hl (by decide), fun tp htp => ?_⟩
        have sm := same_upd (o := .tup (ns.map V.ty)) htp
        refine ⟨v, tp, _, .type a, _, b, rfl, upd_same, tys_cls ns, rd1_ty ((r1.rd S.good).same sm) e2, anyTy_kit e3, ?_⟩
        exact q _ _ (ke.trans (Keep.of_same sm)) (S1.same sm) (.bl b)
/-! ### xs[::-1] -/
def fRev (f : EF) : EF := fun ρ δ => (f ρ δ).bind fun p => match p.1 with | .lst a => some (.lst a.reverse, .ow, p.2.2) | _ => none
theorem de_rev {e : Expr} {f : EF} {k : Nat} {p1 p2 p3 pos : Pos} (h : DE X e f) : DE X (.Subscript e (.Slice none none (some (.UnaryOp .USub (.Constant (.int 1) k p1) p2)) p3) pos) (fRev f) := by
  obtain ⟨t, p, x⟩ := h.ex
  refine ⟨_, pe_revL p, fun g F σ H ρ δ d k δ' Q S hf q => ?_⟩
  unfold fRev at hf
  cases e1 : f ρ δ with
  | none => rw [e1] at hf; cases hf
  | some c =>
    obtain ⟨d1, k1, δ1⟩ := c
    rw [e1] at hf
    simp only [Option.bind_some] at hf
    split at hf
    · rename_i a
      cases hf
      refine x g F σ H ρ δ _ _ _ _ S e1 fun v H1 ke S1 r1 => ?_
      obtain ⟨p1, x1, rfl, h1, s1⟩ := (r1.rd S.good).lst
      refine ⟨_, _, rfl, .inl h1, fun b hb => ?_⟩
      have sm := same_upd (o := .lst x1.reverse) hb
      exact q _ _ (ke.trans (Keep.of_same sm)) (S1.same sm) ((res_new hb s1.reverse).earlier ke)
    · cases hf
/-! ### things of the module -/
theorem de_glob {x : Str} {u : Value} {pos : Pos} {v : V} {c : D} (hg : Gl X x) (hm : X.mg x = some u) (rv : RelV v u) (r : ∀ O H, Rep X.K O H v c) (hd : (x == ("__debug__" : Str)) = false := by decide) : DE X (.Name x pos) (fC c) :=
  de_c (pe_glob hg hm rv hd) r
theorem de_ty {x : Str} {n : String} {pos : Pos} (hg : Gl X x) (hm : X.mg x = none) (hv : bootBuiltins x = some (.type n)) (hn : x ≠ "__name__" := by decide) (hd : (x == ("__debug__" : Str)) = false := by decide) : DE X (.Name x pos) (fC (.ty n)) :=
  de_c (pe_bltn (v := .ty n) hg hm hv rfl hn hd) fun _ _ => .ty n
/-! ### a name's own list is one's own no more -/
def hFrz (i : Nat) (h : HF') : HF' := fun ρ δ => match ρ[i]? with
  | some (.ow d) => h (ρ.set i (.sh d)) δ
  | _ => none
theorem dss_frz {i : Nat} {st : List Stmt} {h : HF'} (hs : DSs X st h) : DSs X st (hFrz i h) := by
  obtain ⟨t, p, x⟩ := hs.ex
  refine ⟨t, p, fun H0 g F σ H ρ δ o ρ' δ' D' S W hf q => ?_⟩
  unfold hFrz at hf
  split at hf
  · rename_i d e
    obtain ⟨p, _, _, S1⟩ := S.freeze e
    exact x H0 g _ σ H _ δ o ρ' δ' D' S1 (W.sub (FSub.nil F i)) hf q
  · cases hf
end
/-! ### defs with draws; the law -/
section
variable {P : Program} {w : World} {K : PySem.W.Frag} {mg : Str → Option Value} {base : Heap}
theorem sr_startW {A : Addr → Prop} {N : List Str} {vs : List V} {ds : List D} {m : Nat} {H : Hp} {δ : Dr} {p q : Addr} (hN : N.length = vs.length + 1 + m) (hA : ∀ a, A a → H a ≠ none ∧ a ≠ p ∧ a ≠ q) (dl : DealR ⟨A, some (p, q)⟩ H δ)
    (r : Reps K (fun a => A a ∨ a = p ∨ a = q) H vs ds) : SR K ⟨A, some (p, q)⟩ (fun _ => []) (L2.start N (.ref p :: vs)) (.dl :: ds.map .sh ++ List.replicate m .un) δ H where
  len := by
    unfold L2.start
    simp only [List.length_append, List.length_map, List.length_replicate, List.length_cons, List.cons_append]
    rw [r.length]
    have := r.length
    omega
  slot := fun i s h => by
    cases i with
    | zero =>
      cases h
      exact ⟨p, q, rfl, rfl⟩
    | succ i =>
      have h : (ds.map SV.sh ++ List.replicate m SV.un)[i]? = some s := h
      have e0 : (L2.start N (.ref p :: vs))[i + 1]? = (vs.map some ++ List.replicate (N.length - (vs.length + 1)) none)[i]? := rfl
      by_cases hi : i < vs.length
      · rw [List.getElem?_append_left (by rw [List.length_map, ← r.length]; exact hi), List.getElem?_map] at h
        cases e : ds[i]? with
        | none => rw [e] at h; cases h
        | some d =>
          rw [e] at h
          cases h
          obtain ⟨v, e1, e2⟩ := r.getD e
          refine ⟨v, ?_, e2.weak fun a z => ?_⟩
          · rw [e0, List.getElem?_append_left (by simpa using hi), List.getElem?_map, e1]
            rfl
          · rcases z with z | ⟨p', q', z, z2⟩ | ⟨j, z⟩
            · exact .inl z
            · cases z
              exact .inr z2
            · cases z
      · rw [List.getElem?_append_right (by rw [List.length_map, ← r.length]; omega)] at h
        have e : s = .un := (List.mem_replicate.mp (List.mem_of_getElem? h)).2
        subst e
        trivial
  apart := fun i j a h => by cases h
  new := fun i a h => by cases h
  dom := fun a z ⟨p', q', e, z2⟩ => by
    cases e
    exact z2.elim (hA a z).2.1 (hA a z).2.2
  there := fun a h => by
    rcases h with z | ⟨p', q', z, z2⟩ | ⟨j, z⟩
    · exact (hA a z).1
    · cases z
      obtain ⟨_, d1, d2⟩ := dl p q rfl
      rcases z2 with rfl | rfl
      · rw [d1]; simp
      · rw [d2]; simp
    · cases z
  mt := fun i a h => by cases h
  deal := dl
/-- THE RULE for a def whose first argument are the draws -/
theorem fn_deal {x qual : Str} {st : Stmt} {f : Addr} {fd : FuncData} {N ps : List Str} {k n m : Nat} {h : HF'} (Fn : Fun K x qual st f fd) (S : FnScope N ps (defScope st)) (hn : ps.length = n + 1) (hN : N.length = n + 1 + m)
    (hb : ∀ (cdv : Value) (A : Around) (outer : List Env) (s : Shared) (H : Hp) (E : XK), Room k (A.deeper (envOfC qual (defScope st) s.heap.objs.size f cdv)) → DSs (cxOf CX0 P w K mg base N qual (defScope st) f cdv A outer s H E).nox (defBody st) h) :
    FnOk P w K mg base CX0 (k + 1) f fd ps (spW K n (fnW n m h)) := by
  refine Fn.ok S (fun vs H Q E z => by rw [z.1, hn]) fun cdv A outer s H vs Q E hr z => ?_
  obtain ⟨hl, Av0, p, q, us, ds, δ, d, kd, δ', rfl, hA, dl, r, hg, qq⟩ := z
  obtain ⟨t, pp, x⟩ := (hb cdv A outer s H E hr).ex
  refine ⟨t, pp, ?_⟩
  unfold fnW at hg
  split at hg
  · cases e : h (.dl :: ds.map .sh ++ List.replicate m .un) δ with
    | none => rw [e] at hg; cases hg
    | some c =>
      obtain ⟨o, ρ', δ1⟩ := c
      rw [e] at hg
      have hl' : us.length = n := by simpa using hl
      have S0 := sr_startW (N := N) (m := m) (by rw [hN, hl']) hA dl r
      have pd : ∀ a, Gh.Pd ⟨Av0, some (p, q)⟩ a ↔ a = p ∨ a = q := fun a => ⟨fun ⟨p', q', z, z2⟩ => by cases z; exact z2, fun z => ⟨p, q, rfl, z⟩⟩
      have W0 : SH H ⟨Av0, some (p, q)⟩ (fun _ => []) H := ⟨fun i a z => (by cases z), fun a z => (hA a z).1, fun a z => S0.there a (.inr (.inl z)), Keep.refl _ _⟩
      have kp : ∀ {H'}, Keep (Gh.Pd ⟨Av0, some (p, q)⟩) H H' → Keep (fun a => a = p ∨ a = q) H H' := fun k => k.mono fun a z => (pd a).mp z
      refine x H ⟨Av0, some (p, q)⟩ (fun _ => []) _ H _ _ o ρ' δ1 _ S0 W0 e ?_
      cases o with
      | nx =>
        cases hg
        exact fun F σ H' S' W' => qq .non H' (kp W'.keep) S'.deal .non
      | rt d' k' =>
        cases k' with
        | sh =>
          cases hg
          exact fun v H' ⟨a, b, c⟩ => qq v H' (kp a) b (c.weak fun a z => z.imp id (pd a).mpr)
        | ow =>
          cases hg
          exact fun v H' ⟨a, b, p', e, n, t⟩ => qq v H' (kp a) b ⟨p', e, n, t.weak fun a z => z.imp (fun z => z.imp id (pd a).mpr) id⟩
        | br => cases hg
      | bk => cases hg
      | ct => cases hg
  · cases hg
/-- what the law's own def promises -/
def spL (K : PySem.W.Frag) : Sp := fun vs H Q _ => ∃ (a : Addr) (ns : List Int), vs = [.ref a] ∧ WL K H a (ns.map V.int) ∧ ns.length ≤ 63 ∧ ∀ H', Q (.bl true) H'
theorem wl_of {K : PySem.W.Frag} {H : Hp} {a : Addr} {xs : List V} (o : Only H) (h : SqL K H a xs) : WL K H a xs := by
  rcases h with (h | h) | h
  · rcases o a with z | ⟨o, ys, z⟩
    · rw [h] at z; cases z
    · rw [h] at z; cases z
  · exact .inl h
  · exact .inr h
/-- the draws that a def of the law's makes of the script -/
def dealOf (gf : List D → Option (D × Kd)) (salt : Int) (ns : List Int) : Option Dr := match gf [.wls (ns.map .int), .int salt] with
  | some (.lst [.lst cs, .int m], .ow) => (intsOf cs).map fun c => (c, m)
  | _ => none
theorem dealOf_some {gf : List D → Option (D × Kd)} {salt : Int} {ns : List Int} {δ : Dr} (h : dealOf gf salt ns = some δ) : gf [.wls (ns.map .int), .int salt] = some (.lst [.lst (δ.1.map .int), .int δ.2], .ow) := by
  unfold dealOf at h
  split at h
  · rename_i cs m e
    cases e1 : intsOf cs with
    | none => rw [e1] at h; cases h
    | some c =>
      rw [e1] at h
      cases h
      rw [e, intsOf_some e1]
  · cases h
/-- how the law begins: deal, y = (f(script, salt), []) -/
def tLaw (K : PySem.W.Frag) (gf : List D → Option (D × Kd)) (salt : Int) : TS := tPar 1 2 (tCons (tCall (spP K 2 gf) [] E0 (tCons (tVar 0) (tCons (tC (.int salt)) tNil))) (tCons (tLst tNil) tNil))
/-- THE RULE for the law -/
theorem fn_law {x qual : Str} {st : Stmt} {f : Addr} {fd : FuncData} {N : List Str} {k m : Nat} {s0 : Stmt} {rest : List Stmt} {h : HF'} {ys : Str} {gf : List D → Option (D × Kd)} {salt : Int}
    (Fn : Fun K x qual st f fd) (S : FnScope N [ys] (defScope st)) (hN : N.length = 3 + m) (hbd : defBody st = s0 :: rest)
    (hb : ∀ (cdv : Value) (A : Around) (outer : List Env) (s : Shared) (H : Hp) (E : XK), Room k (A.deeper (envOfC qual (defScope st) s.heap.objs.size f cdv)) →
      PS (cxOf CX0 P w K mg base N qual (defScope st) f cdv A outer s H E).nox s0 (tLaw K gf salt) ∧ DSs (cxOf CX0 P w K mg base N qual (defScope st) f cdv A outer s H E).nox rest h)
    (law : ∀ ns : List Int, ns.length ≤ 63 → ∃ δ ρ' δ', dealOf gf salt ns = some δ ∧ h (.un :: .dl :: .ow (.lst []) :: List.replicate m .un) δ = some (.rt (.bl true) .sh, ρ', δ')) :
    FnOk P w K mg base CX0 (k + 1) f fd [ys] (spL K) := by
  refine Fn.ok S (fun vs H Q E z => by obtain ⟨a, ns, rfl, _⟩ := z; rfl) fun cdv A outer s H vs Q E hr z => ?_
  obtain ⟨a, ns, rfl, hS, hl, q⟩ := z
  obtain ⟨δ, ρ', δ', hd, hlaw⟩ := law ns hl
  obtain ⟨p0, hrest⟩ := hb cdv A outer s H E hr
  obtain ⟨t, pp, xx⟩ := hrest.ex
  rw [hbd]
  refine ⟨_, pss_cons p0 pp, ?_⟩
  have l0 : (L2.start N [V.ref a])[0]? = some (some (.ref a)) := rfl
  refine ⟨_, l0, ?_⟩
  refine ⟨rfl, fun _ => False, [.wls (ns.map .int), .int salt], _, _, fun a z => z.elim, .cons (.wls hS (.of_ints ns)) (.cons (.int salt) .nil), dealOf_some hd, fun v H' sm o => ?_⟩
  obtain ⟨p, rfl, hp, xs, hx, hr2⟩ := o
  cases hr2 with
  | cons r1 r2 =>
    cases r2 with
    | cons r2 r3 =>
      cases r3
      cases r2
      cases r1 with
      | @lst qa ys' _ hq nq rq =>
        have rq := rq.ints
        subst rq
        have ne : p ≠ qa := fun z => nq (.inr z.symm)
        refine ⟨Nat.zero_le _, fun p2 n2 => ⟨_, _, rfl, ?_⟩⟩
        have sm2 := same_upd (o := .lst []) n2
        have n2p : p2 ≠ p := fun z => by rw [z, hx] at n2; cases n2
        have n2q : p2 ≠ qa := fun z => by rw [z, hq] at n2; cases n2
        let g : Gh := ⟨fun _ => False, some (p, qa)⟩
        let F : Fp := fun i => if i = 2 then [p2] else []
        have inF : ∀ {i a}, a ∈ F i → i = 2 ∧ a = p2 := fun {i a} z => by
          by_cases e : i = 2
          · subst e
            exact ⟨rfl, by simpa [F] using z⟩
          · have z' : a ∈ (if i = 2 then [p2] else []) := z
            rw [if_neg e] at z'
            cases z'
        have pdE : ∀ {a}, g.Pd a → a = p ∨ a = qa := fun ⟨x, y, z, z2⟩ => by cases z; exact z2
        have dl : DealR g (upd H' p2 (.lst [])) δ := fun x y z => by
          cases z
          exact ⟨ne, sm2 _ _ hx, sm2 _ _ hq⟩
        have S2 : SR K g F (((L2.start N [V.ref a]).set 1 (some (V.ref p))).set 2 (some (V.ref p2))) (.un :: .dl :: .ow (.lst []) :: List.replicate m .un) δ (upd H' p2 (.lst [])) := {
          len := by
            unfold L2.start
            simp only [List.length_set, List.length_append, List.length_map, List.length_replicate, List.length_cons, List.length_nil]
            omega
          slot := fun i s hi => by
            have hl3 : 3 ≤ (L2.start N [V.ref a]).length := by
              unfold L2.start
              simp only [List.length_append, List.length_map, List.length_replicate, List.length_cons, List.length_nil]
              omega
            rcases i with _ | _ | _ | i
            · cases hi
              trivial
            · cases hi
              refine ⟨p, qa, rfl, ?_⟩
              rw [List.getElem?_set_ne (by decide), List.getElem?_set_self (by omega)]
            · cases hi
              refine ⟨p2, ?_, rfl, [], upd_same, .nil⟩
              rw [List.getElem?_set_self (by rw [List.length_set]; omega)]
            · have e : s = .un := (List.mem_replicate.mp (List.mem_of_getElem? (show (List.replicate m SV.un)[i]? = some s from hi))).2
              subst e
              trivial
          apart := fun i j b h1 h2 => (inF h1).1.trans (inF h2).1.symm
          new := fun i b z => ⟨id, fun pd => by
            have e := (inF z).2
            subst e
            exact (pdE pd).elim n2p n2q⟩
          dom := fun b z => z.elim
          there := fun b z => by
            rcases z with z | z | ⟨i, z⟩
            · exact z.elim
            · rcases pdE z with rfl | rfl
              · rw [sm2 _ _ hx]; simp
              · rw [sm2 _ _ hq]; simp
            · rw [(inF z).2, upd_same]; simp
          mt := fun i b z => by
            rw [(inF z).2]
            exact ⟨_, upd_same, trivial⟩
          deal := dl }
        have W2 : SH H' g F (upd H' p2 (.lst [])) := ⟨fun i b z => by rw [(inF z).2]; exact n2, fun b z => z.elim, fun b z => by
          rcases pdE z with rfl | rfl
          · rw [hx]; simp
          · rw [hq]; simp, Keep.of_same sm2⟩
        refine xx H' g F _ _ _ δ _ ρ' δ' _ S2 W2 hlaw fun v H3 z => ?_
        obtain ⟨_, _, z⟩ := z
        cases z
        exact q H3

end
end DL
/-! D-layer, part k: what a def does with the draws' own list: d[0], d[1]. -/
namespace DL
open PySem PySem.Spec PyProof.Rows L2
section
variable {X : Cx}
/-- the draws' list where a slot holds it -/
theorem dl_at {K : PySem.W.Frag} {g : Gh} {F : Fp} {σ : L2.St} {ρ : Rho} {δ : Dr} {H : Hp} {i : Nat} (S : SR K g F σ ρ δ H) (e : ρ[i]? = some .dl) : ∃ p q, g.P = some (p, q) ∧ σ[i]? = some (some (.ref p)) ∧ p ≠ q ∧ H p = some (.lst [.ref q, .int δ.2]) ∧ H q = some (.lst (δ.1.map .int)) := by
  obtain ⟨p, q, h1, h2⟩ := S.slot i _ e
  obtain ⟨a, b, c⟩ := S.deal p q h1
  exact ⟨p, q, h1, h2, a, b, c⟩
theorem pd_of {g : Gh} {p q : Addr} (h : g.P = some (p, q)) {a : Addr} : g.Pd a ↔ a = p ∨ a = q := by
  unfold Gh.Pd
  rw [h]
  exact ⟨fun ⟨x, y, z, z2⟩ => by cases z; exact z2, fun z => ⟨p, q, rfl, z⟩⟩
/-- one of the two lists is changed -/
theorem dl_turn {K : PySem.W.Frag} {g : Gh} {F : Fp} {σ : L2.St} {ρ : Rho} {δ δ' : Dr} {H : Hp} {p q a : Addr} {xs ys : List V} (S : SR K g F σ ρ δ H) (h : g.P = some (p, q)) (ha : a = p ∨ a = q) (e : H a = some (.lst xs)) (d : DealR g (upd H a (.lst ys)) δ') : Keep g.Pd H (upd H a (.lst ys)) ∧ SR K g F σ ρ δ' (upd H a (.lst ys)) := by
  have k := keep_upd (P := g.Pd) (o' := .lst ys) e trivial trivial ((pd_of h).mpr ha)
  exact ⟨k, S.grow k d⟩
theorem dl_setQ {g : Gh} {δ : Dr} {H : Hp} {p q : Addr} {cs : List Int} (h : g.P = some (p, q)) (n : p ≠ q) (h1 : H p = some (.lst [.ref q, .int δ.2])) : DealR g (upd H q (.lst (cs.map .int))) (cs, δ.2) := fun x y e => by
  rw [h] at e
  cases e
  exact ⟨n, by rw [upd_ne n]; exact h1, upd_same⟩
theorem dl_setP {g : Gh} {δ : Dr} {H : Hp} {p q : Addr} {m : Int} (h : g.P = some (p, q)) (n : p ≠ q) (h2 : H q = some (.lst (δ.1.map .int))) : DealR g (upd H p (.lst [.ref q, .int m])) (δ.1, m) := fun x y e => by
  rw [h] at e
  cases e
  exact ⟨n, upd_same, by rw [upd_ne n.symm]; exact h2⟩
/-- d[0] -/
abbrev tD0 (K : PySem.W.Frag) (i : Nat) : TE := tOp (rIxL K) (tVar i) (tC (.int 0))
theorem pe_d0 {i : Nat} {y : Str} {yp p2 p3 : Pos} {k : Nat} (hy : PE X (.Name y yp) (tVar i)) : PE X (.Subscript (.Name y yp) (.Constant (.int 0) k p2) p3) (tD0 X.K i) := pe_ix ix_list hy pe_int (fun _ _ => rfl)
theorem d0_run {K : PySem.W.Frag} {i : Nat} {σ : L2.St} {H : Hp} {Q : VK} {p q : Addr} {m : Int} (h1 : σ[i]? = some (some (.ref p))) (h2 : H p = some (.lst [.ref q, .int m])) (h : Q (.ref q) H) : tD0 K i σ H Q :=
  ⟨_, h1, p, _, 0, .ref q, rfl, rfl, .inl (.inl h2), rfl, h⟩
/-- len(d[0]) -/
def fDLen (i : Nat) : EF := fun ρ δ => match ρ[i]? with
  | some .dl => some (.int δ.1.length, .sh, δ)
  | _ => none
theorem de_dlen {i : Nat} {y : Str} {yp p2 p3 p pos : Pos} {k : Nat} (hy : PE X (.Name y yp) (tVar i)) (hg : Gl X "len") (hm : X.mg "len" = none)
    (he : starEach [.Subscript (.Name y yp) (.Constant (.int 0) k p2) p3] X.env = (false, eval (.Subscript (.Name y yp) (.Constant (.int 0) k p2) p3) X.env) :: starEach [] X.env := by rfl) : DE X (.Call (.Name "len" p) [.Subscript (.Name y yp) (.Constant (.int 0) k p2) p3] [] pos) (fDLen i) := by
  refine ⟨_, pe_callB call_len_seq hg hm boot_len (pa_cons (pe_d0 hy) pa_nil he) (by decide) (by decide) he, fun g F σ H ρ δ d kd δ' Q S hf q => ?_⟩
  unfold fDLen at hf
  split at hf
  · rename_i e
    cases hf
    obtain ⟨p, qa, h1, h2, n, h3, h4⟩ := dl_at S e
    refine d0_run h2 h3 ⟨_, _, rfl, .inl (.inl (.inl h4)), ?_⟩
    rw [List.length_map]
    exact q _ H (Keep.refl _ _) S (.int _)
  · cases hf
/-- d[0][-1] -/
def fDLast (i : Nat) : EF := fun ρ δ => match ρ[i]? with
  | some .dl => (δ.1[δ.1.length - 1]?).map fun c => (.int c, .sh, δ)
  | _ => none
theorem de_dlast {i : Nat} {y : Str} {yp p2 p3 p4 p5 p6 : Pos} {k k2 : Nat} (hy : PE X (.Name y yp) (tVar i)) : DE X (.Subscript (.Subscript (.Name y yp) (.Constant (.int 0) k p2) p3) (.UnaryOp .USub (.Constant (.int 1) k2 p4) p5) p6) (fDLast i) := by
  refine ⟨_, pe_ix ix_list (pe_d0 hy) (pe_un un_neg pe_int) (fun _ _ => rfl), fun g F σ H ρ δ d kd δ' Q S hf q => ?_⟩
  unfold fDLast at hf
  split at hf
  · rename_i e
    cases e1 : δ.1[δ.1.length - 1]? with
    | none => rw [e1] at hf; cases hf
    | some c =>
      rw [e1] at hf
      cases hf
      obtain ⟨p, qa, h1, h2, n, h3, h4⟩ := dl_at S e
      refine d0_run h2 h3 ⟨1, rfl, qa, _, -1, .int c, rfl, rfl, .inl (.inl h4), ?_, q _ H (Keep.refl _ _) S (.int _)⟩
      have hl : 0 < δ.1.length := by
        cases h : δ.1 with
        | nil => rw [h] at e1; cases e1
        | cons a b => simp
      have e2 : δ.1 = δ.1.dropLast ++ [c] := by
        have := List.dropLast_concat_getLast (l := δ.1) (by intro z; rw [z] at hl; cases hl)
        rw [List.getElem?_eq_getElem (by omega)] at e1
        have e3 := Option.some.inj e1
        rw [← List.getLast_eq_getElem (by intro z; rw [z] at hl; cases hl)] at e3
        rw [← e3]
        exact this.symm
      rw [e2, List.map_append]
      exact atI_last _ _
  · cases hf
/-- d[0].pop() -/
def fDPop (i : Nat) : EF := fun ρ δ => match ρ[i]? with
  | some .dl => (δ.1[δ.1.length - 1]?).map fun c => (.int c, .sh, (δ.1.dropLast, δ.2))
  | _ => none
theorem de_dpop {i : Nat} {y : Str} {yp p2 p3 pa pc : Pos} {k : Nat} (hy : PE X (.Name y yp) (tVar i))
    (hm : PE X (.Subscript (.Name y yp) (.Constant (.int 0) k p2) p3) (tD0 X.K i) → PE X (.Call (.Attribute (.Subscript (.Name y yp) (.Constant (.int 0) k p2) p3) "pop" pa) [] [] pc) (tBM0 X.K "list" rPop (tD0 X.K i)) := by
      exact fun h1 => pe_bm0 PySem.F.plainAttrs_list PySem.F.slot_list_pop PySem.F.type_list_pop mt_pop h1) : DE X (.Call (.Attribute (.Subscript (.Name y yp) (.Constant (.int 0) k p2) p3) "pop" pa) [] [] pc) (fDPop i) := by
  refine ⟨_, hm (pe_d0 hy), fun g F σ H ρ δ d kd δ' Q S hf q => ?_⟩
  unfold fDPop at hf
  split at hf
  · rename_i e
    cases e1 : δ.1[δ.1.length - 1]? with
    | none => rw [e1] at hf; cases hf
    | some c =>
      rw [e1] at hf
      cases hf
      obtain ⟨p, qa, h1, h2, n, h3, h4⟩ := dl_at S e
      refine d0_run h2 h3 ⟨.inl ⟨rfl, _, .inl (.inl h4)⟩, qa, _, .int c, rfl, rfl, h4, ?_, ?_⟩
      · rw [List.length_map, List.getElem?_map, e1]
        rfl
      · have hd : (δ.1.map V.int).dropLast = δ.1.dropLast.map V.int := by rw [List.dropLast_eq_take, List.dropLast_eq_take, List.map_take, List.length_map]
        rw [hd]
        obtain ⟨k1, S1⟩ := dl_turn (δ' := (δ.1.dropLast, δ.2)) S h1 (.inr rfl) h4 (dl_setQ h1 n h3)
        exact q _ _ k1 S1 (.int _)
  · cases hf
/-- d[0].append(e) -/
def hDApp (i : Nat) (f : EF) : HF' := fun ρ δ => match ρ[i]? with
  | some .dl => (f ρ δ).bind fun p => match p.1 with
    | .int z => if p.2.2.1.length < sizeLine then some (.nx, ρ, (p.2.2.1 ++ [z], p.2.2.2)) else none
    | _ => none
  | _ => none
theorem ds_dapp {i : Nat} {y : Str} {e : Expr} {f : EF} {yp p2 p3 pa pc pos : Pos} {k : Nat} (hy : PE X (.Name y yp) (tVar i)) (he : DE X e f)
    (hs : swapsWith (.Call (.Attribute (.Subscript (.Name y yp) (.Constant (.int 0) k p2) p3) "append" pa) [e] [] pc) none pos.line X.env = pure false := by rfl)
    (hm : PE X (.Subscript (.Name y yp) (.Constant (.int 0) k p2) p3) (tD0 X.K i) → ∀ t, PA X [e] t → PE X (.Call (.Attribute (.Subscript (.Name y yp) (.Constant (.int 0) k p2) p3) "append" pa) [e] [] pc) (tBM X.K "list" rAppend (tD0 X.K i) t) := by
      exact fun h1 t h2 => pe_bm PySem.F.plainAttrs_list PySem.F.slot_list_append PySem.F.type_list_append mt_append h1 h2)
    (h1 : starEach [e] X.env = (false, eval e X.env) :: starEach [] X.env := by rfl) : DS X (.Expr (.Call (.Attribute (.Subscript (.Name y yp) (.Constant (.int 0) k p2) p3) "append" pa) [e] [] pc) pos) (hDApp i f) := by
  obtain ⟨t, p, x⟩ := he.ex
  refine ⟨_, ps_expr (hm (pe_d0 hy) _ (pa_cons p pa_nil h1)) hs, fun H0 g F σ H ρ δ o ρ' δ' D' S W hf q => ?_⟩
  unfold hDApp at hf
  split at hf
  · rename_i e0
    cases e1 : f ρ δ with
    | none => rw [e1] at hf; cases hf
    | some c =>
      obtain ⟨d, kd, δ1⟩ := c
      rw [e1] at hf
      simp only [Option.bind_some] at hf
      split at hf
      · rename_i z
        split at hf
        · rename_i hl
          cases hf
          obtain ⟨p, qa, g1, g2, n, g3, g4⟩ := dl_at S e0
          refine d0_run g2 g3 ⟨.inl ⟨rfl, _, .inl (.inl g4)⟩, ?_⟩
          refine x g F σ H ρ δ _ kd δ1 _ S e1 fun v H1 k1 S1 r1 => ?_
          obtain ⟨p', qa', g1', g2', n', g3', g4'⟩ := dl_at S1 e0
          rw [g1] at g1'
          cases g1'
          have ev := (r1.rd S.good).int
          subst ev
          refine ⟨qa, _, .int z, rfl, rfl, g4', by rw [List.length_map]; exact hl, ?_⟩
          rw [show δ1.1.map V.int ++ [V.int z] = (δ1.1 ++ [z]).map V.int by rw [List.map_append]; rfl]
          obtain ⟨k2, S2⟩ := dl_turn (δ' := (δ1.1 ++ [z], δ1.2)) S1 g1 (.inr rfl) g4' (dl_setQ g1 n' g3')
          exact q F σ _ S2 ((W.grow k1).grow k2)
        · cases hf
      · cases hf
  · cases hf
/-- d[1] -/
def fD1 (i : Nat) : EF := fun ρ δ => match ρ[i]? with
  | some .dl => some (.int δ.2, .sh, δ)
  | _ => none
theorem de_d1 {i : Nat} {y : Str} {yp p2 p3 : Pos} {k : Nat} (hy : PE X (.Name y yp) (tVar i)) : DE X (.Subscript (.Name y yp) (.Constant (.int 1) k p2) p3) (fD1 i) := by
  refine ⟨_, pe_ix ix_list hy pe_int (fun _ _ => rfl), fun g F σ H ρ δ d kd δ' Q S hf q => ?_⟩
  unfold fD1 at hf
  split at hf
  · rename_i e
    cases hf
    obtain ⟨p, qa, h1, h2, n, h3, h4⟩ := dl_at S e
    exact ⟨_, h2, p, _, 1, .int δ.2, rfl, rfl, .inl (.inl h3), rfl, q _ H (Keep.refl _ _) S (.int _)⟩
  · cases hf
/-- d[1] = e -/
def hDSet1 (i : Nat) (f : EF) : HF' := fun ρ δ => match ρ[i]? with
  | some .dl => (f ρ δ).bind fun p => match p.1 with
    | .int z => some (.nx, ρ, (p.2.2.1, z))
    | _ => none
  | _ => none
theorem ds_dset1 {i : Nat} {y : Str} {e : Expr} {f : EF} {yp p2 p3 pos : Pos} {k : Nat} (hy : PE X (.Name y yp) (tVar i)) (he : DE X e f)
    (hg : PG X (.Subscript (.Name y yp) (.Constant (.int 1) k p2) p3) (gSub (tVar i) (tC (.int 1)) rSetL))
    (hs : swapsWithSole [.Subscript (.Name y yp) (.Constant (.int 1) k p2) p3] e pos.line X.env = pure false := by rfl) (hw : swappedStores [.Subscript (.Name y yp) (.Constant (.int 1) k p2) p3] e X.env = pure none := by rfl)
    (h1 : (assignEach [.Subscript (.Name y yp) (.Constant (.int 1) k p2) p3] X.env).map (·.2) = [assign (.Subscript (.Name y yp) (.Constant (.int 1) k p2) p3) X.env] := by rfl) : DS X (.Assign [.Subscript (.Name y yp) (.Constant (.int 1) k p2) p3] e pos) (hDSet1 i f) := by
  obtain ⟨t, p, x⟩ := he.ex
  refine ⟨_, ps_asg p hg hs hw h1, fun H0 g F σ H ρ δ o ρ' δ' D' S W hf q => ?_⟩
  unfold hDSet1 at hf
  split at hf
  · rename_i e0
    cases e1 : f ρ δ with
    | none => rw [e1] at hf; cases hf
    | some c =>
      obtain ⟨d, kd, δ1⟩ := c
      rw [e1] at hf
      simp only [Option.bind_some] at hf
      split at hf
      · rename_i z
        cases hf
        refine x g F σ H ρ δ _ kd δ1 _ S e1 fun v H1 k1 S1 r1 => ?_
        obtain ⟨p, qa, g1, g2, n, g3, g4⟩ := dl_at S1 e0
        have ev := (r1.rd S.good).int
        subst ev
        refine ⟨_, g2, ?_⟩
        obtain ⟨k2, S2⟩ := dl_turn (δ' := (δ1.1, z)) S1 g1 (.inl rfl) g3 (dl_setP g1 n g4)
        have fin := q F σ _ S2 ((W.grow k1).grow k2)
        exact ⟨p, _, 1, _, rfl, rfl, g3, rfl, fin⟩
      · cases hf
  · cases hf
end
end DL
/-! D-layer, part z: list(zip(a, b)) of two tuples. -/
namespace DLZ
open PySem PySem.Spec PyProof.Rows L2 RZ
section
variable {prog : Program} {w : World} {A : Around} {E : Value → Shared → Prop} {s : Shared} {z TI TO T i1 i2 l1 l2 : Addr} {f : Bool} {oT : Obj} {n m : Nat} {us vs : Array Value} {u v : Value}
theorem held_item {Q : Value → Shared → Prop} (D : ZipApart z TI TO i1 i2 l1 l2) (gz : IsZipHeld s.heap z TI TO T f) (gT : s.heap.get? T = some oT) (gI : IsPair s.heap TI (.ref i1) (.ref i2))
    (a1 : s.heap.IsTupleIter i1 l1 n) (a2 : s.heap.IsTupleIter i2 l2 m) (b1 : s.heap.IsTuple l1 us) (b2 : s.heap.IsTuple l2 vs) (eu : us[n]? = some u) (ev : vs[m]? = some v)
    (q : ∀ g, IsZipHeld g z TI TO T true → g.IsTupleIter i1 l1 (n + 1) → g.IsTupleIter i2 l2 (m + 1) → IsPair g s.heap.objs.size u v → g.objs.size = s.heap.objs.size + 1 → (∀ c o, c ≠ z → c ≠ i1 → c ≠ i2 → s.heap.get? c = some o → g.get? c = some o) → Q (.ref s.heap.objs.size) { s with heap := g }) :
    wpAny (model prog w) A (Builtin.«zip.__next__» ⟨[.ref z], []⟩) (fun r s' => ∃ y, r = .done (.ret y) ∧ Q y s') E s := by
  show wpAny _ _ (field (.ref z) 2 >>= _) _ E s
  refine wpAny_bind (wpAny_field gz rfl (x := .bool false) rfl ?_)
  show wpAny _ _ (field (.ref z) 3 >>= _) _ E s
  refine wpAny_bind (wpAny_field gz rfl (x := .ref TI) rfl ?_)
  refine wpAny_bind (wpAny_seqItems gI rfl ?_)
  show wpAny _ _ (Builtin.SmallTypes.ownedTupleIsFree (.ref z) >>= _) _ E s
  refine wpAny_bind (wpAny_tupleHeld_zip gz gT fun g1 gz1 c1 => ?_)
  simp only [Bool.false_eq_true, if_false]
  refine wpAny_bind ?_
  rw [← Array.forIn_toList]
  simp only [List.forIn_cons, List.forIn_nil]
  refine wpAny_bind (wpAny_bind (wpAny_holding ?_))
  show wpAny _ _ (Builtin.SmallTypes.nextOf (.ref i1) >>= _) _ E _
  refine wpAny_bind (nextOf_tuple_item (s := { s with heap := g1 }) (a1.extBut c1.extBut D.i1z) (b1.extBut c1.extBut D.l1z) eu fun g2 a12 c2 => wpAny_pure ?_)
  refine wpAny_pure ?_
  refine wpAny_bind (wpAny_bind (wpAny_holding ?_))
  show wpAny _ _ (Builtin.SmallTypes.nextOf (.ref i2) >>= _) _ E _
  refine wpAny_bind (nextOf_tuple_item (s := { s with heap := g2 }) ((a2.extBut c1.extBut D.i2z).extBut c2.extBut D.i12.symm) ((b2.extBut c1.extBut D.l2z).extBut c2.extBut D.l2i1) ev fun g3 a23 c3 => wpAny_pure ?_)
  refine wpAny_pure (wpAny_pure ?_)
  show wpAny _ _ (newTuple [u, v] >>= _) _ E _
  refine wpAny_bind (wpAny_newTuple ?_)
  have e3 : g3.objs.size = s.heap.objs.size := by rw [c3.1, c2.1, c1.1]
  have gz3 : IsZipHeld g3 z TI TO T true := c3.extBut _ _ D.i2z.symm (c2.extBut _ _ D.i1z.symm gz1)
  have kp : ∀ c o, c ≠ z → c ≠ i1 → c ≠ i2 → s.heap.get? c = some o → g3.get? c = some o := fun c o n1 n2 n3 e => c3.extBut _ _ n3 (c2.extBut _ _ n2 (c1.extBut _ _ n1 e))
  have a13 : g3.IsTupleIter i1 l1 (n + 1) := a12.extBut c3.extBut D.i12
  refine wpAny_pure ⟨_, rfl, ?_⟩
  show Q (.ref g3.objs.size) _
  have pr : IsPair (g3.push { cls := .type "tuple", data := .seq #[u, v] }) g3.objs.size u v := Heap.get?_push_size _ rfl
  have e4 : (g3.push { cls := .type "tuple", data := .seq #[u, v] }).objs.size = g3.objs.size + 1 := Heap.size_push ..
  rw [e3] at pr e4 ⊢
  exact q _ (Heap.get?_push_of_some _ gz3) (a13.at fun o e => Heap.get?_push_of_some _ e) (a23.at fun o e => Heap.get?_push_of_some _ e) pr e4 fun c o n1 n2 n3 e => Heap.get?_push_of_some _ (kp c o n1 n2 n3 e)
theorem held_end {Q : Fin → Shared → Prop} (hA : A.handled = none) (D : ZipApart z TI TO i1 i2 l1 l2) (gz : IsZipHeld s.heap z TI TO T f) (gT : s.heap.get? T = some oT) (gI : IsPair s.heap TI (.ref i1) (.ref i2))
    (a1 : s.heap.IsTupleIter i1 l1 n) (a2 : s.heap.IsTupleIter i2 l2 m) (b1 : s.heap.IsTuple l1 us) (b2 : s.heap.IsTuple l2 vs) (he : us[n]? = none ∨ vs[m]? = none)
    (q : ∀ g e, (∀ c o, c ≠ z → c ≠ i1 → c ≠ i2 → s.heap.get? c = some o → g.get? c = some o) → (∃ o, g.get? e = some o ∧ o.cls = .type "StopIteration") → E (.ref e) { s with heap := g }) :
    wpAny (model prog w) A (Builtin.«zip.__next__» ⟨[.ref z], []⟩) Q E s := by
  show wpAny _ _ (field (.ref z) 2 >>= _) Q _ s
  refine wpAny_bind (wpAny_field gz rfl (x := .bool false) rfl ?_)
  show wpAny _ _ (field (.ref z) 3 >>= _) Q _ s
  refine wpAny_bind (wpAny_field gz rfl (x := .ref TI) rfl ?_)
  refine wpAny_bind (wpAny_seqItems gI rfl ?_)
  show wpAny _ _ (Builtin.SmallTypes.ownedTupleIsFree (.ref z) >>= _) Q _ s
  refine wpAny_bind (wpAny_tupleHeld_zip gz gT fun g1 gz1 c1 => ?_)
  simp only [Bool.false_eq_true, if_false]
  refine wpAny_bind ?_
  rw [← Array.forIn_toList]
  simp only [List.forIn_cons, List.forIn_nil]
  refine wpAny_bind (wpAny_bind (wpAny_holding ?_))
  show wpAny _ _ (Builtin.SmallTypes.nextOf (.ref i1) >>= _) _ _ _
  cases hu : us[n]? with
  | none =>
    refine wpAny_bind (nextOf_tuple_end (s := { s with heap := g1 }) hA (a1.extBut c1.extBut D.i1z) (b1.extBut c1.extBut D.l1z) hu fun g2 e c2 h => ?_)
    exact q g2 e (fun c o n1 n2 _ x => c2 _ _ n2 (c1.extBut _ _ n1 x)) h
  | some x =>
    have hv : vs[m]? = none := by
      rcases he with h | h
      · rw [hu] at h; cases h
      · exact h
    refine wpAny_bind (nextOf_tuple_item (s := { s with heap := g1 }) (a1.extBut c1.extBut D.i1z) (b1.extBut c1.extBut D.l1z) hu fun g2 a12 c2 => wpAny_pure ?_)
    refine wpAny_pure ?_
    refine wpAny_bind (wpAny_bind (wpAny_holding ?_))
    show wpAny _ _ (Builtin.SmallTypes.nextOf (.ref i2) >>= _) _ _ _
    refine wpAny_bind (nextOf_tuple_end (s := { s with heap := g2 }) hA ((a2.extBut c1.extBut D.i2z).extBut c2.extBut D.i12.symm) ((b2.extBut c1.extBut D.l2z).extBut c2.extBut D.l2i1) hv fun g3 e c3 h => ?_)
    exact q g3 e (fun c o n1 n2 n3 x => c3 _ _ n3 (c2.extBut _ _ n2 (c1.extBut _ _ n1 x))) h
theorem next_item {Q : Option Value → Shared → Prop} (D : ZipApart z TI TO i1 i2 l1 l2) (gz : IsZipHeld s.heap z TI TO T f) (gT : s.heap.get? T = some oT) (gI : IsPair s.heap TI (.ref i1) (.ref i2))
    (a1 : s.heap.IsTupleIter i1 l1 n) (a2 : s.heap.IsTupleIter i2 l2 m) (b1 : s.heap.IsTuple l1 us) (b2 : s.heap.IsTuple l2 vs) (eu : us[n]? = some u) (ev : vs[m]? = some v)
    (q : ∀ g, IsZipHeld g z TI TO T true → g.IsTupleIter i1 l1 (n + 1) → g.IsTupleIter i2 l2 (m + 1) → IsPair g s.heap.objs.size u v → g.objs.size = s.heap.objs.size + 1 → (∀ c o, c ≠ z → c ≠ i1 → c ≠ i2 → s.heap.get? c = some o → g.get? c = some o) → Q (some (.ref s.heap.objs.size)) { s with heap := g }) :
    wpAny (model prog w) A (pyNext (.ref z)) Q E s := by
  have ty : s.TypeIs (.ref z) "zip" := ⟨_, gz, rfl⟩
  unfold pyNext
  exact wpAny_bind (wpAny_attempt (wpAny_callSpecial?_slot (name := Str.ofString "__next__") ty F.slot_zip_next (wpAny_call_entry F.slot_zip_next ty F.entry_zip_next
      (held_item D gz gT gI a1 a2 b1 b2 eu ev fun g x1 x2 x3 x4 x5 x6 => wpAny_pure (q g x1 x2 x3 x4 x5 x6)) (F.args_zip_next_1 _))))
theorem next_end {Q : Option Value → Shared → Prop} (hA : A.handled = none) (D : ZipApart z TI TO i1 i2 l1 l2) (gz : IsZipHeld s.heap z TI TO T f) (gT : s.heap.get? T = some oT) (gI : IsPair s.heap TI (.ref i1) (.ref i2))
    (a1 : s.heap.IsTupleIter i1 l1 n) (a2 : s.heap.IsTupleIter i2 l2 m) (b1 : s.heap.IsTuple l1 us) (b2 : s.heap.IsTuple l2 vs) (he : us[n]? = none ∨ vs[m]? = none)
    (q : ∀ g, (∀ c o, c ≠ z → c ≠ i1 → c ≠ i2 → s.heap.get? c = some o → g.get? c = some o) → Q none { s with heap := g }) : wpAny (model prog w) A (pyNext (.ref z)) Q E s := by
  have ty : s.TypeIs (.ref z) "zip" := ⟨_, gz, rfl⟩
  unfold pyNext
  refine wpAny_bind (wpAny_attempt (wpAny_callSpecial?_slot (name := Str.ofString "__next__") ty F.slot_zip_next (wpAny_call_entry F.slot_zip_next ty F.entry_zip_next
    (held_end hA D gz gT gI a1 a2 b1 b2 he fun g e k h => ?_) (F.args_zip_next_1 _))))
  obtain ⟨o, ho, hc⟩ := h
  refine wpAny_bind (wpAny_isInstance (T := "StopIteration") (b := true) ⟨o, ho, hc⟩ isSubtype_stop ?_)
  exact wpAny_pure (q _ k)
/-- a zip at its i-th turn -/
def ZS (z TI TO i1 i2 l1 l2 : Addr) (i : Nat) (h : Heap) : Prop :=
  IsPair h TI (.ref i1) (.ref i2) ∧ h.IsTupleIter i1 l1 i ∧ h.IsTupleIter i2 l2 i ∧ ((IsZip h z TI TO .none ∧ ∃ a b, IsPair h TO a b) ∨ ∃ T f o, IsZipHeld h z TI TO T f ∧ h.get? T = some o)
theorem ZS.keep {i : Nat} {h h' : Heap} (x : ZS z TI TO i1 i2 l1 l2 i h) (k : ∀ c o, h.get? c = some o → h'.get? c = some o) : ZS z TI TO i1 i2 l1 l2 i h' := by
  obtain ⟨a, b, c, d⟩ := x
  refine ⟨k _ _ a, b.at fun o e => k _ o e, c.at fun o e => k _ o e, ?_⟩
  rcases d with ⟨d, x, y, e⟩ | ⟨T, f, o, d, e⟩
  · exact .inl ⟨k _ _ d, x, y, k _ _ e⟩
  · exact .inr ⟨T, f, o, k _ _ d, k _ _ e⟩
theorem zs_next {i : Nat} {Q : Option Value → Shared → Prop} (D : ZipApart z TI TO i1 i2 l1 l2) (x : ZS z TI TO i1 i2 l1 l2 i s.heap) (b1 : s.heap.IsTuple l1 us) (b2 : s.heap.IsTuple l2 vs) (eu : us[i]? = some u) (ev : vs[i]? = some v)
    (q : ∀ g, ZS z TI TO i1 i2 l1 l2 (i + 1) g → IsPair g s.heap.objs.size u v → (∀ c o, c ∉ [z, TI, TO, i1, i2] → s.heap.get? c = some o → g.get? c = some o) → Q (some (.ref s.heap.objs.size)) { s with heap := g }) :
    wpAny (model prog w) A (pyNext (.ref z)) Q E s := by
  obtain ⟨gI, a1, a2, d⟩ := x
  rcases d with ⟨d, x, y, e⟩ | ⟨T, f, o, d, e⟩
  · refine pyNext_zipT_item D d gI e a1 a2 b1 b2 eu ev fun g y1 y2 y3 y4 y5 y6 k => q g ⟨?_, y3, y4, .inr ⟨_, false, _, y1, y5⟩⟩ y5 fun c o nc h => ?_
    · exact k _ _ D.TIz D.TITO D.TIi1 D.TIi2 gI
    · simp only [List.mem_cons, List.not_mem_nil, or_false, not_or] at nc
      exact k c o nc.1 nc.2.2.1 nc.2.2.2.1 nc.2.2.2.2 h
  · by_cases hT : T = z ∨ T = i1 ∨ T = i2
    · refine next_item D d e gI a1 a2 b1 b2 eu ev fun g y1 y2 y3 y4 y5 k => q g ⟨k _ _ D.TIz D.TIi1 D.TIi2 gI, y2, y3, .inr ?_⟩ y4 fun c o nc h => ?_
      · rcases hT with rfl | rfl | rfl
        · exact ⟨_, _, _, y1, y1⟩
        · obtain ⟨o', e', _⟩ := y2
          exact ⟨_, _, _, y1, e'⟩
        · obtain ⟨o', e', _⟩ := y3
          exact ⟨_, _, _, y1, e'⟩
      · simp only [List.mem_cons, List.not_mem_nil, or_false, not_or] at nc
        exact k c o nc.1 nc.2.2.2.1 nc.2.2.2.2 h
    · simp only [not_or] at hT
      refine next_item D d e gI a1 a2 b1 b2 eu ev fun g y1 y2 y3 y4 y5 k => q g ⟨k _ _ D.TIz D.TIi1 D.TIi2 gI, y2, y3, .inr ⟨_, _, _, y1, k _ _ hT.1 hT.2.1 hT.2.2 e⟩⟩ y4 fun c o nc h => ?_
      simp only [List.mem_cons, List.not_mem_nil, or_false, not_or] at nc
      exact k c o nc.1 nc.2.2.2.1 nc.2.2.2.2 h
theorem zs_end {i : Nat} {Q : Option Value → Shared → Prop} (hA : A.handled = none) (D : ZipApart z TI TO i1 i2 l1 l2) (x : ZS z TI TO i1 i2 l1 l2 i s.heap) (b1 : s.heap.IsTuple l1 us) (b2 : s.heap.IsTuple l2 vs) (he : us[i]? = none ∨ vs[i]? = none)
    (q : ∀ g, (∀ c o, c ∉ [z, TI, TO, i1, i2] → s.heap.get? c = some o → g.get? c = some o) → Q none { s with heap := g }) : wpAny (model prog w) A (pyNext (.ref z)) Q E s := by
  obtain ⟨gI, a1, a2, d⟩ := x
  rcases d with ⟨d, x, y, e⟩ | ⟨T, f, o, d, e⟩
  · refine pyNext_zipT_end hA D d gI e a1 a2 b1 b2 he fun g k => q g fun c o nc h => ?_
    simp only [List.mem_cons, List.not_mem_nil, or_false, not_or] at nc
    exact k c o nc.1 nc.2.2.1 nc.2.2.2.1 nc.2.2.2.2 h
  · refine next_end hA D d e gI a1 a2 b1 b2 he fun g k => q g fun c o nc h => ?_
    simp only [List.mem_cons, List.not_mem_nil, or_false, not_or] at nc
    exact k c o nc.1 nc.2.2.2.1 nc.2.2.2.2 h
end

section
variable {X : Cx} {pins : List (Addr × Obj)} {σ : L2.St} {A : Around} {z TI TO i1 i2 l1 l2 S : Addr} {xs ys : List V}
theorem ZS.other {i : Nat} {h h' : Heap} {S : Addr} (x : ZS z TI TO i1 i2 l1 l2 i h) (hSf : S ∉ [z, TI, TO, i1, i2]) (k : ∀ c o, c ≠ S → h.get? c = some o → h'.get? c = some o) (ex : ∃ o, h'.get? S = some o) : ZS z TI TO i1 i2 l1 l2 i h' := by
  simp only [List.mem_cons, List.not_mem_nil, or_false, not_or] at hSf
  obtain ⟨n1, n2, n3, n4, n5⟩ := hSf
  obtain ⟨a, b, c, d⟩ := x
  refine ⟨k _ _ (Ne.symm n2) a, b.at fun o e => k _ o (Ne.symm n4) e, c.at fun o e => k _ o (Ne.symm n5) e, ?_⟩
  rcases d with ⟨d, x, y, e⟩ | ⟨T, f, o, d, e⟩
  · exact .inl ⟨k _ _ (Ne.symm n1) d, x, y, k _ _ (Ne.symm n3) e⟩
  · by_cases hT : T = S
    · subst hT
      obtain ⟨o', e'⟩ := ex
      exact .inr ⟨T, f, o', k _ _ (Ne.symm n1) d, e'⟩
    · exact .inr ⟨T, f, o, k _ _ (Ne.symm n1) d, k _ _ hT e⟩
/-- acc: the first i pairs -/
def ZP (H : Hp) (xs ys acc : List V) (i : Nat) : Prop := acc.length = i ∧ ∀ j, j < i → ∃ T x y, acc[j]? = some (.ref T) ∧ xs[j]? = some x ∧ ys[j]? = some y ∧ H T = some (.tup [x, y])
theorem ZP.keep {H H' : Hp} {acc : List V} {i : Nat} (k : DL.Keep (fun a => a = S) H H') (h : ZP H xs ys acc i) : ZP H' xs ys acc i := by
  refine ⟨h.1, fun j hj => ?_⟩
  obtain ⟨T, x, y, e1, e2, e3, e4⟩ := h.2 j hj
  exact ⟨T, x, y, e1, e2, e3, k.still e4 (by exact id)⟩
theorem ext_loop {R : Result → Shared → Prop} {res : Value} {N0 : Nat} (hlow : ∀ c ∈ [z, TI, TO, i1, i2], c < N0) (hA : A.in1.handled = none) (D : ZipApart z TI TO i1 i2 l1 l2) (hSf : S ∉ [z, TI, TO, i1, i2]) (hz : xs.length ≤ sizeLine) :
    ∀ (k i : Nat) (s : Shared) (H : Hp) (acc : List V), min xs.length ys.length - i = k → i ≤ min xs.length ys.length → Inv X pins σ H s → SqT X.K H l1 xs → SqT X.K H l2 ys → H S = some (.lst acc) → ZP H xs ys acc i → ZS z TI TO i1 i2 l1 l2 i s.heap → N0 ≤ s.heap.objs.size →
      (∀ c ∈ [z, TI, TO, i1, i2], FpOk X pins H c) → (∀ s' H' acc', Inv X pins σ H' s' → DL.Keep (fun a => a = S) H H' → H' S = some (.lst acc') → ZP H' xs ys acc' (min xs.length ys.length) → R (.ok (.ret res)) s') →
      codeAny (model X.prog X.w) A (.builtin "list.extend.loop" ⟨[.ref S, .ref z, res], []⟩) R s := by
  intro k
  induction k with
  | zero =>
    intro i s H acc hk hi I q1 q2 hS hp hzs hN0 hf hR
    have hin : i = min xs.length ys.length := by omega
    obtain ⟨t1, v1, p1, _⟩ := I.tuple q1
    obtain ⟨t2, v2, p2, _⟩ := I.tuple q2
    have e1 := v1.length
    have e2 := v2.length
    refine codeAny_builtin F.entry_extend_loop ?_
    rw [Around.under_plainId F.plain_extend_loop _]
    show wpAny (model X.prog X.w) A.in1 (pyNext (.ref z) >>= _) _ _ s
    refine wpAny_bind (zs_end hA D hzs p1 p2 ?_ fun g kp => ?_)
    · by_cases h : xs.length ≤ i
      · exact .inl (by simp; omega)
      · exact .inr (by simp; omega)
    · have I1 : Inv X pins σ H { s with heap := g } := I.turnedL (t' := s.toks) (ch := [z, TI, TO, i1, i2]) kp hf
      exact wpAny_pure (hR _ H acc I1 (DL.Keep.refl _ _) hS (by rw [← hin]; exact hp))
  | succ k ih =>
    intro i s H acc hk hi I q1 q2 hS hp hzs hN0 hf hR
    have hlt : i < min xs.length ys.length := by omega
    obtain ⟨t1, v1, p1, _⟩ := I.tuple q1
    obtain ⟨t2, v2, p2, _⟩ := I.tuple q2
    have e1 := v1.length
    have e2 := v2.length
    have hx : xs[i]? = some xs[i] := List.getElem?_eq_getElem (by omega)
    have hy : ys[i]? = some ys[i] := List.getElem?_eq_getElem (by omega)
    obtain ⟨u, hu, ru⟩ := v1.get hx
    obtain ⟨v, hv, rv⟩ := v2.get hy
    refine codeAny_builtin F.entry_extend_loop ?_
    rw [Around.under_plainId F.plain_extend_loop _]
    show wpAny (model X.prog X.w) A.in1 (pyNext (.ref z) >>= _) _ _ s
    refine wpAny_bind (zs_next (u := u) (v := v) D hzs p1 p2 (by simpa using hu) (by simpa using hv) fun g hzs' hT kp => ?_)
    have hn : H s.heap.objs.size = none := I.hok.fresh (Nat.le_refl _)
    have new : ObjOk X.prog X.w (upd H s.heap.objs.size (.tup [xs[i], ys[i]])) g s.heap.objs.size (.tup [xs[i], ys[i]]) := ⟨by show 2 ≤ sizeLine; decide, [u, v], .cons ru (.cons rv .nil), ⟨_, hT, rfl, _, rfl⟩⟩
    have I1 : Inv X pins σ (upd H s.heap.objs.size (.tup [xs[i], ys[i]])) { s with heap := g } := I.turnedNew (t' := s.toks) (ch := [z, TI, TO, i1, i2]) kp hf (Nat.le_refl _) new
    have hTS : S ≠ s.heap.objs.size := ne_of_none hS hn
    have hS1 : (upd H s.heap.objs.size (.tup [xs[i], ys[i]])) S = some (.lst acc) := by rw [upd_ne hTS]; exact hS
    obtain ⟨lz, its, m, ri, rl, gS⟩ := I1.lstM hS1
    have I2 := I1.lset (t' := s.toks) (f := (·.push (.ref s.heap.objs.size))) (its' := its ++ [.ref s.heap.objs.size]) (ys := acc ++ [.ref s.heap.objs.size]) hS1 gS (by simp) (ri.append (.cons (show RelV (.ref s.heap.objs.size) (.ref s.heap.objs.size) from rfl) .nil)) (by rw [List.length_append, hp.1]; show i + 1 ≤ sizeLine; omega)
    show wpAny (model X.prog X.w) A.in1 (updateSeq S (·.push (.ref s.heap.objs.size)) >>= _) _ _ _
    have sm1 : Same H (upd H s.heap.objs.size (.tup [xs[i], ys[i]])) := DL.same_upd hn
    have k2 : DL.Keep (fun a => a = S) (upd H s.heap.objs.size (.tup [xs[i], ys[i]])) (upd (upd H s.heap.objs.size (.tup [xs[i], ys[i]])) S (.lst (acc ++ [.ref s.heap.objs.size]))) := DL.keep_upd (P := fun a => a = S) (o' := .lst (acc ++ [.ref s.heap.objs.size])) hS1 trivial trivial rfl
    have k1 : DL.Keep (fun a => a = S) H (upd (upd H s.heap.objs.size (.tup [xs[i], ys[i]])) S (.lst (acc ++ [.ref s.heap.objs.size]))) := (DL.Keep.of_same sm1).trans k2
    refine wpAny_bind ?_
    refine wpAny_updateSeq gS rfl (wpAny_pure ⟨plainId_quiet F.plain_extend_loop _, ih (i + 1) _ _ _ (by omega) hlt I2 (DL.SqT.keep k1 q1) (DL.SqT.keep k1 q2) upd_same ?_ ?_ ?_ ?_ fun s' H' acc' I' kk hS' hp' => hR s' H' acc' I' (k1.trans kk) hS' hp'⟩) ?_ ?_
    · refine ⟨by rw [List.length_append, hp.1]; rfl, fun j hj => ?_⟩
      by_cases h : j < i
      · obtain ⟨T, x, y, a1, a2, a3, a4⟩ := hp.2 j h
        exact ⟨T, x, y, by rw [List.getElem?_append_left (by rw [hp.1]; exact h)]; exact a1, a2, a3, k1.still a4 (by exact id)⟩
      · have : j = i := by omega
        subst this
        refine ⟨s.heap.objs.size, _, _, ?_, hx, hy, ?_⟩
        · rw [List.getElem?_append_right (by rw [hp.1]; exact Nat.le_refl _), hp.1, Nat.sub_self]
          rfl
        · rw [upd_ne hTS.symm, upd_same]
    · exact hzs'.other hSf (fun c o n e => (Heap.get?_update_other _ _ (Ne.symm n)).trans e) ⟨_, Heap.get?_update_self _ gS rfl⟩
    · have lt : s.heap.objs.size < (g.update S (Obj.mapSeq (·.push (.ref s.heap.objs.size)))).objs.size := Heap.lt_size ((Heap.get?_update_other _ _ hTS).trans hT)
      exact Nat.le_of_lt (Nat.lt_of_le_of_lt hN0 lt)
    · intro c hc
      obtain ⟨f0, f1, f2, f3, f4, f5⟩ := hf c hc
      have c1 : c ≠ S := fun e => hSf (e ▸ hc)
      have c2 : c ≠ s.heap.objs.size := Nat.ne_of_lt (Nat.lt_of_lt_of_le (hlow c hc) hN0)
      exact ⟨by rw [upd_ne c1, upd_ne c2]; exact f0, f1, f2, f3, f4, f5⟩
    · rw [List.size_toArray, ← rl, hp.1]
      omega
    · show (its.toArray.push (.ref s.heap.objs.size)).size ≤ sizeLine + 1
      rw [Array.size_push, List.size_toArray, ← rl, hp.1]
      omega
end

theorem zip_no_len : typeLookup (.type "zip") "__len__" = pure none := am_miss_of_fast (by decide +kernel)
theorem zip_no_hint : typeLookup (.type "zip") "__length_hint__" = pure none := am_miss_of_fast (by decide +kernel)
section
variable {X : Cx} {pins : List (Addr × Obj)} {σ : L2.St} {A : Around} {z TI TO i1 i2 l1 l2 S : Addr} {xs ys : List V} {s : Shared} {H : Hp}
theorem zs_ty {i : Nat} {h : Heap} (x : ZS z TI TO i1 i2 l1 l2 i h) : ∃ o, h.get? z = some o ∧ o.cls = .type "zip" := by
  obtain ⟨_, _, _, d⟩ := x
  rcases d with ⟨d, _⟩ | ⟨_, _, _, d, _⟩ <;> exact ⟨_, d, rfl⟩
theorem extend_zip {R : Result → Shared → Prop} {res : Value} (hlow : ∀ c ∈ [z, TI, TO, i1, i2], c < s.heap.objs.size) (hA : A.in1.handled = none) (D : ZipApart z TI TO i1 i2 l1 l2) (hSf : S ∉ [z, TI, TO, i1, i2]) (hz : xs.length ≤ sizeLine)
    (I : Inv X pins σ H s) (q1 : SqT X.K H l1 xs) (q2 : SqT X.K H l2 ys) (hS : H S = some (.lst [])) (hiz : IsZip s.heap z TI TO .none) (hzs : ZS z TI TO i1 i2 l1 l2 0 s.heap) (hf : ∀ c ∈ [z, TI, TO, i1, i2], FpOk X pins H c)
    (hR : ∀ s' H' acc', Inv X pins σ H' s' → DL.Keep (fun a => a = S) H H' → H' S = some (.lst acc') → ZP H' xs ys acc' (min xs.length ys.length) → R (.ok (.ret res)) s') :
    wpAny (model X.prog X.w) A.in1 (Builtin.List.listExtendWith (.ref S) (.ref z) res)
      (fun fin s' => match fin with | .done f => R (.ok f) s' | .again c' => c'.quiet = true ∧ codeAny (model X.prog X.w) A c' R s') (fun e s' => R (.error e) s') s := by
  have ne : S ≠ z := fun e => hSf (by rw [e]; simp)
  have ty : s.TypeIs (.ref z) "zip" := zs_ty hzs
  unfold Builtin.List.listExtendWith
  refine wpAny_bind (wpAny_typeOf ty ?_)
  have t1 : Builtin.List.listSameRef (.ref S) (.ref z) = false := by simp [Builtin.List.listSameRef, ne]
  have t2 : (Value.type "zip" == Value.type "list") = false := by decide
  have t3 : (Value.type "zip" == Value.type "tuple") = false := by decide
  simp only [t1, t2, t3, Bool.or_false, Bool.false_eq_true, if_false]
  refine wpAny_bind (wpAny_pyIter_zip hiz ?_)
  refine wpAny_bind (wpAny_holding ?_)
  unfold Builtin.List.listLengthHint
  refine wpAny_bind (wpAny_specialOf ty zip_no_len ?_)
  show wpAny _ A.in1 (specialOf (Value.ref z) (Str.ofString "__length_hint__") >>= _) _ _ _
  refine wpAny_bind (wpAny_specialOf ty zip_no_hint ?_)
  refine wpAny_pure ?_
  show wpAny _ A.in1 (rule "list.extend.makes-room" >>= fun _ => Builtin.List.listTouch (.ref S) >>= fun _ => again (.builtin "list.extend.loop" ⟨[.ref S, .ref z, res], []⟩)) _ _ _
  refine wpAny_bind (wpAny_rule ?_)
  refine wpAny_bind ?_
  show wpAny _ A.in1 (updateSeq S (·.push .none) >>= fun _ => updateSeq S (·.pop)) _ _ _
  obtain ⟨lz, its, m, ri, rl, gS⟩ := I.lstM hS
  cases ri
  refine wpAny_bind (wpAny_updateSeq gS rfl ?_)
  have I1 := I.lset (t' := s.toks) (f := (·.push Value.none)) (its' := [Value.none]) (ys := [V.non]) hS gS rfl (.cons (show RelV .non Value.none from rfl) .nil) (by show 1 ≤ sizeLine; decide)
  have g2 := Heap.get?_update_self (Obj.mapSeq (·.push Value.none)) gS rfl
  refine wpAny_updateSeq (hz := by seq_fits) g2 rfl ?_
  obtain ⟨lz2, its2, m2, ri2, rl2, gS2⟩ := I1.lstM upd_same
  have I2 := I1.lset (t' := s.toks) (f := (·.pop)) (its' := []) (ys := []) upd_same gS2 (by
    cases ri2 with
    | cons a b => cases b; rfl) .nil (Nat.zero_le _)
  rw [upd_upd] at I2
  have eH : upd H S (.lst []) = H := by
    funext b
    by_cases h : b = S
    · rw [h, upd_same, hS]
    · rw [upd_ne h]
  rw [eH] at I2
  have oth : ∀ b o, b ≠ S → s.heap.get? b = some o → ((s.heap.update S (Obj.mapSeq (·.push Value.none))).update S (Obj.mapSeq (·.pop))).get? b = some o := fun b o hb e => (Heap.get?_update_other _ _ (Ne.symm hb)).trans ((Heap.get?_update_other _ _ (Ne.symm hb)).trans e)
  refine wpAny_pure ⟨plainId_quiet F.plain_extend_loop _, ?_⟩
  refine ext_loop (N0 := s.heap.objs.size) hlow hA D hSf hz _ 0 _ H [] rfl (Nat.zero_le _) I2 q1 q2 hS ⟨rfl, fun j hj => absurd hj (Nat.not_lt_zero _)⟩ (hzs.other hSf (fun c o n e => oth c o n e) ?_) ?_ hf hR
  · obtain ⟨_, _, m3, _, _, gS3⟩ := I2.lstM hS
    exact ⟨_, gS3⟩
  · show s.heap.objs.size ≤ ((s.heap.update S (Obj.mapSeq (·.push Value.none))).update S (Obj.mapSeq (·.pop))).objs.size
    rw [Heap.size_update, Heap.size_update]
    exact Nat.le_refl _
theorem init_zip {R : Result → Shared → Prop} (hlow : ∀ c ∈ [z, TI, TO, i1, i2], c < s.heap.objs.size) (hA : A.in1.handled = none) (D : ZipApart z TI TO i1 i2 l1 l2) (hSf : S ∉ [z, TI, TO, i1, i2]) (hz : xs.length ≤ sizeLine)
    (I : Inv X pins σ H s) (q1 : SqT X.K H l1 xs) (q2 : SqT X.K H l2 ys) (hS : H S = some (.lst [])) (hiz : IsZip s.heap z TI TO .none) (hzs : ZS z TI TO i1 i2 l1 l2 0 s.heap) (hf : ∀ c ∈ [z, TI, TO, i1, i2], FpOk X pins H c)
    (hR : ∀ s' H' acc', Inv X pins σ H' s' → DL.Keep (fun a => a = S) H H' → H' S = some (.lst acc') → ZP H' xs ys acc' (min xs.length ys.length) → R (.ok (.ret .none)) s') :
    wpAny (model X.prog X.w) A.in1 (Builtin.«list.__init__» ⟨[.ref S, .ref z], []⟩)
      (fun fin s' => match fin with | .done f => R (.ok f) s' | .again c' => c'.quiet = true ∧ codeAny (model X.prog X.w) A c' R s') (fun e s' => R (.error e) s') s := by
  obtain ⟨lz, its, m, ri, rl, gS⟩ := I.lstM hS
  cases ri
  show wpAny _ A.in1 (do let old ← Builtin.List.listItems (.ref S); Builtin.List.listUpdate (.ref S) (fun _ => #[]); letGo old.toList.reverse; Builtin.List.listExtendWith (.ref S) (.ref z) .none) _ _ s
  refine wpAny_bind ?_
  unfold Builtin.List.listItems
  refine wpAny_bind (wpAny_seqItems gS rfl (wpAny_pure ?_))
  show wpAny _ A.in1 (updateSeq S (fun _ => #[]) >>= fun _ => letGo (#[] : Array Value).toList.reverse >>= fun _ => Builtin.List.listExtendWith (.ref S) (.ref z) .none) _ _ s
  refine wpAny_bind (wpAny_updateSeq gS rfl ?_)
  have I1 := I.lset (t' := s.toks) (f := fun _ => (#[] : Array Value)) (its' := []) (ys := []) hS gS rfl .nil (Nat.zero_le _)
  have eH : upd H S (.lst []) = H := by
    funext b
    by_cases h : b = S
    · rw [h, upd_same, hS]
    · rw [upd_ne h]
  rw [eH] at I1
  have oth : ∀ b o, b ≠ S → s.heap.get? b = some o → (s.heap.update S (Obj.mapSeq (fun _ => (#[] : Array Value)))).get? b = some o := fun b o hb e => (Heap.get?_update_other _ _ (Ne.symm hb)).trans e
  have nz : z ≠ S := fun e => hSf (by rw [e]; simp)
  refine wpAny_bind (wpAny_letGo ?_)
  refine extend_zip (s := { s with heap := s.heap.update S (Obj.mapSeq (fun _ => (#[] : Array Value))) }) (fun c hc => ?_) hA D hSf hz I1 q1 q2 hS (oth _ _ nz hiz) (hzs.other hSf (fun c o n e => oth c o n e) ?_) hf hR
  · show c < (s.heap.update S (Obj.mapSeq (fun _ => (#[] : Array Value)))).objs.size
    rw [Heap.size_update]
    exact hlow c hc
  · obtain ⟨_, _, m3, _, _, gS3⟩ := I1.lstM hS
    exact ⟨_, gS3⟩
end
section
variable {X : Cx} {pins : List (Addr × Obj)} {σ : L2.St} {A : Around} {z TI TO i1 i2 l1 l2 : Addr} {xs ys : List V} {s : Shared} {H : Hp} {E : Value → Shared → Prop}
theorem call_zip_list {Q : Value → Shared → Prop} (hlow : ∀ c ∈ [z, TI, TO, i1, i2], c < s.heap.objs.size) (hA : A.handled = none) (D : ZipApart z TI TO i1 i2 l1 l2) (hz : xs.length ≤ sizeLine)
    (I : Inv X pins σ H s) (q1 : SqT X.K H l1 xs) (q2 : SqT X.K H l2 ys) (hiz : IsZip s.heap z TI TO .none) (hzs : ZS z TI TO i1 i2 l1 l2 0 s.heap) (hf : ∀ c ∈ [z, TI, TO, i1, i2], FpOk X pins H c)
    (hR : ∀ s' H' S acc', Inv X pins σ H' s' → H S = none → Same H H' → H' S = some (.lst acc') → ZP H' xs ys acc' (min xs.length ys.length) → Q (.ref S) s') : wpAny (model X.prog X.w) A (call (.type "list") [.ref z]) Q E s := by
  have hn : H s.heap.objs.size = none := I.hok.fresh (Nat.le_refl _)
  refine callType_codes (Q₁ := fun obj s₁ => obj = .ref s.heap.objs.size ∧ s₁ = { s with heap := s.heap.push { cls := .type "list", data := .seq #[] } }) F.called_list (F.typeCall_list_1 _) F.entry_list_init (code_list_new _ ⟨rfl, rfl⟩) fun obj s₁ h₁ => ?_
  obtain ⟨rfl, rfl⟩ := h₁
  have gS : (s.heap.push { cls := .type "list", data := .seq #[] }).get? s.heap.objs.size = some { cls := .type "list", data := .seq #[] } := Heap.get?_push_size _ rfl
  have I1 : Inv X pins σ (upd H s.heap.objs.size (.lst [])) { s with heap := s.heap.push { cls := .type "list", data := .seq #[] } } := I.laid (t' := s.toks) (fun b o e => Heap.get?_push_of_some _ e) (Nat.le_refl _) ⟨Nat.zero_le _, [], 0, .nil, gS⟩
  have sm : Same H (upd H s.heap.objs.size (.lst [])) := DL.same_upd hn
  have ks := DL.Keep.of_same (P := fun a => a = s.heap.objs.size) sm
  have nf : ∀ c ∈ [z, TI, TO, i1, i2], c ≠ s.heap.objs.size := fun c hc => Nat.ne_of_lt (hlow c hc)
  refine ⟨⟨_, gS, rfl⟩, F.args_list_init_2 _ _, init_zip (A := A.in1) (S := s.heap.objs.size) (fun c hc => ?_) hA D (fun h => nf _ h rfl) hz I1 (DL.SqT.keep ks q1) (DL.SqT.keep ks q2) upd_same (Heap.get?_push_of_some _ hiz) (hzs.keep fun c o e => Heap.get?_push_of_some _ e) (fun c hc => ?_) fun s' H' acc' I' k hS hp => ?_⟩
  · show c < (s.heap.push { cls := .type "list", data := .seq #[] }).objs.size
    rw [Heap.size_push]
    exact Nat.lt_succ_of_lt (hlow c hc)
  · obtain ⟨f0, f1, f2, f3, f4, f5⟩ := hf c hc
    exact ⟨by rw [upd_ne (nf c hc)]; exact f0, f1, f2, f3, f4, f5⟩
  · refine ⟨rfl, hR s' H' _ acc' I' hn (fun b o e => ?_) hS hp⟩
    rcases k b o (sm b o e) with h | ⟨h, _⟩
    · exact h
    · subst h
      rw [hn] at e
      cases e
end
/-- list(zip(a, b)), tuples -/
def tLZip (K : PySem.W.Frag) (ta : TA) : TE := fun σ H Q => ta σ H fun vs H1 => ∃ a b xs ys, vs = [.ref a, .ref b] ∧ SqT K H1 a xs ∧ SqT K H1 b ys ∧ ∀ p acc H2, H1 p = none → Same H1 H2 → H2 p = some (.lst acc) → ZP H2 xs ys acc (min xs.length ys.length) → Q (.ref p) H2
theorem pe_listZip {X : Cx} {e e2 : Expr} {ta : TA} {p p2 pos pos2 : Pos} (hc : X.calm = true) (hg : Gl X "list") (hm : X.mg "list" = none) (hg2 : Gl X "zip") (hm2 : X.mg "zip" = none) (ha : PA X [e, e2] ta)
    (hs : starEach [e, e2] X.env = (false, eval e X.env) :: starEach [e2] X.env := by rfl) (hpl : (backTo pos2 (starEach [e2] X.env)).any (·.1) = false := by rfl)
    (hs2 : starEach [.Call (.Name "zip" p2) [e, e2] [] pos2] X.env = (false, eval (.Call (.Name "zip" p2) [e, e2] [] pos2) X.env) :: starEach [] X.env := by rfl) :
    PE X (.Call (.Name "list" p) [.Call (.Name "zip" p2) [e, e2] [] pos2] [] pos) (tLZip X.K ta) := by
  refine ⟨fun pins s σ H Q I h => ?_⟩
  refine Call_ (ld_blt I hg hm boot_list (PyProof.Rows.callWith_type1 (args_cons (Call_ (ld_blt I hg2 hm2 PyProof.Rows.boot_zip (PyProof.Rows.callWith_type1 (thn (ha.run pos2 pins s σ H _ I h) fun us s1 ⟨vs, H1, I1, r1, q1⟩ => ?_) hs hpl))) hs2) hs2 rfl))
  obtain ⟨a, b, xs, ys, rfl, hx, hy, q⟩ := q1
  cases r1 with
  | cons r rr =>
    cases rr with
    | cons r' rr =>
      cases rr
      cases r
      cases r'
      obtain ⟨its, rv, p1, lx⟩ := I1.tuple hx
      obtain ⟨its2, rv2, p2', ly⟩ := I1.tuple hy
      obtain ⟨o1, ho1, _⟩ := id p1
      obtain ⟨o2, ho2, _⟩ := id p2'
      refine call_zipT (show s1.heap.IsTuple a its.toArray from p1) (show s1.heap.IsTuple b its2.toArray from p2') fun g gz gI gO g1 g2 sz hk => ?_
      have I2 : Inv X pins σ H1 { s1 with heap := g } := I1.kept (t' := s1.toks) hk
      have fresh : ∀ c, c ∈ [s1.heap.objs.size + 4, s1.heap.objs.size + 2, s1.heap.objs.size + 3, s1.heap.objs.size, s1.heap.objs.size + 1] → s1.heap.objs.size ≤ c ∧ c < g.objs.size := fun c hcm => by
        rw [sz]
        simp only [List.mem_cons, List.not_mem_nil, or_false] at hcm
        omega
      refine args_nil ?_
      refine call_zip_list (s := { s1 with heap := g }) (fun c hc => (fresh c hc).2) (I1.ok.hd hc) (PySem.W.ktu_apart s1.heap.objs.size a b (Heap.lt_size ho1) (Heap.lt_size ho2)) lx I2 hx hy gz ⟨gI, g1, g2, .inl ⟨gz, _, _, gO⟩⟩
        (fun c hc => I1.fpOk (fresh c hc).1 (I1.hok.fresh (fresh c hc).1)) fun s' H' S acc' I' hn sm hS hp => ?_
      exact ⟨.ref S, H', I', rfl, q S acc' H' hn sm hS hp⟩
end DLZ

namespace DL
open PySem PySem.Spec PyProof.Rows L2 DLZ
section
variable {X : Cx}
def zipD (a b : List D) : List D := List.zipWith (fun x y => D.tup [x, y]) a b
theorem reps_get {K : PySem.W.Frag} {O : Addr → Prop} {H : Hp} : ∀ {vs : List V} {ds : List D}, vs.length = ds.length → (∀ (i : Nat) (v : V) (d : D), vs[i]? = some v → ds[i]? = some d → Rep K O H v d) → Reps K O H vs ds
  | [], [], _, _ => .nil
  | [], _ :: _, h, _ => by simp at h
  | _ :: _, [], h, _ => by simp at h
  | v :: vs, d :: ds, h, r => .cons (r 0 v d rfl rfl) (reps_get (by simpa using h) fun i v' d' e1 e2 => r (i + 1) v' d' (by simpa using e1) (by simpa using e2))
def fLZip (a : AF) : EF := fun ρ δ => (a ρ δ).bind fun p => match p.1 with
  | [.tup x, .tup y] => some (.lst (zipD x y), .ow, p.2)
  | _ => none
theorem de_listZip {e e2 : Expr} {a : AF} {p p2 pos pos2 : Pos} (hc : X.calm = true) (hg : Gl X "list") (hm : X.mg "list" = none) (hg2 : Gl X "zip") (hm2 : X.mg "zip" = none) (ha : DR X [e, e2] a)
    (hs : starEach [e, e2] X.env = (false, eval e X.env) :: starEach [e2] X.env := by rfl) (hpl : (backTo pos2 (starEach [e2] X.env)).any (·.1) = false := by rfl)
    (hs2 : starEach [.Call (.Name "zip" p2) [e, e2] [] pos2] X.env = (false, eval (.Call (.Name "zip" p2) [e, e2] [] pos2) X.env) :: starEach [] X.env := by rfl) :
    DE X (.Call (.Name "list" p) [.Call (.Name "zip" p2) [e, e2] [] pos2] [] pos) (fLZip a) := by
  obtain ⟨t, pp, x⟩ := ha.ex
  refine ⟨_, pe_listZip hc hg hm hg2 hm2 pp hs hpl hs2, fun g F σ H ρ δ d k δ' Q S hf q => ?_⟩
  unfold fLZip at hf
  cases e1 : a ρ δ with
  | none => rw [e1] at hf; cases hf
  | some c =>
    obtain ⟨ds, δ1⟩ := c
    rw [e1] at hf
    simp only [Option.bind_some] at hf
    split at hf
    · rename_i dx dy
      cases hf
      refine x g F σ H ρ δ _ _ _ S e1 fun vs H1 k1 S1 r => ?_
      cases r with
      | cons r1 r =>
        cases r with
        | cons r2 r =>
          cases r
          obtain ⟨pa, xs, rfl, h1, s1⟩ := r1.tup
          obtain ⟨pb, ys, rfl, h2, s2⟩ := r2.tup
          refine ⟨pa, pb, xs, ys, rfl, h1, h2, fun p acc H2 hn sm hS hp => ?_⟩
          refine q _ H2 (k1.trans (Keep.of_same sm)) (S1.same sm) ⟨p, rfl, k1.free hn, acc, hS, ?_⟩
          refine reps_get ?_ fun i v d a1 a2 => ?_
          · unfold zipD
            rw [hp.1, List.length_zipWith, s1.length, s2.length]
          · have hi : i < min xs.length ys.length := by
              rw [← hp.1]
              exact (List.getElem?_eq_some_iff.mp a1).1
            obtain ⟨T, u, w, b1, b2, b3, b4⟩ := hp.2 i hi
            rw [a1] at b1
            cases b1
            obtain ⟨d1, c1, c2⟩ := s1.get b2
            obtain ⟨d2, c3, c4⟩ := s2.get b3
            have : d = .tup [d1, d2] := by
              unfold zipD at a2
              rw [List.getElem?_zipWith, c1, c3] at a2
              exact (Option.some.inj a2).symm
            subst this
            have np : ∀ b, (Av g F b ∨ b = p) → Av g F b ∨ H1 b = none := fun b z => z.imp id fun z => by rw [z]; exact hn
            exact .tup (.inl (.inl b4)) (.cons ((c2.more np).same sm) (.cons ((c4.more np).same sm) .nil))
    · cases hf
end
end DL
/-! D-layer, part l: more to walk: ranges with a step. -/
namespace DL
open PySem PySem.Spec PyProof.Rows L2
section
variable {X : Cx}
/-- the ints lo, lo + c, .. -/
def rngC (lo c : Int) (n : Nat) : List D := (List.range n).map fun i => .int (lo + (i : Nat) * c)
theorem src_rngC {K : PySem.W.Frag} {g : Gh} {F : Fp} {H : Hp} (lo c : Int) (n : Nat) : Src K g F H (Itc lo c n) (rngC lo c n) (fun _ => False) where
  go := fun O H' hr ht hp i d e => by
    unfold rngC at e
    rw [List.getElem?_map] at e
    have hi : i < n := by
      by_cases hi : i < n
      · exact hi
      · rw [List.getElem?_eq_none (by simpa using hi)] at e
        cases e
    rw [List.getElem?_range hi] at e
    cases e
    refine ⟨hi, fun x H2 y => ?_⟩
    obtain ⟨rfl, rfl⟩ := y
    exact ⟨Same.refl _, .int _⟩
  stop := fun H' hr ht => by
    unfold rngC
    show n ≤ _
    simp
def sRng3 (a : AF) : SF := fun ρ δ => (a ρ δ).bind fun p => match p.1 with
  | [.int i, .int j, .int c] => if c ≠ 0 ∧ c.natAbs < 1073741824 ∧ Builtin.Range.small i j c = true ∧ 0 ≤ Builtin.Range.rangeSize i j c then some (rngC i c (Builtin.Range.rangeSize i j c).toNat, .sh, p.2) else none
  | _ => none
theorem Reps.int3 {K : PySem.W.Frag} {g : Gh} {F : Fp} {H : Hp} {vs : List V} {i j c : Int} (r : Paired (Rd1 K g F H) vs [.int i, .int j, .int c]) : vs = [.int i, .int j, .int c] := by
  cases r with
  | cons a r =>
    cases r with
    | cons b r =>
      cases r with
      | cons c r =>
        cases r
        rw [a.int, b.int, c.int]
theorem di_rng3 {tg a b c : Expr} {fa : AF} {p pos : Pos} (hg : Gl X "range") (hm : X.mg "range" = none) (ha : DR X [a, b, c] fa) (hs : starEach [a, b, c] X.env = (false, eval a X.env) :: starEach [b, c] X.env := by rfl) (hpl : (backTo pos (starEach [b, c] X.env)).any (·.1) = false := by rfl) :
    DI X tg (.Call (.Name "range" p) [a, b, c] [] pos) (sRng3 fa) := by
  obtain ⟨t, pa, x⟩ := ha.ex
  refine ⟨_, pi_range3 hg hm pa hs hpl, fun g F σ H ρ δ ds k δ' R S hf q => ?_⟩
  unfold sRng3 at hf
  cases e1 : fa ρ δ with
  | none => rw [e1] at hf; cases hf
  | some c =>
    obtain ⟨es, δ1⟩ := c
    rw [e1] at hf
    simp only [Option.bind_some] at hf
    split at hf
    · rename_i i j c
      split at hf
      · rename_i hj
        cases hf
        exact x g F σ H ρ δ _ _ _ S e1 fun vs H1 k1 S1 r1 => ⟨i, j, c, _, Reps.int3 r1, ⟨hj.1, hj.2.1, hj.2.2.1, (Int.toNat_of_nonneg hj.2.2.2).symm⟩, q _ H1 _ k1 S1 (src_rngC i c _) fun a z => z.elim⟩
      · cases hf
    · cases hf
end
end DL
namespace DL
open PySem PySem.Spec PyProof.Rows L2
section
variable {X : Cx}
theorem de_globI {x : Str} {i : Int} {pos : Pos} (hg : Gl X x) (h : ∃ t, X.mg x = some (.int i t)) (hd : (x == ("__debug__" : Str)) = false := by decide) : DE X (.Name x pos) (fC (.int i)) := by
  obtain ⟨t, h⟩ := h
  exact de_glob (v := .int i) hg h ⟨t, rfl⟩ (fun _ _ => .int i) hd
theorem de_globS {x z : Str} {pos : Pos} (hg : Gl X x) (h : ∃ t, X.mg x = some (.str z t)) (hd : (x == ("__debug__" : Str)) = false := by decide) : DE X (.Name x pos) (fC (.str z)) := by
  obtain ⟨t, h⟩ := h
  exact de_glob (v := .str z) hg h ⟨t, rfl⟩ (fun _ _ => .str z) hd
end
theorem hu64 {A : Around} {k : Nat} (hr : Room k A) : A.units + 64 < cLine := hr.units
end DL
/-! ### a, b, c = x, y, z -/
namespace DL
open PySem PySem.Spec PyProof.Rows L2
section
variable {K : PySem.W.Frag} {g g' : Gh} {F F' : Fp} {σ σ' : L2.St} {ρ ρ' : Rho} {δ δ1 : Dr} {H0 H H1 : Hp}
theorem pd_eq (h : g'.P = g.P) : g'.Pd = g.Pd := by
  funext a
  unfold Gh.Pd
  rw [h]
theorem deal_eq (h : g'.P = g.P) (d : DealR g' H δ) : DealR g H δ := fun p q e => d p q (h.trans e)
/-- some of the values are stored already, the expressions are still read as ahead of it -/
structure Pn (K : PySem.W.Frag) (H0 : Hp) (g g' : Gh) (F F' : Fp) (σ σ' : L2.St) (ρ ρ' : Rho) (δ : Dr) (H : Hp) : Prop where
  S : SR K g' F σ ρ δ H
  T : SR K g F' σ' ρ' δ H
  W : SH H0 g F' H
  sub : ∀ a, Av g F' a → Av g' F a
  P : g'.P = g.P
theorem Pn.base (S : SR K g F σ ρ δ H) (W : SH H0 g F H) : Pn K H0 g g F F σ σ ρ ρ δ H := ⟨S, S, W, fun _ z => z, rfl⟩
theorem Pn.step {kd : Kd} {w : V} {d : D} {s : SV} (N : Pn K H0 g g' F F' σ σ' ρ ρ' δ H) (k : Keep g'.Pd H H1) (S1 : SR K g' F σ ρ δ1 H1) (r : Res K g' F H H1 kd w d) (hs : sv d kd = some s) (j : Nat) :
    ∃ g2 F2, Pn K H0 g g2 F F2 σ (σ'.set j (some w)) ρ (ρ'.set j s) δ1 H1 := by
  have k' : Keep g.Pd H H1 := by rw [← pd_eq N.P]; exact k
  have T1 : SR K g F' σ' ρ' δ1 H1 := N.T.grow k' (deal_eq N.P S1.deal)
  have W1 := N.W.grow k'
  cases kd with
  | br => cases hs
  | sh =>
    cases hs
    have r' : Rep K (Av g F') H1 w d := Rep.weak N.sub r
    exact ⟨g', _, S1, T1.putS r' j, W1.sub (FSub.nil F' j), fun a z => N.sub a ((FSub.nil F' j).av z), N.P⟩
  | ow =>
    cases hs
    obtain ⟨p, e, n, t⟩ := r
    subst e
    obtain ⟨op, hop, _⟩ := t.there
    have S1w := N.S.wide k S1.deal n (by rw [hop]; simp)
    have t' : Top K (fun a => Av g F' a ∨ a = p) H1 p d := t.weak fun a z => z.imp (N.sub a) id
    refine ⟨⟨fun a => g'.A a ∨ a = p, g'.P⟩, _, S1w, N.T.putO k' (deal_eq N.P S1.deal) n t' j, N.W.putO k' n j, fun a z => ?_, N.P⟩
    rcases av_set z with z | z
    · rcases N.sub a z with z | z | z
      · exact .inl (.inl z)
      · exact .inr (.inl z)
      · exact .inr (.inr z)
    · exact .inl (.inr z)
end
section
variable {X : Cx}
def hPar3 (i j l : Nat) (f1 f2 f3 : EF) : HF' := fun ρ δ => (f1 ρ δ).bind fun p => (sv p.1 p.2.1).bind fun s => (f2 ρ p.2.2).bind fun q => (sv q.1 q.2.1).bind fun u => (f3 ρ q.2.2).bind fun r => (sv r.1 r.2.1).map fun v => (.nx, ((ρ.set i s).set j u).set l v, r.2.2)
theorem ds_par3 {i j l : Nat} {x y z : Str} {a b c : Expr} {f1 f2 f3 : EF} {px py pz pt pos : Pos} {kt k2 pt2} (hc : X.calm = true) (hN : X.N.Nodup) (hi : X.N[i]? = some x) (hj : X.N[j]? = some y) (hl : X.N[l]? = some z) (hij : i ≠ j) (hil : i ≠ l) (hjl : j ≠ l)
    (hx : X.env.scope.names.lookup x = some .local) (hy : X.env.scope.names.lookup y = some .local) (hz : X.env.scope.names.lookup z = some .local) (ha : DE X a f1) (hb : DE X b f2) (hc3 : DE X c f3)
    (hw : swappedStores [.Tuple [.Name x px, .Name y py, .Name z pz] kt pt] (.Tuple [a, b, c] k2 pt2) X.env = pure (some [x, y, z]))
    (hs : swapsWithSole [.Tuple [.Name x px, .Name y py, .Name z pz] kt pt] (.Tuple [a, b, c] k2 pt2) pos.line X.env = pure false := by rfl)
    (s1 : starEach [a, b, c] X.env = (false, eval a X.env) :: starEach [b, c] X.env := by rfl) (s2 : starEach [b, c] X.env = (false, eval b X.env) :: starEach [c] X.env := by rfl) (s3 : starEach [c] X.env = (false, eval c X.env) :: starEach [] X.env := by rfl) :
    DS X (.Assign [.Tuple [.Name x px, .Name y py, .Name z pz] kt pt] (.Tuple [a, b, c] k2 pt2) pos) (hPar3 i j l f1 f2 f3) := by
  obtain ⟨t1, p1, x1⟩ := ha.ex
  obtain ⟨t2, p2, x2⟩ := hb.ex
  obtain ⟨t3, p3, x3⟩ := hc3.ex
  refine ⟨_, ps_par3 hc hN hi hj hl hij hil hjl hx hy hz (pa_cons p1 (pa_cons p2 (pa_cons p3 pa_nil s3) s2) s1) hw hs, fun H0 g F σ H ρ δ o ρ' δ' D' S W hg q => ?_⟩
  unfold hPar3 at hg
  cases e1 : f1 ρ δ with
  | none => rw [e1] at hg; cases hg
  | some c =>
  obtain ⟨d1, k1, δ1⟩ := c
  rw [e1] at hg
  simp only [Option.bind_some] at hg
  cases v1 : sv d1 k1 with
  | none => rw [v1] at hg; cases hg
  | some s =>
  rw [v1] at hg
  simp only [Option.bind_some] at hg
  cases e2 : f2 ρ δ1 with
  | none => rw [e2] at hg; cases hg
  | some c =>
  obtain ⟨d2, k2', δ2⟩ := c
  rw [e2] at hg
  simp only [Option.bind_some] at hg
  cases v2 : sv d2 k2' with
  | none => rw [v2] at hg; cases hg
  | some u =>
  rw [v2] at hg
  simp only [Option.bind_some] at hg
  cases e3 : f3 ρ δ2 with
  | none => rw [e3] at hg; cases hg
  | some c =>
  obtain ⟨d3, k3, δ3⟩ := c
  rw [e3] at hg
  simp only [Option.bind_some] at hg
  cases v3 : sv d3 k3 with
  | none => rw [v3] at hg; cases hg
  | some r =>
  rw [v3] at hg
  cases hg
  refine x1 g F σ H ρ δ d1 k1 δ1 _ S e1 fun a1 H1 ke1 S1 r1 => ?_
  obtain ⟨g1, F1, N1⟩ := (Pn.base S W).step ke1 S1 r1 v1 i
  refine x2 g1 F σ H1 ρ δ1 d2 k2' δ2 _ N1.S e2 fun a2 H2 ke2 S2 r2 => ?_
  obtain ⟨g2, F2, N2⟩ := N1.step ke2 S2 r2 v2 j
  refine x3 g2 F σ H2 ρ δ2 d3 k3 _ _ N2.S e3 fun a3 H3 ke3 S3 r3 => ⟨a1, a2, a3, rfl, ?_⟩
  obtain ⟨g3, F3, N3⟩ := N2.step ke3 S3 r3 v3 l
  exact q F3 _ H3 N3.T N3.W
end
end DL
/-! D-layer, part m: how the meanings are reckoned (rules for simp); loops by an invariant. -/
namespace DL
open PySem PySem.Spec PyProof.Rows L2
section
variable {ρ : Rho} {δ δ' : Dr} {d e : D} {k : Kd} {f fa fb fc : EF} {a b : HF'} {t u : TF} {o : OF2} {r : AF} {i j l : Nat}
/-! ### slots -/
def fVarK (δ : Dr) : Option SV → Option (D × Kd × Dr)
  | some (.sh d) => some (d, .sh, δ)
  | some (.ow d) => some (d, .br, δ)
  | _ => none
@[simp] theorem fVar_e : fVar i ρ δ = fVarK δ ρ[i]? := by unfold fVar fVarK; cases ρ[i]? with | none => rfl | some s => cases s <;> rfl
@[simp] theorem fVarK_sh : fVarK δ (some (.sh d)) = some (d, .sh, δ) := id rfl
@[simp] theorem fVarK_ow : fVarK δ (some (.ow d)) = some (d, .br, δ) := id rfl
@[simp] theorem fC_e : fC d ρ δ = some (d, .sh, δ) := id rfl
@[simp] theorem sv_sh : sv d .sh = some (.sh d) := id rfl
@[simp] theorem sv_ow : sv d .ow = some (.ow d) := id rfl
/-! ### expressions -/
def fBin2 (o : OF2) (d : D) : D × Kd × Dr → Option (D × Kd × Dr) := fun q => (o d q.1).map fun r => (r.1, r.2, q.2.2)
def fBin1 (o : OF2) (fb : EF) (ρ : Rho) : D × Kd × Dr → Option (D × Kd × Dr) := fun p => (fb ρ p.2.2).bind (fBin2 o p.1)
@[simp] theorem fBin_e : fBin o fa fb ρ δ = (fa ρ δ).bind (fBin1 o fb ρ) := id rfl
@[simp] theorem fBin1_e : fBin1 o fb ρ (d, k, δ) = (fb ρ δ).bind (fBin2 o d) := id rfl
@[simp] theorem fBin2_e : fBin2 o d (e, k, δ) = (o d e).map fun r => (r.1, r.2, δ) := id rfl
def asB1 : D × Kd × Dr → Option (Bool × Dr) := fun p => match p.1 with | .bl b => some (b, p.2.2) | _ => none
@[simp] theorem asB_e : asB f ρ δ = (f ρ δ).bind asB1 := id rfl
@[simp] theorem asB1_e {b : Bool} : asB1 (.bl b, k, δ) = some (b, δ) := id rfl
@[simp] theorem ofT_e : ofT t ρ δ = (t ρ δ).map fun p => (.bl p.1, .sh, p.2) := id rfl
@[simp] theorem fNot_e : fNot t ρ δ = (t ρ δ).map fun p => (!p.1, p.2) := id rfl
def fAnd1 (u : TF) (ρ : Rho) : Bool × Dr → Option (Bool × Dr) := fun p => if p.1 = true then u ρ p.2 else some (false, p.2)
@[simp] theorem fAnd_e : fAnd t u ρ δ = (t ρ δ).bind (fAnd1 u ρ) := id rfl
@[simp] theorem fAnd1_t : fAnd1 u ρ (true, δ) = u ρ δ := id rfl
@[simp] theorem fAnd1_f : fAnd1 u ρ (false, δ) = some (false, δ) := id rfl
def fOr1 (u : TF) (ρ : Rho) : Bool × Dr → Option (Bool × Dr) := fun p => if p.1 = true then some (true, p.2) else u ρ p.2
@[simp] theorem fOr_e : fOr t u ρ δ = (t ρ δ).bind (fOr1 u ρ) := id rfl
@[simp] theorem fOr1_t : fOr1 u ρ (true, δ) = some (true, δ) := id rfl
@[simp] theorem fOr1_f : fOr1 u ρ (false, δ) = u ρ δ := id rfl
def fAndV1 (g : EF) (ρ : Rho) : Bool × Dr → Option (D × Kd × Dr) := fun p => if p.1 = true then g ρ p.2 else some (.bl false, .sh, p.2)
@[simp] theorem fAndV_e : fAndV t f ρ δ = (t ρ δ).bind (fAndV1 f ρ) := id rfl
@[simp] theorem fAndV1_t : fAndV1 f ρ (true, δ) = f ρ δ := id rfl
@[simp] theorem fAndV1_f : fAndV1 f ρ (false, δ) = some (.bl false, .sh, δ) := id rfl
def fOrV1 (g : EF) (ρ : Rho) : Bool × Dr → Option (D × Kd × Dr) := fun p => if p.1 = true then some (.bl true, .sh, p.2) else g ρ p.2
@[simp] theorem fOrV_e : fOrV t f ρ δ = (t ρ δ).bind (fOrV1 f ρ) := id rfl
@[simp] theorem fOrV1_t : fOrV1 f ρ (true, δ) = some (.bl true, .sh, δ) := id rfl
@[simp] theorem fOrV1_f : fOrV1 f ρ (false, δ) = f ρ δ := id rfl
def fIf1 (f g : EF) (ρ : Rho) : Bool × Dr → Option (D × Kd × Dr) := fun p => if p.1 = true then f ρ p.2 else g ρ p.2
@[simp] theorem fIf_e : fIf t fa fb ρ δ = (t ρ δ).bind (fIf1 fa fb ρ) := id rfl
@[simp] theorem fIf1_t : fIf1 fa fb ρ (true, δ) = fa ρ δ := id rfl
@[simp] theorem fIf1_f : fIf1 fa fb ρ (false, δ) = fb ρ δ := id rfl
@[simp] theorem aNil_e : aNil ρ δ = some ([], δ) := id rfl
@[simp] theorem rNil_e : rNil ρ δ = some ([], δ) := id rfl
@[simp] theorem vNil_e : vNil ρ δ = some ([], δ) := id rfl
def aCons1 (r : AF) (ρ : Rho) : D × Kd × Dr → Option (List D × Dr) := fun p => if p.2.1 = .br then none else (r ρ p.2.2).map fun q => (p.1 :: q.1, q.2)
@[simp] theorem aCons_e : aCons f r ρ δ = (f ρ δ).bind (aCons1 r ρ) := id rfl
@[simp] theorem aCons1_sh : aCons1 r ρ (d, .sh, δ) = (r ρ δ).map fun q => (d :: q.1, q.2) := id rfl
@[simp] theorem aCons1_ow : aCons1 r ρ (d, .ow, δ) = (r ρ δ).map fun q => (d :: q.1, q.2) := id rfl
def rCons1 (r : AF) (ρ : Rho) : D × Kd × Dr → Option (List D × Dr) := fun p => (r ρ p.2.2).map fun q => (p.1 :: q.1, q.2)
@[simp] theorem rCons_e : rCons f r ρ δ = (f ρ δ).bind (rCons1 r ρ) := id rfl
@[simp] theorem rCons1_e : rCons1 r ρ (d, k, δ) = (r ρ δ).map fun q => (d :: q.1, q.2) := id rfl
def vCons1 (r : VF) (ρ : Rho) : D × Kd × Dr → Option (List (D × Kd) × Dr) := fun p => (r ρ p.2.2).map fun q => ((p.1, p.2.1) :: q.1, q.2)
@[simp] theorem vCons_e {r : VF} : vCons f r ρ δ = (f ρ δ).bind (vCons1 r ρ) := id rfl
@[simp] theorem vCons1_e {r : VF} : vCons1 r ρ (d, k, δ) = (r ρ δ).map fun q => ((d, k) :: q.1, q.2) := id rfl
def vPerm1 (ix : List Nat) (n m : Nat) (b : VF) (ρ : Rho) : List (D × Kd) × Dr → Option (List (D × Kd) × Dr) := fun r => (b ρ r.2).bind fun s => if r.1.length = n ∧ s.1.length = m then some (perm ix (r.1 ++ s.1), s.2) else none
@[simp] theorem vPerm_e {ix : List Nat} {n m : Nat} {a b : VF} : vPerm ix n m a b ρ δ = (a ρ δ).bind (vPerm1 ix n m b ρ) := id rfl
@[simp] theorem vPerm1_e {ix : List Nat} {n m : Nat} {b : VF} {cs : List (D × Kd)} : vPerm1 ix n m b ρ (cs, δ) = (b ρ δ).bind fun s => if cs.length = n ∧ s.1.length = m then some (perm ix (cs ++ s.1), s.2) else none := id rfl
def fTup1 : List D × Dr → Option (D × Kd × Dr) := fun p => if p.1.length ≤ 1000 then some (.tup p.1, .sh, p.2) else none
@[simp] theorem fTup_e : fTup r ρ δ = (r ρ δ).bind fTup1 := id rfl
@[simp] theorem fTup1_e {ds : List D} : fTup1 (ds, δ) = if ds.length ≤ 1000 then some (.tup ds, .sh, δ) else none := id rfl
def fLst1 : List D × Dr → Option (D × Kd × Dr) := fun p => if p.1.length ≤ 1000 then some (.lst p.1, .ow, p.2) else none
@[simp] theorem fLst_e : fLst r ρ δ = (r ρ δ).bind fLst1 := id rfl
@[simp] theorem fLst1_e {ds : List D} : fLst1 (ds, δ) = if ds.length ≤ 1000 then some (.lst ds, .ow, δ) else none := id rfl
def fCall1 (o : OFn) : List D × Dr → Option (D × Kd × Dr) := fun p => (o p.1).map fun r => (r.1, r.2, p.2)
@[simp] theorem fCall_e {o : OFn} : fCall o r ρ δ = (r ρ δ).bind (fCall1 o) := id rfl
@[simp] theorem fCall1_e {o : OFn} {ds : List D} : fCall1 o (ds, δ) = (o ds).map fun r => (r.1, r.2, δ) := id rfl
def fCallP2 (cs : List (D × Kd)) (δ : Dr) : D × Kd → Option (D × Kd × Dr) := fun c => if okR cs c.1 c.2 = true then some (c.1, c.2, δ) else none
def fCallP1 (gf : List D → Option (D × Kd)) : List (D × Kd) × Dr → Option (D × Kd × Dr) := fun r => (gf (r.1.map (·.1))).bind (fCallP2 r.1 r.2)
@[simp] theorem fCallP_e {gf : List D → Option (D × Kd)} {f : VF} : fCallP gf f ρ δ = (f ρ δ).bind (fCallP1 gf) := id rfl
@[simp] theorem fCallP1_e {gf : List D → Option (D × Kd)} {cs : List (D × Kd)} : fCallP1 gf (cs, δ) = (gf (cs.map (·.1))).bind (fCallP2 cs δ) := id rfl
@[simp] theorem fCallP2_e {cs : List (D × Kd)} : fCallP2 cs δ (d, k) = if okR cs d k = true then some (d, k, δ) else none := id rfl
def fCallW2 (cs : List (D × Kd)) : D × Kd × Dr → Option (D × Kd × Dr) := fun c => if okR cs c.1 c.2.1 = true then some c else none
def fCallW1 (gf : List D → Dr → Option (D × Kd × Dr)) : List (D × Kd) × Dr → Option (D × Kd × Dr) := fun r => (gf (r.1.map (·.1)) r.2).bind (fCallW2 r.1)
def fCallW0 (gf : List D → Dr → Option (D × Kd × Dr)) (f : VF) (ρ : Rho) (δ : Dr) : Option SV → Option (D × Kd × Dr)
  | some .dl => (f ρ δ).bind (fCallW1 gf)
  | _ => none
@[simp] theorem fCallW_e {gf : List D → Dr → Option (D × Kd × Dr)} {f : VF} : fCallW i gf f ρ δ = fCallW0 gf f ρ δ ρ[i]? := by
  unfold fCallW fCallW0
  cases ρ[i]? with | none => rfl | some s => cases s <;> rfl
@[simp] theorem fCallW0_e {gf : List D → Dr → Option (D × Kd × Dr)} {f : VF} : fCallW0 gf f ρ δ (some .dl) = (f ρ δ).bind (fCallW1 gf) := id rfl
@[simp] theorem fCallW1_e {gf : List D → Dr → Option (D × Kd × Dr)} {cs : List (D × Kd)} : fCallW1 gf (cs, δ) = (gf (cs.map (·.1)) δ).bind (fCallW2 cs) := id rfl
@[simp] theorem fCallW2_e {cs : List (D × Kd)} : fCallW2 cs (d, k, δ) = if okR cs d k = true then some (d, k, δ) else none := id rfl
@[simp] theorem okR_nil : okR [] d k = true := id rfl
@[simp] theorem okR_sh {cs : List (D × Kd)} : okR ((e, .sh) :: cs) d k = okR cs d k := id rfl
@[simp] theorem okR_ow {cs : List (D × Kd)} : okR ((e, .ow) :: cs) d k = okR cs d k := id rfl
def fCut2 (d : D) (h : OF) (ρ : Rho) : Option Int × Dr → Option (D × Kd × Dr) := fun q => (h ρ q.2).bind fun r => (cutR d q.1 r.1).map fun z => (z.1, z.2, r.2)
def fCut1 (l h : OF) (ρ : Rho) : D × Kd × Dr → Option (D × Kd × Dr) := fun p => (l ρ p.2.2).bind (fCut2 p.1 h ρ)
@[simp] theorem fCut_e {lo hi : OF} : fCut f lo hi ρ δ = (f ρ δ).bind (fCut1 lo hi ρ) := id rfl
@[simp] theorem fCut1_e {lo hi : OF} : fCut1 lo hi ρ (d, k, δ) = (lo ρ δ).bind (fCut2 d hi ρ) := id rfl
@[simp] theorem fCut2_e {hi : OF} {x : Option Int} : fCut2 d hi ρ (x, δ) = (hi ρ δ).bind fun r => (cutR d x r.1).map fun z => (z.1, z.2, r.2) := id rfl
def bOf1 : D × Kd × Dr → Option (Option Int × Dr) := fun p => match p.1 with | .int i => some (some i, p.2.2) | _ => none
@[simp] theorem bOf_e : bOf f ρ δ = (f ρ δ).bind bOf1 := id rfl
@[simp] theorem bOf1_e {x : Int} : bOf1 (.int x, k, δ) = some (some x, δ) := id rfl
@[simp] theorem bNo_e : bNo ρ δ = some (none, δ) := id rfl
def fNeg1 : D × Kd × Dr → Option (D × Kd × Dr) := fun p => match p.1 with | .int i => some (.int (-i), .sh, p.2.2) | _ => none
@[simp] theorem fNeg_e : fNeg f ρ δ = (f ρ δ).bind fNeg1 := id rfl
@[simp] theorem fNeg1_e {x : Int} : fNeg1 (.int x, k, δ) = some (.int (-x), .sh, δ) := id rfl
def fRev1 : D × Kd × Dr → Option (D × Kd × Dr) := fun p => match p.1 with | .lst a => some (.lst a.reverse, .ow, p.2.2) | _ => none
@[simp] theorem fRev_e : fRev f ρ δ = (f ρ δ).bind fRev1 := id rfl
@[simp] theorem fRev1_e {x : List D} : fRev1 (.lst x, k, δ) = some (.lst x.reverse, .ow, δ) := id rfl
def fIsaT1 (ns : List String) : D × Kd × Dr → Option (D × Kd × Dr) := fun p => (tyD p.1).bind fun a => (anyTy a ns).map fun b => (.bl b, .sh, p.2.2)
@[simp] theorem fIsaT_e {ns : List String} : fIsaT f ns ρ δ = (f ρ δ).bind (fIsaT1 ns) := id rfl
@[simp] theorem fIsaT1_e {ns : List String} : fIsaT1 ns (d, k, δ) = (tyD d).bind fun a => (anyTy a ns).map fun b => (.bl b, .sh, δ) := id rfl
def fLZip1 : List D × Dr → Option (D × Kd × Dr) := fun p => match p.1 with | [.tup x, .tup y] => some (.lst (zipD x y), .ow, p.2) | _ => none
@[simp] theorem fLZip_e : fLZip r ρ δ = (r ρ δ).bind fLZip1 := id rfl
@[simp] theorem fLZip1_e {x y : List D} : fLZip1 ([.tup x, .tup y], δ) = some (.lst (zipD x y), .ow, δ) := id rfl
/-! ### what loops walk -/
noncomputable def sRng1k : List D × Dr → Option (List D × Kd × Dr) := fun p => match p.1 with
  | [.int j] => if cRng j then some (rng 0 j.toNat, .sh, p.2) else none
  | _ => none
@[simp] theorem sRng1_e : sRng1 r ρ δ = (r ρ δ).bind sRng1k := id rfl
@[simp] theorem sRng1k_e {j : Int} : sRng1k ([.int j], δ) = if cRng j then some (rng 0 j.toNat, .sh, δ) else none := id rfl
noncomputable def sRng2k : List D × Dr → Option (List D × Kd × Dr) := fun p => match p.1 with
  | [.int i, .int j] => if cRng i ∧ cRng j then some (rng i (j - i).toNat, .sh, p.2) else none
  | _ => none
@[simp] theorem sRng2_e : sRng2 r ρ δ = (r ρ δ).bind sRng2k := id rfl
@[simp] theorem sRng2k_e {i j : Int} : sRng2k ([.int i, .int j], δ) = if cRng i ∧ cRng j then some (rng i (j - i).toNat, .sh, δ) else none := id rfl
theorem sRng1k_ok {n : Nat} (h : (n : Int) < 2 ^ 62) : sRng1k ([.int (n : Int)], δ) = some (rng 0 n, .sh, δ) := by
  rw [sRng1k_e, if_pos (show cRng (n : Int) from ⟨by omega, h⟩), Int.toNat_natCast]
theorem sRng2k_ok {i j : Int} {n : Nat} (h : j = i + n) (h1 : -(2 ^ 62) ≤ i) (h2 : i < 2 ^ 62) (h3 : -(2 ^ 62) ≤ j) (h4 : j < 2 ^ 62) : sRng2k ([.int i, .int j], δ) = some (rng i n, .sh, δ) := by
  have e : (j - i).toNat = n := by omega
  rw [sRng2k_e, if_pos (show cRng i ∧ cRng j from ⟨⟨h1, h2⟩, h3, h4⟩), e]
@[simp] theorem cRng_e {i : Int} : cRng i = (-(2 ^ 62) ≤ i ∧ i < 2 ^ 62) := rfl
def sRng3k : List D × Dr → Option (List D × Kd × Dr) := fun p => match p.1 with
  | [.int i, .int j, .int c] => if c ≠ 0 ∧ c.natAbs < 1073741824 ∧ Builtin.Range.small i j c = true ∧ 0 ≤ Builtin.Range.rangeSize i j c then some (rngC i c (Builtin.Range.rangeSize i j c).toNat, .sh, p.2) else none
  | _ => none
@[simp] theorem sRng3_e : sRng3 r ρ δ = (r ρ δ).bind sRng3k := id rfl
theorem sRng3k_e {i j c : Int} : sRng3k ([.int i, .int j, .int c], δ) = if c ≠ 0 ∧ c.natAbs < 1073741824 ∧ Builtin.Range.small i j c = true ∧ 0 ≤ Builtin.Range.rangeSize i j c then some (rngC i c (Builtin.Range.rangeSize i j c).toNat, .sh, δ) else none := id rfl
def sSeq1 : D × Kd × Dr → Option (List D × Kd × Dr) := fun p => match p.1 with
  | .lst ds => some (ds, p.2.1, p.2.2)
  | .tup ds => some (ds, .sh, p.2.2)
  | .str z => some (z.cps.toList.map fun c => .str ⟨#[c]⟩, .sh, p.2.2)
  | _ => none
@[simp] theorem sSeq_e : sSeq f ρ δ = (f ρ δ).bind sSeq1 := id rfl
@[simp] theorem sSeq1_l {ds : List D} : sSeq1 (.lst ds, k, δ) = some (ds, k, δ) := id rfl
@[simp] theorem sSeq1_t {ds : List D} : sSeq1 (.tup ds, k, δ) = some (ds, .sh, δ) := id rfl
def fLc1 (b : BF) (t : TF) (f : EF) (own : List Nat) (ρ : Rho) : List D × Kd × Dr → Option (D × Kd × Dr) := fun p => if p.1.length ≤ sizeLine then (lcD b t f (wip ρ own) p.1 p.2.2).map fun q => (.lst q.1, .ow, q.2) else none
@[simp] theorem fLc_e {s : SF} {b : BF} {own : List Nat} : fLc s b t f own ρ δ = (s ρ δ).bind (fLc1 b t f own ρ) := id rfl
@[simp] theorem fLc1_e {b : BF} {own : List Nat} {ds : List D} : fLc1 b t f own ρ (ds, k, δ) = if ds.length ≤ sizeLine then (lcD b t f (wip ρ own) ds δ).map fun q => (.lst q.1, .ow, q.2) else none := id rfl
/-! ### statements -/
def hSeq1 (b : HF') : Ou × Rho × Dr → Option (Ou × Rho × Dr) := fun r => match r.1 with | .nx => b r.2.1 r.2.2 | _ => some r
@[simp] theorem hSeq_e : hSeq a b ρ δ = (a ρ δ).bind (hSeq1 b) := id rfl
@[simp] theorem hSeq1_nx : hSeq1 b (.nx, ρ, δ) = b ρ δ := id rfl
@[simp] theorem hSeq1_rt : hSeq1 b (.rt d k, ρ, δ) = some (.rt d k, ρ, δ) := id rfl
@[simp] theorem hSeq1_bk : hSeq1 b (.bk, ρ, δ) = some (.bk, ρ, δ) := id rfl
@[simp] theorem hSeq1_ct : hSeq1 b (.ct, ρ, δ) = some (.ct, ρ, δ) := id rfl
@[simp] theorem hNil_e : hNil ρ δ = some (.nx, ρ, δ) := id rfl
@[simp] theorem hBrk_e : hBrk ρ δ = some (.bk, ρ, δ) := id rfl
@[simp] theorem hCnt_e : hCnt ρ δ = some (.ct, ρ, δ) := id rfl
def hIf1 (a b : HF') (ρ : Rho) : Bool × Dr → Option (Ou × Rho × Dr) := fun p => if p.1 = true then a ρ p.2 else b ρ p.2
@[simp] theorem hIf_e : hIf t a b ρ δ = (t ρ δ).bind (hIf1 a b ρ) := id rfl
@[simp] theorem hIf1_t : hIf1 a b ρ (true, δ) = a ρ δ := id rfl
@[simp] theorem hIf1_f : hIf1 a b ρ (false, δ) = b ρ δ := id rfl
@[simp] theorem hExpr_e : hExpr f ρ δ = (f ρ δ).map fun p => (.nx, ρ, p.2.2) := id rfl
def hRet1 (ρ : Rho) : D × Kd × Dr → Option (Ou × Rho × Dr) := fun p => if p.2.1 = .br then none else some (.rt p.1 p.2.1, ρ, p.2.2)
@[simp] theorem hRet_e : hRet f ρ δ = (f ρ δ).bind (hRet1 ρ) := id rfl
@[simp] theorem hRet1_sh : hRet1 ρ (d, .sh, δ) = some (.rt d .sh, ρ, δ) := id rfl
@[simp] theorem hRet1_ow : hRet1 ρ (d, .ow, δ) = some (.rt d .ow, ρ, δ) := id rfl
@[simp] theorem hRetN_e : hRetN ρ δ = some (.rt .non .sh, ρ, δ) := id rfl
def hRetV1 (ρ : Rho) (δ : Dr) : Option SV → Option (Ou × Rho × Dr)
  | some (.sh d) => some (.rt d .sh, ρ, δ)
  | some (.ow d) => some (.rt d .ow, ρ, δ)
  | _ => none
@[simp] theorem hRetV_e : hRetV i ρ δ = hRetV1 ρ δ ρ[i]? := by unfold hRetV hRetV1; cases ρ[i]? with | none => rfl | some s => cases s <;> rfl
@[simp] theorem hRetV1_sh : hRetV1 ρ δ (some (.sh d)) = some (.rt d .sh, ρ, δ) := id rfl
@[simp] theorem hRetV1_ow : hRetV1 ρ δ (some (.ow d)) = some (.rt d .ow, ρ, δ) := id rfl
def hSet1 (i : Nat) (ρ : Rho) : D × Kd × Dr → Option (Ou × Rho × Dr) := fun p => (sv p.1 p.2.1).map fun s => (.nx, ρ.set i s, p.2.2)
@[simp] theorem hSet_e : hSet i f ρ δ = (f ρ δ).bind (hSet1 i ρ) := id rfl
@[simp] theorem hSet1_sh : hSet1 i ρ (d, .sh, δ) = some (.nx, ρ.set i (.sh d), δ) := id rfl
@[simp] theorem hSet1_ow : hSet1 i ρ (d, .ow, δ) = some (.nx, ρ.set i (.ow d), δ) := id rfl
def hMove1 (i j : Nat) (ρ : Rho) (δ : Dr) : Option SV → Option (Ou × Rho × Dr)
  | some (.sh d) => some (.nx, ρ.set i (.sh d), δ)
  | some (.ow d) => some (.nx, (ρ.set j .un).set i (.ow d), δ)
  | _ => none
@[simp] theorem hMove_e : hMove i j ρ δ = hMove1 i j ρ δ ρ[j]? := by unfold hMove hMove1; cases ρ[j]? with | none => rfl | some s => cases s <;> rfl
@[simp] theorem hMove1_sh : hMove1 i j ρ δ (some (.sh d)) = some (.nx, ρ.set i (.sh d), δ) := id rfl
@[simp] theorem hMove1_ow : hMove1 i j ρ δ (some (.ow d)) = some (.nx, (ρ.set j .un).set i (.ow d), δ) := id rfl
def hPar2 (i j : Nat) (p : D × Kd × Dr) (ρ : Rho) : D × Kd × Dr → Option (Ou × Rho × Dr) := fun q => (sv p.1 p.2.1).bind fun s => (sv q.1 q.2.1).map fun u => (.nx, (ρ.set i s).set j u, q.2.2)
def hPar1 (i j : Nat) (f2 : EF) (ρ : Rho) : D × Kd × Dr → Option (Ou × Rho × Dr) := fun p => (f2 ρ p.2.2).bind (hPar2 i j p ρ)
@[simp] theorem hPar_e : hPar i j fa fb ρ δ = (fa ρ δ).bind (hPar1 i j fb ρ) := id rfl
@[simp] theorem hPar1_e : hPar1 i j fb ρ (d, k, δ) = (fb ρ δ).bind (hPar2 i j (d, k, δ) ρ) := id rfl
@[simp] theorem hPar2_e {k2 : Kd} : hPar2 i j (d, k, δ) ρ (e, k2, δ') = (sv d k).bind fun s => (sv e k2).map fun u => (.nx, (ρ.set i s).set j u, δ') := id rfl
def hPar3c (i j l : Nat) (s u : SV) (ρ : Rho) : D × Kd × Dr → Option (Ou × Rho × Dr) := fun r => (sv r.1 r.2.1).map fun v => (.nx, ((ρ.set i s).set j u).set l v, r.2.2)
def hPar3b (i j l : Nat) (s : SV) (f3 : EF) (ρ : Rho) : D × Kd × Dr → Option (Ou × Rho × Dr) := fun q => (sv q.1 q.2.1).bind fun u => (f3 ρ q.2.2).bind (hPar3c i j l s u ρ)
def hPar3a (i j l : Nat) (f2 f3 : EF) (ρ : Rho) : D × Kd × Dr → Option (Ou × Rho × Dr) := fun p => (sv p.1 p.2.1).bind fun s => (f2 ρ p.2.2).bind (hPar3b i j l s f3 ρ)
@[simp] theorem hPar3_e : hPar3 i j l fa fb fc ρ δ = (fa ρ δ).bind (hPar3a i j l fb fc ρ) := id rfl
@[simp] theorem hPar3a_e : hPar3a i j l fb fc ρ (d, k, δ) = (sv d k).bind fun s => (fb ρ δ).bind (hPar3b i j l s fc ρ) := id rfl
@[simp] theorem hPar3b_e {s : SV} : hPar3b i j l s fc ρ (d, k, δ) = (sv d k).bind fun u => (fc ρ δ).bind (hPar3c i j l s u ρ) := id rfl
@[simp] theorem hPar3c_e {s u : SV} : hPar3c i j l s u ρ (d, k, δ) = (sv d k).map fun v => (.nx, ((ρ.set i s).set j u).set l v, δ) := id rfl
@[simp] theorem bName_e : bName i d ρ = some (ρ.set i (.sh d)) := id rfl
@[simp] theorem bTup_e {r : BFs} {ds : List D} : bTup r (.tup ds) ρ = r ds ρ := id rfl
@[simp] theorem bCons_e {b : BF} {r : BFs} {ds : List D} : bCons b r (d :: ds) ρ = (b d ρ).bind fun ρ' => r ds ρ' := id rfl
@[simp] theorem bNil_e : bNil [] ρ = some ρ := id rfl
def hAsg1 (b : BF) (ρ : Rho) : D × Kd × Dr → Option (Ou × Rho × Dr) := fun p => if p.2.1 = .br then none else (b p.1 ρ).map fun ρ' => (.nx, ρ', p.2.2)
@[simp] theorem hAsg_e {b : BF} : hAsg b f ρ δ = (f ρ δ).bind (hAsg1 b ρ) := id rfl
@[simp] theorem hAsg1_sh {b : BF} : hAsg1 b ρ (d, .sh, δ) = (b d ρ).map fun ρ' => (.nx, ρ', δ) := id rfl
@[simp] theorem hAsg1_ow {b : BF} : hAsg1 b ρ (d, .ow, δ) = (b d ρ).map fun ρ' => (.nx, ρ', δ) := id rfl
def hApp2 (i : Nat) (xs : List D) (ρ : Rho) : D × Kd × Dr → Option (Ou × Rho × Dr) := fun p => if p.2.1 = .br then none else if xs.length < sizeLine then some (.nx, ρ.set i (.ow (.lst (xs ++ [p.1]))), p.2.2) else none
def hApp1 (i : Nat) (f : EF) (ρ : Rho) (δ : Dr) : Option SV → Option (Ou × Rho × Dr)
  | some (.ow (.lst xs)) => (f ρ δ).bind (hApp2 i xs ρ)
  | _ => none
@[simp] theorem hApp_e : hApp i f ρ δ = hApp1 i f ρ δ ρ[i]? := by
  unfold hApp hApp1
  cases ρ[i]? with
  | none => rfl
  | some s =>
    cases s with
    | ow d => cases d <;> rfl
    | _ => rfl
@[simp] theorem hApp1_e {xs : List D} : hApp1 i f ρ δ (some (.ow (.lst xs))) = (f ρ δ).bind (hApp2 i xs ρ) := id rfl
@[simp] theorem hApp2_sh {xs : List D} : hApp2 i xs ρ (d, .sh, δ) = if xs.length < sizeLine then some (.nx, ρ.set i (.ow (.lst (xs ++ [d]))), δ) else none := id rfl
@[simp] theorem hApp2_ow {xs : List D} : hApp2 i xs ρ (d, .ow, δ) = if xs.length < sizeLine then some (.nx, ρ.set i (.ow (.lst (xs ++ [d]))), δ) else none := id rfl
def hPop1 (i : Nat) (ρ : Rho) (δ : Dr) : Option SV → Option (Ou × Rho × Dr)
  | some (.ow (.lst xs)) => if xs.length = 0 then none else some (.nx, ρ.set i (.ow (.lst xs.dropLast)), δ)
  | _ => none
@[simp] theorem hPop_e : hPop i ρ δ = hPop1 i ρ δ ρ[i]? := by
  unfold hPop hPop1
  cases ρ[i]? with
  | none => rfl
  | some s =>
    cases s with
    | ow d => cases d <;> rfl
    | _ => rfl
@[simp] theorem hPop1_e {xs : List D} : hPop1 i ρ δ (some (.ow (.lst xs))) = if xs.length = 0 then none else some (.nx, ρ.set i (.ow (.lst xs.dropLast)), δ) := id rfl
def hPopTo1 (b : BF) (i : Nat) (ρ : Rho) (δ : Dr) : Option SV → Option (Ou × Rho × Dr)
  | some (.ow (.lst xs)) => (xs[xs.length - 1]?).bind fun d => (b d (ρ.set i (.ow (.lst xs.dropLast)))).map fun ρ' => (.nx, ρ', δ)
  | _ => none
@[simp] theorem hPopTo_e {b : BF} : hPopTo b i ρ δ = hPopTo1 b i ρ δ ρ[i]? := by
  unfold hPopTo hPopTo1
  cases ρ[i]? with
  | none => rfl
  | some s =>
    cases s with
    | ow d => cases d <;> rfl
    | _ => rfl
@[simp] theorem hPopTo1_e {b : BF} {xs : List D} : hPopTo1 b i ρ δ (some (.ow (.lst (xs ++ [d])))) = (b d (ρ.set i (.ow (.lst xs)))).map fun ρ' => (.nx, ρ', δ) := by
  unfold hPopTo1
  simp
def hFor1 (b : BF) (h : HF') (ρ : Rho) : List D × Kd × Dr → Option (Ou × Rho × Dr) := fun p => if p.2.1 = .br then none else forD b h p.1 ρ p.2.2
@[simp] theorem hFor_e {s : SF} {b : BF} {h : HF'} : hFor s b h ρ δ = (s ρ δ).bind (hFor1 b h ρ) := id rfl
@[simp] theorem hFor1_sh {b : BF} {h : HF'} {ds : List D} : hFor1 b h ρ (ds, .sh, δ) = forD b h ds ρ δ := id rfl
@[simp] theorem hFor1_ow {b : BF} {h : HF'} {ds : List D} : hFor1 b h ρ (ds, .ow, δ) = forD b h ds ρ δ := id rfl
def hForV1 (j : Nat) (b : BF) (h : HF') (ρ : Rho) (δ : Dr) : Option SV → Option (Ou × Rho × Dr)
  | some (.ow (.lst ds)) => forD b h ds (ρ.set j (.sh (.lst ds))) δ
  | some (.sh (.lst ds)) => forD b h ds ρ δ
  | some (.sh (.tup ds)) => forD b h ds ρ δ
  | some (.sh (.str z)) => forD b h (z.cps.toList.map fun c => .str ⟨#[c]⟩) ρ δ
  | _ => none
@[simp] theorem hForV_e {b : BF} {h : HF'} : hForV j b h ρ δ = hForV1 j b h ρ δ ρ[j]? := by
  unfold hForV hForV1
  cases ρ[j]? with
  | none => rfl
  | some s =>
    cases s with
    | ow d => cases d <;> rfl
    | sh d => cases d <;> rfl
    | _ => rfl
@[simp] theorem hForV1_ow {b : BF} {h : HF'} {ds : List D} : hForV1 j b h ρ δ (some (.ow (.lst ds))) = forD b h ds (ρ.set j (.sh (.lst ds))) δ := id rfl
@[simp] theorem hForV1_l {b : BF} {h : HF'} {ds : List D} : hForV1 j b h ρ δ (some (.sh (.lst ds))) = forD b h ds ρ δ := id rfl
@[simp] theorem hForV1_t {b : BF} {h : HF'} {ds : List D} : hForV1 j b h ρ δ (some (.sh (.tup ds))) = forD b h ds ρ δ := id rfl
@[simp] theorem fYes_e : fYes ρ δ = some (true, δ) := id rfl
/-! ### the draws -/
def dlK {α : Type} (x : Option α) : Option SV → Option α
  | some .dl => x
  | _ => none
@[simp] theorem dlK_e {α : Type} (x : Option α) : dlK x (some .dl) = x := id rfl
@[simp] theorem fDLen_e : fDLen i ρ δ = dlK (some (.int δ.1.length, .sh, δ)) ρ[i]? := by unfold fDLen dlK; cases ρ[i]? with | none => rfl | some s => cases s <;> rfl
@[simp] theorem fDLast_e : fDLast i ρ δ = dlK ((δ.1[δ.1.length - 1]?).map fun c => (.int c, .sh, δ)) ρ[i]? := by unfold fDLast dlK; cases ρ[i]? with | none => rfl | some s => cases s <;> rfl
@[simp] theorem fDPop_e : fDPop i ρ δ = dlK ((δ.1[δ.1.length - 1]?).map fun c => (.int c, .sh, (δ.1.dropLast, δ.2))) ρ[i]? := by unfold fDPop dlK; cases ρ[i]? with | none => rfl | some s => cases s <;> rfl
@[simp] theorem fD1_e : fD1 i ρ δ = dlK (some (.int δ.2, .sh, δ)) ρ[i]? := by unfold fD1 dlK; cases ρ[i]? with | none => rfl | some s => cases s <;> rfl
def hDApp1 (ρ : Rho) : D × Kd × Dr → Option (Ou × Rho × Dr) := fun p => match p.1 with
  | .int z => if p.2.2.1.length < sizeLine then some (.nx, ρ, (p.2.2.1 ++ [z], p.2.2.2)) else none
  | _ => none
@[simp] theorem hDApp_e : hDApp i f ρ δ = dlK ((f ρ δ).bind (hDApp1 ρ)) ρ[i]? := by unfold hDApp dlK; cases ρ[i]? with | none => rfl | some s => cases s <;> rfl
@[simp] theorem hDApp1_e {z : Int} : hDApp1 ρ (.int z, k, δ) = if δ.1.length < sizeLine then some (.nx, ρ, (δ.1 ++ [z], δ.2)) else none := id rfl
def hDSet1k (ρ : Rho) : D × Kd × Dr → Option (Ou × Rho × Dr) := fun p => match p.1 with
  | .int z => some (.nx, ρ, (p.2.2.1, z))
  | _ => none
@[simp] theorem hDSet1_e : hDSet1 i f ρ δ = dlK ((f ρ δ).bind (hDSet1k ρ)) ρ[i]? := by unfold hDSet1 dlK; cases ρ[i]? with | none => rfl | some s => cases s <;> rfl
@[simp] theorem hDSet1k_e {z : Int} : hDSet1k ρ (.int z, k, δ) = some (.nx, ρ, (δ.1, z)) := id rfl
/-! ### operators -/
@[simp] theorem oAdd_i {x y : Int} : oAdd (.int x) (.int y) = some (.int (x + y), .sh) := id rfl
@[simp] theorem oAdd_l {x y : List D} : oAdd (.lst x) (.lst y) = if x.length + y.length ≤ sizeLine then some (.lst (x ++ y), .ow) else none := id rfl
@[simp] theorem oAdd_t {x y : List D} : oAdd (.tup x) (.tup y) = if x.length + y.length ≤ sizeLine then some (.tup (x ++ y), .sh) else none := id rfl
@[simp] theorem oSub_i {x y : Int} : oSub (.int x) (.int y) = some (.int (x - y), .sh) := id rfl
@[simp] theorem oMul_i {x y : Int} : oMul (.int x) (.int y) = if cMul x y then some (.int (x * y), .sh) else none := id rfl
@[simp] theorem oDiv_i {x y : Int} : oDiv (.int x) (.int y) = if cDiv x y then some (.int (x / y), .sh) else none := id rfl
@[simp] theorem oMod_i {x y : Int} : oMod (.int x) (.int y) = if cMod x y then some (.int (x % y), .sh) else none := id rfl
@[simp] theorem oPow_i {x y : Int} : oPow (.int x) (.int y) = if cPow x y then some (.int (x ^ y.toNat), .sh) else none := id rfl
theorem pl_int (x : Int) : pl 40 (.int x) = true := rfl
theorem ltD_i (x y : Int) : ltD (.int x) (.int y) = decide (x < y) := by
  unfold ltD toP
  exact PySem.W.dataLt_int x y
theorem al2_i (x y : Int) : al2 (.int x) (.int y) = true := rfl
@[simp] theorem oLt_i {x y : Int} : oLt (.int x) (.int y) = some (.bl (decide (x < y)), .sh) := by
  rw [oLt, if_pos (al2_i x y), ltD_i]
@[simp] theorem oGt_i {x y : Int} : oGt (.int x) (.int y) = some (.bl (decide (y < x)), .sh) := by
  rw [oGt, if_pos (al2_i x y), ltD_i]
theorem not_lt_le (x y : Int) : (!decide (x < y)) = decide (y ≤ x) := by
  by_cases h : x < y
  · have : ¬ y ≤ x := by omega
    simp [h, this]
  · have : y ≤ x := by omega
    simp [h, this]
@[simp] theorem oLe_i {x y : Int} : oLe (.int x) (.int y) = some (.bl (decide (x ≤ y)), .sh) := by
  rw [← not_lt_le y x, oLe, if_pos (al2_i x y), ltD_i]
@[simp] theorem oGe_i {x y : Int} : oGe (.int x) (.int y) = some (.bl (decide (y ≤ x)), .sh) := by
  rw [← not_lt_le x y, oGe, if_pos (al2_i x y), ltD_i]
@[simp] theorem oEq_i {x y : Int} : oEq (.int x) (.int y) = some (.bl (decide (x = y)), .sh) := by
  have : (x == y) = decide (x = y) := rfl
  rw [← this]
  rfl
@[simp] theorem oNe_i {x y : Int} : oNe (.int x) (.int y) = some (.bl (!decide (x = y)), .sh) := by
  have : (x == y) = decide (x = y) := rfl
  rw [← this]
  rfl
@[simp] theorem oIs_nn : oIs .non .non = some (.bl true, .sh) := id rfl
@[simp] theorem oIs_in {x : Int} : oIs (.int x) .non = some (.bl false, .sh) := id rfl
@[simp] theorem oIs_bn {x : Bool} : oIs (.bl x) .non = some (.bl false, .sh) := id rfl
@[simp] theorem oIs_sn {x : Str} : oIs (.str x) .non = some (.bl false, .sh) := id rfl
@[simp] theorem oIs_tn {x : List D} : oIs (.tup x) .non = some (.bl false, .sh) := id rfl
@[simp] theorem oIs_ln {x : List D} : oIs (.lst x) .non = some (.bl false, .sh) := id rfl
@[simp] theorem oIs_bb {x y : Bool} : oIs (.bl x) (.bl y) = some (.bl (x == y), .sh) := id rfl
@[simp] theorem oIs_nb {y : Bool} : oIs .non (.bl y) = some (.bl false, .sh) := id rfl
@[simp] theorem oIs_ib {x : Int} {y : Bool} : oIs (.int x) (.bl y) = some (.bl false, .sh) := id rfl
@[simp] theorem oIs_sb {x : Str} {y : Bool} : oIs (.str x) (.bl y) = some (.bl false, .sh) := id rfl
@[simp] theorem oIs_tb {x : List D} {y : Bool} : oIs (.tup x) (.bl y) = some (.bl false, .sh) := id rfl
@[simp] theorem oLen_l {x : List D} : oLen [.lst x] = some (.int x.length, .sh) := id rfl
@[simp] theorem oLen_t {x : List D} : oLen [.tup x] = some (.int x.length, .sh) := id rfl
@[simp] theorem oInt_i {x : Int} : oInt [.int x] = some (.int x, .sh) := id rfl
@[simp] theorem oAbs_i {x : Int} : oAbs [.int x] = some (.int (if x < 0 then -x else x), .sh) := id rfl
@[simp] theorem oList_l {x : List D} : oList [.lst x] = some (.lst x, .ow) := id rfl
@[simp] theorem oList_t {x : List D} : oList [.tup x] = some (.lst x, .ow) := id rfl
@[simp] theorem oTuple_l {x : List D} : oTuple [.lst x] = some (.tup x, .sh) := id rfl
@[simp] theorem oTuple_t {x : List D} : oTuple [.tup x] = some (.tup x, .sh) := id rfl
@[simp] theorem oMax2_i {x y : Int} : oMax2 [.int x, .int y] = some (.int (if y > x then y else x), .sh) := id rfl
@[simp] theorem oMin2_i {x y : Int} : oMin2 [.int x, .int y] = some (.int (if y < x then y else x), .sh) := id rfl
@[simp] theorem oSum_l {x : List D} : oSum [.lst x] = (intsOf x).map fun l => (.int l.sum, .sh) := id rfl
@[simp] theorem intsOf_map (x : List Int) : intsOf (x.map D.int) = some x := by
  induction x with
  | nil => rfl
  | cons a x ih => rw [List.map_cons, intsOf, ih]; rfl
@[simp] theorem oIx_l {x : List D} {y : Int} : oIx (.lst x) (.int y) = (atD x y).map fun d => (d, .sh) := id rfl
@[simp] theorem oIx_t {x : List D} {y : Int} : oIx (.tup x) (.int y) = (atD x y).map fun d => (d, .sh) := id rfl
@[simp] theorem cutR_l {x : List D} {lo hi : Option Int} : cutR (.lst x) lo hi = some (.lst (cutD x lo hi), .ow) := id rfl
@[simp] theorem cutR_w {x : List D} {lo hi : Option Int} : cutR (.wls x) lo hi = some (.lst (cutD x lo hi), .ow) := id rfl
@[simp] theorem cutR_t {x : List D} {lo hi : Option Int} : cutR (.tup x) lo hi = some (.tup (cutD x lo hi), .sh) := id rfl
theorem atD_nat (x : List D) (n : Nat) : atD x (n : Int) = x[n]? := by
  unfold atD ixN
  by_cases h : n < x.length
  · rw [if_pos (by omega), if_pos (by omega)]
    simp
  · rw [if_pos (by omega), if_neg (by omega), List.getElem?_eq_none (by omega)]
    rfl
theorem atD_last (x : List D) : atD (x ++ [d]) (-1) = some d := by
  unfold atD ixN
  rw [if_neg (by decide), if_pos (by simp; omega)]
  have : ((-1 : Int) + ((x ++ [d]).length : Nat)).toNat = x.length := by
    rw [List.length_append, List.length_singleton]
    omega
  rw [this]
  simp
theorem atD_pos {x : List D} {y : Int} (h : 0 ≤ y) : atD x y = x[y.toNat]? := by
  rw [← atD_nat, Int.toNat_of_nonneg h]

@[simp] theorem endD_nx : endD (some (.nx, ρ, δ)) = some (.non, .sh, δ) := id rfl
@[simp] theorem endD_sh : endD (some (.rt d .sh, ρ, δ)) = some (d, .sh, δ) := id rfl
@[simp] theorem endD_ow : endD (some (.rt d .ow, ρ, δ)) = some (d, .ow, δ) := id rfl
theorem log_small {i : Int} {n : Nat} (h : i.natAbs < 2 ^ n) (hn : 0 < n) : i.natAbs.log2 < n := by
  by_cases h0 : i.natAbs = 0
  · rw [h0]
    exact hn
  · exact (Nat.log2_lt h0).mpr h
theorem cDiv_of {x y : Int} (h : 0 < y) (h2 : y.natAbs < 2 ^ 8000) : cDiv x y := ⟨h, Nat.lt_of_lt_of_le (log_small h2 (by decide)) (by decide)⟩
@[simp] theorem cDiv_lit {x y : Int} (h : 0 < y) (h2 : y < 18446744073709551616) : cDiv x y := cDiv_of h (Nat.lt_of_lt_of_le (show y.natAbs < 2 ^ 64 by omega) (Nat.pow_le_pow_right (by decide) (by decide)))
@[simp] theorem cMod_e {x y : Int} : cMod x y = (0 < y) := id rfl
theorem cMul_of {x y : Int} (h : x.natAbs < 2 ^ 400000) (h2 : y.natAbs < 2 ^ 400000) : cMul x y := by
  have a := log_small h (by decide)
  have b := log_small h2 (by decide)
  show _ + _ < _
  omega
@[simp] theorem fnP_e {n m : Nat} {h : HF'} {ds : List D} : fnP n m h ds = if ds.length = n then (endD (h (ds.map .sh ++ List.replicate m .un) ([], 0))).map fun r => (r.1, r.2.1) else none := id rfl
@[simp] theorem fnW_e {n m : Nat} {h : HF'} {ds : List D} : fnW n m h ds δ = if ds.length = n then endD (h (.dl :: ds.map .sh ++ List.replicate m .un) δ) else none := id rfl
@[simp] theorem hWhile_e {c : TF} {h : HF'} : hWhile c h ρ δ = whD c h turns ρ δ := id rfl
/-! ### loops -/
/-- a for loop that never leaves -/
theorem forD_inv {b : BF} {h : HF'} (I : List D → Rho → Dr → Prop) (st : ∀ x xs ρ δ, I (x :: xs) ρ δ → ∃ ρ1 ρ2 δ2, b x ρ = some ρ1 ∧ h ρ1 δ = some (.nx, ρ2, δ2) ∧ I xs ρ2 δ2) :
    ∀ {ds : List D} {ρ : Rho} {δ : Dr}, I ds ρ δ → ∃ ρ' δ', forD b h ds ρ δ = some (.nx, ρ', δ') ∧ I [] ρ' δ'
  | [], ρ, δ, i => ⟨ρ, δ, rfl, i⟩
  | x :: xs, ρ, δ, i => by
    obtain ⟨ρ1, ρ2, δ2, e1, e2, i2⟩ := st x xs ρ δ i
    obtain ⟨ρ', δ', e3, i3⟩ := forD_inv I st i2
    refine ⟨ρ', δ', ?_, i3⟩
    rw [forD, e1]
    simp only [Option.bind_some]
    rw [e2]
    exact e3
/-- a for loop that may leave -/
theorem forD_out {b : BF} {h : HF'} (I : List D → Rho → Dr → Prop) (Q : Ou → Rho → Dr → Prop)
    (st : ∀ x xs ρ δ, I (x :: xs) ρ δ → ∃ ρ1 o ρ2 δ2, b x ρ = some ρ1 ∧ h ρ1 δ = some (o, ρ2, δ2) ∧ match o with | .nx => I xs ρ2 δ2 | .ct => I xs ρ2 δ2 | .bk => Q .nx ρ2 δ2 | .rt d k => Q (.rt d k) ρ2 δ2) (en : ∀ ρ δ, I [] ρ δ → Q .nx ρ δ) :
    ∀ {ds : List D} {ρ : Rho} {δ : Dr}, I ds ρ δ → ∃ o ρ' δ', forD b h ds ρ δ = some (o, ρ', δ') ∧ Q o ρ' δ'
  | [], ρ, δ, i => ⟨.nx, ρ, δ, rfl, en ρ δ i⟩
  | x :: xs, ρ, δ, i => by
    obtain ⟨ρ1, o, ρ2, δ2, e1, e2, i2⟩ := st x xs ρ δ i
    rw [forD, e1]
    simp only [Option.bind_some]
    rw [e2]
    cases o with
    | nx => exact forD_out I Q st en i2
    | ct => exact forD_out I Q st en i2
    | bk => exact ⟨_, _, _, rfl, i2⟩
    | rt d k => exact ⟨_, _, _, rfl, i2⟩
/-- a while loop that never leaves: a measure below the turns -/
theorem whD_inv {c : TF} {h : HF'} (I : Rho → Dr → Prop) (μ : Rho → Dr → Nat) (Q : Rho → Dr → Prop)
    (st : ∀ ρ δ, I ρ δ → (∃ δ1, c ρ δ = some (false, δ1) ∧ Q ρ δ1) ∨ ∃ δ1 ρ2 δ2, c ρ δ = some (true, δ1) ∧ h ρ δ1 = some (.nx, ρ2, δ2) ∧ I ρ2 δ2 ∧ μ ρ2 δ2 < μ ρ δ) :
    ∀ {n : Nat} {ρ : Rho} {δ : Dr}, I ρ δ → μ ρ δ < n → ∃ ρ' δ', whD c h n ρ δ = some (.nx, ρ', δ') ∧ Q ρ' δ'
  | 0, ρ, δ, i, hn => absurd hn (Nat.not_lt_zero _)
  | n + 1, ρ, δ, i, hn => by
    rcases st ρ δ i with ⟨δ1, e1, q⟩ | ⟨δ1, ρ2, δ2, e1, e2, i2, m⟩
    · refine ⟨ρ, δ1, ?_, q⟩
      rw [whD, e1]
      rfl
    · obtain ⟨ρ', δ', e3, q⟩ := whD_inv I μ Q st (n := n) i2 (by omega)
      refine ⟨ρ', δ', ?_, q⟩
      rw [whD, e1]
      simp only [Option.bind_some, if_true]
      rw [e2]
      exact e3
/-- a while loop that may leave -/
theorem whD_out {c : TF} {h : HF'} (I : Rho → Dr → Prop) (μ : Rho → Dr → Nat) (Q : Ou → Rho → Dr → Prop)
    (st : ∀ ρ δ, I ρ δ → (∃ δ1, c ρ δ = some (false, δ1) ∧ Q .nx ρ δ1) ∨ ∃ δ1 o ρ2 δ2, c ρ δ = some (true, δ1) ∧ h ρ δ1 = some (o, ρ2, δ2) ∧ match o with | .nx => I ρ2 δ2 ∧ μ ρ2 δ2 < μ ρ δ | .ct => I ρ2 δ2 ∧ μ ρ2 δ2 < μ ρ δ | .bk => Q .nx ρ2 δ2 | .rt d k => Q (.rt d k) ρ2 δ2) :
    ∀ {n : Nat} {ρ : Rho} {δ : Dr}, I ρ δ → μ ρ δ < n → ∃ o ρ' δ', whD c h n ρ δ = some (o, ρ', δ') ∧ Q o ρ' δ'
  | 0, ρ, δ, i, hn => absurd hn (Nat.not_lt_zero _)
  | n + 1, ρ, δ, i, hn => by
    rcases st ρ δ i with ⟨δ1, e1, q⟩ | ⟨δ1, o, ρ2, δ2, e1, e2, i2⟩
    · refine ⟨.nx, ρ, δ1, ?_, q⟩
      rw [whD, e1]
      rfl
    · rw [whD, e1]
      simp only [Option.bind_some, if_true]
      rw [e2]
      cases o with
      | nx => exact whD_out I μ Q st (n := n) i2.1 (by have z := i2.2; show μ ρ2 δ2 < n; omega)
      | ct => exact whD_out I μ Q st (n := n) i2.1 (by have z := i2.2; show μ ρ2 δ2 < n; omega)
      | bk => exact ⟨_, _, _, rfl, i2⟩
      | rt d k => exact ⟨_, _, _, rfl, i2⟩
/-- a comprehension that takes all, each by itself, without draws -/
theorem lcD_map {b : BF} {f : EF} {g : D → D} : ∀ {ds : List D} {ρ : Rho} {δ : Dr}, (∀ x ∈ ds, ∃ ρ1 k, b x ρ = some ρ1 ∧ f ρ1 δ = some (g x, k, δ) ∧ k ≠ .br) → lcD b fYes f ρ ds δ = some (ds.map g, δ)
  | [], _, _, _ => rfl
  | x :: xs, ρ, δ, h => by
    obtain ⟨ρ1, k, e1, e2, e3⟩ := h x (by simp)
    rw [lcD, e1]
    simp only [Option.bind_some, fYes_e, if_true]
    rw [e2]
    simp only [Option.bind_some]
    rw [if_neg e3, lcD_map fun y hy => h y (by simp [hy])]
    rfl
/-- .. that takes those of p -/
theorem lcD_filter {b : BF} {t : TF} {f : EF} {p : D → Bool} {g : D → D} : ∀ {ds : List D} {ρ : Rho} {δ : Dr}, (∀ x ∈ ds, ∃ ρ1, b x ρ = some ρ1 ∧ t ρ1 δ = some (p x, δ) ∧ (p x = true → ∃ k, f ρ1 δ = some (g x, k, δ) ∧ k ≠ .br)) → lcD b t f ρ ds δ = some ((ds.filter p).map g, δ)
  | [], _, _, _ => rfl
  | x :: xs, ρ, δ, h => by
    obtain ⟨ρ1, e1, e2, e3⟩ := h x (by simp)
    have ih := lcD_filter (b := b) (t := t) (f := f) (p := p) (g := g) (ds := xs) (ρ := ρ) (δ := δ) fun y hy => h y (by simp [hy])
    rw [lcD, e1]
    simp only [Option.bind_some]
    rw [e2]
    simp only [Option.bind_some]
    cases hp : p x with
    | true =>
      obtain ⟨k, e4, e5⟩ := e3 hp
      rw [if_pos rfl, e4]
      simp only [Option.bind_some]
      rw [if_neg e5, ih, List.filter_cons_of_pos hp]
      rfl
    | false =>
      rw [if_neg (by simp), ih, List.filter_cons_of_neg (by simp [hp])]
end
end DL
/-! D-layer, part n: what the laws' own helpers reckon: the draws, what is alike. The defs here are as gen.py prints them. -/
namespace LH
open PySem PySem.Spec PyProof.Rows L2 DL
def wt__law_any_1 : TF := (fAnd (asB (fBin oGt (fDLen 0) (fC (.int 0)))) (asB (fBin oEq (fDLast 0) (fC (.int 0)))))
def wb__law_any_1 : HF' := (hExpr (fDPop 0))
def h__law_any : HF' := (hSeq (hWhile wt__law_any_1 wb__law_any_1)
  (hSeq (hIf (asB (fBin oGt (fDLen 0) (fC (.int 0)))) (hSeq (hSet 2 (fCall oInt (rCons (fDPop 0) rNil)))
  (hSeq (hDApp 0 (fBin oDiv (fVar 2) (fVar 1)))
  (hRet (fBin oMod (fVar 2) (fVar 1))))) hNil)
  (hSeq (hDSet1 0 (fBin oMod (fCall oInt (rCons (fBin oAdd (fBin oMul (fD1 0) (fC (.int 48271))) (fC (.int 31))) rNil)) (fC (.int 2147483647))))
  (hRet (fBin oMod (fCall oInt (rCons (fBin oDiv (fD1 0) (fC (.int 64))) rNil)) (fVar 1))))))
def g__law_any := fnW 1 1 h__law_any
def h__law_of : HF' := (hRet (fBin oIx (fVar 1) (fCallW 0 g__law_any (vCons (fCall oLen (rCons (fVar 1) rNil)) vNil))))
def g__law_of := fnW 1 0 h__law_of
def h__law_is_kind : HF' := (hSeq (hIf (asB (fBin oIs (fVar 1) (fC .non))) (hRet (fBin oIs (fVar 0) (fC .non))) hNil)
  (hSeq (hIf (fOr (asB (fBin oIs (fVar 1) (fC (.bl true)))) (asB (fBin oIs (fVar 1) (fC (.bl false))))) (hRet (fIf (asB (fVar 1)) (fBin oIs (fVar 0) (fC (.bl true))) (fBin oIs (fVar 0) (fC (.bl false))))) hNil)
  (hSeq (hIf (asB (fCall oIsa (rCons (fVar 1) (rCons (fC (.ty "str")) rNil)))) (hRet (fAndV (asB (fCall oIsa (rCons (fVar 0) (rCons (fC (.ty "str")) rNil)))) (fBin oEq (fVar 0) (fVar 1)))) hNil)
  (hRet (fAndV (asB (fCall oIsa (rCons (fVar 0) (rCons (fC (.ty "int")) rNil)))) (fAndV (asB (ofT (fNot (asB (fCall oIsa (rCons (fVar 0) (rCons (fC (.ty "bool")) rNil))))))) (fBin oEq (fVar 0) (fVar 1))))))))
def g__law_is_kind := fnP 2 0 h__law_is_kind
def wt__law_same_1 : TF := (asB (fBin oGt (fCall oLen (rCons (fVar 2) rNil)) (fC (.int 0))))
def wb__law_same_1 : HF' := (hSeq (hPopTo (bTup (bCons (bName 3) (bCons (bName 4) bNil))) 2)
  (hIf (asB (fCall oIsa (rCons (fVar 4) (rCons (fC (.ty "tuple")) rNil)))) (hSeq (hIf (fOr (fNot (asB (fCall oIsa (rCons (fVar 3) (rCons (fC (.ty "tuple")) rNil))))) (asB (fBin oNe (fCall oLen (rCons (fVar 3) rNil)) (fCall oLen (rCons (fVar 4) rNil))))) (hRet (fC (.bl false))) hNil)
  (hSet 2 (fBin oAdd (fVar 2) (fLZip (rCons (fVar 3) (rCons (fVar 4) rNil)))))) (hIf (fOr (asB (fIsaT (fVar 3) ["tuple", "list", "dict"])) (fNot (asB (fCallP g__law_is_kind (vCons (fVar 3) (vCons (fVar 4) vNil)))))) (hRet (fC (.bl false))) hNil)))
def h__law_same : HF' := (hSeq (hSet 2 (fLst (aCons (fTup (aCons (fVar 0) (aCons (fVar 1) aNil))) aNil)))
  (hSeq (hWhile wt__law_same_1 wb__law_same_1)
  (hRet (fC (.bl true)))))
def g__law_same := fnP 2 3 h__law_same
def ct__law_all_1 : TF := (fNot (asB (fCallP g__law_same (vCons (fVar 1) (vCons (fVar 2) vNil)))))
def h__law_all : HF' := (hRet (fBin oEq (fCall oLen (rCons (fLc (sSeq (fVar 0)) (bTup (bCons (bName 1) (bCons (bName 2) bNil))) ct__law_all_1 (fVar 1) [1, 2]) rNil)) (fC (.int 0))))
def g__law_all := fnP 1 2 h__law_all
def h__law_tuple : HF' := (hRet (fIf (asB (fCall oIsa (rCons (fVar 0) (rCons (fC (.ty "tuple")) rNil)))) (fVar 0) (fTup aNil)))
def g__law_tuple := fnP 1 0 h__law_tuple
/-! ### draws -/
/-- draws as they may be -/
def VD (δ : Dr) : Prop := δ.1.length ≤ 63 ∧ δ.2.natAbs < 2 ^ 64
theorem any_ok {δ : Dr} {b : Int} (v : VD δ) (hb : 0 < b) (hs : b.natAbs < 2 ^ 8000) : ∃ r δ', g__law_any [.int b] δ = some (.int r, .sh, δ') ∧ 0 ≤ r ∧ r < b ∧ VD δ' := by
  have hdiv : ∀ x : Int, cDiv x b := fun x => cDiv_of hb hs
  have hmul : cMul δ.2 48271 := cMul_of (Nat.lt_of_lt_of_le v.2 (Nat.pow_le_pow_right (by decide) (by decide))) (Nat.lt_of_lt_of_le (show (48271 : Int).natAbs < 2 ^ 64 by decide) (Nat.pow_le_pow_right (by decide) (by decide)))
  have w := whD_inv (c := wt__law_any_1) (h := wb__law_any_1) (n := turns) (ρ := [.dl, .sh (.int b), .un]) (δ := δ) (fun ρ' δ' => ρ' = [.dl, .sh (.int b), .un] ∧ δ'.1.length ≤ 63 ∧ δ'.2 = δ.2) (fun _ δ' => δ'.1.length)
    (fun ρ' δ' => ρ' = [.dl, .sh (.int b), .un] ∧ δ'.1.length ≤ 63 ∧ δ'.2 = δ.2) ?_ ⟨rfl, v.1, rfl⟩ (Nat.lt_of_le_of_lt v.1 (by decide))
  · obtain ⟨ρ', ⟨cs, m⟩, e, rfl, hl, hm⟩ := w
    cases hm
    rcases List.eq_nil_or_concat cs with rfl | ⟨init, c, rfl⟩
    · refine ⟨((δ.2 * 48271 + 31) % 2147483647) / 64 % b, ([], (δ.2 * 48271 + 31) % 2147483647), ?_, Int.emod_nonneg _ (by omega), Int.emod_lt_of_pos _ hb, ⟨by simp, ?_⟩⟩
      · simp [g__law_any, h__law_any, e, hmul, hb]
      · show ((δ.2 * 48271 + 31) % 2147483647).natAbs < 2 ^ 64
        omega
    · have hl' : init.length + 1 ≤ 63 := by simpa using hl
      have hz : init.length < sizeLine := Nat.lt_of_lt_of_le (show init.length < 63 by omega) (by decide)
      refine ⟨c % b, (init ++ [c / b], δ.2), ?_, Int.emod_nonneg _ (by omega), Int.emod_lt_of_pos _ hb, ⟨by simpa using hl', v.2⟩⟩
      have hp : (0 : Int) < (init.length : Int) + 1 := by omega
      simp [g__law_any, h__law_any, e, hdiv, hb, hz, hp]
  · rintro ρ' ⟨cs, m⟩ ⟨rfl, hl, hm⟩
    cases hm
    rcases List.eq_nil_or_concat cs with rfl | ⟨init, c, rfl⟩
    · exact .inl ⟨([], δ.2), by simp [wt__law_any_1], rfl, hl, rfl⟩
    · have hp : (0 : Int) < (init.length : Int) + 1 := by omega
      by_cases h0 : c = 0
      · refine .inr ⟨(init ++ [c], δ.2), [.dl, .sh (.int b), .un], (init, δ.2), by simp [wt__law_any_1, hp, h0], by simp [wb__law_any_1], ⟨rfl, ?_, rfl⟩, by simp⟩
        have : (init ++ [c]).length ≤ 63 := by simpa using hl
        show init.length ≤ 63
        simp at this
        omega
      · exact .inl ⟨(init ++ [c], δ.2), by simp [wt__law_any_1, hp, h0], rfl, by simpa using hl, rfl⟩
theorem of_ok {δ : Dr} {ds : List D} (v : VD δ) (hn : ds ≠ []) (hl : ds.length < 2 ^ 64) : ∃ d δ', g__law_of [.lst ds] δ = some (d, .sh, δ') ∧ d ∈ ds ∧ VD δ' := by
  have h0 : 0 < ds.length := List.length_pos_iff.mpr hn
  obtain ⟨r, δ', e, r0, r1, v'⟩ := any_ok (b := (ds.length : Int)) v (by omega) (Nat.lt_of_lt_of_le (show (ds.length : Int).natAbs < 2 ^ 64 by simpa using hl) (Nat.pow_le_pow_right (by decide) (by decide)))
  have hr : r.toNat < ds.length := by omega
  refine ⟨ds[r.toNat], δ', ?_, List.getElem_mem hr, v'⟩
  have hx : ds[r.toNat]? = some ds[r.toNat] := List.getElem?_eq_getElem hr
  simp [g__law_of, h__law_of, e, atD_pos r0, hx]
theorem of_okT {δ : Dr} {ds : List D} (v : VD δ) (hn : ds ≠ []) (hl : ds.length < 2 ^ 64) : ∃ d δ', g__law_of [.tup ds] δ = some (d, .sh, δ') ∧ d ∈ ds ∧ VD δ' := by
  have h0 : 0 < ds.length := List.length_pos_iff.mpr hn
  obtain ⟨r, δ', e, r0, r1, v'⟩ := any_ok (b := (ds.length : Int)) v (by omega) (Nat.lt_of_lt_of_le (show (ds.length : Int).natAbs < 2 ^ 64 by simpa using hl) (Nat.pow_le_pow_right (by decide) (by decide)))
  have hr : r.toNat < ds.length := by omega
  refine ⟨ds[r.toNat], δ', ?_, List.getElem_mem hr, v'⟩
  have hx : ds[r.toNat]? = some ds[r.toNat] := List.getElem?_eq_getElem hr
  simp [g__law_of, h__law_of, e, atD_pos r0, hx]
/-! ### what is alike -/
mutual
/-- data of numbers, truths, texts, None, tuples -/
def lf : D → Bool
  | .non => true
  | .bl _ => true
  | .int _ => true
  | .str _ => true
  | .tup xs => lfs xs
  | _ => false
def lfs : List D → Bool
  | [] => true
  | d :: ds => lf d && lfs ds
end
mutual
def nodes : D → Nat
  | .tup xs => nodess xs + 1
  | _ => 1
def nodess : List D → Nat
  | [] => 0
  | d :: ds => nodes d + nodess ds
end
theorem nodess_app (a b : List D) : nodess (a ++ b) = nodess a + nodess b := by
  induction a with
  | nil => simp [nodess]
  | cons x a ih =>
    rw [List.cons_append, nodess, nodess, ih]
    omega
theorem nodes_pos (d : D) : 0 < nodes d := by
  cases d <;> simp [nodes]
theorem len_nodess (a : List D) : a.length ≤ nodess a := by
  induction a with
  | nil => simp
  | cons x a ih =>
    rw [List.length_cons, nodess]
    have := nodes_pos x
    omega
theorem lfs_mem : ∀ {a : List D}, lfs a = true → ∀ x ∈ a, lf x = true
  | [], _, x, h => by cases h
  | y :: a, h, x, hx => by
    rw [lfs, Bool.and_eq_true] at h
    rcases List.mem_cons.mp hx with rfl | hx
    · exact h.1
    · exact lfs_mem h.2 x hx
theorem lfs_of : ∀ {a : List D}, (∀ x ∈ a, lf x = true) → lfs a = true
  | [], _ => rfl
  | y :: a, h => by
    rw [lfs, Bool.and_eq_true]
    exact ⟨h y (by simp), lfs_of fun x hx => h x (by simp [hx])⟩
theorem k_tt : kitB "tuple" "tuple" = some true := by decide +kernel
theorem k_it : kitB "int" "tuple" = some false := by decide +kernel
theorem k_bt : kitB "bool" "tuple" = some false := by decide +kernel
theorem k_st : kitB "str" "tuple" = some false := by decide +kernel
theorem k_nt : kitB "NoneType" "tuple" = some false := by decide +kernel
theorem k_lt : kitB "list" "tuple" = some false := by decide +kernel
theorem k_il : kitB "int" "list" = some false := by decide +kernel
theorem k_bl : kitB "bool" "list" = some false := by decide +kernel
theorem k_sl : kitB "str" "list" = some false := by decide +kernel
theorem k_nl : kitB "NoneType" "list" = some false := by decide +kernel
theorem k_id : kitB "int" "dict" = some false := by decide +kernel
theorem k_bd : kitB "bool" "dict" = some false := by decide +kernel
theorem k_sd : kitB "str" "dict" = some false := by decide +kernel
theorem k_nd : kitB "NoneType" "dict" = some false := by decide +kernel
theorem k_is : kitB "int" "str" = some false := by decide +kernel
theorem k_ss : kitB "str" "str" = some true := by decide +kernel
theorem k_ii : kitB "int" "int" = some true := by decide +kernel
theorem k_ib : kitB "int" "bool" = some false := by decide +kernel
theorem kind_non : g__law_is_kind [.non, .non] = some (.bl true, .sh) := by simp [g__law_is_kind, h__law_is_kind]
theorem kind_bl (b : Bool) : g__law_is_kind [.bl b, .bl b] = some (.bl true, .sh) := by cases b <;> simp [g__law_is_kind, h__law_is_kind]
theorem kind_int (i : Int) : g__law_is_kind [.int i, .int i] = some (.bl true, .sh) := by simp [g__law_is_kind, h__law_is_kind, oIsa, tyD, k_is, k_ii, k_ib]
theorem kind_str (z : Str) : g__law_is_kind [.str z, .str z] = some (.bl true, .sh) := by
  have h : oEq (.str z) (.str z) = some (.bl true, .sh) := by
    have hp : pl2 (.str z) (.str z) = true := rfl
    rw [oEq, if_pos hp, eqD]
    simp
  simp [g__law_is_kind, h__law_is_kind, oIsa, tyD, k_ss, h]
theorem zip_self (xs : List D) : zipD xs xs = xs.map fun x => .tup [x, x] := by
  unfold zipD
  induction xs with
  | nil => rfl
  | cons x xs ih => rw [List.zipWith_cons_cons, List.map_cons, ih]
/-- the first things of pairs -/
def fsts (ts : List D) : List D := ts.map fun t => match t with | .tup (a :: _) => a | d => d
theorem fsts_pairs (es : List D) : fsts (es.map fun x => .tup [x, x]) = es := by
  unfold fsts
  rw [List.map_map]
  exact (List.map_congr_left (fun x _ => rfl)).trans (List.map_id es)
def todoOf (ρ : Rho) : List D := match (ρ[2]? : Option SV) with | some (SV.ow (D.lst ts)) => fsts ts | _ => []
theorem same_ok {d : D} (h : lf d = true) (hn : nodes d ≤ 1000000) : g__law_same [d, d] = some (.bl true, .sh) := by
  have w := whD_inv (c := wt__law_same_1) (h := wb__law_same_1) (n := turns) (ρ := [.sh d, .sh d, .ow (.lst ([d].map fun x => .tup [x, x])), .un, .un]) (δ := ([], 0))
    (fun ρ _ => ∃ (es : List D) (x y : SV), ρ = [.sh d, .sh d, .ow (.lst (es.map fun x => .tup [x, x])), x, y] ∧ lfs es = true ∧ nodess es ≤ 1000000) (fun ρ _ => nodess (todoOf ρ)) (fun ρ _ => ∃ a b c, ρ = [.sh d, .sh d, a, b, c]) ?_
    ⟨[d], .un, .un, rfl, by rw [lfs, lfs, h]; rfl, by rw [nodess, nodess]; omega⟩ ?_
  · obtain ⟨ρ', δ', e, a, b, c, rfl⟩ := w
    simp only [List.map_cons, List.map_nil] at e
    simp [g__law_same, h__law_same, e]
  · rintro ρ' δ' ⟨es, x, y, rfl, hl, hs⟩
    rcases List.eq_nil_or_concat es with rfl | ⟨init, e, rfl⟩
    · exact .inl ⟨δ', by simp [wt__law_same_1], _, _, _, rfl⟩
    · right
      rw [List.concat_eq_append] at hl hs
      have hp : (0 : Int) < (init.length : Int) + 1 := by omega
      have hle : lf e = true := lfs_mem hl e (by simp)
      have hli : lfs init = true := lfs_of fun x hx => lfs_mem hl x (by simp [hx])
      rw [nodess_app, nodess, nodess] at hs
      have t2 : todoOf [.sh d, .sh d, .ow (.lst ((init.concat e).map fun x => .tup [x, x])), x, y] = init ++ [e] := by
        show fsts _ = _
        rw [fsts_pairs, List.concat_eq_append]
      cases e with
      | tup xs =>
        have hn' : ((init.length : Nat) : Nat) + xs.length ≤ sizeLine := by
          have h1 := len_nodess init
          have h2 := len_nodess xs
          rw [nodes] at hs
          have : (1000000 : Nat) ≤ sizeLine := by decide
          omega
        refine ⟨δ', [.sh d, .sh d, .ow (.lst ((init ++ xs).map fun x => .tup [x, x])), .sh (.tup xs), .sh (.tup xs)], δ', by simp [wt__law_same_1, hp], ?_, ⟨_, _, _, rfl, ?_, ?_⟩, ?_⟩
        · simp [wb__law_same_1, oIsa, tyD, k_tt, zip_self, hn']
        · exact lfs_of fun x hx => by
            rcases List.mem_append.mp hx with hx | hx
            · exact lfs_mem hli x hx
            · exact lfs_mem hle x hx
        · rw [nodess_app]
          rw [nodes] at hs
          omega
        · rw [t2]
          show nodess (fsts _) < _
          rw [fsts_pairs, nodess_app, nodess_app, nodess, nodess, nodes]
          omega
      | non =>
        refine ⟨δ', [.sh d, .sh d, .ow (.lst (init.map fun x => .tup [x, x])), .sh .non, .sh .non], δ', by simp [wt__law_same_1, hp], ?_, ⟨_, _, _, rfl, hli, by omega⟩, ?_⟩
        · simp [wb__law_same_1, oIsa, tyD, anyTy, k_nt, k_nl, k_nd, kind_non]
        · rw [t2]
          show nodess (fsts _) < _
          rw [fsts_pairs, nodess_app, nodess, nodess, nodes]
          all_goals first | omega | simp
      | bl b =>
        refine ⟨δ', [.sh d, .sh d, .ow (.lst (init.map fun x => .tup [x, x])), .sh (.bl b), .sh (.bl b)], δ', by simp [wt__law_same_1, hp], ?_, ⟨_, _, _, rfl, hli, by omega⟩, ?_⟩
        · simp [wb__law_same_1, oIsa, tyD, anyTy, k_bt, k_bl, k_bd, kind_bl]
        · rw [t2]
          show nodess (fsts _) < _
          rw [fsts_pairs, nodess_app, nodess, nodess, nodes]
          all_goals first | omega | simp
      | int b =>
        refine ⟨δ', [.sh d, .sh d, .ow (.lst (init.map fun x => .tup [x, x])), .sh (.int b), .sh (.int b)], δ', by simp [wt__law_same_1, hp], ?_, ⟨_, _, _, rfl, hli, by omega⟩, ?_⟩
        · simp [wb__law_same_1, oIsa, tyD, anyTy, k_it, k_il, k_id, kind_int]
        · rw [t2]
          show nodess (fsts _) < _
          rw [fsts_pairs, nodess_app, nodess, nodess, nodes]
          all_goals first | omega | simp
      | str b =>
        refine ⟨δ', [.sh d, .sh d, .ow (.lst (init.map fun x => .tup [x, x])), .sh (.str b), .sh (.str b)], δ', by simp [wt__law_same_1, hp], ?_, ⟨_, _, _, rfl, hli, by omega⟩, ?_⟩
        · simp [wb__law_same_1, oIsa, tyD, anyTy, k_st, k_sl, k_sd, kind_str]
        · rw [t2]
          show nodess (fsts _) < _
          rw [fsts_pairs, nodess_app, nodess, nodess, nodes]
          all_goals first | omega | simp
      | _ => cases hle
  · show nodess (fsts _) < turns
    rw [fsts_pairs, nodess, nodess]
    have : (1000000 : Nat) < turns := by decide
    omega
/-- a pair of what was told and what was due, alike -/
def Goo (t : D) : Prop := ∃ d, t = .tup [d, d] ∧ lf d = true ∧ nodes d ≤ 1000000
theorem all_ok {ts : List D} (h : ∀ t ∈ ts, Goo t) (hl : ts.length ≤ sizeLine) : g__law_all [.lst ts] = some (.bl true, .sh) := by
  have e := lcD_filter (b := bTup (bCons (bName 1) (bCons (bName 2) bNil))) (t := ct__law_all_1) (f := fVar 1) (p := fun _ => false) (g := id) (ds := ts) (ρ := [.sh (.lst ts), .un, .un]) (δ := ([], 0)) fun t ht => by
    obtain ⟨d, rfl, h1, h2⟩ := h t ht
    exact ⟨[.sh (.lst ts), .sh d, .sh d], by simp, by simp [ct__law_all_1, same_ok h1 h2], fun z => by cases z⟩
  simp [g__law_all, h__law_all, hl, wip, e]
end LH
/-! D-layer, part o: how the draws are made of the script. -/
namespace LH
open PySem PySem.Spec PyProof.Rows L2 DL
def ce__law_deal_1 : EF := (fBin oMod (fCall oInt (rCons (fCall oAbs (rCons (fCall oInt (rCons (fVar 5) rNil)) rNil)) rNil)) (fVar 2))
def fb__law_deal_1 : HF' := (hSet 4 (fBin oMod (fCall oInt (rCons (fBin oAdd (fBin oAdd (fBin oMul (fVar 4) (fC (.int 69621))) (fBin oMod (fCall oInt (rCons (fVar 5) rNil)) (fC (.int 2147483563)))) (fC (.int 23))) rNil)) (fC (.int 2147483647))))
def ct__law_deal_1 : TF := (asB (fBin oGe (fVar 5) (fBin oPow (fC (.int 10)) (fC (.int 18)))))
def f_most : EF := (fBin oMul (fBin oMul (fBin oMul (fBin oMul (fBin oMul (fBin oPow (fC (.int 10)) (fC (.int 64))) (fBin oPow (fC (.int 10)) (fC (.int 64)))) (fBin oPow (fC (.int 10)) (fC (.int 64)))) (fBin oPow (fC (.int 10)) (fC (.int 64)))) (fBin oPow (fC (.int 10)) (fC (.int 64)))) (fBin oPow (fC (.int 10)) (fC (.int 64))))
def h_deal (a b : Int) : HF' := (hSeq (hSet 2 f_most)
  (hSeq (hPar 3 4 (fLc (sSeq (fCut (fVar 0) bNo (bOf (fC (.int 63))))) (bName 5) fYes ce__law_deal_1 [5]) (fBin oAdd (fC (.int a)) (fBin oMul (fC (.int b)) (fVar 1))))
  (hSeq (hForV 3 (bName 5) fb__law_deal_1)
  (hRet (fLst (aCons (fRev (fLc (sSeq (fVar 3)) (bName 5) ct__law_deal_1 (fVar 5) [5])) (aCons (fVar 4) aNil)))))))
def g_deal (a b : Int) := fnP 2 4 (h_deal a b)
def most : Int := 10 ^ 384
theorem most_e (ρ : Rho) (δ : Dr) : f_most ρ δ = some (.int most, .sh, δ) := by kernel_rfl
theorem cut63 {xs : List D} (h : xs.length ≤ 63) : DL.cutD xs none (some 63) = xs := by
  unfold DL.cutD sI
  have e : HT.sIx xs.length xs.length (some ((63 : Nat) : Int)) = min 63 xs.length := HT.sIx_nat _ _ _
  have e0 : HT.sIx xs.length 0 none = 0 := rfl
  have e' : HT.sIx xs.length xs.length (some 63) = min 63 xs.length := e
  rw [e', e0, Nat.min_eq_right h]
  simp
theorem deal_ok {a b salt : Int} (hs : salt.natAbs < 2 ^ 40) (ha : a.natAbs < 2 ^ 20) (hb : b.natAbs < 2 ^ 20) {ns : List Int} (hn : ns.length ≤ 63) : ∃ δ, dealOf (g_deal a b) salt ns = some δ ∧ VD δ := by
  have hmp : 0 < most := by unfold most; decide
  let cell : Int → Int := fun n => (if n < 0 then -n else n) % most
  have hnl : ns.length ≤ sizeLine := Nat.le_trans hn (by decide)
  have hmb : cMul b salt := cMul_of (Nat.lt_of_lt_of_le hb (Nat.pow_le_pow_right (by decide) (by decide))) (Nat.lt_of_lt_of_le hs (Nat.pow_le_pow_right (by decide) (by decide)))
  have e1 : lcD (bName 5) fYes ce__law_deal_1 [.sh (.wls (ns.map .int)), .sh (.int salt), .sh (.int most), .un, .un, .un] (ns.map .int) ([], 0) = some ((ns.map cell).map .int, ([], 0)) := by
    have z := lcD_map (b := bName 5) (f := ce__law_deal_1) (g := fun d => match d with | .int n => .int (cell n) | d => d) (ds := ns.map .int) (ρ := [.sh (.wls (ns.map .int)), .sh (.int salt), .sh (.int most), .un, .un, .un]) (δ := ([], 0)) fun x hx => by
      obtain ⟨n, _, rfl⟩ := List.mem_map.mp hx
      refine ⟨_, .sh, bName_e, ?_, by simp⟩
      simp [ce__law_deal_1, hmp, cell]
    rw [z, List.map_map, List.map_map]
    rfl
  have e2 : ∃ mix : Int, mix.natAbs < 2 ^ 64 ∧ ∃ x, forD (bName 5) fb__law_deal_1 ((ns.map cell).map .int) [.sh (.wls (ns.map .int)), .sh (.int salt), .sh (.int most), .sh (.lst ((ns.map cell).map .int)), .sh (.int (a + b * salt)), .un] ([], 0) =
      some (.nx, [.sh (.wls (ns.map .int)), .sh (.int salt), .sh (.int most), .sh (.lst ((ns.map cell).map .int)), .sh (.int mix), x], ([], 0)) := by
    have z := forD_inv (b := bName 5) (h := fb__law_deal_1) (ds := (ns.map cell).map .int) (ρ := [.sh (.wls (ns.map .int)), .sh (.int salt), .sh (.int most), .sh (.lst ((ns.map cell).map .int)), .sh (.int (a + b * salt)), .un]) (δ := ([], 0))
      (fun ds ρ δ => (∀ d ∈ ds, ∃ n : Int, d = .int n) ∧ δ = ([], 0) ∧ ∃ mix : Int, mix.natAbs < 2 ^ 64 ∧ ∃ x, ρ = [.sh (.wls (ns.map .int)), .sh (.int salt), .sh (.int most), .sh (.lst ((ns.map cell).map .int)), .sh (.int mix), x]) ?_
      ⟨fun d hd => by obtain ⟨n, _, rfl⟩ := List.mem_map.mp hd; exact ⟨n, rfl⟩, rfl, a + b * salt, ?_, .un, rfl⟩
    · obtain ⟨ρ', δ', e, _, rfl, mix, hm, x, rfl⟩ := z
      exact ⟨mix, hm, x, e⟩
    · rintro x xs ρ δ ⟨hd, rfl, mix, hm, y, rfl⟩
      obtain ⟨n, rfl⟩ := hd x (by simp)
      have hmul : cMul mix 69621 := cMul_of (Nat.lt_of_lt_of_le hm (Nat.pow_le_pow_right (by decide) (by decide))) (Nat.lt_of_lt_of_le (show (69621 : Int).natAbs < 2 ^ 64 by decide) (Nat.pow_le_pow_right (by decide) (by decide)))
      refine ⟨_, [.sh (.wls (ns.map .int)), .sh (.int salt), .sh (.int most), .sh (.lst ((ns.map cell).map .int)), .sh (.int ((mix * 69621 + n % 2147483563 + 23) % 2147483647)), .sh (.int n)], _, bName_e, ?_, fun d hd' => hd d (by simp [hd']), rfl, _, ?_, _, rfl⟩
      · simp [fb__law_deal_1, hmul]
      · omega
    · have h1 : (b * salt).natAbs < 2 ^ 60 := by
        rw [Int.natAbs_mul]
        exact Nat.lt_of_le_of_lt (Nat.mul_le_mul (Nat.le_of_lt_succ (Nat.lt_succ_of_lt hb)) (Nat.le_refl _)) (by
          have := Nat.mul_lt_mul_of_pos_left hs (show 0 < 2 ^ 20 by decide)
          exact Nat.lt_of_lt_of_le this (by decide))
      have := Int.natAbs_add_le a (b * salt)
      omega
  obtain ⟨mix, hm, x, e2⟩ := e2
  let big : D → Bool := fun d => match d with | .int n => decide (1000000000000000000 ≤ n) | _ => false
  have e3 : lcD (bName 5) ct__law_deal_1 (fVar 5) [.sh (.wls (ns.map .int)), .sh (.int salt), .sh (.int most), .sh (.lst ((ns.map cell).map .int)), .sh (.int mix), .un] ((ns.map cell).map .int) ([], 0) = some (((((ns.map cell).map .int).filter big).map id), ([], 0)) :=
    lcD_filter fun d hd => by
      obtain ⟨n, _, rfl⟩ := List.mem_map.mp hd
      refine ⟨_, bName_e, ?_, fun _ => ⟨.sh, by simp, by simp⟩⟩
      simp [ct__law_deal_1, big, cPow]
  have e4 : (((ns.map cell).map D.int).filter big) = ((ns.map cell).filter fun n => decide (1000000000000000000 ≤ n)).map .int := by
    rw [List.filter_map]
    rfl
  refine ⟨(((ns.map cell).filter fun n => decide (1000000000000000000 ≤ n)).reverse, mix), ?_, ?_, hm⟩
  · have z : g_deal a b [.wls (ns.map .int), .int salt] = some (.lst [.lst ((((ns.map cell).filter fun n => decide (1000000000000000000 ≤ n)).reverse).map .int), .int mix], .ow) := by
      simp only [List.map_id, e4] at e3
      have hl2 : (ns.map .int : List D).length ≤ 63 := by simpa using hn
      simp only [List.map_map] at e1 e2 e3 ⊢
      simp [g_deal, h_deal, most_e, cut63 hl2, wip, hnl, e1, hmb, e2, e3]
    unfold dealOf
    rw [z]
    simp only
    rw [intsOf_map]
    rfl
  · show (((ns.map cell).filter _).reverse).length ≤ 63
    rw [List.length_reverse]
    exact Nat.le_trans (List.length_filter_le _ _) (by rw [List.length_map]; exact hn)
end LH
/-! D-layer, part p: enumerate of lists, tuples, texts. -/
namespace DLZ
open PySem PySem.Spec PyProof.Rows L2
theorem enum_new1 {v : Value} {o : Obj} {G : Heap → Prop} (B : Begins v o G) :
    Meets (Builtin.«enumerate.__new__» ⟨[.type "enumerate", v], []⟩) (fun _ R s => G s.heap ∧
      R (.ok (.ret (.ref (s.heap.push o).objs.size))) { s with heap := (s.heap.push o).push { cls := .type "enumerate", data := .fields #[.none, .bool false, .ref s.heap.objs.size, rawInt 0, .none, .none] } }) :=
  .of_wp fun prog w A R s h => by
    obtain ⟨hp, g, d, tk, os⟩ := s; obtain ⟨h1, h⟩ := h
    have hsub := sub_enumerate
    have q1 : ∀ {A' : Around} {E : Value → Shared → Prop} {Q : Value → Shared → Prop}, Q (.ref hp.objs.size) ⟨hp.push o, g, d, tk, os⟩ → wpAny (model prog w) A' (pyIter v) Q E ⟨hp, g, d, tk, os⟩ := fun q => B.iter prog w _ _ ⟨hp, g, d, tk, os⟩ _ h1 q
    wp_walk using q1
    refine wpAny_stack_any fun st => wpAny_pure ?_
    split
    · rename_i c _ _ _ _ _
      by_cases hce : (c == Value.type "enumerate") = true
      · rw [hce]
        wp_walk using q1
        exact ⟨_, rfl, h⟩
      · rw [Bool.not_eq_true] at hce
        rw [hce]
        wp_walk using q1
        exact ⟨_, rfl, h⟩
    · wp_walk using q1
      exact ⟨_, rfl, h⟩
section
variable {prog : Program} {w : World} {A : Around} {E : Value → Shared → Prop} {s : Shared}
theorem call_enum1 {v : Value} {o : Obj} {G : Heap → Prop} {Q : Value → Shared → Prop} (B : Begins v o G) (h1 : G s.heap)
    (h : ∀ g, IsEnum g (s.heap.objs.size + 1) s.heap.objs.size 0 .none → g.get? s.heap.objs.size = some o → g.objs.size = s.heap.objs.size + 2 → (∀ b o, s.heap.get? b = some o → g.get? b = some o) → Q (.ref (s.heap.objs.size + 1)) { s with heap := g }) :
    wpAny (model prog w) A (call (.type "enumerate") [v]) Q E s := by
  refine callType_new F.called_enumerate (by decide) (F.typeCall_enumerate_1 _) (F.newCall_enumerate_1 _) (fun obj => F.args_object_init_2 obj _) F.entry_enumerate_new (enum_new1 B) ⟨h1, ?_⟩
  have z1 : (s.heap.push o).objs.size = s.heap.objs.size + 1 := Heap.size_push ..
  show _ ∧ _
  rw [z1]
  have he : IsEnum ((s.heap.push o).push { cls := .type "enumerate", data := .fields #[.none, .bool false, .ref s.heap.objs.size, rawInt 0, .none, .none] }) (s.heap.objs.size + 1) s.heap.objs.size 0 .none := by
    have z := Heap.get?_push_size (s.heap.push o) (o := { cls := .type "enumerate", data := .fields #[.none, .bool false, .ref s.heap.objs.size, rawInt 0, .none, .none] }) rfl
    rw [z1] at z
    exact z
  exact ⟨⟨_, he, rfl⟩, h _ he (Heap.get?_push_of_some _ (Heap.get?_push_size _ B.free)) (by rw [Heap.size_push, z1]) fun b o x => Heap.get?_push_of_some _ (Heap.get?_push_of_some _ x)⟩
end
/-- enumerate of the tuple at a -/
def ItET (K : PySem.W.Frag) (a : Addr) : It :=
  ⟨fun i H => ∃ (xs : List V) (x : V), SqT K H a xs ∧ xs[i]? = some x,
    fun i H v H' => ∃ T x, v = .ref T ∧ H T = none ∧ H' = upd H T (.tup [.int (i : Nat), x]) ∧ ∀ xs, SqT K H a xs → xs[i]? = some x,
    fun i H => ∃ xs : List V, SqT K H a xs ∧ xs.length = i⟩
theorem turn_et {P : Program} {w : World} {K : PySem.W.Frag} {elts : List Expr} {kk : Nat} {tpos : Pos} {a e it : Addr} (n1 : e ≠ it) (n2 : e ≠ a) (n3 : a ≠ it) :
    Turn P w K (.Tuple elts kk tpos) (ItET K a) [e, it] e (fun i h => (∃ old, IsEnum h e it (i : Nat) old) ∧ h.IsTupleIter it a i) where
  mem := by simp
  obj := fun i h st b hb => by
    obtain ⟨⟨old, h1⟩, o, h2, _, h3⟩ := st
    rcases List.mem_cons.mp hb with q | q
    · rw [q]; exact ⟨_, h1, fun v q => nomatch q⟩
    · rw [List.mem_singleton.mp q]; exact ⟨o, h2, fun v q => by rw [h3] at q; cases q⟩
  keep := fun i h h' st k => by
    obtain ⟨⟨old, h1⟩, h2⟩ := st
    exact ⟨⟨old, k e (by simp) _ h1⟩, h2.at fun o q => k it (by simp) o q⟩
  item := by
    intro X hP hw hK hc i pins s σ H E I hf st hg
    subst hP hw hK
    obtain ⟨⟨old, h1⟩, h2⟩ := st
    obtain ⟨xs, x, hq, hx⟩ := hg
    obtain ⟨its, rv, p, _⟩ := I.tuple hq
    obtain ⟨u, hu, ru⟩ := rv.get hx
    have hil : i < its.toArray.size := by
      rw [List.size_toArray]
      exact (List.getElem?_eq_some_iff.mp hu).1
    have Dw := Draws.tuple (prog := X.prog) (w := X.w) (A := X.A.in1) (I.ok.hd hc) it a n3 its.toArray
    have W := WalksT.enumFrom 0 Dw e n1 (by simp [n1, n2]) (by simp)
    have z0 : (0 : Int) + (i : Nat) = (i : Nat) := Int.zero_add _
    refine W.item i s _ E hil ⟨⟨old, by rw [z0]; exact h1⟩, h2, p⟩ fun T vals h' tk hP hnew hT hm hk => ?_
    refine ⟨_, rfl, W.go elts kk tpos i T { s with heap := h', toks := tk } _ _ hm fun h'' st'' hk'' => ?_⟩
    obtain ⟨t, y, hy, rfl⟩ := hP
    have hyu : y = u := by
      have e1 : its.toArray[i]? = some u := by simpa using hu
      rw [hy] at e1
      exact Option.some.inj e1
    subst hyu
    have hT2 : h''.IsTuple T #[.int (0 + (i : Nat)) t, y] := hT.at fun o q => hk'' T o (fun hb => W.apart i T h' hm hb) q
    rw [z0] at hT2
    have kk2 : ∀ b o, b ∉ [e, it] → s.heap.get? b = some o → h''.get? b = some o := fun b o hb q => hk'' b o hb (hk b o hb q)
    have new : ObjOk X.prog X.w (upd H T (.tup [.int (i : Nat), x])) h'' T (.tup [.int (i : Nat), x]) := ⟨by show 2 ≤ sizeLine; decide, [.int (i : Nat) t, y], .cons ⟨t, rfl⟩ (.cons ru .nil), hT2⟩
    have I1 : Inv X pins σ (upd H T (.tup [.int (i : Nat), x])) { s with heap := h'', toks := tk } := I.turnedNew (t' := tk) (ch := [e, it]) kk2 hf hnew new
    obtain ⟨⟨old', he'⟩, h2', _⟩ := st''
    refine ⟨.ref T, _, I1, rfl, ⟨T, x, rfl, I.hok.fresh hnew, rfl, fun ys hy => by rw [I.tuple_inj hy hq]; exact hx⟩, ⟨⟨old', by rw [← Int.zero_add (((i + 1 : Nat)) : Int)]; exact he'⟩, h2'⟩, fun b hb => ?_⟩
    have hlt : b < s.heap.objs.size := by
      rcases List.mem_cons.mp hb with q | q
      · rw [q]; exact Heap.lt_size h1
      · rw [List.mem_singleton.mp q]
        obtain ⟨o, ho, _⟩ := h2
        exact Heap.lt_size ho
    rw [upd_ne (Nat.ne_of_lt (Nat.lt_of_lt_of_le hlt hnew))]
    exact (hf b hb).1
  done := by
    intro X hP hw hK hc i pins s σ H E I hf st hg
    subst hP hw hK
    obtain ⟨⟨old, h1⟩, h2⟩ := st
    obtain ⟨xs, hq, hx⟩ := hg
    obtain ⟨its, rv, p, _⟩ := I.tuple hq
    have Dw := Draws.tuple (prog := X.prog) (w := X.w) (A := X.A.in1) (I.ok.hd hc) it a n3 its.toArray
    have W := WalksT.enumFrom 0 Dw e n1 (by simp [n1, n2]) (by simp)
    have hi : i = its.toArray.size := by rw [List.size_toArray, ← rv.length, hx]
    subst hi
    exact W.done s _ E ⟨⟨old, by rw [Int.zero_add]; exact h1⟩, h2, p⟩ fun h' tk hk => ⟨rfl, I.turnedL (t' := tk) (ch := [e, it]) hk hf⟩
  self := fun A i s Q E st h => by
    obtain ⟨⟨old, h1⟩, h2⟩ := st
    exact wpAny_pyIter_enum h1 h
/-- enumerate of a text -/
def ItES (z : Str) : It :=
  ⟨fun i _ => i < z.cps.size, fun i H v H' => ∃ T c, v = .ref T ∧ H T = none ∧ H' = upd H T (.tup [.int (i : Nat), .str ⟨#[c]⟩]) ∧ z.cps[i]? = some c, fun i _ => z.cps.size = i⟩
theorem turn_es {P : Program} {w : World} {K : PySem.W.Frag} {elts : List Expr} {kk : Nat} {tpos : Pos} {z : Str} {tz : Tok} {e it : Addr} (n1 : e ≠ it) :
    Turn P w K (.Tuple elts kk tpos) (ItES z) [e, it] e (fun i h => (∃ old, IsEnum h e it (i : Nat) old) ∧ h.IsStrIter it (strIterType z) z tz i) where
  mem := by simp
  obj := fun i h st b hb => by
    obtain ⟨⟨old, h1⟩, h2⟩ := st
    rcases List.mem_cons.mp hb with q | q
    · rw [q]; exact ⟨_, h1, fun v q => nomatch q⟩
    · rw [List.mem_singleton.mp q]
      obtain ⟨o, ho, h3, h4⟩ := h2
      exact ⟨o, ho, fun v q => by rw [h4] at q; cases q⟩
  keep := fun i h h' st k => by
    obtain ⟨⟨old, h1⟩, h2⟩ := st
    obtain ⟨o, ho, h3⟩ := h2
    exact ⟨⟨old, k e (by simp) _ h1⟩, o, k it (by simp) _ ho, h3⟩
  item := by
    intro X hP hw hK hc i pins s σ H E I hf st hg
    subst hP hw hK
    obtain ⟨⟨old, h1⟩, h2⟩ := st
    have Dw := Draws.text (prog := X.prog) (w := X.w) (A := X.A.in1) (I.ok.hd hc) it z tz
    have W := WalksT.enumFrom 0 Dw e n1 (by simp [n1]) (by simp)
    have z0 : (0 : Int) + (i : Nat) = (i : Nat) := Int.zero_add _
    refine W.item i s _ E hg ⟨⟨old, by rw [z0]; exact h1⟩, h2⟩ fun T vals h' tk hP hnew hT hm hk => ?_
    refine ⟨_, rfl, W.go elts kk tpos i T { s with heap := h', toks := tk } _ _ hm fun h'' st'' hk'' => ?_⟩
    obtain ⟨t, y, ⟨c, u, hcc, rfl⟩, rfl⟩ := hP
    have hT2 : h''.IsTuple T #[.int (0 + (i : Nat)) t, .str ⟨#[c]⟩ u] := hT.at fun o q => hk'' T o (fun hb => W.apart i T h' hm hb) q
    rw [z0] at hT2
    have kk2 : ∀ b o, b ∉ [e, it] → s.heap.get? b = some o → h''.get? b = some o := fun b o hb q => hk'' b o hb (hk b o hb q)
    have new : ObjOk X.prog X.w (upd H T (.tup [.int (i : Nat), .str ⟨#[c]⟩])) h'' T (.tup [.int (i : Nat), .str ⟨#[c]⟩]) := ⟨by show 2 ≤ sizeLine; decide, [.int (i : Nat) t, .str ⟨#[c]⟩ u], .cons ⟨t, rfl⟩ (.cons ⟨u, rfl⟩ .nil), hT2⟩
    have I1 : Inv X pins σ (upd H T (.tup [.int (i : Nat), .str ⟨#[c]⟩])) { s with heap := h'', toks := tk } := I.turnedNew (t' := tk) (ch := [e, it]) kk2 hf hnew new
    obtain ⟨⟨old', he'⟩, h2'⟩ := st''
    refine ⟨.ref T, _, I1, rfl, ⟨T, c, rfl, I.hok.fresh hnew, rfl, hcc⟩, ⟨⟨old', by rw [← Int.zero_add (((i + 1 : Nat)) : Int)]; exact he'⟩, h2'⟩, fun b hb => ?_⟩
    have hlt : b < s.heap.objs.size := by
      rcases List.mem_cons.mp hb with q | q
      · rw [q]; exact Heap.lt_size h1
      · rw [List.mem_singleton.mp q]
        obtain ⟨o, ho, _⟩ := h2
        exact Heap.lt_size ho
    rw [upd_ne (Nat.ne_of_lt (Nat.lt_of_lt_of_le hlt hnew))]
    exact (hf b hb).1
  done := by
    intro X hP hw hK hc i pins s σ H E I hf st hg
    subst hP hw hK
    obtain ⟨⟨old, h1⟩, h2⟩ := st
    have Dw := Draws.text (prog := X.prog) (w := X.w) (A := X.A.in1) (I.ok.hd hc) it z tz
    have W := WalksT.enumFrom 0 Dw e n1 (by simp [n1]) (by simp)
    have hi : z.cps.size = i := hg
    subst hi
    exact W.done s _ E ⟨⟨old, by rw [Int.zero_add]; exact h1⟩, h2⟩ fun h' tk hk => ⟨rfl, I.turnedL (t' := tk) (ch := [e, it]) hk hf⟩
  self := fun A i s Q E st h => by
    obtain ⟨⟨old, h1⟩, h2⟩ := st
    exact wpAny_pyIter_enum h1 h
/-- enumerate of a list, a tuple, a text -/
def iEnumA (K : PySem.W.Frag) (ta : TA) : TI := fun σ H R => ta σ H fun vs H1 => (∃ a xs, vs = [.ref a] ∧ SqL K H1 a xs ∧ R (Ite K a) H1) ∨ (∃ a xs, vs = [.ref a] ∧ SqT K H1 a xs ∧ R (ItET K a) H1) ∨ ∃ z, vs = [.str z] ∧ R (ItES z) H1
theorem pi_enumA {X : Cx} {e : Expr} {ta : TA} {p pos tpos : Pos} {elts : List Expr} {kk : Nat} (hg : Gl X "enumerate") (hm : X.mg "enumerate" = none) (ha : PA X [e] ta) (hs : starEach [e] X.env = [(false, eval e X.env)] := by rfl) :
    PI X (.Tuple elts kk tpos) (.Call (.Name "enumerate" p) [e] [] pos) (iEnumA X.K ta) := by
  refine ⟨fun pins s σ H R I h => ?_⟩
  refine Call_ (ld_blt I hg hm boot_enumerate (PyProof.Rows.callWith_type1 (thn (ha.run pos pins s σ H _ I h) fun us s1 ⟨vs, H1, I1, r1, q1⟩ => ?_) hs rfl))
  have fresh : ∀ c, c ∈ [s1.heap.objs.size + 1, s1.heap.objs.size] → FpOk X pins H1 c := fun c hcm => by
    have hle : s1.heap.objs.size ≤ c := by
      simp only [List.mem_cons, List.not_mem_nil, or_false] at hcm
      omega
    exact I1.fpOk hle (I1.hok.fresh hle)
  rcases q1 with ⟨a, xs, ex, hq, q⟩ | ⟨a, xs, ex, hq, q⟩ | ⟨z, ex, q⟩
  · subst ex
    cases r1 with
    | cons r rr =>
      cases rr
      cases r
      obtain ⟨its, rv, p', hz⟩ := I1.list hq
      refine call_enumerate_list p'.isList fun h' he hit hsz hk => wpAny_pyIter_enum he ?_
      exact ⟨s1.heap.objs.size + 1, [s1.heap.objs.size + 1, s1.heap.objs.size], _, _, H1, rfl, I1.kept (t' := s1.toks) hk, turn_enum a (s1.heap.objs.size + 1) s1.heap.objs.size, ⟨⟨.none, he⟩, hit, Nat.succ_ne_self _⟩, fresh, q⟩
  · subst ex
    cases r1 with
    | cons r rr =>
      cases rr
      cases r
      obtain ⟨its, rv, p', hz⟩ := I1.tuple hq
      have hlt : a < s1.heap.objs.size := by
        obtain ⟨o, ho, _⟩ := id p'
        exact Heap.lt_size ho
      refine call_enum1 (begins_tuple a its.toArray) (show s1.heap.IsTuple a its.toArray from p') fun h' he hit hsz hk => wpAny_pyIter_enum he ?_
      exact ⟨s1.heap.objs.size + 1, [s1.heap.objs.size + 1, s1.heap.objs.size], _, _, H1, rfl, I1.kept (t' := s1.toks) hk, turn_et (Nat.succ_ne_self _) (Nat.ne_of_gt (Nat.lt_succ_of_lt hlt)) (Nat.ne_of_lt hlt), ⟨⟨.none, he⟩, _, hit, rfl, rfl⟩, fresh, q⟩
  · subst ex
    cases r1 with
    | cons r rr =>
      cases rr
      obtain ⟨tz, rfl⟩ := r
      refine call_enum1 (begins_text z tz) trivial fun h' he hit hsz hk => wpAny_pyIter_enum he ?_
      exact ⟨s1.heap.objs.size + 1, [s1.heap.objs.size + 1, s1.heap.objs.size], _, _, H1, rfl, I1.kept (t' := s1.toks) hk, turn_es (tz := tz) (Nat.succ_ne_self _), ⟨⟨.none, he⟩, _, hit, rfl, rfl⟩, fresh, q⟩
end DLZ

namespace DL
open PySem PySem.Spec PyProof.Rows L2 DLZ
section
variable {X : Cx}
/-- the pairs of enumerate -/
def enD : Nat → List D → List D
  | _, [] => []
  | k, d :: ds => .tup [.int (k : Nat), d] :: enD (k + 1) ds
theorem enD_len (k : Nat) (ds : List D) : (enD k ds).length = ds.length := by
  induction ds generalizing k with
  | nil => rfl
  | cons d ds ih => rw [enD, List.length_cons, ih, List.length_cons]
theorem enD_get {k i : Nat} {ds : List D} {e : D} (h : (enD k ds)[i]? = some e) : ∃ d, ds[i]? = some d ∧ e = .tup [.int ((k + i : Nat) : Int), d] := by
  induction ds generalizing k i with
  | nil => cases h
  | cons d ds ih =>
    cases i with
    | zero =>
      cases h
      exact ⟨d, rfl, rfl⟩
    | succ i =>
      obtain ⟨d', e1, e2⟩ := ih (k := k + 1) (i := i) (by simpa [enD] using h)
      exact ⟨d', by simpa using e1, by rw [e2, show k + 1 + i = k + (i + 1) by omega]⟩
theorem src_pair {K : PySem.W.Frag} {O : Addr → Prop} {H H2 : Hp} {i : Nat} {x y : V} {d : D} (r : Rep K O H y d) (h : ∃ T, x = .ref T ∧ H T = none ∧ H2 = upd H T (.tup [.int (i : Nat), y])) : Same H H2 ∧ Rep K O H2 x (.tup [.int ((0 + i : Nat) : Int), d]) := by
  obtain ⟨T, rfl, hn, rfl⟩ := h
  have sm := same_upd (o := .tup [.int (i : Nat), y]) hn
  refine ⟨sm, .tup (.inl (.inl upd_same)) (.cons ?_ (.cons (r.same sm) .nil))⟩
  rw [Nat.zero_add]
  exact .int _
theorem src_enL {K : PySem.W.Frag} {g : Gh} {F : Fp} {H : Hp} {p : Addr} {vs : List V} {ds : List D} (h : Rd H p (.lst vs)) (r : Reps K (Av g F) H vs ds) : Src K g F H (Ite K p) (enD 0 ds) (fun a => a = p) where
  go := fun O H' hr ht hp i e he => by
    obtain ⟨d, e1, rfl⟩ := enD_get he
    obtain ⟨v, e2, e3⟩ := r.getD e1
    have h' : Rd H' p (.lst vs) := h.elim (fun h => .inl (hr p _ rfl h)) fun ⟨o, h⟩ => .inr ⟨o, hr p _ rfl h⟩
    refine ⟨⟨vs, v, .inl h', e2⟩, fun x H2 y => ?_⟩
    obtain ⟨T, w, rfl, hn, rfl, y⟩ := y
    have z := y vs (.inl h')
    rw [e2] at z
    cases z
    exact src_pair (hp _ _ e3) ⟨T, rfl, hn, rfl⟩
  stop := fun H' hr ht => ⟨vs, .inl (h.elim (fun h => .inl (hr p _ rfl h)) fun ⟨o, h⟩ => .inr ⟨o, hr p _ rfl h⟩), by rw [r.length, enD_len]; exact Nat.le_refl _⟩
theorem src_enT {K : PySem.W.Frag} {g : Gh} {F : Fp} {H : Hp} {p : Addr} {vs : List V} {ds : List D} (h : SqT K H p vs) (r : Reps K (Av g F) H vs ds) : Src K g F H (ItET K p) (enD 0 ds) (fun _ => False) where
  go := fun O H' hr ht hp i e he => by
    obtain ⟨d, e1, rfl⟩ := enD_get he
    obtain ⟨v, e2, e3⟩ := r.getD e1
    have h' := ht p _ h
    refine ⟨⟨vs, v, h', e2⟩, fun x H2 y => ?_⟩
    obtain ⟨T, w, rfl, hn, rfl, y⟩ := y
    have z := y vs h'
    rw [e2] at z
    cases z
    exact src_pair (hp _ _ e3) ⟨T, rfl, hn, rfl⟩
  stop := fun H' hr ht => ⟨vs, ht p _ h, by rw [r.length, enD_len]⟩
def signs (z : Str) : List D := z.cps.toList.map fun c => .str ⟨#[c]⟩
theorem src_enS {K : PySem.W.Frag} {g : Gh} {F : Fp} {H : Hp} (z : Str) : Src K g F H (ItES z) (enD 0 (signs z)) (fun _ => False) where
  go := fun O H' hr ht hp i e he => by
    obtain ⟨d, e1, rfl⟩ := enD_get he
    unfold signs at e1
    rw [List.getElem?_map] at e1
    cases e2 : z.cps.toList[i]? with
    | none => rw [e2] at e1; cases e1
    | some c =>
      rw [e2] at e1
      cases e1
      have e3 : z.cps[i]? = some c := by rw [← Array.getElem?_toList]; exact e2
      have hi : i < z.cps.size := by
        have := (List.getElem?_eq_some_iff.mp e2).1
        simpa using this
      refine ⟨hi, fun x H2 y => ?_⟩
      obtain ⟨T, c', rfl, hn, rfl, hc⟩ := y
      rw [e3] at hc
      cases hc
      exact src_pair (.str _) ⟨T, rfl, hn, rfl⟩
  stop := fun H' hr ht => by
    show z.cps.size = _
    rw [enD_len]
    unfold signs
    simp
def sEnum (f : EF) : SF := fun ρ δ => (f ρ δ).bind fun p => match p.1 with
  | .lst ds => some (enD 0 ds, p.2.1, p.2.2)
  | .tup ds => some (enD 0 ds, .sh, p.2.2)
  | .str z => some (enD 0 (signs z), .sh, p.2.2)
  | _ => none
theorem di_enum {elts : List Expr} {kk : Nat} {tpos : Pos} {e : Expr} {f : EF} {p pos : Pos} (hg : Gl X "enumerate") (hm : X.mg "enumerate" = none) (h : DE X e f) (hs : starEach [e] X.env = [(false, eval e X.env)] := by rfl) : DI X (.Tuple elts kk tpos) (.Call (.Name "enumerate" p) [e] [] pos) (sEnum f) := by
  obtain ⟨t, pp, x⟩ := h.ex
  refine ⟨_, pi_enumA hg hm (pa_cons pp pa_nil hs) hs, fun g F σ H ρ δ ds k δ' R S hf q => ?_⟩
  unfold sEnum at hf
  cases e1 : f ρ δ with
  | none => rw [e1] at hf; cases hf
  | some c =>
    obtain ⟨d, k0, δ1⟩ := c
    rw [e1] at hf
    simp only [Option.bind_some] at hf
    refine x g F σ H ρ δ _ _ _ _ S e1 fun v H1 k1 S1 r1 => ?_
    split at hf
    · rename_i es
      cases hf
      obtain ⟨a, vs, rfl, h1, rs⟩ := (r1.rd S.good).lst
      refine .inl ⟨a, vs, rfl, .inl h1, q _ H1 _ k1 S1 (src_enL h1 rs) fun b hb => ?_⟩
      subst hb
      refine ⟨fun z => rd_there h1 z, ?_, fun hk z => ?_⟩
      · rcases k with _ | _ | _
        · cases r1 with
          | lst _ n _ => exact fun z => n (.inr (.inl z))
        · obtain ⟨p', e', n, t'⟩ := r1
          cases e'
          exact fun z => S.good _ (.inr (.inl z)) n
        · obtain ⟨p', e', n, t'⟩ := r1
          cases e'
          exact n
      · rcases k with _ | _ | _
        · cases r1 with
          | lst _ n _ => exact n z
        · obtain ⟨p', e', n, t'⟩ := r1
          cases e'
          exact S.good _ z n
        · exact absurd rfl hk
    · rename_i es
      cases hf
      obtain ⟨a, vs, rfl, h1, rs⟩ := (r1.rd S.good).tup
      exact .inr (.inl ⟨a, vs, rfl, h1, q _ H1 _ k1 S1 (src_enT h1 rs) fun b hb => hb.elim⟩)
    · rename_i z
      cases hf
      exact .inr (.inr ⟨z, by rw [(r1.rd S.good).str], q _ H1 _ k1 S1 (src_enS z) fun b hb => hb.elim⟩)
    · cases hf
end
end DL
/-! D-layer, part q: ord, join, tuples turned and repeated, sums of tuples. -/
namespace DLZ
open PySem PySem.Spec PyProof.Rows L2
theorem back_places (n : Nat) : Builtin.Slice.slicePlaces ((n : Int) - 1) (-1) (-1) = n := by
  unfold Builtin.Slice.slicePlaces
  have h1 : ¬ ((-1 : Int) > 0) := by decide
  simp only [h1, if_false]
  split
  · have e : (- (-1 : Int)) = 1 := by decide
    rw [e, Int.ediv_one]
    omega
  · omega
theorem fm_congr {α β : Type} {f h : α → Option β} : ∀ (l : List α), (∀ a, a ∈ l → f a = h a) → l.filterMap f = l.filterMap h
  | [], _ => rfl
  | a :: r, e => by rw [List.filterMap_cons, List.filterMap_cons, e a (.head _), fm_congr r fun b hb => e b (.tail _ hb)]
theorem back_pick (xs : Array Value) (n : Nat) (hn : xs.size = n) : ((List.range n).filterMap fun (k : Nat) => xs[((n : Int) - 1 + (k : Int) * (-1)).toNat]?).toArray = xs.toList.reverse.toArray := by
  congr 1
  have e1 : xs.toList.reverse = (List.range n).map fun k => xs.getD (n - 1 - k) .none := by
    apply List.ext_getElem
    · rw [List.length_reverse, Array.length_toList, List.length_map, List.length_range, hn]
    · intro i h1 h2
      rw [List.length_map, List.length_range] at h2
      have hb : n - 1 - i < xs.size := by omega
      rw [List.getElem_reverse, List.getElem_map, List.getElem_range, Array.getElem_toList]
      simp only [Array.length_toList, hn]
      rw [Array.getD_eq_getD_getElem?, Array.getElem?_eq_getElem hb]
      rfl
  rw [e1, ← List.filterMap_eq_map]
  refine fm_congr _ fun k hk => ?_
  have := List.mem_range.mp hk
  have e2 : ((n : Int) - 1 + (k : Int) * (-1)).toNat = n - 1 - k := by omega
  have hb : n - 1 - k < xs.size := by omega
  show _ = some (xs.getD (n - 1 - k) .none)
  rw [e2, Array.getD_eq_getD_getElem?, Array.getElem?_eq_getElem hb]
  rfl
theorem tuple_back {prog : Program} {w : World} {A : Around} {E : Value → Shared → Prop} {s : Shared} {t sl : Addr} {its : Array Value} {vs : Value} {Q : Value → Shared → Prop}
    (p1 : IsTup s.heap t its) (p2 : s.heap.IsSliceOf sl .none .none vs) (p3 : IsPart vs (some (-1))) (hz : its.size ≤ sizeLine)
    (h : Q (.ref s.heap.objs.size) { s with heap := s.heap.push { cls := .type "tuple", data := .seq its.toList.reverse.toArray } }) :
    wpAny (model prog w) A (getItem (.ref t) (.ref sl)) Q E s := by
  obtain ⟨os, hos, hcs, hds⟩ := id p2
  have q2 : s.TypeIs (.ref sl) "slice" := ⟨os, hos, hcs⟩
  have hsz : sizeOk (.seq its.toList.reverse.toArray) := by
    show its.toList.reverse.toArray.size ≤ sizeLine
    rw [List.size_toArray, List.length_reverse, Array.length_toList]
    exact hz
  unfold getItem
  refine wpAny_holding (wpAny_bind (wpAny_sequenceKey p1.typeIs (by decide) (wpAny_bind (wpAny_callSpecial?_slot (name := Str.ofString "__getitem__") p1.typeIs PyProof.Rows.slot_tuple_getitem (wpAny_call_entry PyProof.Rows.slot_tuple_getitem p1.typeIs entry_tuple_getitem ?_ (args_tuple_getitem _ _))))))
  show wpAny (model prog w) _ (Builtin.Tuple.tupleItemsOf (.ref t) >>= _) _ _ s
  refine wpAny_bind (tupleItemsOf_ p1 (wpAny_bind (wpAny_typeOf q2 ?_)))
  rw [if_pos (by decide)]
  refine wpAny_bind ?_
  have step : ∀ {R : Int × Int × Nat → Shared → Prop} {A' : Around} {E' : Value → Shared → Prop}, R ((its.size : Int) - 1, -1, its.size) s → wpAny (model prog w) A' (Builtin.Slice.sliceApplied (.ref sl) (pure (its.size : Int))) R E' s := by
    intro R A' E' hR
    unfold Builtin.Slice.sliceApplied Builtin.Slice.sliceFields
    refine wpAny_bind (wpAny_bind (wpAny_field hos hds (x := .none) rfl (wpAny_bind (wpAny_field hos hds (x := .none) rfl (wpAny_bind (wpAny_field hos hds (x := vs) rfl (wpAny_pure ?_)))))))
    refine wpAny_bind (HT.slicePart_ p3 ?_)
    show wpAny (model prog w) _ (if ((-1 : Int) == 0) = true then _ else _) _ _ s
    rw [if_neg (by decide)]
    refine wpAny_bind (HT.slicePart_ .none (wpAny_bind (HT.slicePart_ .none (wpAny_bind (wpAny_pure ?_)))))
    show wpAny (model prog w) _ (pure (((its.size : Int) - 1), (-1 : Int), Builtin.Slice.slicePlaces ((its.size : Int) - 1) (-1) (-1))) _ _ s
    rw [back_places]
    exact wpAny_pure hR
  refine step ?_
  show wpAny (model prog w) _ (if ((((its.size : Int) - 1) == 0 && (-1 : Int) == 1 && its.size == its.size) = true) then _ else _) _ _ s
  have no : ¬ ((((its.size : Int) - 1) == 0 && (-1 : Int) == 1 && its.size == its.size) = true) := by
    rw [show ((-1 : Int) == 1) = false by decide, Bool.and_false, Bool.false_and]
    exact Bool.false_ne_true
  rw [if_neg no, back_pick its its.size rfl]
  first
    | exact wpAny_bind (m := Builtin.Tuple.tupleExact _) (wpAny_newObj_type (wpAny_pure ⟨_, rfl, wpAny_pure h⟩) hsz)
    | exact wpAny_bind (m := Builtin.Tuple.tupleExact _) (wpAny_newObj_type (wpAny_bind (wpAny_pure (wpAny_pure ⟨_, rfl, wpAny_pure h⟩))) hsz)
    | exact wpAny_bind (wpAny_bind (m := Builtin.Tuple.tupleExact _) (wpAny_newObj_type (wpAny_pure (wpAny_pure ⟨_, rfl, wpAny_pure h⟩)) hsz))
section
variable {X : Cx}
/-- e[::-1] of a list or a tuple -/
def tBack (K : PySem.W.Frag) (te : TE) : TE := fun σ H Q => te σ H fun x H1 => (∃ a xs, x = .ref a ∧ SqL K H1 a xs ∧ ∀ p, H1 p = none → Q (.ref p) (upd H1 p (.lst xs.reverse))) ∨ ∃ a xs, x = .ref a ∧ SqT K H1 a xs ∧ ∀ p, H1 p = none → Q (.ref p) (upd H1 p (.tup xs.reverse))
theorem pe_back {e : Expr} {te : TE} {k : Nat} {p1 p2 p3 pos : Pos} (he : PE X e te) : PE X (.Subscript e (.Slice none none (some (.UnaryOp .USub (.Constant (.int 1) k p1) p2)) p3) pos) (tBack X.K te) := by
  refine ⟨fun pins s σ H Q I h => ?_⟩
  refine Subscript_ (thn (he.run pins s σ H _ I h) fun v s1 ⟨x, H1, I1, r1, q1⟩ => ?_)
  have hst : PO X (some (.UnaryOp .USub (.Constant (.int 1) k p1) p2)) (tPart (tUn (rU fun i => .int (-i)) (tC (.int 1)))) := po_some (pe_un un_neg pe_int)
  refine wpAny_Slice (thn (po_none.run pins s1 σ H1 (fun o H2 => o = none ∧ H2 = H1) I1 ⟨rfl, rfl⟩) fun vl s2 ⟨l, H2, I2, pl, el, e2⟩ => ?_)
  subst el e2
  refine thn (po_none.run pins s2 σ H2 (fun o H3 => o = none ∧ H3 = H2) I2 ⟨rfl, rfl⟩) fun vu s3 ⟨u, H3, I3, pu, eu, e3⟩ => ?_
  subst eu e3
  refine thn (hst.run pins s3 σ H3 (fun o H4 => o = some (-1) ∧ H4 = H3) I3 ⟨1, rfl, -1, rfl, rfl, rfl⟩) fun vs s4 ⟨o, H4, I4, ps, eo, e4⟩ => ?_
  subst eo e4
  have I5 : Inv X pins σ H4 { s4 with heap := s4.heap.push { cls := .type "slice", data := .fields #[vl, vu, vs] } } := I4.kept (t' := s4.toks) fun b ob q => Heap.get?_push_of_some _ q
  rcases q1 with ⟨a, xs, ex, hx, q⟩ | ⟨a, xs, ex, hx, q⟩ <;> subst ex <;> cases r1
  · obtain ⟨its, r, ht, hz⟩ := I5.list hx
    have hlen := r.length
    show wpAny (model X.prog X.w) X.A (subscriptTail e (.Slice none none (some (.UnaryOp .USub (.Constant (.int 1) k p1) p2)) p3) (.ref a) (.ref s4.heap.objs.size)) (EP X pins σ Q) X.xe { s4 with heap := s4.heap.push { cls := .type "slice", data := .fields #[vl, vu, vs] } }
    refine tail_any (ops := [.ref a, .ref s4.heap.objs.size]) ht.isList.typeIs (PySem.slot_list_getitem.lookup) ?_ (by with_unfolding_all rfl)
    refine wpAny_getItem_list_slice ht.isList (Heap.IsSliceOf.new _ vl vu vs) pl pu ps (by decide) ?_ (by rw [List.size_toArray]; omega)
    rw [PySem.W.krv_pick]
    refine ⟨.ref _, _, I5.laid (t' := s4.toks) (o := .lst xs.reverse) (fun b ob q => Heap.get?_push_of_some _ q) (Nat.le_refl _) ?_, rfl, q _ (I5.hok.fresh (Nat.le_refl _))⟩
    exact ⟨by rw [List.length_reverse]; exact hz, _, 0, r.reverse, Heap.get?_push_size _ rfl⟩
  · cases pl
    cases pu
    obtain ⟨its, r, ht, hz⟩ := I5.tuple hx
    have hlen := r.length
    show wpAny (model X.prog X.w) X.A (subscriptTail e (.Slice none none (some (.UnaryOp .USub (.Constant (.int 1) k p1) p2)) p3) (.ref a) (.ref s4.heap.objs.size)) (EP X pins σ Q) X.xe { s4 with heap := s4.heap.push { cls := .type "slice", data := .fields #[.none, .none, vs] } }
    refine tail_any (ops := [.ref a, .ref s4.heap.objs.size]) ht.typeIs (PyProof.Rows.slot_tuple_getitem.lookup) ?_ (by with_unfolding_all rfl)
    refine tuple_back ht (Heap.IsSliceOf.new _ .none .none vs) ps (by rw [List.size_toArray]; omega) ?_
    refine ⟨.ref _, _, I5.laid (t' := s4.toks) (o := .tup xs.reverse) (fun b ob q => Heap.get?_push_of_some _ q) (Nat.le_refl _) ?_, rfl, q _ (I5.hok.fresh (Nat.le_refl _))⟩
    refine ⟨by rw [List.length_reverse]; exact hz, its.reverse, r.reverse, ?_⟩
    have z := Heap.get?_push_size (s4.heap.push { cls := .type "slice", data := .fields #[.none, .none, vs] }) (o := { cls := .type "tuple", data := .seq its.toArray.toList.reverse.toArray }) rfl
    exact ⟨_, z, rfl, 0, rfl⟩
/-- sum of a list or a tuple of ints -/
def rSumT (K : PySem.W.Frag) : List V → Hp → VK → Prop := fun vs H Q => ∃ (a : Addr) (ns : List Int), vs = [V.ref a] ∧ SqT K H a (ns.map V.int) ∧ Q (.int ns.sum) H
theorem cr_sumT (hc : X.calm = true) : CallR X (.builtin "sum") (rSumT X.K) := by
  intro pins s σ H vs us Q I r h
  obtain ⟨a, ns, rfl, hs, q⟩ := h
  obtain ⟨its, rv, hl, _⟩ := I.tuple hs
  rw [Vals.ref1 r]
  have hi := rv.ints
  obtain ⟨xs, hx⟩ := hi.allInts.items
  have hn : numsOf its.toArray.toList = ns := by rw [show its.toArray.toList = its from rfl, hi.numsOf]
  rw [hx] at hl hn
  rw [nums_intItems] at hn
  refine PySem.W.ktm_sumG (I.ok.hd hc) hl fun h' tk t' hk => ?_
  rw [preSum_eq, List.take_of_length_le (by simp), hn]
  exact ⟨.int _, H, I.kept hk, ⟨_, rfl⟩, q⟩
end
end DLZ

namespace DL
open PySem PySem.Spec PyProof.Rows L2 DLZ
section
variable {X : Cx}
def fBack (f : EF) : EF := fun ρ δ => (f ρ δ).bind fun p => match p.1 with
  | .lst a => some (.lst a.reverse, .ow, p.2.2)
  | .tup a => some (.tup a.reverse, .sh, p.2.2)
  | _ => none
theorem de_back {e : Expr} {f : EF} {k : Nat} {p1 p2 p3 pos : Pos} (h : DE X e f) : DE X (.Subscript e (.Slice none none (some (.UnaryOp .USub (.Constant (.int 1) k p1) p2)) p3) pos) (fBack f) := by
  obtain ⟨t, p, x⟩ := h.ex
  refine ⟨_, pe_back p, fun g F σ H ρ δ d k δ' Q S hf q => ?_⟩
  unfold fBack at hf
  cases e1 : f ρ δ with
  | none => rw [e1] at hf; cases hf
  | some c =>
    obtain ⟨d1, k1, δ1⟩ := c
    rw [e1] at hf
    simp only [Option.bind_some] at hf
    split at hf
    · rename_i a
      cases hf
      refine x g F σ H ρ δ _ _ _ _ S e1 fun v H1 ke S1 r1 => ?_
      obtain ⟨p1, x1, rfl, h1, s1⟩ := (r1.rd S.good).lst
      refine .inl ⟨_, _, rfl, .inl h1, fun b hb => ?_⟩
      have sm := same_upd (o := .lst x1.reverse) hb
      exact q _ _ (ke.trans (Keep.of_same sm)) (S1.same sm) ((res_new hb s1.reverse).earlier ke)
    · rename_i a
      cases hf
      refine x g F σ H ρ δ _ _ _ _ S e1 fun v H1 ke S1 r1 => ?_
      obtain ⟨p1, x1, rfl, h1, s1⟩ := (r1.rd S.good).tup
      refine .inr ⟨_, _, rfl, h1, fun b hb => ?_⟩
      have sm := same_upd (o := .tup x1.reverse) hb
      exact q _ _ (ke.trans (Keep.of_same sm)) (S1.same sm) (rep_newT hb s1.reverse)
    · cases hf
/-- sum of a list or a tuple of ints -/
def oSumA : OFn := fun ds => match ds with
  | [.lst a] => (intsOf a).map fun l => (.int l.sum, .sh)
  | [.tup a] => (intsOf a).map fun l => (.int l.sum, .sh)
  | _ => none
theorem c_sumA (hc : X.calm = true) : CallD X (.builtin "sum") oSumA := by
  refine ⟨_, (cr_sum hc).or (cr_sumT hc), fun g F H vs ds d k Q G r ho q => ?_⟩
  unfold oSumA at ho
  split at ho
  · rename_i a
    cases e : intsOf a with
    | none => rw [e] at ho; cases ho
    | some l =>
      rw [e] at ho
      cases ho
      cases r with
      | cons r1 rr =>
        cases rr
        obtain ⟨p1, x1, rfl, h1, s1⟩ := r1.lst
        have e2 := intsOf_some e
        subst e2
        have e3 := s1.ints
        subst e3
        exact .inl ⟨_, _, rfl, .inl h1, q _ H (Same.refl _) (.int _)⟩
  · rename_i a
    cases e : intsOf a with
    | none => rw [e] at ho; cases ho
    | some l =>
      rw [e] at ho
      cases ho
      cases r with
      | cons r1 rr =>
        cases rr
        obtain ⟨p1, x1, rfl, h1, s1⟩ := r1.tup
        have e2 := intsOf_some e
        subst e2
        have e3 := s1.ints
        subst e3
        exact .inr ⟨_, _, rfl, h1, q _ H (Same.refl _) (.int _)⟩
  · cases ho
/-- ord(c) -/
def oOrd : OFn := fun ds => match ds with
  | [.str z] => if z.length = 1 then some (.int (z.cps.getD 0 0 : Nat), .sh) else none
  | _ => none
theorem c_ord : CallD X (.builtin "ord") oOrd := by
  refine ⟨_, call_ord, fun g F H vs ds d k Q G r ho q => ?_⟩
  unfold oOrd at ho
  split at ho
  · split at ho
    · rename_i hz
      cases ho
      cases r with
      | cons r1 rr =>
        cases rr
        exact ⟨_, by rw [r1.str], hz, q _ H (Same.refl _) (.int _)⟩
    · cases ho
  · cases ho
/-- the texts of a list -/
def strsOf : List D → Option (List Str)
  | [] => some []
  | .str z :: r => (strsOf r).map fun l => z :: l
  | _ => none
theorem strsOf_some : ∀ {ds : List D} {zs : List Str}, strsOf ds = some zs → ds = zs.map D.str
  | [], zs, h => by cases h; rfl
  | d :: r, zs, h => by
    cases d <;> simp only [strsOf] at h <;> first
      | cases h
        done
      | (cases e : strsOf r with
         | none => rw [e] at h; cases h
         | some l =>
           rw [e] at h
           cases h
           rw [List.map_cons, strsOf_some e])
theorem Reps.strs {K : PySem.W.Frag} {O : Addr → Prop} {H : Hp} : ∀ {vs : List V} {zs : List Str}, Reps K O H vs (zs.map D.str) → vs = zs.map V.str
  | [], [], _ => rfl
  | _ :: _, [], h => by cases h
  | [], _ :: _, h => by cases h
  | _ :: _, _ :: _, .cons h r => by
    cases h
    rw [List.map_cons, Reps.strs r]
/-- a.join(b) -/
def joinR (x y : D) : Option D := match x, y with
  | .str a, .lst b => (strsOf b).bind fun ys => if (ys.map (·.length)).sum + ys.length * a.length ≤ 16777216 then some (.str (Txt.join a ys)) else none
  | .str a, .tup b => (strsOf b).bind fun ys => if (ys.map (·.length)).sum + ys.length * a.length ≤ 16777216 then some (.str (Txt.join a ys)) else none
  | _, _ => none
def fJoin (f h : EF) : EF := fun ρ δ => (f ρ δ).bind fun p => (h ρ p.2.2).bind fun q => (joinR p.1 q.1).map fun z => (z, .sh, q.2.2)
theorem de_join {o e : Expr} {f h : EF} {apos pos : Pos} (ho : DE X o f) (he : DE X e h) (hs : starEach [e] X.env = [(false, eval e X.env)] := by rfl) (hbase : attributeBase o "join" X.env (eval o X.env) = eval o X.env := by rfl) (hline : (apos.endLine == pos.line) = true := by rfl) : DE X (.Call (.Attribute o "join" apos) [e] [] pos) (fJoin f h) := by
  obtain ⟨t, p, x⟩ := ho.ex
  obtain ⟨t2, p2, x2⟩ := he.ex
  refine ⟨_, pe_join p p2 hs hbase hline, fun g F σ H ρ δ d k δ' Q S hf q => ?_⟩
  unfold fJoin at hf
  cases e1 : f ρ δ with
  | none => rw [e1] at hf; cases hf
  | some c =>
    obtain ⟨d1, k1, δ1⟩ := c
    rw [e1] at hf
    simp only [Option.bind_some] at hf
    cases e2 : h ρ δ1 with
    | none => rw [e2] at hf; cases hf
    | some c =>
      obtain ⟨d2, k2, δ2⟩ := c
      rw [e2] at hf
      simp only [Option.bind_some] at hf
      cases e3 : joinR d1 d2 with
      | none => rw [e3] at hf; cases hf
      | some z =>
        rw [e3] at hf
        cases hf
        refine x g F σ H ρ δ _ _ _ _ S e1 fun v H1 ke S1 r1 => ?_
        have rd1 := r1.rd S.good
        unfold joinR at e3
        split at e3
        · rename_i a b
          cases e4 : strsOf b with
          | none => rw [e4] at e3; cases e3
          | some ys =>
            rw [e4] at e3
            simp only [Option.bind_some] at e3
            split at e3
            · rename_i hz
              cases e3
              refine ⟨⟨a, rd1.str⟩, x2 g F σ H1 ρ δ1 _ _ _ _ S1 e2 fun u H2 k2 S2 r2 => ?_⟩
              obtain ⟨p1, x1, rfl, h1, s1⟩ := (r2.rd S1.good).lst
              have e5 := strsOf_some e4
              subst e5
              have e6 := s1.strs
              subst e6
              exact ⟨_, _, _, rd1.str, rfl, .inl (.inl h1), hz, q _ H2 (ke.trans k2) S2 (.str _)⟩
            · cases e3
        · rename_i a b
          cases e4 : strsOf b with
          | none => rw [e4] at e3; cases e3
          | some ys =>
            rw [e4] at e3
            simp only [Option.bind_some] at e3
            split at e3
            · rename_i hz
              cases e3
              refine ⟨⟨a, rd1.str⟩, x2 g F σ H1 ρ δ1 _ _ _ _ S1 e2 fun u H2 k2 S2 r2 => ?_⟩
              obtain ⟨p1, x1, rfl, h1, s1⟩ := (r2.rd S1.good).tup
              have e5 := strsOf_some e4
              subst e5
              have e6 := s1.strs
              subst e6
              exact ⟨_, _, _, rd1.str, rfl, .inr h1, hz, q _ H2 (ke.trans k2) S2 (.str _)⟩
            · cases e3
        · cases e3
end
end DL
/-! D-layer, part r: dicts by ints or texts: dict(pairs), d[k], d.get(k), k in d. -/
namespace DL
open PySem PySem.Spec PyProof.Rows L2
section
variable {X : Cx}
def keyOf : D → Option Key
  | .int i => some (.inl i)
  | .str x => some (.inr x)
  | _ => none
theorem keyOf_rd {K : PySem.W.Frag} {g : Gh} {F : Fp} {H : Hp} {v : V} {d : D} {k : Key} (h : keyOf d = some k) (r : Rd1 K g F H v d) : v = kV k := by
  cases d <;> simp only [keyOf] at h <;> first
    | cases h
      done
    | (cases h
       first
         | exact r.int
         | exact r.str)
theorem keyOf_rep {K : PySem.W.Frag} {O : Addr → Prop} {H : Hp} {v : V} {d : D} {k : Key} (h : keyOf d = some k) (r : Rep K O H v d) : v = kV k := by
  cases d <;> simp only [keyOf] at h <;> first
    | cases h
      done
    | (cases h
       cases r
       rfl)
def getD' (ds : List (Key × D)) (k : Key) : Option D := (ds.find? fun kv => decide (kv.1 = k)).map (·.2)
theorem getD_neg {p : Key × D} {r : List (Key × D)} {k : Key} (e : ¬ p.1 = k) : getD' (p :: r) k = getD' r k := by simp [getD', List.find?_cons, e]
theorem getD_pos {p : Key × D} {r : List (Key × D)} {k : Key} (e : p.1 = k) : getD' (p :: r) k = some p.2 := by simp [getD', List.find?_cons, e]
theorem kvs_get {K : PySem.W.Frag} {O : Addr → Prop} {H : Hp} (k : Key) : ∀ {kvs : List (Key × V)} {ds : List (Key × D)}, kvs.map (·.1) = ds.map (·.1) → Reps K O H (kvs.map (·.2)) (ds.map (·.2)) →
    (getD' ds k = none ∧ valV kvs k = none) ∨ ∃ d v, getD' ds k = some d ∧ valV kvs k = some v ∧ Rep K O H v d
  | [], [], _, _ => .inl ⟨rfl, rfl⟩
  | [], _ :: _, e, _ => by simp at e
  | _ :: _, [], e, _ => by simp at e
  | p :: ps, q :: qs, e, r => by
    simp only [List.map_cons, List.cons.injEq] at e
    rw [List.map_cons, List.map_cons] at r
    cases r with
    | cons r1 r2 =>
      by_cases h : q.1 = k
      · exact .inr ⟨_, _, getD_pos h, valV_pos (e.1.trans h), r1⟩
      · rw [getD_neg h, valV_neg (fun z => h (e.1.symm.trans z))]
        exact kvs_get k e.2 r2
def putD (ds : List (Key × D)) (k : Key) (v : D) : List (Key × D) :=
  if (ds.any fun kv => decide (kv.1 = k)) = true then ds.map (fun kv => if kv.1 = k then (kv.1, v) else kv) else ds ++ [(k, v)]
theorem put_keys {kvs : List (Key × V)} {ds : List (Key × D)} {k : Key} {v : V} {d : D} (e : kvs.map (·.1) = ds.map (·.1)) : (putK kvs k v).map (·.1) = (putD ds k d).map (·.1) := by
  have any : (kvs.any fun kv => decide (kv.1 = k)) = (ds.any fun kv => decide (kv.1 = k)) := by
    have h1 : (kvs.any fun kv => decide (kv.1 = k)) = (kvs.map (·.1)).any fun x => decide (x = k) := by rw [List.any_map]; rfl
    have h2 : (ds.any fun kv => decide (kv.1 = k)) = (ds.map (·.1)).any fun x => decide (x = k) := by rw [List.any_map]; rfl
    rw [h1, h2, e]
  unfold putK putD
  rw [any]
  split
  · rw [List.map_map, List.map_map]
    have f1 : ((fun x : Key × V => x.1) ∘ fun kv => if kv.1 = k then (kv.1, v) else kv) = fun x => x.1 := by funext x; simp only [Function.comp]; split <;> rfl
    have f2 : ((fun x : Key × D => x.1) ∘ fun kv => if kv.1 = k then (kv.1, d) else kv) = fun x => x.1 := by funext x; simp only [Function.comp]; split <;> rfl
    rw [f1, f2, e]
  · rw [List.map_append, List.map_append, e]
    rfl
theorem map_vals {K : PySem.W.Frag} {O : Addr → Prop} {H : Hp} {k : Key} {v : V} {d : D} (r0 : Rep K O H v d) : ∀ {kvs : List (Key × V)} {ds : List (Key × D)}, kvs.map (·.1) = ds.map (·.1) → Reps K O H (kvs.map (·.2)) (ds.map (·.2)) →
    Reps K O H ((kvs.map fun kv => if kv.1 = k then (kv.1, v) else kv).map (·.2)) ((ds.map fun kv => if kv.1 = k then (kv.1, d) else kv).map (·.2))
  | [], [], _, _ => .nil
  | [], _ :: _, e, _ => by simp at e
  | _ :: _, [], e, _ => by simp at e
  | p :: ps, q :: qs, e, r => by
    simp only [List.map_cons, List.cons.injEq] at e
    rw [List.map_cons, List.map_cons] at r
    cases r with
    | cons r1 r2 =>
      simp only [List.map_cons]
      refine .cons ?_ (map_vals r0 e.2 r2)
      rw [e.1]
      by_cases h : q.1 = k
      · rw [if_pos h, if_pos h]
        exact r0
      · rw [if_neg h, if_neg h]
        exact r1
theorem put_vals {K : PySem.W.Frag} {O : Addr → Prop} {H : Hp} {k : Key} {v : V} {d : D} {kvs : List (Key × V)} {ds : List (Key × D)} (r0 : Rep K O H v d) (e : kvs.map (·.1) = ds.map (·.1)) (r : Reps K O H (kvs.map (·.2)) (ds.map (·.2))) : Reps K O H ((putK kvs k v).map (·.2)) ((putD ds k d).map (·.2)) := by
  have any : (kvs.any fun kv => decide (kv.1 = k)) = (ds.any fun kv => decide (kv.1 = k)) := by
    have h1 : (kvs.any fun kv => decide (kv.1 = k)) = (kvs.map (·.1)).any fun x => decide (x = k) := by rw [List.any_map]; rfl
    have h2 : (ds.any fun kv => decide (kv.1 = k)) = (ds.map (·.1)).any fun x => decide (x = k) := by rw [List.any_map]; rfl
    rw [h1, h2, e]
  unfold putK putD
  rw [any]
  split
  · exact map_vals r0 e r
  · rw [List.map_append, List.map_append]
    exact r.append (.cons r0 .nil)
def mergeD (ds more : List (Key × D)) : List (Key × D) := more.foldl (fun acc kv => putD acc kv.1 kv.2) ds
theorem merge_both {K : PySem.W.Frag} {O : Addr → Prop} {H : Hp} : ∀ {ms : List (Key × V)} {es : List (Key × D)} {kvs : List (Key × V)} {ds : List (Key × D)}, ms.map (·.1) = es.map (·.1) → Reps K O H (ms.map (·.2)) (es.map (·.2)) →
    kvs.map (·.1) = ds.map (·.1) → Reps K O H (kvs.map (·.2)) (ds.map (·.2)) → (mergeK kvs ms).map (·.1) = (mergeD ds es).map (·.1) ∧ Reps K O H ((mergeK kvs ms).map (·.2)) ((mergeD ds es).map (·.2))
  | [], [], _, _, _, _, e, r => ⟨e, r⟩
  | [], _ :: _, _, _, e, _, _, _ => by simp at e
  | _ :: _, [], _, _, e, _, _, _ => by simp at e
  | p :: ps, q :: qs, kvs, ds, e, r, e2, r2 => by
    simp only [List.map_cons, List.cons.injEq] at e
    rw [List.map_cons, List.map_cons] at r
    cases r with
    | cons r1 rr =>
      have z := merge_both e.2 rr (put_keys (k := p.1) (v := p.2) (d := q.2) e2) (put_vals (k := p.1) r1 e2 r2)
      show (mergeK (putK kvs p.1 p.2) ps).map (·.1) = (mergeD (putD ds q.1 q.2) qs).map (·.1) ∧ Reps K O H ((mergeK (putK kvs p.1 p.2) ps).map (·.2)) ((mergeD (putD ds q.1 q.2) qs).map (·.2))
      rw [← e.1]
      exact z
/-- a new dict -/
theorem res_newD {K : PySem.W.Frag} {g : Gh} {F : Fp} {H : Hp} {p : Addr} {kvs : List (Key × V)} {ds : List (Key × D)} (hp : H p = none) (e : kvs.map (·.1) = ds.map (·.1)) (r : Reps K (Av g F) H (kvs.map (·.2)) (ds.map (·.2))) : Res K g F H (upd H p (.dK kvs)) .ow (.ref p) (.dic ds) :=
  ⟨p, rfl, hp, kvs, upd_same, e, (r.more (O' := fun b => Av g F b ∨ b = p) fun b z => z.imp id fun z => by rw [z]; exact hp).same (same_upd hp)⟩
/-- dict(pairs) -/
def pairsOf : List D → Option (List (Key × D))
  | [] => some []
  | d :: r => match d with
    | .tup [k, v] => (keyOf k).bind fun k => (pairsOf r).map fun l => (k, v) :: l
    | _ => none
theorem pairs_rep {K : PySem.W.Frag} {O : Addr → Prop} {H : Hp} : ∀ {vs : List V} {ds : List D} {l : List (Key × D)}, pairsOf ds = some l → Reps K O H vs ds →
    ∃ (ps : List Addr) (kvs : List (Key × V)), vs = ps.map V.ref ∧ Paired (fun p kv => SqT K H p [kV kv.1, kv.2]) ps kvs ∧ kvs.map (·.1) = l.map (·.1) ∧ Reps K O H (kvs.map (·.2)) (l.map (·.2))
  | [], [], l, h, _ => by
    cases h
    exact ⟨[], [], rfl, .nil, rfl, .nil⟩
  | v :: vs, d :: ds, l, h, .cons r rs => by
    unfold pairsOf at h
    split at h
    · rename_i k x
      cases e1 : keyOf k with
      | none => rw [e1] at h; cases h
      | some kk =>
        rw [e1] at h
        simp only [Option.bind_some] at h
        cases e2 : pairsOf ds with
        | none => rw [e2] at h; cases h
        | some l' =>
          rw [e2] at h
          cases h
          obtain ⟨ps, kvs, h1, h2, h3, h4⟩ := pairs_rep e2 rs
          cases r with
          | tup hs r' =>
            cases r' with
            | cons ra rb =>
              cases rb with
              | cons rb rc =>
                cases rc
                have e3 := keyOf_rep e1 ra
                subst e3
                rename_i vb _ _
                exact ⟨_ :: ps, (kk, _) :: kvs, by rw [h1]; rfl, .cons hs h2, by simp [h3], .cons rb h4⟩
    · cases h
def oDict : OFn := fun ds => match ds with
  | [.lst ps] => (pairsOf ps).map fun l => (.dic (mergeD [] l), .ow)
  | _ => none
theorem c_dict (hc : X.calm = true) : CallD X (.type "dict") oDict := by
  refine ⟨_, call_dictP hc, fun g F H vs ds d k Q G r ho q => ?_⟩
  unfold oDict at ho
  split at ho
  · rename_i ps
    cases e : pairsOf ps with
    | none => rw [e] at ho; cases ho
    | some l =>
      rw [e] at ho
      cases ho
      cases r with
      | cons r1 rr =>
        cases rr
        obtain ⟨p1, x1, rfl, h1, s1⟩ := r1.lst
        obtain ⟨as, kvs, h2, h3, h4, h5⟩ := pairs_rep e s1
        subst h2
        refine ⟨_, as, kvs, rfl, .inl h1, h3, fun b hb => ?_⟩
        obtain ⟨z1, z2⟩ := merge_both (kvs := []) (ds := []) h4 h5 rfl .nil
        exact q _ _ (same_upd hb) (res_newD hb z1 z2)
  · cases ho
/-- x[y]: of a list, a tuple, a text, a dict -/
def rIxK : R2 := fun x y H Q => ∃ a kvs k v, x = .ref a ∧ y = kV k ∧ H a = some (.dK kvs) ∧ valV kvs k = some v ∧ Q v H
theorem ix_dic (hu : X.A.units + 64 < cLine) : IxR X rIxK := by
  intro value slice pins s σ H x y v u Q I rx ry h hs
  obtain ⟨a, kvs, k, z, rfl, rfl, e, l, q⟩ := h
  cases rx
  have g : DGet H a (kV k) (some z) := by rw [← l]; exact .k e
  refine tail_any (ops := [.ref a, u]) (dict_typeIs I g) PySem.F.slot_dict_getitem.lookup ?_ hs
  exact d_getItem (by omega) I g ry fun w' s' I' rw' => ⟨z, H, I', rw', q⟩
def oIxA : OF2 := fun x y => match x with
  | .dic ds => (keyOf y).bind fun k => (getD' ds k).map fun d => (d, .sh)
  | _ => oIx x y
theorem fit_ixA : Fit2 X.K (fun x y H Q => rIx X.K x y H Q ∨ rIxK x y H Q) oIxA := by
  intro g F H x y dx dy d k Q G r1 r2 ho q
  unfold oIxA at ho
  split at ho
  · rename_i ds
    cases e1 : keyOf dy with
    | none => rw [e1] at ho; cases ho
    | some kk =>
      rw [e1] at ho
      simp only [Option.bind_some] at ho
      obtain ⟨a, kvs, rfl, h1, h2, h3⟩ := r1.dic
      rcases kvs_get kk h2 h3 with ⟨z, _⟩ | ⟨d', v, z1, z2, z3⟩
      · rw [z] at ho; cases ho
      · rw [z1] at ho
        cases ho
        exact .inr ⟨_, _, kk, _, rfl, keyOf_rd e1 r2, h1, z2, q _ H (Same.refl _) z3⟩
  · exact .inl (fit_ix g F H x y dx dy d k Q G r1 r2 ho q)
theorem de_ixA {a b : Expr} {fa fb : EF} {pos : Pos} (hu : X.A.units + 64 < cLine) (ha : DE X a fa) (hb : DE X b fb) (hs : PlainIx b := by exact fun _ _ => rfl) : DE X (.Subscript a b pos) (fBin oIxA fa fb) := by
  obtain ⟨ta, tb, pa, pb, h⟩ := bin_run fit_ixA ha hb
  exact ⟨_, pe_ix (ix_seq.or (ix_dic hu)) pa pb hs, h⟩
/-- x * y, tuples too -/
def oMulA : OF2 := fun x y => match x, y with
  | .tup a, .int k => if a ≠ [] ∧ 2 ≤ k ∧ k ≤ 1000 ∧ a.length ≤ 1000 then some (.tup (List.replicate k.toNat a).flatten, .sh) else none
  | _, _ => oMul x y
theorem o_mulA : Op2 X (binaryOp .Mult) oMulA := by
  obtain ⟨r0, hr0, hf0⟩ := (o_mul : Op2 X (binaryOp .Mult) oMul)
  refine ⟨_, hr0.or op_repT, fun g F H x y dx dy d k Q G r1 r2 ho q => ?_⟩
  unfold oMulA at ho
  split at ho
  · rename_i a kk
    split at ho
    · rename_i c
      cases ho
      obtain ⟨p1, x1, rfl, h1, s1⟩ := r1.tup
      refine .inr ⟨_, _, _, rfl, r2.int, h1, fun z => c.1 (List.eq_nil_of_length_eq_zero (by rw [← s1.length, z]; rfl)), c.2.1, c.2.2.1, by rw [s1.length]; exact c.2.2.2, fun p hp => ?_⟩
      exact q _ _ (same_upd hp) (rep_newT hp (s1.rep _))
    · cases ho
  · exact .inl (hf0 g F H x y dx dy d k Q G r1 r2 ho q)
end
end DL
/-! D-layer, part s: rules for simp about enumerate, dicts, texts; comprehensions with draws. -/
namespace DL
open PySem PySem.Spec PyProof.Rows L2 LH
section
variable {ρ : Rho} {δ δ' : Dr} {d e : D} {k : Kd} {f fa fb fc : EF} {a b : HF'} {t u : TF} {o : OF2} {r : AF} {i j l : Nat}
def sEnum1 : D × Kd × Dr → Option (List D × Kd × Dr) := fun p => match p.1 with
  | .lst ds => some (enD 0 ds, p.2.1, p.2.2)
  | .tup ds => some (enD 0 ds, .sh, p.2.2)
  | .str z => some (enD 0 (signs z), .sh, p.2.2)
  | _ => none
@[simp] theorem sEnum_e : sEnum f ρ δ = (f ρ δ).bind sEnum1 := id rfl
@[simp] theorem sEnum1_l {ds : List D} : sEnum1 (.lst ds, k, δ) = some (enD 0 ds, k, δ) := id rfl
@[simp] theorem sEnum1_t {ds : List D} : sEnum1 (.tup ds, k, δ) = some (enD 0 ds, .sh, δ) := id rfl
@[simp] theorem sEnum1_s {z : Str} : sEnum1 (.str z, k, δ) = some (enD 0 (signs z), .sh, δ) := id rfl
@[simp] theorem sSeq1_s {z : Str} : sSeq1 (.str z, k, δ) = some (signs z, .sh, δ) := id rfl
def fBack1 : D × Kd × Dr → Option (D × Kd × Dr) := fun p => match p.1 with
  | .lst a => some (.lst a.reverse, .ow, p.2.2)
  | .tup a => some (.tup a.reverse, .sh, p.2.2)
  | _ => none
@[simp] theorem fBack_e : fBack f ρ δ = (f ρ δ).bind fBack1 := id rfl
@[simp] theorem fBack1_l {x : List D} : fBack1 (.lst x, k, δ) = some (.lst x.reverse, .ow, δ) := id rfl
@[simp] theorem fBack1_t {x : List D} : fBack1 (.tup x, k, δ) = some (.tup x.reverse, .sh, δ) := id rfl
def fJoin2 (d : D) : D × Kd × Dr → Option (D × Kd × Dr) := fun q => (joinR d q.1).map fun z => (z, .sh, q.2.2)
def fJoin1 (h : EF) (ρ : Rho) : D × Kd × Dr → Option (D × Kd × Dr) := fun p => (h ρ p.2.2).bind (fJoin2 p.1)
@[simp] theorem fJoin_e : fJoin fa fb ρ δ = (fa ρ δ).bind (fJoin1 fb ρ) := id rfl
@[simp] theorem fJoin1_e : fJoin1 fb ρ (d, k, δ) = (fb ρ δ).bind (fJoin2 d) := id rfl
@[simp] theorem fJoin2_e : fJoin2 d (e, k, δ) = (joinR d e).map fun z => (z, .sh, δ) := id rfl
theorem joinR_l {x : Str} {y : List D} : joinR (.str x) (.lst y) = (strsOf y).bind fun ys => if (ys.map (·.length)).sum + ys.length * x.length ≤ 16777216 then some (.str (Txt.join x ys)) else none := id rfl
@[simp] theorem strsOf_map (x : List Str) : strsOf (x.map D.str) = some x := by
  induction x with
  | nil => rfl
  | cons a x ih => rw [List.map_cons, strsOf, ih]; rfl
@[simp] theorem oOrd_s {z : Str} : oOrd [.str z] = if z.length = 1 then some (.int (z.cps.getD 0 0 : Nat), .sh) else none := id rfl
theorem oOrd_1 (c : Nat) : oOrd [.str ⟨#[c]⟩] = some (.int (c : Nat), .sh) := id rfl
@[simp] theorem oSumA_l {x : List D} : oSumA [.lst x] = (intsOf x).map fun l => (.int l.sum, .sh) := id rfl
@[simp] theorem oSumA_t {x : List D} : oSumA [.tup x] = (intsOf x).map fun l => (.int l.sum, .sh) := id rfl
@[simp] theorem oDict_l {x : List D} : oDict [.lst x] = (pairsOf x).map fun l => (.dic (mergeD [] l), .ow) := id rfl
@[simp] theorem oIxA_d {ds : List (Key × D)} : oIxA (.dic ds) d = (keyOf d).bind fun k => (getD' ds k).map fun d => (d, .sh) := id rfl
@[simp] theorem keyOf_s {z : Str} : keyOf (.str z) = some (.inr z) := id rfl
@[simp] theorem keyOf_i {z : Int} : keyOf (.int z) = some (.inl z) := id rfl
@[simp] theorem oMulA_i {x y : Int} : oMulA (.int x) (.int y) = if cMul x y then some (.int (x * y), .sh) else none := id rfl
@[simp] theorem oMulA_t {x : List D} {y : Int} : oMulA (.tup x) (.int y) = if x ≠ [] ∧ 2 ≤ y ∧ y ≤ 1000 ∧ x.length ≤ 1000 then some (.tup (List.replicate y.toNat x).flatten, .sh) else none := id rfl
@[simp] theorem oAddI_i {x y : Int} : oAddI (.int x) (.int y) = some (.int (x + y), .sh) := id rfl
theorem oLen_s {z : Str} : oLen [.str z] = if z.length ≤ sizeLine then some (.int z.length, .sh) else none := id rfl
theorem oIx_s {z : Str} {y : Int} : oIx (.str z) (.int y) = if z.length ≤ sizeLine then (atI z.cps.toList y).map fun c => (.str ⟨#[c]⟩, .sh) else none := id rfl
def hAug2 (i : Nat) (o : OF2) (d : D) (ρ : Rho) : D × Kd × Dr → Option (Ou × Rho × Dr) := fun p => (o d p.1).bind fun r => (sv r.1 r.2).map fun s => (.nx, ρ.set i s, p.2.2)
def hAug1 (i : Nat) (o : OF2) (f : EF) (ρ : Rho) (δ : Dr) : Option SV → Option (Ou × Rho × Dr)
  | some (.sh d) => (f ρ δ).bind (hAug2 i o d ρ)
  | _ => none
@[simp] theorem hAug_e : hAug i o f ρ δ = hAug1 i o f ρ δ ρ[i]? := by unfold hAug hAug1; cases ρ[i]? with | none => rfl | some s => cases s <;> rfl
@[simp] theorem hAug1_e : hAug1 i o f ρ δ (some (.sh d)) = (f ρ δ).bind (hAug2 i o d ρ) := id rfl
@[simp] theorem hAug2_e : hAug2 i o d ρ (e, k, δ) = (o d e).bind fun r => (sv r.1 r.2).map fun s => (.nx, ρ.set i s, δ) := id rfl
/-! ### comprehensions with draws -/
theorem lcD_draw {b : BF} {f : EF} {Z : Dr → Prop} {Pd : D → Prop} : ∀ {ds : List D} {ρ : Rho} {δ : Dr}, (∀ x ∈ ds, ∀ δ, Z δ → ∃ ρ1 d k δ', b x ρ = some ρ1 ∧ f ρ1 δ = some (d, k, δ') ∧ k ≠ .br ∧ Pd d ∧ Z δ') → Z δ →
    ∃ es δ', lcD b fYes f ρ ds δ = some (es, δ') ∧ es.length = ds.length ∧ (∀ e ∈ es, Pd e) ∧ Z δ'
  | [], _, δ, _, z => ⟨[], δ, rfl, rfl, (fun e he => absurd he (by simp)), z⟩
  | x :: xs, ρ, δ, h, z => by
    obtain ⟨ρ1, d, k, δ1, e1, e2, e3, p, z1⟩ := h x (by simp) δ z
    obtain ⟨es, δ2, e4, e5, e6, z2⟩ := lcD_draw (b := b) (f := f) (Z := Z) (Pd := Pd) (ds := xs) (ρ := ρ) (δ := δ1) (fun y hy => h y (List.mem_cons_of_mem _ hy)) z1
    refine ⟨d :: es, δ2, ?_, by simp [e5], fun e he => ?_, z2⟩
    · rw [lcD, e1]
      simp only [Option.bind_some, fYes_e, if_true]
      rw [e2]
      simp only [Option.bind_some]
      rw [if_neg e3, e4]
      rfl
    · rcases List.mem_cons.mp he with rfl | he
      · exact p
      · exact e6 e he
/-- a sign of a text -/
theorem of_okS {δ : Dr} {z : Str} (v : VD δ) (hn : 0 < z.length) (hl : z.length ≤ sizeLine) : ∃ c δ', g__law_of [.str z] δ = some (.str ⟨#[c]⟩, .sh, δ') ∧ c ∈ z.cps.toList ∧ VD δ' := by
  have hl2 : z.length < 2 ^ 64 := Nat.lt_of_le_of_lt hl (by decide)
  obtain ⟨r, δ', e, r0, r1, v'⟩ := any_ok (b := (z.length : Int)) v (by omega) (Nat.lt_of_lt_of_le (show (z.length : Int).natAbs < 2 ^ 64 by simpa using hl2) (Nat.pow_le_pow_right (by decide) (by decide)))
  have hlen : z.cps.toList.length = z.length := by rw [Array.length_toList]; rfl
  have hr : r.toNat < z.cps.toList.length := by omega
  refine ⟨z.cps.toList[r.toNat], δ', ?_, List.getElem_mem hr, v'⟩
  have hx : atI z.cps.toList r = some z.cps.toList[r.toNat] := by
    unfold atI ixN
    rw [if_pos r0, if_pos (by omega)]
    simp [List.getElem?_eq_getElem hr]
  simp [g__law_of, h__law_of, oLen_s, oIx_s, hl, e, hx]
end
end DL
/-! D-layer, part t: a law's statements one behind the other: what is gathered in pairs (slot 2) stays good. -/
namespace LT
open PySem PySem.Spec PyProof.Rows L2 DL LH
def Wp {α : Type} (x : Option α) (Q : α → Prop) : Prop := ∃ a, x = some a ∧ Q a
section
variable {ρ ρ' : Rho} {δ δ' : Dr} {d e : D} {k : Kd} {f g : EF} {a b : HF'} {t : TF} {i j m n : Nat} {Q R : Ou × Rho × Dr → Prop} {u v : SV} {r : Rho} {ps ds : List D}
theorem Wp.mono {α : Type} {x : Option α} {Q R : α → Prop} (w : Wp x Q) (h : ∀ a, Q a → R a) : Wp x R := by
  obtain ⟨a, e, q⟩ := w
  exact ⟨a, e, h a q⟩
theorem wp_of {α : Type} {x : Option α} {Q : α → Prop} {a : α} (e : x = some a) (q : Q a) : Wp x Q := ⟨a, e, q⟩
theorem wp_nx (e : a ρ δ = some (.nx, ρ', δ')) (k : Wp (b ρ' δ') Q) : Wp (hSeq a b ρ δ) Q := by
  obtain ⟨z, e2, q⟩ := k
  exact ⟨z, by rw [hSeq_e, e]; exact e2, q⟩
theorem wp_seq (w : Wp (a ρ δ) fun z => Wp (hSeq1 b z) Q) : Wp (hSeq a b ρ δ) Q := by
  obtain ⟨z, e, z2, e2, q⟩ := w
  exact ⟨z2, by rw [hSeq_e, e]; exact e2, q⟩
theorem wp_ret (e : f ρ δ = some (d, .sh, δ')) (q : Q (.rt d .sh, ρ, δ')) : Wp (hRet f ρ δ) Q := ⟨_, by rw [hRet_e, e]; rfl, q⟩
theorem says_of {h : HF'} (w : Wp (h ρ δ) fun z => z.1 = .rt (.bl true) .sh) : ∃ ρ' δ', h ρ δ = some (.rt (.bl true) .sh, ρ', δ') := by
  obtain ⟨⟨o, ρ', δ'⟩, e, rfl⟩ := w
  exact ⟨ρ', δ', e⟩
/-- pairs are good, and there are at most n of them -/
structure PG (ps : List D) (n : Nat) : Prop where
  g : ∀ t ∈ ps, Goo t
  n : ps.length ≤ n
theorem PG.nil : PG [] 0 := ⟨(fun t h => by cases h), Nat.le_refl _⟩
theorem PG.app (h : PG ps n) (hd : ∀ t ∈ ds, Goo t) (hl : ds.length ≤ m) : PG (ps ++ ds) (n + m) := ⟨fun t ht => (List.mem_append.mp ht).elim (h.g t) (hd t), by rw [List.length_append]; have := h.n; omega⟩
theorem PG.mono (h : PG ps n) (hm : n ≤ m) : PG ps m := ⟨h.g, Nat.le_trans h.n hm⟩
/-- a statement that gathers pairs -/
theorem wp_pairs (hg : PG ps n) (e : a (u :: v :: .ow (.lst ps) :: r) δ = some (.nx, u :: v :: .ow (.lst (ps ++ ds)) :: r, δ)) (hd : ∀ t ∈ ds, Goo t) (hl : ds.length ≤ m) (hm : n + m ≤ 100000)
    (k : ∀ qs, PG qs (n + m) → qs.length ≤ 100000 → Wp (b (u :: v :: .ow (.lst qs) :: r) δ) Q) : Wp (hSeq a b (u :: v :: .ow (.lst ps) :: r) δ) Q :=
  wp_nx e (k _ (hg.app hd hl) (Nat.le_trans (hg.app hd hl).n hm))
theorem goos_nil : ∀ t ∈ ([] : List D), Goo t := fun t h => by cases h
theorem goos_cons {t : D} {ts : List D} (h : Goo t) (hs : ∀ t ∈ ts, Goo t) : ∀ x ∈ t :: ts, Goo x := fun x hx => by
  rcases List.mem_cons.mp hx with rfl | hx
  · exact h
  · exact hs x hx
theorem goo_int (i : Int) : Goo (.tup [.int i, .int i]) := ⟨_, rfl, rfl, by simp [nodes]⟩
theorem goo_non : Goo (.tup [.non, .non]) := ⟨_, rfl, rfl, by simp [nodes]⟩
theorem goo_bl (i : Bool) : Goo (.tup [.bl i, .bl i]) := ⟨_, rfl, rfl, by simp [nodes]⟩
theorem goo_str (i : Str) : Goo (.tup [.str i, .str i]) := ⟨_, rfl, rfl, by simp [nodes]⟩
/-! ### sizes by what is known -/
theorem z_line {n : Nat} (h : n ≤ 1000000) : n ≤ sizeLine := Nat.le_trans h (by decide)
theorem oAdd_lz {x y : List D} (hx : x.length ≤ 100000) (hy : y.length ≤ 1000) : oAdd (.lst x) (.lst y) = some (.lst (x ++ y), .ow) := by
  rw [oAdd_l, if_pos (z_line (by omega))]
theorem hApp2_z {xs : List D} (hx : xs.length ≤ 100000) : hApp2 i xs ρ (d, .sh, δ) = some (.nx, ρ.set i (.ow (.lst (xs ++ [d]))), δ) := by
  rw [hApp2_sh, if_pos (Nat.lt_of_le_of_lt hx (by decide))]
theorem fTup1_z {ds : List D} (h : ds.length ≤ 1000) : fTup1 (ds, δ) = some (.tup ds, .sh, δ) := by rw [fTup1_e, if_pos h]
theorem fLst1_z {ds : List D} (h : ds.length ≤ 1000) : fLst1 (ds, δ) = some (.lst ds, .ow, δ) := by rw [fLst1_e, if_pos h]
/-! ### cuts -/
theorem cutD_lo (xs : List D) {i : Nat} (h : i ≤ xs.length) : DL.cutD xs none (some (i : Int)) = xs.take i := by
  unfold DL.cutD sI
  have e0 : HT.sIx xs.length 0 none = 0 := rfl
  rw [HT.sIx_nat, e0, Nat.min_eq_left h, Nat.sub_zero, List.drop_zero]
theorem cutD_hi (xs : List D) {i : Nat} (h : i ≤ xs.length) : DL.cutD xs (some (i : Int)) none = xs.drop i := by
  unfold DL.cutD sI
  have e0 : HT.sIx xs.length xs.length none = xs.length := rfl
  rw [HT.sIx_nat, e0, Nat.min_eq_left h, List.take_of_length_le (by simp)]
/-! ### by keywords the same -/
theorem vPerm1_id : vPerm [0] 0 1 vNil (vCons f vNil) = vCons f vNil := by
  funext ρ δ
  rw [vPerm_e, vNil_e]
  simp only [Option.bind_some, vPerm1_e, vCons_e]
  cases e : f ρ δ with
  | none => rfl
  | some p =>
    obtain ⟨d, k, δ'⟩ := p
    simp only [Option.bind_some, vCons1_e, vNil_e, Option.map_some]
    rfl
theorem fIf_same : fIf t f f ρ δ = (t ρ δ).bind fun p => f ρ p.2 := by
  rw [fIf_e]
  cases e : t ρ δ with
  | none => rfl
  | some p =>
    obtain ⟨b, δ'⟩ := p
    cases b <;> rfl
end
end LT
namespace W35
open PySem PySem.Spec PyProof.Rows L2 DL
/-! ### the text -/
def topS (i : Nat) : Stmt := PySem.Challenge.pw_eachtongue_k35_whole_sums_of_octets_join.main.body.getD i (.Pass ⟨0, 0, 0, 0⟩)
abbrev s_octets_of_number : Stmt := topS 7
theorem sc_octets_of_number : FnScope ["number", "found", "rest"] ["number"] (defScope s_octets_of_number) := ⟨rfl, rfl, rfl, by decide +kernel, rfl, by decide +kernel, by decide +kernel⟩
abbrev s_octets_of_text : Stmt := topS 8
theorem sc_octets_of_text : FnScope ["text", "sign"] ["text"] (defScope s_octets_of_text) := ⟨rfl, rfl, rfl, by decide +kernel, rfl, by decide +kernel, by decide +kernel⟩
abbrev s_number_of : Stmt := topS 9
theorem sc_number_of : FnScope ["figures", "row", "base", "pairs", "at"] ["figures"] (defScope s_number_of) := ⟨rfl, rfl, rfl, by decide +kernel, rfl, by decide +kernel, by decide +kernel⟩
abbrev s_behind_number : Stmt := topS 10
theorem sc_behind_number : FnScope ["octets", "at", "place"] ["octets", "at"] (defScope s_behind_number) := ⟨rfl, rfl, rfl, by decide +kernel, rfl, by decide +kernel, by decide +kernel⟩
abbrev s_number_in : Stmt := topS 11
theorem sc_number_in : FnScope ["octets", "at", "end", "figures", "octet"] ["octets", "at"] (defScope s_number_in) := ⟨rfl, rfl, rfl, by decide +kernel, rfl, by decide +kernel, by decide +kernel⟩
abbrev s_sign_of : Stmt := topS 12
theorem sc_sign_of : FnScope ["octet"] ["octet"] (defScope s_sign_of) := ⟨rfl, rfl, rfl, by decide +kernel, rfl, by decide +kernel, by decide +kernel⟩
abbrev s_text_in : Stmt := topS 13
theorem sc_text_in : FnScope ["octets", "at", "told", "end", "signs", "octet"] ["octets", "at"] (defScope s_text_in) := ⟨rfl, rfl, rfl, by decide +kernel, rfl, by decide +kernel, by decide +kernel⟩
abbrev s_text_octets : Stmt := topS 14
theorem sc_text_octets : FnScope ["text"] ["text"] (defScope s_text_octets) := ⟨rfl, rfl, rfl, by decide +kernel, rfl, by decide +kernel, by decide +kernel⟩
abbrev s_read_text : Stmt := topS 15
theorem sc_read_text : FnScope ["octets", "at"] ["octets", "at"] (defScope s_read_text) := ⟨rfl, rfl, rfl, by decide +kernel, rfl, by decide +kernel, by decide +kernel⟩
abbrev s_sum_of_octets : Stmt := topS 16
theorem sc_sum_of_octets : FnScope ["octets", "found", "at", "octet"] ["octets"] (defScope s_sum_of_octets) := ⟨rfl, rfl, rfl, by decide +kernel, rfl, by decide +kernel, by decide +kernel⟩
abbrev s__law_deal : Stmt := topS 18
theorem sc__law_deal : FnScope ["script", "salt", "most", "cells", "mix", "cell"] ["script", "salt"] (defScope s__law_deal) := ⟨rfl, rfl, rfl, by decide +kernel, rfl, by decide +kernel, by decide +kernel⟩
abbrev s__law_any : Stmt := topS 19
theorem sc__law_any : FnScope ["deal", "bound", "rest"] ["deal", "bound"] (defScope s__law_any) := ⟨rfl, rfl, rfl, by decide +kernel, rfl, by decide +kernel, by decide +kernel⟩
abbrev s__law_of : Stmt := topS 20
theorem sc__law_of : FnScope ["deal", "some"] ["deal", "some"] (defScope s__law_of) := ⟨rfl, rfl, rfl, by decide +kernel, rfl, by decide +kernel, by decide +kernel⟩
abbrev s__law_is_kind : Stmt := topS 21
theorem sc__law_is_kind : FnScope ["told", "due"] ["told", "due"] (defScope s__law_is_kind) := ⟨rfl, rfl, rfl, by decide +kernel, rfl, by decide +kernel, by decide +kernel⟩
abbrev s__law_same : Stmt := topS 22
theorem sc__law_same : FnScope ["told", "due", "todo", "one", "other"] ["told", "due"] (defScope s__law_same) := ⟨rfl, rfl, rfl, by decide +kernel, rfl, by decide +kernel, by decide +kernel⟩
abbrev s__law_all : Stmt := topS 23
theorem sc__law_all : FnScope ["pairs", "told", "due"] ["pairs"] (defScope s__law_all) := ⟨rfl, rfl, rfl, by decide +kernel, rfl, by decide +kernel, by decide +kernel⟩
abbrev s__law_tuple : Stmt := topS 24
theorem sc__law_tuple : FnScope ["told"] ["told"] (defScope s__law_tuple) := ⟨rfl, rfl, rfl, by decide +kernel, rfl, by decide +kernel, by decide +kernel⟩
abbrev s__law_whole : Stmt := topS 25
theorem sc__law_whole : FnScope ["told"] ["told"] (defScope s__law_whole) := ⟨rfl, rfl, rfl, by decide +kernel, rfl, by decide +kernel, by decide +kernel⟩
abbrev s__law_figures : Stmt := topS 26
theorem sc__law_figures : FnScope ["number", "found", "left"] ["number"] (defScope s__law_figures) := ⟨rfl, rfl, rfl, by decide +kernel, rfl, by decide +kernel, by decide +kernel⟩
abbrev s__law_text_octets : Stmt := topS 27
theorem sc__law_text_octets : FnScope ["text", "signs", "codes", "at", "sign"] ["text"] (defScope s__law_text_octets) := ⟨rfl, rfl, rfl, by decide +kernel, rfl, by decide +kernel, by decide +kernel⟩
abbrev s__law_sum_of : Stmt := topS 28
theorem sc__law_sum_of : FnScope ["octets", "at", "octet"] ["octets"] (defScope s__law_sum_of) := ⟨rfl, rfl, rfl, by decide +kernel, rfl, by decide +kernel, by decide +kernel⟩
abbrev s__law_octet_row : Stmt := topS 29
theorem sc__law_octet_row : FnScope ["deal", "turn"] ["deal"] (defScope s__law_octet_row) := ⟨rfl, rfl, rfl, by decide +kernel, rfl, by decide +kernel, by decide +kernel⟩
abbrev s__law_text : Stmt := topS 30
theorem sc__law_text : FnScope ["deal", "signs", "turn"] ["deal"] (defScope s__law_text) := ⟨rfl, rfl, rfl, by decide +kernel, rfl, by decide +kernel, by decide +kernel⟩
abbrev s_law : Stmt := topS 31
theorem sc_law : FnScope ["script", "deal", "pairs", "turn", "one", "other", "mine", "theirs", "again", "at", "octet", "text", "late", "octets", "more", "row", "odd"] ["script"] (defScope s_law) := ⟨rfl, rfl, rfl, by decide +kernel, rfl, by decide +kernel, by decide +kernel⟩
theorem kw_sum_of_octets_0_0 : KwB "sum_of_octets" "sum_of_octets" s_sum_of_octets ["octets"] ["octets"] 0 [0] := fun _ _ _ _ _ _ us ws h1 h2 => match us, ws, h1, h2 with | [], [_], _, _ => rfl
theorem kw_text_octets_0_0 : KwB "text_octets" "text_octets" s_text_octets ["text"] ["text"] 0 [0] := fun _ _ _ _ _ _ us ws h1 h2 => match us, ws, h1, h2 with | [], [_], _, _ => rfl
theorem kw_read_text_1_0_0 : KwB "read_text" "read_text" s_read_text ["octets", "at"] ["at", "octets"] 0 [1, 0] := fun _ _ _ _ _ _ us ws h1 h2 => match us, ws, h1, h2 with | [], [_, _], _, _ => rfl
/-! ### what the defs mean -/
noncomputable section
def wt_octets_of_number_1 : TF := (asB (fBin oGe (fVar 2) (fC (.int 128))))
def wb_octets_of_number_1 : HF' := (hSeq (hApp 1 (fBin oAdd (fC (.int 128)) (fBin oMod (fVar 2) (fC (.int 128)))))
  (hSet 2 (fBin oDiv (fVar 2) (fC (.int 128)))))
def h_octets_of_number : HF' := (hSeq (hSet 1 (fLst aNil))
  (hSeq (hMove 2 0)
  (hSeq (hWhile wt_octets_of_number_1 wb_octets_of_number_1)
  (hSeq (hApp 1 (fVar 2))
  (hRet (fCall oTuple (rCons (fVar 1) rNil)))))))
def g_octets_of_number := fnP 1 2 h_octets_of_number
def ce_octets_of_text_1 : EF := (fCall oOrd (rCons (fVar 1) rNil))
def h_octets_of_text : HF' := (hRet (fBin oAdd (fCallP g_octets_of_number (vCons (fCall oLen (rCons (fVar 0) rNil)) vNil)) (fCall oTuple (rCons (fLc (sSeq (fVar 0)) (bName 1) fYes ce_octets_of_text_1 [1]) rNil))))
def g_octets_of_text := fnP 1 1 h_octets_of_text
def ce_number_of_1 : EF := (fBin oAdd (fBin oIx (fVar 1) (fVar 4)) (fBin oMul (fVar 2) (fBin oIx (fVar 1) (fBin oAdd (fVar 4) (fC (.int 1))))))
def wt_number_of_1 : TF := (asB (fBin oGt (fCall oLen (rCons (fVar 1) rNil)) (fC (.int 1))))
def wb_number_of_1 : HF' := (hSeq (hSet 3 (fLc (sRng3 (rCons (fC (.int 0)) (rCons (fBin oSub (fCall oLen (rCons (fVar 1) rNil)) (fC (.int 1))) (rCons (fC (.int 2)) rNil)))) (bName 4) fYes ce_number_of_1 [4]))
  (hSeq (hIf (asB (fBin oEq (fBin oMod (fCall oLen (rCons (fVar 1) rNil)) (fC (.int 2))) (fC (.int 1)))) (hApp 3 (fBin oIx (fVar 1) (fBin oSub (fCall oLen (rCons (fVar 1) rNil)) (fC (.int 1))))) hNil)
  (hSeq (hMove 1 3)
  (hSet 2 (fBin oMul (fVar 2) (fVar 2))))))
def h_number_of : HF' := (hSeq (hAsg (bTup (bCons (bName 1) (bCons (bName 2) bNil))) (fTup (aCons (fCall oList (rCons (fVar 0) rNil)) (aCons (fC (.int 128)) aNil))))
  (hSeq (hWhile wt_number_of_1 wb_number_of_1)
  (hRet (fBin oIx (fVar 1) (fC (.int 0))))))
def g_number_of := fnP 1 4 h_number_of
def fb_behind_number_1 : HF' := (hIf (asB (fBin oLt (fBin oIx (fVar 0) (fVar 2)) (fC (.int 128)))) (hRet (fBin oAdd (fVar 2) (fC (.int 1)))) hNil)
def h_behind_number : HF' := (hSeq (hIf (asB (fBin oLt (fVar 1) (fC (.int 0)))) (hRet (fC .non)) hNil)
  (hSeq (hFor (sRng2 (rCons (fVar 1) (rCons (fCall oLen (rCons (fVar 0) rNil)) rNil))) (bName 2) fb_behind_number_1)
  (hRet (fC .non))))
def g_behind_number := fnP 2 1 h_behind_number
def ce_number_in_1 : EF := (fBin oSub (fVar 4) (fC (.int 128)))
def h_number_in : HF' := (hSeq (hSet 2 (fCallP g_behind_number (vCons (fVar 0) (vCons (fVar 1) vNil))))
  (hSeq (hIf (fOr (asB (fBin oIs (fVar 2) (fC .non))) (fAnd (asB (fBin oGt (fBin oSub (fVar 2) (fVar 1)) (fC (.int 1)))) (asB (fBin oEq (fBin oIx (fVar 0) (fBin oSub (fVar 2) (fC (.int 1)))) (fC (.int 0)))))) (hRet (fC .non)) hNil)
  (hSeq (hSet 3 (fBin oAdd (fLc (sSeq (fCut (fVar 0) (bOf (fVar 1)) (bOf (fBin oSub (fVar 2) (fC (.int 1)))))) (bName 4) fYes ce_number_in_1 [4]) (fLst (aCons (fBin oIx (fVar 0) (fBin oSub (fVar 2) (fC (.int 1)))) aNil))))
  (hRet (fTup (aCons (fCallP g_number_of (vCons (fVar 3) vNil)) (aCons (fVar 2) aNil)))))))
def g_number_in := fnP 2 3 h_number_in
def h_sign_of : HF' := (hSeq (hIf (asB (fBin oEq (fVar 0) (fC (.int 10)))) (hRet (fC (.str "\x0a"))) hNil)
  (hSeq (hIf (fOr (asB (fBin oLt (fVar 0) (fC (.int 32)))) (fOr (asB (fBin oGe (fVar 0) (fBin oAdd (fC (.int 32)) (fCall oLen (rCons (fC (.str " !\"#$\x0a&'()*+,-./0123456789:;<=>?@ABCDEFGHIJKLMNOPQRSTUVWXYZ[\\]^_`abcdefghijklmnopqrstuvwxyz{|}~")) rNil))))) (asB (fBin oEq (fVar 0) (fC (.int 37)))))) (hRet (fC .non)) hNil)
  (hRet (fBin oIx (fC (.str " !\"#$\x0a&'()*+,-./0123456789:;<=>?@ABCDEFGHIJKLMNOPQRSTUVWXYZ[\\]^_`abcdefghijklmnopqrstuvwxyz{|}~")) (fBin oSub (fVar 0) (fC (.int 32)))))))
def g_sign_of := fnP 1 0 h_sign_of
def ce_text_in_1 : EF := (fCallP g_sign_of (vCons (fVar 5) vNil))
def h_text_in : HF' := (hSeq (hSet 2 (fCallP g_number_in (vCons (fVar 0) (vCons (fVar 1) vNil))))
  (hSeq (hIf (fOr (asB (fBin oIs (fVar 2) (fC .non))) (asB (fBin oGt (fBin oIx (fVar 2) (fC (.int 0))) (fBin oSub (fCall oLen (rCons (fVar 0) rNil)) (fBin oIx (fVar 2) (fC (.int 1))))))) (hRet (fC .non)) hNil)
  (hSeq (hSet 3 (fBin oAdd (fBin oIx (fVar 2) (fC (.int 0))) (fBin oIx (fVar 2) (fC (.int 1)))))
  (hSeq (hSet 4 (fLc (sSeq (fCut (fVar 0) (bOf (fBin oIx (fVar 2) (fC (.int 1)))) (bOf (fVar 3)))) (bName 5) fYes ce_text_in_1 [5]))
  (hSeq (hIf (asB (fBin oIn (fC .non) (fVar 4))) (hRet (fC .non)) hNil)
  (hRet (fTup (aCons (fJoin (fC (.str "")) (fVar 4)) (aCons (fVar 3) aNil)))))))))
def g_text_in := fnP 2 4 h_text_in
def h_text_octets : HF' := (hRet (fCallP g_octets_of_text (vCons (fVar 0) vNil)))
def g_text_octets := fnP 1 0 h_text_octets
def h_read_text : HF' := (hRet (fCallP g_text_in (vCons (fCall oTuple (rCons (fVar 0) rNil)) (vCons (fVar 1) vNil))))
def g_read_text := fnP 2 0 h_read_text
def fb_sum_of_octets_1 : HF' := (hAug 1 oAddI (fBin oMul (fBin oAdd (fVar 2) (fC (.int 1))) (fVar 3)))
def h_sum_of_octets : HF' := (hSeq (hSet 1 (fC (.int 0)))
  (hSeq (hFor (sEnum (fVar 0)) (bTup (bCons (bName 2) (bCons (bName 3) bNil))) fb_sum_of_octets_1)
  (hRet (fBin oMod (fVar 1) (fC (.int 65521))))))
def g_sum_of_octets := fnP 1 3 h_sum_of_octets
def ce__law_deal_1 : EF := (fBin oMod (fCall oInt (rCons (fCall oAbs (rCons (fCall oInt (rCons (fVar 5) rNil)) rNil)) rNil)) (fVar 2))
def fb__law_deal_1 : HF' := (hSet 4 (fBin oMod (fCall oInt (rCons (fBin oAdd (fBin oAdd (fBin oMul (fVar 4) (fC (.int 69621))) (fBin oMod (fCall oInt (rCons (fVar 5) rNil)) (fC (.int 2147483563)))) (fC (.int 23))) rNil)) (fC (.int 2147483647))))
def ct__law_deal_1 : TF := (asB (fBin oGe (fVar 5) (fBin oPow (fC (.int 10)) (fC (.int 18)))))
def h__law_deal : HF' := (hSeq (hSet 2 (fBin oMul (fBin oMul (fBin oMul (fBin oMul (fBin oMul (fBin oPow (fC (.int 10)) (fC (.int 64))) (fBin oPow (fC (.int 10)) (fC (.int 64)))) (fBin oPow (fC (.int 10)) (fC (.int 64)))) (fBin oPow (fC (.int 10)) (fC (.int 64)))) (fBin oPow (fC (.int 10)) (fC (.int 64)))) (fBin oPow (fC (.int 10)) (fC (.int 64)))))
  (hSeq (hPar 3 4 (fLc (sSeq (fCut (fVar 0) bNo (bOf (fC (.int 63))))) (bName 5) fYes ce__law_deal_1 [5]) (fBin oAdd (fC (.int 70001)) (fBin oMul (fC (.int 7919)) (fVar 1))))
  (hSeq (hForV 3 (bName 5) fb__law_deal_1)
  (hRet (fLst (aCons (fRev (fLc (sSeq (fVar 3)) (bName 5) ct__law_deal_1 (fVar 5) [5])) (aCons (fVar 4) aNil)))))))
def g__law_deal := fnP 2 4 h__law_deal
def wt__law_any_1 : TF := (fAnd (asB (fBin oGt (fDLen 0) (fC (.int 0)))) (asB (fBin oEq (fDLast 0) (fC (.int 0)))))
def wb__law_any_1 : HF' := (hExpr (fDPop 0))
def h__law_any : HF' := (hSeq (hWhile wt__law_any_1 wb__law_any_1)
  (hSeq (hIf (asB (fBin oGt (fDLen 0) (fC (.int 0)))) (hSeq (hSet 2 (fCall oInt (rCons (fDPop 0) rNil)))
  (hSeq (hDApp 0 (fBin oDiv (fVar 2) (fVar 1)))
  (hRet (fBin oMod (fVar 2) (fVar 1))))) hNil)
  (hSeq (hDSet1 0 (fBin oMod (fCall oInt (rCons (fBin oAdd (fBin oMul (fD1 0) (fC (.int 48271))) (fC (.int 31))) rNil)) (fC (.int 2147483647))))
  (hRet (fBin oMod (fCall oInt (rCons (fBin oDiv (fD1 0) (fC (.int 64))) rNil)) (fVar 1))))))
def g__law_any := fnW 1 1 h__law_any
def h__law_of : HF' := (hRet (fBin oIx (fVar 1) (fCallW 0 g__law_any (vCons (fCall oLen (rCons (fVar 1) rNil)) vNil))))
def g__law_of := fnW 1 0 h__law_of
def h__law_is_kind : HF' := (hSeq (hIf (asB (fBin oIs (fVar 1) (fC .non))) (hRet (fBin oIs (fVar 0) (fC .non))) hNil)
  (hSeq (hIf (fOr (asB (fBin oIs (fVar 1) (fC (.bl true)))) (asB (fBin oIs (fVar 1) (fC (.bl false))))) (hRet (fIf (asB (fVar 1)) (fBin oIs (fVar 0) (fC (.bl true))) (fBin oIs (fVar 0) (fC (.bl false))))) hNil)
  (hSeq (hIf (asB (fCall oIsa (rCons (fVar 1) (rCons (fC (.ty "str")) rNil)))) (hRet (fAndV (asB (fCall oIsa (rCons (fVar 0) (rCons (fC (.ty "str")) rNil)))) (fBin oEq (fVar 0) (fVar 1)))) hNil)
  (hRet (fAndV (asB (fCall oIsa (rCons (fVar 0) (rCons (fC (.ty "int")) rNil)))) (fAndV (asB (ofT (fNot (asB (fCall oIsa (rCons (fVar 0) (rCons (fC (.ty "bool")) rNil))))))) (fBin oEq (fVar 0) (fVar 1))))))))
def g__law_is_kind := fnP 2 0 h__law_is_kind
def wt__law_same_1 : TF := (asB (fBin oGt (fCall oLen (rCons (fVar 2) rNil)) (fC (.int 0))))
def wb__law_same_1 : HF' := (hSeq (hPopTo (bTup (bCons (bName 3) (bCons (bName 4) bNil))) 2)
  (hIf (asB (fCall oIsa (rCons (fVar 4) (rCons (fC (.ty "tuple")) rNil)))) (hSeq (hIf (fOr (fNot (asB (fCall oIsa (rCons (fVar 3) (rCons (fC (.ty "tuple")) rNil))))) (asB (fBin oNe (fCall oLen (rCons (fVar 3) rNil)) (fCall oLen (rCons (fVar 4) rNil))))) (hRet (fC (.bl false))) hNil)
  (hSet 2 (fBin oAdd (fVar 2) (fLZip (rCons (fVar 3) (rCons (fVar 4) rNil)))))) (hIf (fOr (asB (fIsaT (fVar 3) ["tuple", "list", "dict"])) (fNot (asB (fCallP g__law_is_kind (vCons (fVar 3) (vCons (fVar 4) vNil)))))) (hRet (fC (.bl false))) hNil)))
def h__law_same : HF' := (hSeq (hSet 2 (fLst (aCons (fTup (aCons (fVar 0) (aCons (fVar 1) aNil))) aNil)))
  (hSeq (hWhile wt__law_same_1 wb__law_same_1)
  (hRet (fC (.bl true)))))
def g__law_same := fnP 2 3 h__law_same
def ct__law_all_1 : TF := (fNot (asB (fCallP g__law_same (vCons (fVar 1) (vCons (fVar 2) vNil)))))
def h__law_all : HF' := (hRet (fBin oEq (fCall oLen (rCons (fLc (sSeq (fVar 0)) (bTup (bCons (bName 1) (bCons (bName 2) bNil))) ct__law_all_1 (fVar 1) [1, 2]) rNil)) (fC (.int 0))))
def g__law_all := fnP 1 2 h__law_all
def h__law_tuple : HF' := (hRet (fIf (asB (fCall oIsa (rCons (fVar 0) (rCons (fC (.ty "tuple")) rNil)))) (fVar 0) (fTup aNil)))
def g__law_tuple := fnP 1 0 h__law_tuple
def h__law_whole : HF' := (hRet (fIf (fAnd (asB (fCall oIsa (rCons (fVar 0) (rCons (fC (.ty "int")) rNil)))) (fNot (asB (fCall oIsa (rCons (fVar 0) (rCons (fC (.ty "bool")) rNil)))))) (fCall oInt (rCons (fVar 0) rNil)) (fBin oSub (fC (.int 0)) (fC (.int 987654321987654321)))))
def g__law_whole := fnP 1 0 h__law_whole
def wt__law_figures_1 : TF := (asB (fBin oGe (fVar 2) (fC (.int 128))))
def wb__law_figures_1 : HF' := (hSeq (hApp 1 (fBin oAdd (fC (.int 128)) (fBin oMod (fCall oInt (rCons (fVar 2) rNil)) (fC (.int 128)))))
  (hSet 2 (fBin oDiv (fVar 2) (fC (.int 128)))))
def h__law_figures : HF' := (hSeq (hPar 1 2 (fLst aNil) (fVar 0))
  (hSeq (hWhile wt__law_figures_1 wb__law_figures_1)
  (hRet (fCall oTuple (rCons (fBin oAdd (fVar 1) (fLst (aCons (fVar 2) aNil))) rNil)))))
def g__law_figures := fnP 1 2 h__law_figures
def ce__law_text_octets_1 : EF := (fTup (aCons (fVar 4) (aCons (fIf (asB (fBin oEq (fVar 4) (fC (.str "\x0a")))) (fC (.int 10)) (fBin oAdd (fC (.int 32)) (fVar 3))) aNil)))
def ce__law_text_octets_2 : EF := (fBin oIxA (fVar 2) (fVar 4))
def h__law_text_octets : HF' := (hSeq (hSet 1 (fC (.str " !\"#$\x0a&'()*+,-./0123456789:;<=>?@ABCDEFGHIJKLMNOPQRSTUVWXYZ[\\]^_`abcdefghijklmnopqrstuvwxyz{|}~")))
  (hSeq (hSet 2 (fCall oDict (rCons (fLc (sEnum (fVar 1)) (bTup (bCons (bName 3) (bCons (bName 4) bNil))) fYes ce__law_text_octets_1 [3, 4]) rNil)))
  (hRet (fBin oAdd (fCallP g__law_figures (vCons (fCall oLen (rCons (fVar 0) rNil)) vNil)) (fCall oTuple (rCons (fLc (sSeq (fVar 0)) (bName 4) fYes ce__law_text_octets_2 [4]) rNil))))))
def g__law_text_octets := fnP 1 4 h__law_text_octets
def ce__law_sum_of_1 : EF := (fBin oMul (fBin oAdd (fVar 1) (fC (.int 1))) (fVar 2))
def h__law_sum_of : HF' := (hRet (fBin oMod (fCall oInt (rCons (fCall oSum (rCons (fLc (sEnum (fVar 0)) (bTup (bCons (bName 1) (bCons (bName 2) bNil))) fYes ce__law_sum_of_1 [1, 2]) rNil)) rNil)) (fC (.int 65521))))
def g__law_sum_of := fnP 1 2 h__law_sum_of
def ce__law_octet_row_1 : EF := (fCallW 0 g__law_of (vCons (fLst (aCons (fC (.int 0)) (aCons (fC (.int 1)) (aCons (fC (.int 255)) (aCons (fCallW 0 g__law_any (vCons (fC (.int 256)) vNil)) aNil))))) vNil))
def h__law_octet_row : HF' := (hRet (fCall oTuple (rCons (fLc (sRng1 (rCons (fCallW 0 g__law_of (vCons (fLst (aCons (fC (.int 0)) (aCons (fC (.int 1)) (aCons (fC (.int 2)) (aCons (fC (.int 7)) (aCons (fC (.int 60)) (aCons (fC (.int 900)) aNil))))))) vNil)) rNil)) (bName 1) fYes ce__law_octet_row_1 [1]) rNil)))
def g__law_octet_row := fnW 0 1 h__law_octet_row
def ce__law_text_1 : EF := (fCallW 0 g__law_of (vCons (fVar 1) vNil))
def h__law_text : HF' := (hSeq (hSet 1 (fC (.str " !\"#$&'()*+,-./0123456789:;<=>?@ABCDEFGHIJKLMNOPQRSTUVWXYZ[\\]^_`abcdefghijklmnopqrstuvwxyz{|}~\x0a")))
  (hRet (fJoin (fC (.str "")) (fLc (sRng1 (rCons (fCallW 0 g__law_of (vCons (fLst (aCons (fC (.int 0)) (aCons (fC (.int 1)) (aCons (fC (.int 5)) (aCons (fC (.int 127)) (aCons (fC (.int 128)) (aCons (fC (.int 300)) aNil))))))) vNil)) rNil)) (bName 2) fYes ce__law_text_1 [2]))))
def g__law_text := fnW 0 2 h__law_text
def fb_law_1 : HF' := (hSeq (hPar 9 10 (fCallW 1 g__law_any (vCons (fCall oLen (rCons (fVar 4) rNil)) vNil)) (fCallW 1 g__law_any (vCons (fC (.int 256)) vNil)))
  (hSeq (hApp 2 (fTup (aCons (fCallP g_sum_of_octets (vCons (fBin oAdd (fBin oAdd (fCut (fVar 4) bNo (bOf (fVar 9))) (fTup (aCons (fVar 10) aNil))) (fCut (fVar 4) (bOf (fBin oAdd (fVar 9) (fC (.int 1)))) bNo)) vNil)) (aCons (fBin oMod (fCall oInt (rCons (fBin oAdd (fVar 6) (fBin oMul (fBin oAdd (fVar 9) (fC (.int 1))) (fBin oSub (fVar 10) (fBin oIx (fVar 4) (fVar 9))))) rNil)) (fC (.int 65521))) aNil))))
  (hSeq (hSet 9 (fCallW 1 g__law_any (vCons (fBin oSub (fCall oLen (rCons (fVar 4) rNil)) (fC (.int 1))) vNil)))
  (hApp 2 (fTup (aCons (fCallP g_sum_of_octets (vCons (fBin oAdd (fBin oAdd (fCut (fVar 4) bNo (bOf (fVar 9))) (fTup (aCons (fBin oIx (fVar 4) (fBin oAdd (fVar 9) (fC (.int 1)))) (aCons (fBin oIx (fVar 4) (fVar 9)) aNil)))) (fCut (fVar 4) (bOf (fBin oAdd (fVar 9) (fC (.int 2)))) bNo)) vNil)) (aCons (fBin oMod (fCall oInt (rCons (fBin oSub (fBin oAdd (fVar 6) (fBin oIx (fVar 4) (fVar 9))) (fBin oIx (fVar 4) (fBin oAdd (fVar 9) (fC (.int 1))))) rNil)) (fC (.int 65521))) aNil)))))))
def fb_law_2 : HF' := (hApp 2 (fTup (aCons (fCallP g_read_text (vCons (fBin oAdd (fBin oAdd (fCut (fVar 13) bNo (bOf (fVar 9))) (fTup (aCons (fVar 16) aNil))) (fCut (fVar 13) (bOf (fBin oAdd (fVar 9) (fC (.int 1)))) bNo)) (vCons (fC (.int 0)) vNil))) (aCons (fC .non) aNil))))
def fb_law_3 : HF' := (hSeq (hPar 4 5 (fCallW 1 g__law_octet_row vNil) (fCallW 1 g__law_octet_row vNil))
  (hSeq (hPar 6 7 (fCallP g__law_whole (vCons (fIf (asB (fBin oGt (fVar 3) (fC (.int 0)))) (fCallP g_sum_of_octets (vCons (fVar 4) vNil)) (fCallP g_sum_of_octets (vPerm [0] 0 1 vNil (vCons (fVar 4) vNil)))) vNil)) (fCallP g__law_whole (vCons (fCallP g_sum_of_octets (vCons (fVar 5) vNil)) vNil)))
  (hSeq (hSet 2 (fBin oAdd (fVar 2) (fLst (aCons (fTup (aCons (fVar 6) (aCons (fCallP g__law_sum_of (vCons (fVar 4) vNil)) aNil))) (aCons (fTup (aCons (fCallP g_sum_of_octets (vCons (fBin oAdd (fVar 4) (fVar 5)) vNil)) (aCons (fBin oMod (fCall oInt (rCons (fBin oAdd (fBin oAdd (fVar 6) (fVar 7)) (fBin oMul (fCall oLen (rCons (fVar 4) rNil)) (fCall oSumA (rCons (fVar 5) rNil)))) rNil)) (fC (.int 65521))) aNil))) aNil)))))
  (hSeq (hSet 2 (fBin oAdd (fVar 2) (fLst (aCons (fTup (aCons (fCallP g_sum_of_octets (vCons (fBin oAdd (fVar 5) (fVar 4)) vNil)) (aCons (fBin oMod (fCall oInt (rCons (fBin oAdd (fBin oAdd (fVar 6) (fVar 7)) (fBin oMul (fCall oLen (rCons (fVar 5) rNil)) (fCall oSumA (rCons (fVar 4) rNil)))) rNil)) (fC (.int 65521))) aNil))) aNil))))
  (hSeq (hApp 2 (fTup (aCons (fCallP g_sum_of_octets (vCons (fBack (fVar 4)) vNil)) (aCons (fBin oMod (fCall oInt (rCons (fBin oSub (fBin oMul (fBin oAdd (fCall oLen (rCons (fVar 4) rNil)) (fC (.int 1))) (fCall oSumA (rCons (fVar 4) rNil))) (fVar 6)) rNil)) (fC (.int 65521))) aNil))))
  (hSeq (hFor (sRng1 (rCons (fIf (asB (fBin oGt (fCall oLen (rCons (fVar 4) rNil)) (fC (.int 1)))) (fC (.int 3)) (fC (.int 0))) rNil)) (bName 8) fb_law_1)
  (hSeq (hPar 11 12 (fCallW 1 g__law_text vNil) (fCallW 1 g__law_text vNil))
  (hSeq (hPar 13 14 (fCallP g__law_tuple (vCons (fIf (asB (fBin oGt (fVar 3) (fC (.int 0)))) (fCallP g_text_octets (vCons (fVar 11) vNil)) (fCallP g_text_octets (vPerm [0] 0 1 vNil (vCons (fVar 11) vNil)))) vNil)) (fCallP g__law_tuple (vCons (fCallP g_text_octets (vCons (fVar 12) vNil)) vNil)))
  (hSeq (hSet 2 (fBin oAdd (fVar 2) (fLst (aCons (fTup (aCons (fVar 13) (aCons (fCallP g__law_text_octets (vCons (fVar 11) vNil)) aNil))) (aCons (fTup (aCons (fVar 14) (aCons (fCallP g__law_text_octets (vCons (fVar 12) vNil)) aNil))) aNil)))))
  (hSeq (hSet 15 (fBin oAdd (fVar 13) (fVar 14)))
  (hSeq (hSet 2 (fBin oAdd (fVar 2) (fLst (aCons (fTup (aCons (fIf (asB (fBin oGt (fVar 3) (fC (.int 0)))) (fCallP g_read_text (vCons (fVar 15) (vCons (fC (.int 0)) vNil))) (fCallP g_read_text (vPerm [1, 0] 0 2 vNil (vCons (fC (.int 0)) (vCons (fVar 15) vNil))))) (aCons (fTup (aCons (fVar 11) (aCons (fCall oLen (rCons (fVar 13) rNil)) aNil))) aNil))) aNil))))
  (hSeq (hSet 2 (fBin oAdd (fVar 2) (fLst (aCons (fTup (aCons (fCallP g_read_text (vCons (fVar 15) (vCons (fCall oLen (rCons (fVar 13) rNil)) vNil))) (aCons (fTup (aCons (fVar 12) (aCons (fCall oLen (rCons (fVar 15) rNil)) aNil))) aNil))) (aCons (fTup (aCons (fCallP g_read_text (vCons (fVar 15) (vCons (fCall oLen (rCons (fVar 15) rNil)) vNil))) (aCons (fC .non) aNil))) (aCons (fTup (aCons (fCallP g_read_text (vCons (fVar 15) (vCons (fBin oSub (fC (.int 0)) (fC (.int 1))) vNil))) (aCons (fC .non) aNil))) aNil))))))
  (hSeq (hApp 2 (fTup (aCons (fCallP g_text_octets (vCons (fBin oAdd (fVar 11) (fVar 12)) vNil)) (aCons (fBin oAdd (fBin oAdd (fCallP g__law_figures (vCons (fCall oLen (rCons (fBin oAdd (fVar 11) (fVar 12)) rNil)) vNil)) (fCut (fVar 13) (bOf (fCall oLen (rCons (fCallP g__law_figures (vCons (fCall oLen (rCons (fVar 11) rNil)) vNil)) rNil))) bNo)) (fCut (fVar 14) (bOf (fCall oLen (rCons (fCallP g__law_figures (vCons (fCall oLen (rCons (fVar 12) rNil)) vNil)) rNil))) bNo)) aNil))))
  (hIf (asB (fBin oGt (fCall oLen (rCons (fVar 11) rNil)) (fC (.int 0)))) (hSeq (hSet 9 (fBin oAdd (fCall oLen (rCons (fCallP g__law_figures (vCons (fCall oLen (rCons (fVar 11) rNil)) vNil)) rNil)) (fCallW 1 g__law_any (vCons (fCall oLen (rCons (fVar 11) rNil)) vNil))))
  (hSeq (hFor (sSeq (fLst (aCons (fC (.int 37)) (aCons (fC (.int 0)) (aCons (fC (.int 9)) (aCons (fC (.int 31)) (aCons (fC (.int 127)) (aCons (fC (.int 200)) (aCons (fC (.int 255)) aNil))))))))) (bName 16) fb_law_2)
  (hSeq (hSet 2 (fBin oAdd (fVar 2) (fLst (aCons (fTup (aCons (fCallP g_read_text (vCons (fCut (fVar 13) bNo (bOf (fNeg (fC (.int 1))))) (vCons (fC (.int 0)) vNil))) (aCons (fC .non) aNil))) (aCons (fTup (aCons (fCallP g_read_text (vCons (fCut (fVar 13) bNo (bOf (fVar 9))) (vCons (fC (.int 0)) vNil))) (aCons (fC .non) aNil))) aNil)))))
  (hSet 2 (fBin oAdd (fVar 2) (fLst (aCons (fTup (aCons (fCallP g_read_text (vCons (fBin oAdd (fCallP g__law_figures (vCons (fBin oAdd (fCall oLen (rCons (fVar 11) rNil)) (fC (.int 1))) vNil)) (fCut (fVar 13) (bOf (fCall oLen (rCons (fCallP g__law_figures (vCons (fCall oLen (rCons (fVar 11) rNil)) vNil)) rNil))) bNo)) (vCons (fC (.int 0)) vNil))) (aCons (fC .non) aNil))) aNil))))))) hNil))))))))))))))
def h_law : HF' := (hSeq (hFor (sRng1 (rCons (fC (.int 5)) rNil)) (bName 3) fb_law_3)
  (hSeq (hSet 2 (fBin oAdd (fVar 2) (fLst (aCons (fTup (aCons (fCallP g_sum_of_octets (vCons (fTup aNil) vNil)) (aCons (fC (.int 0)) aNil))) (aCons (fTup (aCons (fCallP g_sum_of_octets (vCons (fBin oMulA (fTup (aCons (fC (.int 255)) aNil)) (fC (.int 600))) vNil)) (aCons (fBin oMod (fCall oInt (rCons (fBin oMul (fBin oMul (fC (.int 255)) (fC (.int 300))) (fC (.int 601))) rNil)) (fC (.int 65521))) aNil))) (aCons (fTup (aCons (fCallP g_text_octets (vCons (fC (.str "")) vNil)) (aCons (fTup (aCons (fC (.int 0)) aNil)) aNil))) aNil))))))
  (hRet (fCallP g__law_all (vCons (fBin oAdd (fVar 2) (fLst (aCons (fTup (aCons (fCallP g_read_text (vCons (fTup (aCons (fC (.int 0)) (aCons (fC (.int 65)) aNil))) (vCons (fC (.int 0)) vNil))) (aCons (fTup (aCons (fC (.str "")) (aCons (fC (.int 1)) aNil))) aNil))) (aCons (fTup (aCons (fCallP g_read_text (vCons (fTup (aCons (fC (.int 1)) (aCons (fC (.int 10)) aNil))) (vCons (fC (.int 0)) vNil))) (aCons (fTup (aCons (fC (.str "\x0a")) (aCons (fC (.int 2)) aNil))) aNil))) aNil)))) vNil)))))
end
/-! ### the walk -/
structure Mods (mg : Str → Option Value) : Prop where
  b_abs : mg "abs" = none
  b_bool : mg "bool" = none
  b_dict : mg "dict" = none
  b_enumerate : mg "enumerate" = none
  b_int : mg "int" = none
  b_isinstance : mg "isinstance" = none
  b_len : mg "len" = none
  b_list : mg "list" = none
  b_ord : mg "ord" = none
  b_range : mg "range" = none
  b_str : mg "str" = none
  b_sum : mg "sum" = none
  b_tuple : mg "tuple" = none
  b_zip : mg "zip" = none
  b_BASE : ∃ t, mg "BASE" = some (.int 128 t)
  b_NEWLINE : ∃ t, mg "NEWLINE" = some (.int 10 t)
  b_BLANK : ∃ t, mg "BLANK" = some (.int 32 t)
  b_PERCENT : ∃ t, mg "PERCENT" = some (.int 37 t)
  b_SIGNS : ∃ t, mg "SIGNS" = some (.str " !\"#$\x0a&'()*+,-./0123456789:;<=>?@ABCDEFGHIJKLMNOPQRSTUVWXYZ[\\]^_`abcdefghijklmnopqrstuvwxyz{|}~" t)
  b_PRIME : ∃ t, mg "PRIME" = some (.int 65521 t)
section
variable {P : Program} {w : World} {K : PySem.W.Frag} {mg : Str → Option Value} {base : Heap}
theorem d_octets_of_number {a : Addr} (M : Mods mg)  : ∀ (cdv : Value) (A : Around) (outer : List Env) (s : Shared) (H : Hp) (E : XK), Room 1 (A.deeper (envOfC "octets_of_number" (defScope s_octets_of_number) s.heap.objs.size a cdv)) → DSs (cxOf CX0 P w K mg base ["number", "found", "rest"] "octets_of_number" (defScope s_octets_of_number) a cdv A outer s H E).nox (defBody s_octets_of_number) h_octets_of_number := by
  intro cdv A outer s H E hr
  exact (dss_cons (ds_set sc_octets_of_number.nd (i := 1) rfl (.inl rfl) (de_lst da_nil))
  (dss_cons (ds_move sc_octets_of_number.nd (i := 2) rfl (.inl rfl) (by decide) (pv 0))
  (dss_cons (ds_while PassesOwn.never (dt_cmp (o_ge (hu64 hr)) (de_var (pv 2)) (de_globI (by rfl) M.b_BASE)) (dss_cons (ds_append (pv 1) (de_bin o_add (de_globI (by rfl) M.b_BASE) (de_bin o_mod (de_var (pv 2)) (de_globI (by rfl) M.b_BASE))))
  (dss_one (ds_set sc_octets_of_number.nd (i := 2) rfl (.inl rfl) (de_bin o_div (de_var (pv 2)) (de_globI (by rfl) M.b_BASE))))))
  (dss_cons (ds_append (pv 1) (de_var (pv 2)))
  (dss_one (ds_ret (de_callTy c_tuple (by rfl) M.b_tuple boot_tuple (dr_cons (de_var (pv 1)) dr_nil))))))))
theorem o_octets_of_number {a : Addr} {fd : FuncData} (F : Fun K "octets_of_number" "octets_of_number" s_octets_of_number a fd) (gm : mg "octets_of_number" = some (.ref a)) (M : Mods mg)  : OwnF P w K mg base 2 "octets_of_number" "octets_of_number" s_octets_of_number ["number"] (spP K 1 g_octets_of_number) :=
  ⟨a, fd, fn_pure (m := 2) F sc_octets_of_number rfl rfl (d_octets_of_number M), gm, F, F.binds fun _ _ _ _ _ _ us hl => match us, hl with | [_], _ => rfl⟩
theorem d_octets_of_text {a : Addr} (M : Mods mg) (C_octets_of_number : OwnF P w K mg base 2 "octets_of_number" "octets_of_number" s_octets_of_number ["number"] (spP K 1 g_octets_of_number)) : ∀ (cdv : Value) (A : Around) (outer : List Env) (s : Shared) (H : Hp) (E : XK), Room 2 (A.deeper (envOfC "octets_of_text" (defScope s_octets_of_text) s.heap.objs.size a cdv)) → DSs (cxOf CX0 P w K mg base ["text", "sign"] "octets_of_text" (defScope s_octets_of_text) a cdv A outer s H E).nox (defBody s_octets_of_text) h_octets_of_text := by
  intro cdv A outer s H E hr
  exact (dss_one (ds_ret (de_bin o_add (de_call C_octets_of_number hr (by rfl) fnP_len (dv_cons (de_callB c_len (by rfl) M.b_len boot_len (dr_cons (de_var (pv 0)) dr_nil)) dv_nil)) (de_callTy c_tuple (by rfl) M.b_tuple boot_tuple (dr_cons (de_list rfl sc_octets_of_text.nd (di_seq (de_var (pv 0))) (own := [("sign", 1)]) (blkOk_by (by kernel_rfl)) (fun _ _ _ _ _ => (dg_name (i := 1) sc_octets_of_text.nd rfl (.inl rfl))) (fun _ _ _ _ _ => dts_nil) (fun _ _ _ _ _ => (de_callB c_ord (by rfl) M.b_ord boot_ord (dr_cons (de_var (pv 1)) dr_nil)))) dr_nil)))))
theorem o_octets_of_text {a : Addr} {fd : FuncData} (F : Fun K "octets_of_text" "octets_of_text" s_octets_of_text a fd) (gm : mg "octets_of_text" = some (.ref a)) (M : Mods mg) (C_octets_of_number : OwnF P w K mg base 2 "octets_of_number" "octets_of_number" s_octets_of_number ["number"] (spP K 1 g_octets_of_number)) : OwnF P w K mg base 3 "octets_of_text" "octets_of_text" s_octets_of_text ["text"] (spP K 1 g_octets_of_text) :=
  ⟨a, fd, fn_pure (m := 1) F sc_octets_of_text rfl rfl (d_octets_of_text M C_octets_of_number), gm, F, F.binds fun _ _ _ _ _ _ us hl => match us, hl with | [_], _ => rfl⟩
theorem d_number_of {a : Addr} (M : Mods mg)  : ∀ (cdv : Value) (A : Around) (outer : List Env) (s : Shared) (H : Hp) (E : XK), Room 1 (A.deeper (envOfC "number_of" (defScope s_number_of) s.heap.objs.size a cdv)) → DSs (cxOf CX0 P w K mg base ["figures", "row", "base", "pairs", "at"] "number_of" (defScope s_number_of) a cdv A outer s H E).nox (defBody s_number_of) h_number_of := by
  intro cdv A outer s H E hr
  exact (dss_cons (ds_asg (de_tup (da_cons (de_callTy c_list (by rfl) M.b_list boot_list (dr_cons (de_var (pv 0)) dr_nil)) (da_cons (de_globI (by rfl) M.b_BASE) da_nil))) (dg_tup rfl (dgs_cons (dg_name (i := 1) sc_number_of.nd rfl (.inr rfl)) (dgs_cons (dg_name (i := 2) sc_number_of.nd rfl (.inr rfl)) dgs_nil))))
  (dss_cons (ds_while PassesOwn.never (dt_cmp (o_gt (hu64 hr)) (de_callB c_len (by rfl) M.b_len boot_len (dr_cons (de_var (pv 1)) dr_nil)) de_int) (dss_cons (ds_setLc (i := 3) rfl sc_number_of.nd rfl rfl (by rfl) (di_rng3 (by rfl) M.b_range (dr_cons de_int (dr_cons (de_bin o_sub (de_callB c_len (by rfl) M.b_len boot_len (dr_cons (de_var (pv 1)) dr_nil)) de_int) (dr_cons de_int dr_nil)))) (own := [("at", 4)]) (blkOk_by (by kernel_rfl)) (fun _ _ _ _ _ => (dg_name (i := 4) sc_number_of.nd rfl (.inl rfl))) (fun _ _ _ _ _ => dts_nil) (fun _ _ _ _ _ => (de_bin o_add (de_ix (de_var (pv 1)) (de_var (pv 4))) (de_bin o_mul (de_var (pv 2)) (de_ix (de_var (pv 1)) (de_bin o_add (de_var (pv 4)) de_int))))))
  (dss_cons (ds_if (dt_cmp (o_eq (hu64 hr)) (de_bin o_mod (de_callB c_len (by rfl) M.b_len boot_len (dr_cons (de_var (pv 1)) dr_nil)) de_int) de_int) (dss_one (ds_append (pv 3) (de_ix (de_var (pv 1)) (de_bin o_sub (de_callB c_len (by rfl) M.b_len boot_len (dr_cons (de_var (pv 1)) dr_nil)) de_int)))) dss_nil)
  (dss_cons (ds_move sc_number_of.nd (i := 1) rfl (.inr rfl) (by decide) (pv 3))
  (dss_one (ds_set sc_number_of.nd (i := 2) rfl (.inr rfl) (de_bin o_mul (de_var (pv 2)) (de_var (pv 2)))))))))
  (dss_one (ds_ret (de_ix (de_var (pv 1)) de_int)))))
theorem o_number_of {a : Addr} {fd : FuncData} (F : Fun K "number_of" "number_of" s_number_of a fd) (gm : mg "number_of" = some (.ref a)) (M : Mods mg)  : OwnF P w K mg base 2 "number_of" "number_of" s_number_of ["figures"] (spP K 1 g_number_of) :=
  ⟨a, fd, fn_pure (m := 4) F sc_number_of rfl rfl (d_number_of M), gm, F, F.binds fun _ _ _ _ _ _ us hl => match us, hl with | [_], _ => rfl⟩
theorem d_behind_number {a : Addr} (M : Mods mg)  : ∀ (cdv : Value) (A : Around) (outer : List Env) (s : Shared) (H : Hp) (E : XK), Room 1 (A.deeper (envOfC "behind_number" (defScope s_behind_number) s.heap.objs.size a cdv)) → DSs (cxOf CX0 P w K mg base ["octets", "at", "place"] "behind_number" (defScope s_behind_number) a cdv A outer s H E).nox (defBody s_behind_number) h_behind_number := by
  intro cdv A outer s H E hr
  exact (dss_cons (ds_if (dt_cmp (o_lt (hu64 hr)) (de_var (pv 1)) de_int) (dss_one (ds_ret de_non)) dss_nil)
  (dss_cons (ds_for PassesOwn.never rfl (di_rng2 (by rfl) M.b_range (dr_cons (de_var (pv 1)) (dr_cons (de_callB c_len (by rfl) M.b_len boot_len (dr_cons (de_var (pv 0)) dr_nil)) dr_nil))) (dg_name (i := 2) sc_behind_number.nd rfl (.inl rfl)) (dss_one (ds_if (dt_cmp (o_lt (hu64 hr)) (de_ix (de_var (pv 0)) (de_var (pv 2))) (de_globI (by rfl) M.b_BASE)) (dss_one (ds_ret (de_bin o_add (de_var (pv 2)) de_int))) dss_nil)))
  (dss_one (ds_ret de_non))))
theorem o_behind_number {a : Addr} {fd : FuncData} (F : Fun K "behind_number" "behind_number" s_behind_number a fd) (gm : mg "behind_number" = some (.ref a)) (M : Mods mg)  : OwnF P w K mg base 2 "behind_number" "behind_number" s_behind_number ["octets", "at"] (spP K 2 g_behind_number) :=
  ⟨a, fd, fn_pure (m := 1) F sc_behind_number rfl rfl (d_behind_number M), gm, F, F.binds fun _ _ _ _ _ _ us hl => match us, hl with | [_, _], _ => rfl⟩
theorem d_number_in {a : Addr} (M : Mods mg) (C_behind_number : OwnF P w K mg base 2 "behind_number" "behind_number" s_behind_number ["octets", "at"] (spP K 2 g_behind_number)) (C_number_of : OwnF P w K mg base 2 "number_of" "number_of" s_number_of ["figures"] (spP K 1 g_number_of)) : ∀ (cdv : Value) (A : Around) (outer : List Env) (s : Shared) (H : Hp) (E : XK), Room 2 (A.deeper (envOfC "number_in" (defScope s_number_in) s.heap.objs.size a cdv)) → DSs (cxOf CX0 P w K mg base ["octets", "at", "end", "figures", "octet"] "number_in" (defScope s_number_in) a cdv A outer s H E).nox (defBody s_number_in) h_number_in := by
  intro cdv A outer s H E hr
  exact (dss_cons (ds_set sc_number_in.nd (i := 2) rfl (.inl rfl) (de_call C_behind_number hr (by rfl) fnP_len (dv_cons (de_var (pv 0)) (dv_cons (de_var (pv 1)) dv_nil))))
  (dss_cons (ds_if (DW.t (dw_or (dt_cmp o_is (de_var (pv 2)) de_non) (dw_or1 (DW.t (dw_and (dt_cmp (o_gt (hu64 hr)) (de_bin o_sub (de_var (pv 2)) (de_var (pv 1))) de_int) (dw_and1 (dt_cmp (o_eq (hu64 hr)) (de_ix (de_var (pv 0)) (de_bin o_sub (de_var (pv 2)) de_int)) de_int))))))) (dss_one (ds_ret de_non)) dss_nil)
  (dss_cons (ds_set sc_number_in.nd (i := 3) rfl (.inl rfl) (de_bin o_add (de_list rfl sc_number_in.nd (di_seq (de_cut (de_var (pv 0)) (do_of (de_var (pv 1))) (do_of (de_bin o_sub (de_var (pv 2)) de_int)))) (own := [("octet", 4)]) (blkOk_by (by kernel_rfl)) (fun _ _ _ _ _ => (dg_name (i := 4) sc_number_in.nd rfl (.inl rfl))) (fun _ _ _ _ _ => dts_nil) (fun _ _ _ _ _ => (de_bin o_sub (de_var (pv 4)) (de_globI (by rfl) M.b_BASE)))) (de_lst (da_cons (de_ix (de_var (pv 0)) (de_bin o_sub (de_var (pv 2)) de_int)) da_nil))))
  (dss_one (ds_ret (de_tup (da_cons (de_call C_number_of hr (by rfl) fnP_len (dv_cons (de_var (pv 3)) dv_nil)) (da_cons (de_var (pv 2)) da_nil))))))))
theorem o_number_in {a : Addr} {fd : FuncData} (F : Fun K "number_in" "number_in" s_number_in a fd) (gm : mg "number_in" = some (.ref a)) (M : Mods mg) (C_behind_number : OwnF P w K mg base 2 "behind_number" "behind_number" s_behind_number ["octets", "at"] (spP K 2 g_behind_number)) (C_number_of : OwnF P w K mg base 2 "number_of" "number_of" s_number_of ["figures"] (spP K 1 g_number_of)) : OwnF P w K mg base 3 "number_in" "number_in" s_number_in ["octets", "at"] (spP K 2 g_number_in) :=
  ⟨a, fd, fn_pure (m := 3) F sc_number_in rfl rfl (d_number_in M C_behind_number C_number_of), gm, F, F.binds fun _ _ _ _ _ _ us hl => match us, hl with | [_, _], _ => rfl⟩
theorem d_sign_of {a : Addr} (M : Mods mg)  : ∀ (cdv : Value) (A : Around) (outer : List Env) (s : Shared) (H : Hp) (E : XK), Room 1 (A.deeper (envOfC "sign_of" (defScope s_sign_of) s.heap.objs.size a cdv)) → DSs (cxOf CX0 P w K mg base ["octet"] "sign_of" (defScope s_sign_of) a cdv A outer s H E).nox (defBody s_sign_of) h_sign_of := by
  intro cdv A outer s H E hr
  exact (dss_cons (ds_if (dt_cmp (o_eq (hu64 hr)) (de_var (pv 0)) (de_globI (by rfl) M.b_NEWLINE)) (dss_one (ds_ret de_str)) dss_nil)
  (dss_cons (ds_if (DW.t (dw_or (dt_cmp (o_lt (hu64 hr)) (de_var (pv 0)) (de_globI (by rfl) M.b_BLANK)) (dw_or (dt_cmp (o_ge (hu64 hr)) (de_var (pv 0)) (de_bin o_add (de_globI (by rfl) M.b_BLANK) (de_callB c_len (by rfl) M.b_len boot_len (dr_cons (de_globS (by rfl) M.b_SIGNS) dr_nil)))) (dw_or1 (dt_cmp (o_eq (hu64 hr)) (de_var (pv 0)) (de_globI (by rfl) M.b_PERCENT)))))) (dss_one (ds_ret de_non)) dss_nil)
  (dss_one (ds_ret (de_ix (de_globS (by rfl) M.b_SIGNS) (de_bin o_sub (de_var (pv 0)) (de_globI (by rfl) M.b_BLANK)))))))
theorem o_sign_of {a : Addr} {fd : FuncData} (F : Fun K "sign_of" "sign_of" s_sign_of a fd) (gm : mg "sign_of" = some (.ref a)) (M : Mods mg)  : OwnF P w K mg base 2 "sign_of" "sign_of" s_sign_of ["octet"] (spP K 1 g_sign_of) :=
  ⟨a, fd, fn_pure (m := 0) F sc_sign_of rfl rfl (d_sign_of M), gm, F, F.binds fun _ _ _ _ _ _ us hl => match us, hl with | [_], _ => rfl⟩
theorem d_text_in {a : Addr} (M : Mods mg) (C_number_in : OwnF P w K mg base 3 "number_in" "number_in" s_number_in ["octets", "at"] (spP K 2 g_number_in)) (C_sign_of : OwnF P w K mg base 3 "sign_of" "sign_of" s_sign_of ["octet"] (spP K 1 g_sign_of)) : ∀ (cdv : Value) (A : Around) (outer : List Env) (s : Shared) (H : Hp) (E : XK), Room 3 (A.deeper (envOfC "text_in" (defScope s_text_in) s.heap.objs.size a cdv)) → DSs (cxOf CX0 P w K mg base ["octets", "at", "told", "end", "signs", "octet"] "text_in" (defScope s_text_in) a cdv A outer s H E).nox (defBody s_text_in) h_text_in := by
  intro cdv A outer s H E hr
  exact (dss_cons (ds_set sc_text_in.nd (i := 2) rfl (.inl rfl) (de_call C_number_in hr (by rfl) fnP_len (dv_cons (de_var (pv 0)) (dv_cons (de_var (pv 1)) dv_nil))))
  (dss_cons (ds_if (DW.t (dw_or (dt_cmp o_is (de_var (pv 2)) de_non) (dw_or1 (dt_cmp (o_gt (hu64 hr)) (de_ix (de_var (pv 2)) de_int) (de_bin o_sub (de_callB c_len (by rfl) M.b_len boot_len (dr_cons (de_var (pv 0)) dr_nil)) (de_ix (de_var (pv 2)) de_int)))))) (dss_one (ds_ret de_non)) dss_nil)
  (dss_cons (ds_set sc_text_in.nd (i := 3) rfl (.inl rfl) (de_bin o_add (de_ix (de_var (pv 2)) de_int) (de_ix (de_var (pv 2)) de_int)))
  (dss_cons (ds_setLc (i := 4) rfl sc_text_in.nd rfl rfl (by rfl) (di_seq (de_cut (de_var (pv 0)) (do_of (de_ix (de_var (pv 2)) de_int)) (do_of (de_var (pv 3))))) (own := [("octet", 5)]) (blkOk_by (by kernel_rfl)) (fun _ _ _ _ _ => (dg_name (i := 5) sc_text_in.nd rfl (.inl rfl))) (fun _ _ _ _ _ => dts_nil) (fun _ _ _ _ _ => (de_call C_sign_of hr (by rfl) fnP_len (dv_cons (de_var (pv 5)) dv_nil))))
  (dss_cons (ds_if (dt_cmp (o_in (hu64 hr)) de_non (de_var (pv 4))) (dss_one (ds_ret de_non)) dss_nil)
  (dss_one (ds_ret (de_tup (da_cons (de_join de_str (de_var (pv 4))) (da_cons (de_var (pv 3)) da_nil))))))))))
theorem o_text_in {a : Addr} {fd : FuncData} (F : Fun K "text_in" "text_in" s_text_in a fd) (gm : mg "text_in" = some (.ref a)) (M : Mods mg) (C_number_in : OwnF P w K mg base 3 "number_in" "number_in" s_number_in ["octets", "at"] (spP K 2 g_number_in)) (C_sign_of : OwnF P w K mg base 3 "sign_of" "sign_of" s_sign_of ["octet"] (spP K 1 g_sign_of)) : OwnF P w K mg base 4 "text_in" "text_in" s_text_in ["octets", "at"] (spP K 2 g_text_in) :=
  ⟨a, fd, fn_pure (m := 4) F sc_text_in rfl rfl (d_text_in M C_number_in C_sign_of), gm, F, F.binds fun _ _ _ _ _ _ us hl => match us, hl with | [_, _], _ => rfl⟩
theorem d_text_octets {a : Addr} (M : Mods mg) (C_octets_of_text : OwnF P w K mg base 3 "octets_of_text" "octets_of_text" s_octets_of_text ["text"] (spP K 1 g_octets_of_text)) : ∀ (cdv : Value) (A : Around) (outer : List Env) (s : Shared) (H : Hp) (E : XK), Room 3 (A.deeper (envOfC "text_octets" (defScope s_text_octets) s.heap.objs.size a cdv)) → DSs (cxOf CX0 P w K mg base ["text"] "text_octets" (defScope s_text_octets) a cdv A outer s H E).nox (defBody s_text_octets) h_text_octets := by
  intro cdv A outer s H E hr
  exact (dss_one (ds_ret (de_call C_octets_of_text hr (by rfl) fnP_len (dv_cons (de_var (pv 0)) dv_nil))))
theorem o_text_octets {a : Addr} {fd : FuncData} (F : Fun K "text_octets" "text_octets" s_text_octets a fd) (gm : mg "text_octets" = some (.ref a)) (M : Mods mg) (C_octets_of_text : OwnF P w K mg base 3 "octets_of_text" "octets_of_text" s_octets_of_text ["text"] (spP K 1 g_octets_of_text)) : OwnF P w K mg base 4 "text_octets" "text_octets" s_text_octets ["text"] (spP K 1 g_text_octets) :=
  ⟨a, fd, fn_pure (m := 0) F sc_text_octets rfl rfl (d_text_octets M C_octets_of_text), gm, F, F.binds fun _ _ _ _ _ _ us hl => match us, hl with | [_], _ => rfl⟩
theorem d_read_text {a : Addr} (M : Mods mg) (C_text_in : OwnF P w K mg base 4 "text_in" "text_in" s_text_in ["octets", "at"] (spP K 2 g_text_in)) : ∀ (cdv : Value) (A : Around) (outer : List Env) (s : Shared) (H : Hp) (E : XK), Room 4 (A.deeper (envOfC "read_text" (defScope s_read_text) s.heap.objs.size a cdv)) → DSs (cxOf CX0 P w K mg base ["octets", "at"] "read_text" (defScope s_read_text) a cdv A outer s H E).nox (defBody s_read_text) h_read_text := by
  intro cdv A outer s H E hr
  exact (dss_one (ds_ret (de_call C_text_in hr (by rfl) fnP_len (dv_cons (de_callTy c_tuple (by rfl) M.b_tuple boot_tuple (dr_cons (de_var (pv 0)) dr_nil)) (dv_cons (de_var (pv 1)) dv_nil)))))
theorem o_read_text {a : Addr} {fd : FuncData} (F : Fun K "read_text" "read_text" s_read_text a fd) (gm : mg "read_text" = some (.ref a)) (M : Mods mg) (C_text_in : OwnF P w K mg base 4 "text_in" "text_in" s_text_in ["octets", "at"] (spP K 2 g_text_in)) : OwnF P w K mg base 5 "read_text" "read_text" s_read_text ["octets", "at"] (spP K 2 g_read_text) :=
  ⟨a, fd, fn_pure (m := 0) F sc_read_text rfl rfl (d_read_text M C_text_in), gm, F, F.binds fun _ _ _ _ _ _ us hl => match us, hl with | [_, _], _ => rfl⟩
theorem d_sum_of_octets {a : Addr} (M : Mods mg)  : ∀ (cdv : Value) (A : Around) (outer : List Env) (s : Shared) (H : Hp) (E : XK), Room 1 (A.deeper (envOfC "sum_of_octets" (defScope s_sum_of_octets) s.heap.objs.size a cdv)) → DSs (cxOf CX0 P w K mg base ["octets", "found", "at", "octet"] "sum_of_octets" (defScope s_sum_of_octets) a cdv A outer s H E).nox (defBody s_sum_of_octets) h_sum_of_octets := by
  intro cdv A outer s H E hr
  exact (dss_cons (ds_set sc_sum_of_octets.nd (i := 1) rfl (.inl rfl) de_int)
  (dss_cons (ds_for PassesOwn.never rfl (di_enum (by rfl) M.b_enumerate (de_var (pv 0))) (dg_tup rfl (dgs_cons (dg_name (i := 2) sc_sum_of_octets.nd rfl (.inl rfl)) (dgs_cons (dg_name (i := 3) sc_sum_of_octets.nd rfl (.inl rfl)) dgs_nil))) (dss_one (ds_aug sc_sum_of_octets.nd rfl (.inl rfl) (de_bin o_mul (de_bin o_add (de_var (pv 2)) de_int) (de_var (pv 3))) ip_addI)))
  (dss_one (ds_ret (de_bin o_mod (de_var (pv 1)) (de_globI (by rfl) M.b_PRIME))))))
theorem o_sum_of_octets {a : Addr} {fd : FuncData} (F : Fun K "sum_of_octets" "sum_of_octets" s_sum_of_octets a fd) (gm : mg "sum_of_octets" = some (.ref a)) (M : Mods mg)  : OwnF P w K mg base 2 "sum_of_octets" "sum_of_octets" s_sum_of_octets ["octets"] (spP K 1 g_sum_of_octets) :=
  ⟨a, fd, fn_pure (m := 3) F sc_sum_of_octets rfl rfl (d_sum_of_octets M), gm, F, F.binds fun _ _ _ _ _ _ us hl => match us, hl with | [_], _ => rfl⟩
theorem d__law_deal {a : Addr} (M : Mods mg)  : ∀ (cdv : Value) (A : Around) (outer : List Env) (s : Shared) (H : Hp) (E : XK), Room 1 (A.deeper (envOfC "_law_deal" (defScope s__law_deal) s.heap.objs.size a cdv)) → DSs (cxOf CX0 P w K mg base ["script", "salt", "most", "cells", "mix", "cell"] "_law_deal" (defScope s__law_deal) a cdv A outer s H E).nox (defBody s__law_deal) h__law_deal := by
  intro cdv A outer s H E hr
  exact (dss_cons (ds_set sc__law_deal.nd (i := 2) rfl (.inr rfl) (de_bin o_mul (de_bin o_mul (de_bin o_mul (de_bin o_mul (de_bin o_mul (de_bin o_pow de_int de_int) (de_bin o_pow de_int de_int)) (de_bin o_pow de_int de_int)) (de_bin o_pow de_int de_int)) (de_bin o_pow de_int de_int)) (de_bin o_pow de_int de_int)))
  (dss_cons (ds_par (i := 3) (j := 4) rfl sc__law_deal.nd rfl rfl (by decide) rfl rfl (de_list rfl sc__law_deal.nd (di_seq (de_cut (de_var (pv 0)) do_no (do_of de_int))) (own := [("cell", 5)]) (blkOk_by (by kernel_rfl)) (fun _ _ _ _ _ => (dg_name (i := 5) sc__law_deal.nd rfl (.inl rfl))) (fun _ _ _ _ _ => dts_nil) (fun _ _ _ _ _ => (de_bin o_mod (de_callTy c_int (by rfl) M.b_int boot_int (dr_cons (de_callB c_abs (by rfl) M.b_abs boot_abs (dr_cons (de_callTy c_int (by rfl) M.b_int boot_int (dr_cons (de_var (pv 5)) dr_nil)) dr_nil)) dr_nil)) (de_var (pv 2))))) (de_bin o_add de_int (de_bin o_mul de_int (de_var (pv 1)))) (by rfl))
  (dss_cons (ds_forV PassesOwn.never rfl (pv 3) (dg_name (i := 5) sc__law_deal.nd rfl (.inl rfl)) (dss_one (ds_set sc__law_deal.nd (i := 4) rfl (.inl rfl) (de_bin o_mod (de_callTy c_int (by rfl) M.b_int boot_int (dr_cons (de_bin o_add (de_bin o_add (de_bin o_mul (de_var (pv 4)) de_int) (de_bin o_mod (de_callTy c_int (by rfl) M.b_int boot_int (dr_cons (de_var (pv 5)) dr_nil)) de_int)) de_int) dr_nil)) de_int))))
  (dss_one (ds_ret (de_lst (da_cons (de_rev (de_list rfl sc__law_deal.nd (di_seq (de_var (pv 3))) (own := [("cell", 5)]) (blkOk_by (by kernel_rfl)) (fun _ _ _ _ _ => (dg_name (i := 5) sc__law_deal.nd rfl (.inl rfl))) (fun _ _ _ _ _ => (dts_one (dt_cmp (o_ge (hu64 hr)) (de_var (pv 5)) (de_bin o_pow de_int de_int)))) (fun _ _ _ _ _ => (de_var (pv 5))))) (da_cons (de_var (pv 4)) da_nil))))))))
theorem o__law_deal {a : Addr} {fd : FuncData} (F : Fun K "_law_deal" "_law_deal" s__law_deal a fd) (gm : mg "_law_deal" = some (.ref a)) (M : Mods mg)  : OwnF P w K mg base 2 "_law_deal" "_law_deal" s__law_deal ["script", "salt"] (spP K 2 g__law_deal) :=
  ⟨a, fd, fn_pure (m := 4) F sc__law_deal rfl rfl (d__law_deal M), gm, F, F.binds fun _ _ _ _ _ _ us hl => match us, hl with | [_, _], _ => rfl⟩
theorem d__law_any {a : Addr} (M : Mods mg)  : ∀ (cdv : Value) (A : Around) (outer : List Env) (s : Shared) (H : Hp) (E : XK), Room 1 (A.deeper (envOfC "_law_any" (defScope s__law_any) s.heap.objs.size a cdv)) → DSs (cxOf CX0 P w K mg base ["deal", "bound", "rest"] "_law_any" (defScope s__law_any) a cdv A outer s H E).nox (defBody s__law_any) h__law_any := by
  intro cdv A outer s H E hr
  exact (dss_cons (ds_while PassesOwn.never (DW.t (dw_and (dt_cmp (o_gt (hu64 hr)) (de_dlen (pv 0) (by rfl) M.b_len) de_int) (dw_and1 (dt_cmp (o_eq (hu64 hr)) (de_dlast (pv 0)) de_int)))) (dss_one (ds_expr (de_dpop (pv 0)))))
  (dss_cons (ds_if (dt_cmp (o_gt (hu64 hr)) (de_dlen (pv 0) (by rfl) M.b_len) de_int) (dss_cons (ds_set sc__law_any.nd (i := 2) rfl (.inl rfl) (de_callTy c_int (by rfl) M.b_int boot_int (dr_cons (de_dpop (pv 0)) dr_nil)))
  (dss_cons (ds_dapp (pv 0) (de_bin o_div (de_var (pv 2)) (de_var (pv 1))))
  (dss_one (ds_ret (de_bin o_mod (de_var (pv 2)) (de_var (pv 1))))))) dss_nil)
  (dss_cons (ds_dset1 (pv 0) (de_bin o_mod (de_callTy c_int (by rfl) M.b_int boot_int (dr_cons (de_bin o_add (de_bin o_mul (de_d1 (pv 0)) de_int) de_int) dr_nil)) de_int) (pg_sub (pv 0) pe_int set_list))
  (dss_one (ds_ret (de_bin o_mod (de_callTy c_int (by rfl) M.b_int boot_int (dr_cons (de_bin o_div (de_d1 (pv 0)) de_int) dr_nil)) (de_var (pv 1))))))))
theorem o__law_any {a : Addr} {fd : FuncData} (F : Fun K "_law_any" "_law_any" s__law_any a fd) (gm : mg "_law_any" = some (.ref a)) (M : Mods mg)  : OwnF P w K mg base 2 "_law_any" "_law_any" s__law_any ["deal", "bound"] (spW K 1 g__law_any) :=
  ⟨a, fd, fn_deal (m := 1) F sc__law_any rfl rfl (d__law_any M), gm, F, F.binds fun _ _ _ _ _ _ us hl => match us, hl with | [_, _], _ => rfl⟩
theorem d__law_of {a : Addr} (M : Mods mg) (C__law_any : OwnF P w K mg base 2 "_law_any" "_law_any" s__law_any ["deal", "bound"] (spW K 1 g__law_any)) : ∀ (cdv : Value) (A : Around) (outer : List Env) (s : Shared) (H : Hp) (E : XK), Room 2 (A.deeper (envOfC "_law_of" (defScope s__law_of) s.heap.objs.size a cdv)) → DSs (cxOf CX0 P w K mg base ["deal", "some"] "_law_of" (defScope s__law_of) a cdv A outer s H E).nox (defBody s__law_of) h__law_of := by
  intro cdv A outer s H E hr
  exact (dss_one (ds_ret (de_ix (de_var (pv 1)) (de_callW C__law_any hr (by rfl) fnW_len (pv 0) (dv_cons (de_callB c_len (by rfl) M.b_len boot_len (dr_cons (de_var (pv 1)) dr_nil)) dv_nil)))))
theorem o__law_of {a : Addr} {fd : FuncData} (F : Fun K "_law_of" "_law_of" s__law_of a fd) (gm : mg "_law_of" = some (.ref a)) (M : Mods mg) (C__law_any : OwnF P w K mg base 2 "_law_any" "_law_any" s__law_any ["deal", "bound"] (spW K 1 g__law_any)) : OwnF P w K mg base 3 "_law_of" "_law_of" s__law_of ["deal", "some"] (spW K 1 g__law_of) :=
  ⟨a, fd, fn_deal (m := 0) F sc__law_of rfl rfl (d__law_of M C__law_any), gm, F, F.binds fun _ _ _ _ _ _ us hl => match us, hl with | [_, _], _ => rfl⟩
theorem d__law_is_kind {a : Addr} (M : Mods mg)  : ∀ (cdv : Value) (A : Around) (outer : List Env) (s : Shared) (H : Hp) (E : XK), Room 1 (A.deeper (envOfC "_law_is_kind" (defScope s__law_is_kind) s.heap.objs.size a cdv)) → DSs (cxOf CX0 P w K mg base ["told", "due"] "_law_is_kind" (defScope s__law_is_kind) a cdv A outer s H E).nox (defBody s__law_is_kind) h__law_is_kind := by
  intro cdv A outer s H E hr
  exact (dss_cons (ds_if (dt_cmp o_is (de_var (pv 1)) de_non) (dss_one (ds_ret (de_cmp o_is (de_var (pv 0)) de_non))) dss_nil)
  (dss_cons (ds_if (DW.t (dw_or (dt_cmp o_is (de_var (pv 1)) de_bl) (dw_or1 (dt_cmp o_is (de_var (pv 1)) de_bl)))) (dss_one (ds_ret (de_if (dt_val (de_var (pv 1))) (de_cmp o_is (de_var (pv 0)) de_bl) (de_cmp o_is (de_var (pv 0)) de_bl)))) dss_nil)
  (dss_cons (ds_if (dt_val (de_callB c_isa (by rfl) M.b_isinstance boot_isinstance (dr_cons (de_var (pv 1)) (dr_cons (de_ty (by rfl) M.b_str boot_str) dr_nil)))) (dss_one (ds_ret (de_and (de_callB c_isa (by rfl) M.b_isinstance boot_isinstance (dr_cons (de_var (pv 0)) (dr_cons (de_ty (by rfl) M.b_str boot_str) dr_nil))) (de_one (de_cmp (o_eq (hu64 hr)) (de_var (pv 0)) (de_var (pv 1))))))) dss_nil)
  (dss_one (ds_ret (de_and (de_callB c_isa (by rfl) M.b_isinstance boot_isinstance (dr_cons (de_var (pv 0)) (dr_cons (de_ty (by rfl) M.b_int boot_int) dr_nil))) (de_and (de_not (de_callB c_isa (by rfl) M.b_isinstance boot_isinstance (dr_cons (de_var (pv 0)) (dr_cons (de_ty (by rfl) M.b_bool boot_bool) dr_nil)))) (de_one (de_cmp (o_eq (hu64 hr)) (de_var (pv 0)) (de_var (pv 1)))))))))))
theorem o__law_is_kind {a : Addr} {fd : FuncData} (F : Fun K "_law_is_kind" "_law_is_kind" s__law_is_kind a fd) (gm : mg "_law_is_kind" = some (.ref a)) (M : Mods mg)  : OwnF P w K mg base 2 "_law_is_kind" "_law_is_kind" s__law_is_kind ["told", "due"] (spP K 2 g__law_is_kind) :=
  ⟨a, fd, fn_pure (m := 0) F sc__law_is_kind rfl rfl (d__law_is_kind M), gm, F, F.binds fun _ _ _ _ _ _ us hl => match us, hl with | [_, _], _ => rfl⟩
theorem d__law_same {a : Addr} (M : Mods mg) (C__law_is_kind : OwnF P w K mg base 2 "_law_is_kind" "_law_is_kind" s__law_is_kind ["told", "due"] (spP K 2 g__law_is_kind)) : ∀ (cdv : Value) (A : Around) (outer : List Env) (s : Shared) (H : Hp) (E : XK), Room 2 (A.deeper (envOfC "_law_same" (defScope s__law_same) s.heap.objs.size a cdv)) → DSs (cxOf CX0 P w K mg base ["told", "due", "todo", "one", "other"] "_law_same" (defScope s__law_same) a cdv A outer s H E).nox (defBody s__law_same) h__law_same := by
  intro cdv A outer s H E hr
  exact (dss_cons (ds_set sc__law_same.nd (i := 2) rfl (.inl rfl) (de_lst (da_cons (de_tup (da_cons (de_var (pv 0)) (da_cons (de_var (pv 1)) da_nil))) da_nil)))
  (dss_cons (ds_while PassesOwn.never (dt_cmp (o_gt (hu64 hr)) (de_callB c_len (by rfl) M.b_len boot_len (dr_cons (de_var (pv 2)) dr_nil)) de_int) (dss_cons (ds_popTo (pv 2) (dg_tup rfl (dgs_cons (dg_name (i := 3) sc__law_same.nd rfl (.inl rfl)) (dgs_cons (dg_name (i := 4) sc__law_same.nd rfl (.inl rfl)) dgs_nil))))
  (dss_one (ds_if (dt_val (de_callB c_isa (by rfl) M.b_isinstance boot_isinstance (dr_cons (de_var (pv 4)) (dr_cons (de_ty (by rfl) M.b_tuple boot_tuple) dr_nil)))) (dss_cons (ds_if (DW.t (dw_or (dt_not (dt_val (de_callB c_isa (by rfl) M.b_isinstance boot_isinstance (dr_cons (de_var (pv 3)) (dr_cons (de_ty (by rfl) M.b_tuple boot_tuple) dr_nil))))) (dw_or1 (dt_cmp (o_ne (hu64 hr)) (de_callB c_len (by rfl) M.b_len boot_len (dr_cons (de_var (pv 3)) dr_nil)) (de_callB c_len (by rfl) M.b_len boot_len (dr_cons (de_var (pv 4)) dr_nil)))))) (dss_one (ds_ret de_bl)) dss_nil)
  (dss_one (ds_set sc__law_same.nd (i := 2) rfl (.inl rfl) (de_bin o_add (de_var (pv 2)) (de_listZip rfl (by rfl) M.b_list (by rfl) M.b_zip (dr_cons (de_var (pv 3)) (dr_cons (de_var (pv 4)) dr_nil))))))) (dss_one (ds_if (DW.t (dw_or (dt_val (de_isaT (by rfl) M.b_isinstance (de_var (pv 3)) (ty_cons (pe_bltn (v := .ty "tuple") (by rfl) M.b_tuple boot_tuple rfl) (ty_cons (pe_bltn (v := .ty "list") (by rfl) M.b_list boot_list rfl) (ty_cons (pe_bltn (v := .ty "dict") (by rfl) M.b_dict boot_dict rfl) ty_nil))))) (dw_or1 (dt_not (dt_val (de_call C__law_is_kind hr (by rfl) fnP_len (dv_cons (de_var (pv 3)) (dv_cons (de_var (pv 4)) dv_nil)))))))) (dss_one (ds_ret de_bl)) dss_nil))))))
  (dss_one (ds_ret de_bl))))
theorem o__law_same {a : Addr} {fd : FuncData} (F : Fun K "_law_same" "_law_same" s__law_same a fd) (gm : mg "_law_same" = some (.ref a)) (M : Mods mg) (C__law_is_kind : OwnF P w K mg base 2 "_law_is_kind" "_law_is_kind" s__law_is_kind ["told", "due"] (spP K 2 g__law_is_kind)) : OwnF P w K mg base 3 "_law_same" "_law_same" s__law_same ["told", "due"] (spP K 2 g__law_same) :=
  ⟨a, fd, fn_pure (m := 3) F sc__law_same rfl rfl (d__law_same M C__law_is_kind), gm, F, F.binds fun _ _ _ _ _ _ us hl => match us, hl with | [_, _], _ => rfl⟩
theorem d__law_all {a : Addr} (M : Mods mg) (C__law_same : OwnF P w K mg base 3 "_law_same" "_law_same" s__law_same ["told", "due"] (spP K 2 g__law_same)) : ∀ (cdv : Value) (A : Around) (outer : List Env) (s : Shared) (H : Hp) (E : XK), Room 3 (A.deeper (envOfC "_law_all" (defScope s__law_all) s.heap.objs.size a cdv)) → DSs (cxOf CX0 P w K mg base ["pairs", "told", "due"] "_law_all" (defScope s__law_all) a cdv A outer s H E).nox (defBody s__law_all) h__law_all := by
  intro cdv A outer s H E hr
  exact (dss_one (ds_ret (de_cmp (o_eq (hu64 hr)) (de_callB c_len (by rfl) M.b_len boot_len (dr_cons (de_list rfl sc__law_all.nd (di_seq (de_var (pv 0))) (own := [("told", 1), ("due", 2)]) (blkOk_by (by kernel_rfl)) (fun _ _ _ _ _ => (dg_tup rfl (dgs_cons (dg_name (i := 1) sc__law_all.nd rfl (.inl rfl)) (dgs_cons (dg_name (i := 2) sc__law_all.nd rfl (.inl rfl)) dgs_nil)))) (fun _ _ _ _ _ => (dts_one (dt_not (dt_val (de_call C__law_same hr (by rfl) fnP_len (dv_cons (de_var (pv 1)) (dv_cons (de_var (pv 2)) dv_nil))))))) (fun _ _ _ _ _ => (de_var (pv 1)))) dr_nil)) de_int)))
theorem o__law_all {a : Addr} {fd : FuncData} (F : Fun K "_law_all" "_law_all" s__law_all a fd) (gm : mg "_law_all" = some (.ref a)) (M : Mods mg) (C__law_same : OwnF P w K mg base 3 "_law_same" "_law_same" s__law_same ["told", "due"] (spP K 2 g__law_same)) : OwnF P w K mg base 4 "_law_all" "_law_all" s__law_all ["pairs"] (spP K 1 g__law_all) :=
  ⟨a, fd, fn_pure (m := 2) F sc__law_all rfl rfl (d__law_all M C__law_same), gm, F, F.binds fun _ _ _ _ _ _ us hl => match us, hl with | [_], _ => rfl⟩
theorem d__law_tuple {a : Addr} (M : Mods mg)  : ∀ (cdv : Value) (A : Around) (outer : List Env) (s : Shared) (H : Hp) (E : XK), Room 1 (A.deeper (envOfC "_law_tuple" (defScope s__law_tuple) s.heap.objs.size a cdv)) → DSs (cxOf CX0 P w K mg base ["told"] "_law_tuple" (defScope s__law_tuple) a cdv A outer s H E).nox (defBody s__law_tuple) h__law_tuple := by
  intro cdv A outer s H E hr
  exact (dss_one (ds_ret (de_if (dt_val (de_callB c_isa (by rfl) M.b_isinstance boot_isinstance (dr_cons (de_var (pv 0)) (dr_cons (de_ty (by rfl) M.b_tuple boot_tuple) dr_nil)))) (de_var (pv 0)) (de_tup da_nil))))
theorem o__law_tuple {a : Addr} {fd : FuncData} (F : Fun K "_law_tuple" "_law_tuple" s__law_tuple a fd) (gm : mg "_law_tuple" = some (.ref a)) (M : Mods mg)  : OwnF P w K mg base 2 "_law_tuple" "_law_tuple" s__law_tuple ["told"] (spP K 1 g__law_tuple) :=
  ⟨a, fd, fn_pure (m := 0) F sc__law_tuple rfl rfl (d__law_tuple M), gm, F, F.binds fun _ _ _ _ _ _ us hl => match us, hl with | [_], _ => rfl⟩
theorem d__law_whole {a : Addr} (M : Mods mg)  : ∀ (cdv : Value) (A : Around) (outer : List Env) (s : Shared) (H : Hp) (E : XK), Room 1 (A.deeper (envOfC "_law_whole" (defScope s__law_whole) s.heap.objs.size a cdv)) → DSs (cxOf CX0 P w K mg base ["told"] "_law_whole" (defScope s__law_whole) a cdv A outer s H E).nox (defBody s__law_whole) h__law_whole := by
  intro cdv A outer s H E hr
  exact (dss_one (ds_ret (de_if (DW.t (dw_and (dt_val (de_callB c_isa (by rfl) M.b_isinstance boot_isinstance (dr_cons (de_var (pv 0)) (dr_cons (de_ty (by rfl) M.b_int boot_int) dr_nil)))) (dw_and1 (dt_not (dt_val (de_callB c_isa (by rfl) M.b_isinstance boot_isinstance (dr_cons (de_var (pv 0)) (dr_cons (de_ty (by rfl) M.b_bool boot_bool) dr_nil)))))))) (de_callTy c_int (by rfl) M.b_int boot_int (dr_cons (de_var (pv 0)) dr_nil)) (de_bin o_sub de_int de_int))))
theorem o__law_whole {a : Addr} {fd : FuncData} (F : Fun K "_law_whole" "_law_whole" s__law_whole a fd) (gm : mg "_law_whole" = some (.ref a)) (M : Mods mg)  : OwnF P w K mg base 2 "_law_whole" "_law_whole" s__law_whole ["told"] (spP K 1 g__law_whole) :=
  ⟨a, fd, fn_pure (m := 0) F sc__law_whole rfl rfl (d__law_whole M), gm, F, F.binds fun _ _ _ _ _ _ us hl => match us, hl with | [_], _ => rfl⟩
theorem d__law_figures {a : Addr} (M : Mods mg)  : ∀ (cdv : Value) (A : Around) (outer : List Env) (s : Shared) (H : Hp) (E : XK), Room 1 (A.deeper (envOfC "_law_figures" (defScope s__law_figures) s.heap.objs.size a cdv)) → DSs (cxOf CX0 P w K mg base ["number", "found", "left"] "_law_figures" (defScope s__law_figures) a cdv A outer s H E).nox (defBody s__law_figures) h__law_figures := by
  intro cdv A outer s H E hr
  exact (dss_cons (ds_par (i := 1) (j := 2) rfl sc__law_figures.nd rfl rfl (by decide) rfl rfl (de_lst da_nil) (de_var (pv 0)) (by rfl))
  (dss_cons (ds_while PassesOwn.never (dt_cmp (o_ge (hu64 hr)) (de_var (pv 2)) de_int) (dss_cons (ds_append (pv 1) (de_bin o_add de_int (de_bin o_mod (de_callTy c_int (by rfl) M.b_int boot_int (dr_cons (de_var (pv 2)) dr_nil)) de_int)))
  (dss_one (ds_set sc__law_figures.nd (i := 2) rfl (.inl rfl) (de_bin o_div (de_var (pv 2)) de_int)))))
  (dss_one (ds_ret (de_callTy c_tuple (by rfl) M.b_tuple boot_tuple (dr_cons (de_bin o_add (de_var (pv 1)) (de_lst (da_cons (de_var (pv 2)) da_nil))) dr_nil))))))
theorem o__law_figures {a : Addr} {fd : FuncData} (F : Fun K "_law_figures" "_law_figures" s__law_figures a fd) (gm : mg "_law_figures" = some (.ref a)) (M : Mods mg)  : OwnF P w K mg base 2 "_law_figures" "_law_figures" s__law_figures ["number"] (spP K 1 g__law_figures) :=
  ⟨a, fd, fn_pure (m := 2) F sc__law_figures rfl rfl (d__law_figures M), gm, F, F.binds fun _ _ _ _ _ _ us hl => match us, hl with | [_], _ => rfl⟩
theorem d__law_text_octets {a : Addr} (M : Mods mg) (C__law_figures : OwnF P w K mg base 2 "_law_figures" "_law_figures" s__law_figures ["number"] (spP K 1 g__law_figures)) : ∀ (cdv : Value) (A : Around) (outer : List Env) (s : Shared) (H : Hp) (E : XK), Room 2 (A.deeper (envOfC "_law_text_octets" (defScope s__law_text_octets) s.heap.objs.size a cdv)) → DSs (cxOf CX0 P w K mg base ["text", "signs", "codes", "at", "sign"] "_law_text_octets" (defScope s__law_text_octets) a cdv A outer s H E).nox (defBody s__law_text_octets) h__law_text_octets := by
  intro cdv A outer s H E hr
  exact (dss_cons (ds_set sc__law_text_octets.nd (i := 1) rfl (.inl rfl) de_str)
  (dss_cons (ds_set sc__law_text_octets.nd (i := 2) rfl (.inr rfl) (de_callTy (c_dict rfl) (by rfl) M.b_dict boot_dict (dr_cons (de_list rfl sc__law_text_octets.nd (di_enum (by rfl) M.b_enumerate (de_var (pv 1))) (own := [("at", 3), ("sign", 4)]) (blkOk_by (by kernel_rfl)) (fun _ _ _ _ _ => (dg_tup rfl (dgs_cons (dg_name (i := 3) sc__law_text_octets.nd rfl (.inl rfl)) (dgs_cons (dg_name (i := 4) sc__law_text_octets.nd rfl (.inl rfl)) dgs_nil)))) (fun _ _ _ _ _ => dts_nil) (fun _ _ _ _ _ => (de_tup (da_cons (de_var (pv 4)) (da_cons (de_if (dt_cmp (o_eq (hu64 hr)) (de_var (pv 4)) de_str) de_int (de_bin o_add de_int (de_var (pv 3)))) da_nil))))) dr_nil)))
  (dss_one (ds_ret (de_bin o_add (de_call C__law_figures hr (by rfl) fnP_len (dv_cons (de_callB c_len (by rfl) M.b_len boot_len (dr_cons (de_var (pv 0)) dr_nil)) dv_nil)) (de_callTy c_tuple (by rfl) M.b_tuple boot_tuple (dr_cons (de_list rfl sc__law_text_octets.nd (di_seq (de_var (pv 0))) (own := [("sign", 4)]) (blkOk_by (by kernel_rfl)) (fun _ _ _ _ _ => (dg_name (i := 4) sc__law_text_octets.nd rfl (.inl rfl))) (fun _ _ _ _ _ => dts_nil) (fun _ _ _ _ _ => (de_ixA (hu64 hr) (de_var (pv 2)) (de_var (pv 4))))) dr_nil)))))))
theorem o__law_text_octets {a : Addr} {fd : FuncData} (F : Fun K "_law_text_octets" "_law_text_octets" s__law_text_octets a fd) (gm : mg "_law_text_octets" = some (.ref a)) (M : Mods mg) (C__law_figures : OwnF P w K mg base 2 "_law_figures" "_law_figures" s__law_figures ["number"] (spP K 1 g__law_figures)) : OwnF P w K mg base 3 "_law_text_octets" "_law_text_octets" s__law_text_octets ["text"] (spP K 1 g__law_text_octets) :=
  ⟨a, fd, fn_pure (m := 4) F sc__law_text_octets rfl rfl (d__law_text_octets M C__law_figures), gm, F, F.binds fun _ _ _ _ _ _ us hl => match us, hl with | [_], _ => rfl⟩
theorem d__law_sum_of {a : Addr} (M : Mods mg)  : ∀ (cdv : Value) (A : Around) (outer : List Env) (s : Shared) (H : Hp) (E : XK), Room 1 (A.deeper (envOfC "_law_sum_of" (defScope s__law_sum_of) s.heap.objs.size a cdv)) → DSs (cxOf CX0 P w K mg base ["octets", "at", "octet"] "_law_sum_of" (defScope s__law_sum_of) a cdv A outer s H E).nox (defBody s__law_sum_of) h__law_sum_of := by
  intro cdv A outer s H E hr
  exact (dss_one (ds_ret (de_bin o_mod (de_callTy c_int (by rfl) M.b_int boot_int (dr_cons (de_callB (c_sum rfl) (by rfl) M.b_sum boot_sum (dr_cons (de_list rfl sc__law_sum_of.nd (di_enum (by rfl) M.b_enumerate (de_var (pv 0))) (own := [("at", 1), ("octet", 2)]) (blkOk_by (by kernel_rfl)) (fun _ _ _ _ _ => (dg_tup rfl (dgs_cons (dg_name (i := 1) sc__law_sum_of.nd rfl (.inl rfl)) (dgs_cons (dg_name (i := 2) sc__law_sum_of.nd rfl (.inl rfl)) dgs_nil)))) (fun _ _ _ _ _ => dts_nil) (fun _ _ _ _ _ => (de_bin o_mul (de_bin o_add (de_var (pv 1)) de_int) (de_var (pv 2))))) dr_nil)) dr_nil)) de_int)))
theorem o__law_sum_of {a : Addr} {fd : FuncData} (F : Fun K "_law_sum_of" "_law_sum_of" s__law_sum_of a fd) (gm : mg "_law_sum_of" = some (.ref a)) (M : Mods mg)  : OwnF P w K mg base 2 "_law_sum_of" "_law_sum_of" s__law_sum_of ["octets"] (spP K 1 g__law_sum_of) :=
  ⟨a, fd, fn_pure (m := 2) F sc__law_sum_of rfl rfl (d__law_sum_of M), gm, F, F.binds fun _ _ _ _ _ _ us hl => match us, hl with | [_], _ => rfl⟩
theorem d__law_octet_row {a : Addr} (M : Mods mg) (C__law_of : OwnF P w K mg base 3 "_law_of" "_law_of" s__law_of ["deal", "some"] (spW K 1 g__law_of)) (C__law_any : OwnF P w K mg base 3 "_law_any" "_law_any" s__law_any ["deal", "bound"] (spW K 1 g__law_any)) : ∀ (cdv : Value) (A : Around) (outer : List Env) (s : Shared) (H : Hp) (E : XK), Room 3 (A.deeper (envOfC "_law_octet_row" (defScope s__law_octet_row) s.heap.objs.size a cdv)) → DSs (cxOf CX0 P w K mg base ["deal", "turn"] "_law_octet_row" (defScope s__law_octet_row) a cdv A outer s H E).nox (defBody s__law_octet_row) h__law_octet_row := by
  intro cdv A outer s H E hr
  exact (dss_one (ds_ret (de_callTy c_tuple (by rfl) M.b_tuple boot_tuple (dr_cons (de_list rfl sc__law_octet_row.nd (di_rng1 (by rfl) M.b_range (dr_cons (de_callW C__law_of hr (by rfl) fnW_len (pv 0) (dv_cons (de_lst (da_cons de_int (da_cons de_int (da_cons de_int (da_cons de_int (da_cons de_int (da_cons de_int da_nil))))))) dv_nil)) dr_nil)) (own := [("turn", 1)]) (blkOk_by (by kernel_rfl)) (fun _ _ _ _ _ => (dg_name (i := 1) sc__law_octet_row.nd rfl (.inl rfl))) (fun _ _ _ _ _ => dts_nil) (fun _ _ _ _ _ => (de_callW C__law_of hr (by rfl) fnW_len (pv 0) (dv_cons (de_lst (da_cons de_int (da_cons de_int (da_cons de_int (da_cons (de_callW C__law_any hr (by rfl) fnW_len (pv 0) (dv_cons de_int dv_nil)) da_nil))))) dv_nil)))) dr_nil))))
theorem o__law_octet_row {a : Addr} {fd : FuncData} (F : Fun K "_law_octet_row" "_law_octet_row" s__law_octet_row a fd) (gm : mg "_law_octet_row" = some (.ref a)) (M : Mods mg) (C__law_of : OwnF P w K mg base 3 "_law_of" "_law_of" s__law_of ["deal", "some"] (spW K 1 g__law_of)) (C__law_any : OwnF P w K mg base 3 "_law_any" "_law_any" s__law_any ["deal", "bound"] (spW K 1 g__law_any)) : OwnF P w K mg base 4 "_law_octet_row" "_law_octet_row" s__law_octet_row ["deal"] (spW K 0 g__law_octet_row) :=
  ⟨a, fd, fn_deal (m := 1) F sc__law_octet_row rfl rfl (d__law_octet_row M C__law_of C__law_any), gm, F, F.binds fun _ _ _ _ _ _ us hl => match us, hl with | [_], _ => rfl⟩
theorem d__law_text {a : Addr} (M : Mods mg) (C__law_of : OwnF P w K mg base 3 "_law_of" "_law_of" s__law_of ["deal", "some"] (spW K 1 g__law_of)) : ∀ (cdv : Value) (A : Around) (outer : List Env) (s : Shared) (H : Hp) (E : XK), Room 3 (A.deeper (envOfC "_law_text" (defScope s__law_text) s.heap.objs.size a cdv)) → DSs (cxOf CX0 P w K mg base ["deal", "signs", "turn"] "_law_text" (defScope s__law_text) a cdv A outer s H E).nox (defBody s__law_text) h__law_text := by
  intro cdv A outer s H E hr
  exact (dss_cons (ds_set sc__law_text.nd (i := 1) rfl (.inr rfl) de_str)
  (dss_one (ds_ret (de_join de_str (de_list rfl sc__law_text.nd (di_rng1 (by rfl) M.b_range (dr_cons (de_callW C__law_of hr (by rfl) fnW_len (pv 0) (dv_cons (de_lst (da_cons de_int (da_cons de_int (da_cons de_int (da_cons de_int (da_cons de_int (da_cons de_int da_nil))))))) dv_nil)) dr_nil)) (own := [("turn", 2)]) (blkOk_by (by kernel_rfl)) (fun _ _ _ _ _ => (dg_name (i := 2) sc__law_text.nd rfl (.inl rfl))) (fun _ _ _ _ _ => dts_nil) (fun _ _ _ _ _ => (de_callW C__law_of hr (by rfl) fnW_len (pv 0) (dv_cons (de_var (pv 1)) dv_nil))))))))
theorem o__law_text {a : Addr} {fd : FuncData} (F : Fun K "_law_text" "_law_text" s__law_text a fd) (gm : mg "_law_text" = some (.ref a)) (M : Mods mg) (C__law_of : OwnF P w K mg base 3 "_law_of" "_law_of" s__law_of ["deal", "some"] (spW K 1 g__law_of)) : OwnF P w K mg base 4 "_law_text" "_law_text" s__law_text ["deal"] (spW K 0 g__law_text) :=
  ⟨a, fd, fn_deal (m := 2) F sc__law_text rfl rfl (d__law_text M C__law_of), gm, F, F.binds fun _ _ _ _ _ _ us hl => match us, hl with | [_], _ => rfl⟩
def l_rest : List Stmt := (defBody s_law).drop 1
theorem d_law {a : Addr} (M : Mods mg) (C__law_octet_row : OwnF P w K mg base 5 "_law_octet_row" "_law_octet_row" s__law_octet_row ["deal"] (spW K 0 g__law_octet_row)) (C__law_whole : OwnF P w K mg base 5 "_law_whole" "_law_whole" s__law_whole ["told"] (spP K 1 g__law_whole)) (C_sum_of_octets : OwnF P w K mg base 5 "sum_of_octets" "sum_of_octets" s_sum_of_octets ["octets"] (spP K 1 g_sum_of_octets)) (C__law_sum_of : OwnF P w K mg base 5 "_law_sum_of" "_law_sum_of" s__law_sum_of ["octets"] (spP K 1 g__law_sum_of)) (C__law_any : OwnF P w K mg base 5 "_law_any" "_law_any" s__law_any ["deal", "bound"] (spW K 1 g__law_any)) (C__law_text : OwnF P w K mg base 5 "_law_text" "_law_text" s__law_text ["deal"] (spW K 0 g__law_text)) (C__law_tuple : OwnF P w K mg base 5 "_law_tuple" "_law_tuple" s__law_tuple ["told"] (spP K 1 g__law_tuple)) (C_text_octets : OwnF P w K mg base 5 "text_octets" "text_octets" s_text_octets ["text"] (spP K 1 g_text_octets)) (C__law_text_octets : OwnF P w K mg base 5 "_law_text_octets" "_law_text_octets" s__law_text_octets ["text"] (spP K 1 g__law_text_octets)) (C_read_text : OwnF P w K mg base 5 "read_text" "read_text" s_read_text ["octets", "at"] (spP K 2 g_read_text)) (C__law_figures : OwnF P w K mg base 5 "_law_figures" "_law_figures" s__law_figures ["number"] (spP K 1 g__law_figures)) (C__law_all : OwnF P w K mg base 5 "_law_all" "_law_all" s__law_all ["pairs"] (spP K 1 g__law_all)) : ∀ (cdv : Value) (A : Around) (outer : List Env) (s : Shared) (H : Hp) (E : XK), Room 5 (A.deeper (envOfC "law" (defScope s_law) s.heap.objs.size a cdv)) → DSs (cxOf CX0 P w K mg base ["script", "deal", "pairs", "turn", "one", "other", "mine", "theirs", "again", "at", "octet", "text", "late", "octets", "more", "row", "odd"] "law" (defScope s_law) a cdv A outer s H E).nox ((defBody s_law).drop 1) h_law := by
  intro cdv A outer s H E hr
  exact (dss_cons (ds_for PassesOwn.never rfl (di_rng1 (by rfl) M.b_range (dr_cons de_int dr_nil)) (dg_name (i := 3) sc_law.nd rfl (.inl rfl)) (dss_cons (ds_par (i := 4) (j := 5) rfl sc_law.nd rfl rfl (by decide) rfl rfl (de_callW C__law_octet_row hr (by rfl) fnW_len (pv 1) dv_nil) (de_callW C__law_octet_row hr (by rfl) fnW_len (pv 1) dv_nil) (by rfl))
  (dss_cons (ds_par (i := 6) (j := 7) rfl sc_law.nd rfl rfl (by decide) rfl rfl (de_call C__law_whole hr (by rfl) fnP_len (dv_cons (de_if (dt_cmp (o_gt (hu64 hr)) (de_var (pv 3)) de_int) (de_call C_sum_of_octets hr (by rfl) fnP_len (dv_cons (de_var (pv 4)) dv_nil)) (de_callK0 C_sum_of_octets hr (by rfl) fnP_len kw_sum_of_octets_0_0 (dw_cons (de_var (pv 4)) dw_nil))) dv_nil)) (de_call C__law_whole hr (by rfl) fnP_len (dv_cons (de_call C_sum_of_octets hr (by rfl) fnP_len (dv_cons (de_var (pv 5)) dv_nil)) dv_nil)) (by rfl))
  (dss_cons (ds_set sc_law.nd (i := 2) rfl (.inl rfl) (de_bin o_add (de_var (pv 2)) (de_lst (da_cons (de_tup (da_cons (de_var (pv 6)) (da_cons (de_call C__law_sum_of hr (by rfl) fnP_len (dv_cons (de_var (pv 4)) dv_nil)) da_nil))) (da_cons (de_tup (da_cons (de_call C_sum_of_octets hr (by rfl) fnP_len (dv_cons (de_bin o_add (de_var (pv 4)) (de_var (pv 5))) dv_nil)) (da_cons (de_bin o_mod (de_callTy c_int (by rfl) M.b_int boot_int (dr_cons (de_bin o_add (de_bin o_add (de_var (pv 6)) (de_var (pv 7))) (de_bin o_mul (de_callB c_len (by rfl) M.b_len boot_len (dr_cons (de_var (pv 4)) dr_nil)) (de_callB (c_sumA rfl) (by rfl) M.b_sum boot_sum (dr_cons (de_var (pv 5)) dr_nil)))) dr_nil)) de_int) da_nil))) da_nil)))))
  (dss_cons (ds_set sc_law.nd (i := 2) rfl (.inl rfl) (de_bin o_add (de_var (pv 2)) (de_lst (da_cons (de_tup (da_cons (de_call C_sum_of_octets hr (by rfl) fnP_len (dv_cons (de_bin o_add (de_var (pv 5)) (de_var (pv 4))) dv_nil)) (da_cons (de_bin o_mod (de_callTy c_int (by rfl) M.b_int boot_int (dr_cons (de_bin o_add (de_bin o_add (de_var (pv 6)) (de_var (pv 7))) (de_bin o_mul (de_callB c_len (by rfl) M.b_len boot_len (dr_cons (de_var (pv 5)) dr_nil)) (de_callB (c_sumA rfl) (by rfl) M.b_sum boot_sum (dr_cons (de_var (pv 4)) dr_nil)))) dr_nil)) de_int) da_nil))) da_nil))))
  (dss_cons (ds_append (pv 2) (de_tup (da_cons (de_call C_sum_of_octets hr (by rfl) fnP_len (dv_cons (de_back (de_var (pv 4))) dv_nil)) (da_cons (de_bin o_mod (de_callTy c_int (by rfl) M.b_int boot_int (dr_cons (de_bin o_sub (de_bin o_mul (de_bin o_add (de_callB c_len (by rfl) M.b_len boot_len (dr_cons (de_var (pv 4)) dr_nil)) de_int) (de_callB (c_sumA rfl) (by rfl) M.b_sum boot_sum (dr_cons (de_var (pv 4)) dr_nil))) (de_var (pv 6))) dr_nil)) de_int) da_nil))))
  (dss_cons (ds_for PassesOwn.never rfl (di_rng1 (by rfl) M.b_range (dr_cons (de_if (dt_cmp (o_gt (hu64 hr)) (de_callB c_len (by rfl) M.b_len boot_len (dr_cons (de_var (pv 4)) dr_nil)) de_int) de_int de_int) dr_nil)) (dg_name (i := 8) sc_law.nd rfl (.inl rfl)) (dss_cons (ds_par (i := 9) (j := 10) rfl sc_law.nd rfl rfl (by decide) rfl rfl (de_callW C__law_any hr (by rfl) fnW_len (pv 1) (dv_cons (de_callB c_len (by rfl) M.b_len boot_len (dr_cons (de_var (pv 4)) dr_nil)) dv_nil)) (de_callW C__law_any hr (by rfl) fnW_len (pv 1) (dv_cons de_int dv_nil)) (by rfl))
  (dss_cons (ds_append (pv 2) (de_tup (da_cons (de_call C_sum_of_octets hr (by rfl) fnP_len (dv_cons (de_bin o_add (de_bin o_add (de_cut (de_var (pv 4)) do_no (do_of (de_var (pv 9)))) (de_tup (da_cons (de_var (pv 10)) da_nil))) (de_cut (de_var (pv 4)) (do_of (de_bin o_add (de_var (pv 9)) de_int)) do_no)) dv_nil)) (da_cons (de_bin o_mod (de_callTy c_int (by rfl) M.b_int boot_int (dr_cons (de_bin o_add (de_var (pv 6)) (de_bin o_mul (de_bin o_add (de_var (pv 9)) de_int) (de_bin o_sub (de_var (pv 10)) (de_ix (de_var (pv 4)) (de_var (pv 9)))))) dr_nil)) de_int) da_nil))))
  (dss_cons (ds_set sc_law.nd (i := 9) rfl (.inl rfl) (de_callW C__law_any hr (by rfl) fnW_len (pv 1) (dv_cons (de_bin o_sub (de_callB c_len (by rfl) M.b_len boot_len (dr_cons (de_var (pv 4)) dr_nil)) de_int) dv_nil)))
  (dss_one (ds_append (pv 2) (de_tup (da_cons (de_call C_sum_of_octets hr (by rfl) fnP_len (dv_cons (de_bin o_add (de_bin o_add (de_cut (de_var (pv 4)) do_no (do_of (de_var (pv 9)))) (de_tup (da_cons (de_ix (de_var (pv 4)) (de_bin o_add (de_var (pv 9)) de_int)) (da_cons (de_ix (de_var (pv 4)) (de_var (pv 9))) da_nil)))) (de_cut (de_var (pv 4)) (do_of (de_bin o_add (de_var (pv 9)) de_int)) do_no)) dv_nil)) (da_cons (de_bin o_mod (de_callTy c_int (by rfl) M.b_int boot_int (dr_cons (de_bin o_sub (de_bin o_add (de_var (pv 6)) (de_ix (de_var (pv 4)) (de_var (pv 9)))) (de_ix (de_var (pv 4)) (de_bin o_add (de_var (pv 9)) de_int))) dr_nil)) de_int) da_nil)))))))))
  (dss_cons (ds_par (i := 11) (j := 12) rfl sc_law.nd rfl rfl (by decide) rfl rfl (de_callW C__law_text hr (by rfl) fnW_len (pv 1) dv_nil) (de_callW C__law_text hr (by rfl) fnW_len (pv 1) dv_nil) (by rfl))
  (dss_cons (ds_par (i := 13) (j := 14) rfl sc_law.nd rfl rfl (by decide) rfl rfl (de_call C__law_tuple hr (by rfl) fnP_len (dv_cons (de_if (dt_cmp (o_gt (hu64 hr)) (de_var (pv 3)) de_int) (de_call C_text_octets hr (by rfl) fnP_len (dv_cons (de_var (pv 11)) dv_nil)) (de_callK0 C_text_octets hr (by rfl) fnP_len kw_text_octets_0_0 (dw_cons (de_var (pv 11)) dw_nil))) dv_nil)) (de_call C__law_tuple hr (by rfl) fnP_len (dv_cons (de_call C_text_octets hr (by rfl) fnP_len (dv_cons (de_var (pv 12)) dv_nil)) dv_nil)) (by rfl))
  (dss_cons (ds_set sc_law.nd (i := 2) rfl (.inl rfl) (de_bin o_add (de_var (pv 2)) (de_lst (da_cons (de_tup (da_cons (de_var (pv 13)) (da_cons (de_call C__law_text_octets hr (by rfl) fnP_len (dv_cons (de_var (pv 11)) dv_nil)) da_nil))) (da_cons (de_tup (da_cons (de_var (pv 14)) (da_cons (de_call C__law_text_octets hr (by rfl) fnP_len (dv_cons (de_var (pv 12)) dv_nil)) da_nil))) da_nil)))))
  (dss_cons (ds_set sc_law.nd (i := 15) rfl (.inl rfl) (de_bin o_add (de_var (pv 13)) (de_var (pv 14))))
  (dss_cons (ds_set sc_law.nd (i := 2) rfl (.inl rfl) (de_bin o_add (de_var (pv 2)) (de_lst (da_cons (de_tup (da_cons (de_if (dt_cmp (o_gt (hu64 hr)) (de_var (pv 3)) de_int) (de_call C_read_text hr (by rfl) fnP_len (dv_cons (de_var (pv 15)) (dv_cons de_int dv_nil))) (de_callK0 C_read_text hr (by rfl) fnP_len kw_read_text_1_0_0 (dw_cons de_int (dw_cons (de_var (pv 15)) dw_nil)))) (da_cons (de_tup (da_cons (de_var (pv 11)) (da_cons (de_callB c_len (by rfl) M.b_len boot_len (dr_cons (de_var (pv 13)) dr_nil)) da_nil))) da_nil))) da_nil))))
  (dss_cons (ds_set sc_law.nd (i := 2) rfl (.inl rfl) (de_bin o_add (de_var (pv 2)) (de_lst (da_cons (de_tup (da_cons (de_call C_read_text hr (by rfl) fnP_len (dv_cons (de_var (pv 15)) (dv_cons (de_callB c_len (by rfl) M.b_len boot_len (dr_cons (de_var (pv 13)) dr_nil)) dv_nil))) (da_cons (de_tup (da_cons (de_var (pv 12)) (da_cons (de_callB c_len (by rfl) M.b_len boot_len (dr_cons (de_var (pv 15)) dr_nil)) da_nil))) da_nil))) (da_cons (de_tup (da_cons (de_call C_read_text hr (by rfl) fnP_len (dv_cons (de_var (pv 15)) (dv_cons (de_callB c_len (by rfl) M.b_len boot_len (dr_cons (de_var (pv 15)) dr_nil)) dv_nil))) (da_cons de_non da_nil))) (da_cons (de_tup (da_cons (de_call C_read_text hr (by rfl) fnP_len (dv_cons (de_var (pv 15)) (dv_cons (de_bin o_sub de_int de_int) dv_nil))) (da_cons de_non da_nil))) da_nil))))))
  (dss_cons (ds_append (pv 2) (de_tup (da_cons (de_call C_text_octets hr (by rfl) fnP_len (dv_cons (de_bin o_add (de_var (pv 11)) (de_var (pv 12))) dv_nil)) (da_cons (de_bin o_add (de_bin o_add (de_call C__law_figures hr (by rfl) fnP_len (dv_cons (de_callB c_len (by rfl) M.b_len boot_len (dr_cons (de_bin o_add (de_var (pv 11)) (de_var (pv 12))) dr_nil)) dv_nil)) (de_cut (de_var (pv 13)) (do_of (de_callB c_len (by rfl) M.b_len boot_len (dr_cons (de_call C__law_figures hr (by rfl) fnP_len (dv_cons (de_callB c_len (by rfl) M.b_len boot_len (dr_cons (de_var (pv 11)) dr_nil)) dv_nil)) dr_nil))) do_no)) (de_cut (de_var (pv 14)) (do_of (de_callB c_len (by rfl) M.b_len boot_len (dr_cons (de_call C__law_figures hr (by rfl) fnP_len (dv_cons (de_callB c_len (by rfl) M.b_len boot_len (dr_cons (de_var (pv 12)) dr_nil)) dv_nil)) dr_nil))) do_no)) da_nil))))
  (dss_one (ds_if (dt_cmp (o_gt (hu64 hr)) (de_callB c_len (by rfl) M.b_len boot_len (dr_cons (de_var (pv 11)) dr_nil)) de_int) (dss_cons (ds_set sc_law.nd (i := 9) rfl (.inl rfl) (de_bin o_add (de_callB c_len (by rfl) M.b_len boot_len (dr_cons (de_call C__law_figures hr (by rfl) fnP_len (dv_cons (de_callB c_len (by rfl) M.b_len boot_len (dr_cons (de_var (pv 11)) dr_nil)) dv_nil)) dr_nil)) (de_callW C__law_any hr (by rfl) fnW_len (pv 1) (dv_cons (de_callB c_len (by rfl) M.b_len boot_len (dr_cons (de_var (pv 11)) dr_nil)) dv_nil))))
  (dss_cons (ds_for PassesOwn.never rfl (di_seq (de_lst (da_cons de_int (da_cons de_int (da_cons de_int (da_cons de_int (da_cons de_int (da_cons de_int (da_cons de_int da_nil))))))))) (dg_name (i := 16) sc_law.nd rfl (.inl rfl)) (dss_one (ds_append (pv 2) (de_tup (da_cons (de_call C_read_text hr (by rfl) fnP_len (dv_cons (de_bin o_add (de_bin o_add (de_cut (de_var (pv 13)) do_no (do_of (de_var (pv 9)))) (de_tup (da_cons (de_var (pv 16)) da_nil))) (de_cut (de_var (pv 13)) (do_of (de_bin o_add (de_var (pv 9)) de_int)) do_no)) (dv_cons de_int dv_nil))) (da_cons de_non da_nil))))))
  (dss_cons (ds_set sc_law.nd (i := 2) rfl (.inl rfl) (de_bin o_add (de_var (pv 2)) (de_lst (da_cons (de_tup (da_cons (de_call C_read_text hr (by rfl) fnP_len (dv_cons (de_cut (de_var (pv 13)) do_no (do_of (de_neg de_int))) (dv_cons de_int dv_nil))) (da_cons de_non da_nil))) (da_cons (de_tup (da_cons (de_call C_read_text hr (by rfl) fnP_len (dv_cons (de_cut (de_var (pv 13)) do_no (do_of (de_var (pv 9)))) (dv_cons de_int dv_nil))) (da_cons de_non da_nil))) da_nil)))))
  (dss_one (ds_set sc_law.nd (i := 2) rfl (.inl rfl) (de_bin o_add (de_var (pv 2)) (de_lst (da_cons (de_tup (da_cons (de_call C_read_text hr (by rfl) fnP_len (dv_cons (de_bin o_add (de_call C__law_figures hr (by rfl) fnP_len (dv_cons (de_bin o_add (de_callB c_len (by rfl) M.b_len boot_len (dr_cons (de_var (pv 11)) dr_nil)) de_int) dv_nil)) (de_cut (de_var (pv 13)) (do_of (de_callB c_len (by rfl) M.b_len boot_len (dr_cons (de_call C__law_figures hr (by rfl) fnP_len (dv_cons (de_callB c_len (by rfl) M.b_len boot_len (dr_cons (de_var (pv 11)) dr_nil)) dv_nil)) dr_nil))) do_no)) (dv_cons de_int dv_nil))) (da_cons de_non da_nil))) da_nil)))))))) dss_nil))))))))))))))))
  (dss_cons (ds_set sc_law.nd (i := 2) rfl (.inl rfl) (de_bin o_add (de_var (pv 2)) (de_lst (da_cons (de_tup (da_cons (de_call C_sum_of_octets hr (by rfl) fnP_len (dv_cons (de_tup da_nil) dv_nil)) (da_cons de_int da_nil))) (da_cons (de_tup (da_cons (de_call C_sum_of_octets hr (by rfl) fnP_len (dv_cons (de_bin o_mulA (de_tup (da_cons de_int da_nil)) de_int) dv_nil)) (da_cons (de_bin o_mod (de_callTy c_int (by rfl) M.b_int boot_int (dr_cons (de_bin o_mul (de_bin o_mul de_int de_int) de_int) dr_nil)) de_int) da_nil))) (da_cons (de_tup (da_cons (de_call C_text_octets hr (by rfl) fnP_len (dv_cons de_str dv_nil)) (da_cons (de_tup (da_cons de_int da_nil)) da_nil))) da_nil))))))
  (dss_one (ds_ret (de_call C__law_all hr (by rfl) fnP_len (dv_cons (de_bin o_add (de_var (pv 2)) (de_lst (da_cons (de_tup (da_cons (de_call C_read_text hr (by rfl) fnP_len (dv_cons (de_tup (da_cons de_int (da_cons de_int da_nil))) (dv_cons de_int dv_nil))) (da_cons (de_tup (da_cons de_str (da_cons de_int da_nil))) da_nil))) (da_cons (de_tup (da_cons (de_call C_read_text hr (by rfl) fnP_len (dv_cons (de_tup (da_cons de_int (da_cons de_int da_nil))) (dv_cons de_int dv_nil))) (da_cons (de_tup (da_cons de_str (da_cons de_int da_nil))) da_nil))) da_nil)))) dv_nil))))))
abbrev l_s0 : Stmt := (defBody s_law).headD (.Pass ⟨0, 0, 0, 0⟩)
def LawSays : Prop := ∀ ns : List Int, ns.length ≤ 63 → ∃ δ ρ' δ', dealOf g__law_deal 7935 ns = some δ ∧ h_law (.un :: .dl :: .ow (.lst []) :: List.replicate 14 .un) δ = some (.rt (.bl true) .sh, ρ', δ')
theorem o_law {a : Addr} {fd : FuncData} (F : Fun K "law" "law" s_law a fd) (M : Mods mg) (C__law_octet_row : OwnF P w K mg base 5 "_law_octet_row" "_law_octet_row" s__law_octet_row ["deal"] (spW K 0 g__law_octet_row)) (C__law_whole : OwnF P w K mg base 5 "_law_whole" "_law_whole" s__law_whole ["told"] (spP K 1 g__law_whole)) (C_sum_of_octets : OwnF P w K mg base 5 "sum_of_octets" "sum_of_octets" s_sum_of_octets ["octets"] (spP K 1 g_sum_of_octets)) (C__law_sum_of : OwnF P w K mg base 5 "_law_sum_of" "_law_sum_of" s__law_sum_of ["octets"] (spP K 1 g__law_sum_of)) (C__law_any : OwnF P w K mg base 5 "_law_any" "_law_any" s__law_any ["deal", "bound"] (spW K 1 g__law_any)) (C__law_text : OwnF P w K mg base 5 "_law_text" "_law_text" s__law_text ["deal"] (spW K 0 g__law_text)) (C__law_tuple : OwnF P w K mg base 5 "_law_tuple" "_law_tuple" s__law_tuple ["told"] (spP K 1 g__law_tuple)) (C_text_octets : OwnF P w K mg base 5 "text_octets" "text_octets" s_text_octets ["text"] (spP K 1 g_text_octets)) (C__law_text_octets : OwnF P w K mg base 5 "_law_text_octets" "_law_text_octets" s__law_text_octets ["text"] (spP K 1 g__law_text_octets)) (C_read_text : OwnF P w K mg base 5 "read_text" "read_text" s_read_text ["octets", "at"] (spP K 2 g_read_text)) (C__law_figures : OwnF P w K mg base 5 "_law_figures" "_law_figures" s__law_figures ["number"] (spP K 1 g__law_figures)) (C__law_all : OwnF P w K mg base 5 "_law_all" "_law_all" s__law_all ["pairs"] (spP K 1 g__law_all)) (C__law_deal : OwnF P w K mg base 5 "_law_deal" "_law_deal" s__law_deal ["script", "salt"] (spP K 2 g__law_deal)) (law : LawSays) : FnOk P w K mg base CX0 6 a fd ["script"] (spL K) := by
  refine fn_law (salt := 7935) (gf := g__law_deal) (m := 14) (s0 := l_s0) (rest := (defBody s_law).drop 1) F sc_law rfl rfl (fun cdv A outer s H E hr => ⟨?_, d_law M C__law_octet_row C__law_whole C_sum_of_octets C__law_sum_of C__law_any C__law_text C__law_tuple C_text_octets C__law_text_octets C_read_text C__law_figures C__law_all cdv A outer s H E hr⟩) law
  obtain ⟨fD, fdD, Fk, hm, FnD, hbD⟩ := C__law_deal.ex
  exact ps_par (i := 1) (j := 2) rfl sc_law.nd rfl rfl (by decide) rfl rfl (pa_cons (pe_call Fk hr (by rfl) hm FnD.kp hbD .nil pass0 (pa_cons (pv 0) (pa_cons pe_int pa_nil))) (pa_cons (pe_lst pa_nil) pa_nil)) (by rfl)
end
theorem all_mk {l : PySem.W.OpenLaw} {w : World} {K : PySem.W.Frag} {h : Heap} {mg : Str → Option Value} {fa : Addr} (X : K.In h) (G : h.Ns mainGlobals mg) (hfa : mg "law" = some (.ref fa))
    {f0 : Addr} {od0 an0 : Option Addr} {sl0 : Array (Option Value)} {oc0 kV0 dc0 pm0 cd0 ct0 : Value}
    {f1 : Addr} {od1 an1 : Option Addr} {sl1 : Array (Option Value)} {oc1 kV1 dc1 pm1 cd1 ct1 : Value}
    {f2 : Addr} {od2 an2 : Option Addr} {sl2 : Array (Option Value)} {oc2 kV2 dc2 pm2 cd2 ct2 : Value}
    {f3 : Addr} {od3 an3 : Option Addr} {sl3 : Array (Option Value)} {oc3 kV3 dc3 pm3 cd3 ct3 : Value}
    {f4 : Addr} {od4 an4 : Option Addr} {sl4 : Array (Option Value)} {oc4 kV4 dc4 pm4 cd4 ct4 : Value}
    {f5 : Addr} {od5 an5 : Option Addr} {sl5 : Array (Option Value)} {oc5 kV5 dc5 pm5 cd5 ct5 : Value}
    {f6 : Addr} {od6 an6 : Option Addr} {sl6 : Array (Option Value)} {oc6 kV6 dc6 pm6 cd6 ct6 : Value}
    {f7 : Addr} {od7 an7 : Option Addr} {sl7 : Array (Option Value)} {oc7 kV7 dc7 pm7 cd7 ct7 : Value}
    {f8 : Addr} {od8 an8 : Option Addr} {sl8 : Array (Option Value)} {oc8 kV8 dc8 pm8 cd8 ct8 : Value}
    {f9 : Addr} {od9 an9 : Option Addr} {sl9 : Array (Option Value)} {oc9 kV9 dc9 pm9 cd9 ct9 : Value}
    {f10 : Addr} {od10 an10 : Option Addr} {sl10 : Array (Option Value)} {oc10 kV10 dc10 pm10 cd10 ct10 : Value}
    {f11 : Addr} {od11 an11 : Option Addr} {sl11 : Array (Option Value)} {oc11 kV11 dc11 pm11 cd11 ct11 : Value}
    {f12 : Addr} {od12 an12 : Option Addr} {sl12 : Array (Option Value)} {oc12 kV12 dc12 pm12 cd12 ct12 : Value}
    {f13 : Addr} {od13 an13 : Option Addr} {sl13 : Array (Option Value)} {oc13 kV13 dc13 pm13 cd13 ct13 : Value}
    {f14 : Addr} {od14 an14 : Option Addr} {sl14 : Array (Option Value)} {oc14 kV14 dc14 pm14 cd14 ct14 : Value}
    {f15 : Addr} {od15 an15 : Option Addr} {sl15 : Array (Option Value)} {oc15 kV15 dc15 pm15 cd15 ct15 : Value}
    {f16 : Addr} {od16 an16 : Option Addr} {sl16 : Array (Option Value)} {oc16 kV16 dc16 pm16 cd16 ct16 : Value}
    {f17 : Addr} {od17 an17 : Option Addr} {sl17 : Array (Option Value)} {oc17 kV17 dc17 pm17 cd17 ct17 : Value}
    {f18 : Addr} {od18 an18 : Option Addr} {sl18 : Array (Option Value)} {oc18 kV18 dc18 pm18 cd18 ct18 : Value}
    {f19 : Addr} {od19 an19 : Option Addr} {sl19 : Array (Option Value)} {oc19 kV19 dc19 pm19 cd19 ct19 : Value}
    {f20 : Addr} {od20 an20 : Option Addr} {sl20 : Array (Option Value)} {oc20 kV20 dc20 pm20 cd20 ct20 : Value}
    {f21 : Addr} {od21 an21 : Option Addr} {sl21 : Array (Option Value)} {oc21 kV21 dc21 pm21 cd21 ct21 : Value}
    {f22 : Addr} {od22 an22 : Option Addr} {sl22 : Array (Option Value)} {oc22 kV22 dc22 pm22 cd22 ct22 : Value}
    {f23 : Addr} {od23 an23 : Option Addr} {sl23 : Array (Option Value)} {oc23 kV23 dc23 pm23 cd23 ct23 : Value}
    {t_BASE : Tok}
    {t_NEWLINE : Tok}
    {t_BLANK : Tok}
    {t_PERCENT : Tok}
    {t_SIGNS : Tok}
    {t_PRIME : Tok}
    (a0 : PySem.W.nsIn K mainGlobals "octets_of_number" = some (some (.ref f0))) (l0 : K.lookup f0 = some ⟨oc0, od0, .func (PySem.W.fnOf "octets_of_number" "octets_of_number" (defArgs s_octets_of_number) (defBody s_octets_of_number) (defScope s_octets_of_number) .none kV0 dc0 pm0 an0 cd0 ct0), sl0⟩) (c0 : PySem.W.codeIn K cd0 "octets_of_number" = true) (k0 : PySem.W.keepIn K (.ref f0) = true)
    (a1 : PySem.W.nsIn K mainGlobals "octets_of_text" = some (some (.ref f1))) (l1 : K.lookup f1 = some ⟨oc1, od1, .func (PySem.W.fnOf "octets_of_text" "octets_of_text" (defArgs s_octets_of_text) (defBody s_octets_of_text) (defScope s_octets_of_text) .none kV1 dc1 pm1 an1 cd1 ct1), sl1⟩) (c1 : PySem.W.codeIn K cd1 "octets_of_text" = true) (k1 : PySem.W.keepIn K (.ref f1) = true)
    (a2 : PySem.W.nsIn K mainGlobals "number_of" = some (some (.ref f2))) (l2 : K.lookup f2 = some ⟨oc2, od2, .func (PySem.W.fnOf "number_of" "number_of" (defArgs s_number_of) (defBody s_number_of) (defScope s_number_of) .none kV2 dc2 pm2 an2 cd2 ct2), sl2⟩) (c2 : PySem.W.codeIn K cd2 "number_of" = true) (k2 : PySem.W.keepIn K (.ref f2) = true)
    (a3 : PySem.W.nsIn K mainGlobals "behind_number" = some (some (.ref f3))) (l3 : K.lookup f3 = some ⟨oc3, od3, .func (PySem.W.fnOf "behind_number" "behind_number" (defArgs s_behind_number) (defBody s_behind_number) (defScope s_behind_number) .none kV3 dc3 pm3 an3 cd3 ct3), sl3⟩) (c3 : PySem.W.codeIn K cd3 "behind_number" = true) (k3 : PySem.W.keepIn K (.ref f3) = true)
    (a4 : PySem.W.nsIn K mainGlobals "number_in" = some (some (.ref f4))) (l4 : K.lookup f4 = some ⟨oc4, od4, .func (PySem.W.fnOf "number_in" "number_in" (defArgs s_number_in) (defBody s_number_in) (defScope s_number_in) .none kV4 dc4 pm4 an4 cd4 ct4), sl4⟩) (c4 : PySem.W.codeIn K cd4 "number_in" = true) (k4 : PySem.W.keepIn K (.ref f4) = true)
    (a5 : PySem.W.nsIn K mainGlobals "sign_of" = some (some (.ref f5))) (l5 : K.lookup f5 = some ⟨oc5, od5, .func (PySem.W.fnOf "sign_of" "sign_of" (defArgs s_sign_of) (defBody s_sign_of) (defScope s_sign_of) .none kV5 dc5 pm5 an5 cd5 ct5), sl5⟩) (c5 : PySem.W.codeIn K cd5 "sign_of" = true) (k5 : PySem.W.keepIn K (.ref f5) = true)
    (a6 : PySem.W.nsIn K mainGlobals "text_in" = some (some (.ref f6))) (l6 : K.lookup f6 = some ⟨oc6, od6, .func (PySem.W.fnOf "text_in" "text_in" (defArgs s_text_in) (defBody s_text_in) (defScope s_text_in) .none kV6 dc6 pm6 an6 cd6 ct6), sl6⟩) (c6 : PySem.W.codeIn K cd6 "text_in" = true) (k6 : PySem.W.keepIn K (.ref f6) = true)
    (a7 : PySem.W.nsIn K mainGlobals "text_octets" = some (some (.ref f7))) (l7 : K.lookup f7 = some ⟨oc7, od7, .func (PySem.W.fnOf "text_octets" "text_octets" (defArgs s_text_octets) (defBody s_text_octets) (defScope s_text_octets) .none kV7 dc7 pm7 an7 cd7 ct7), sl7⟩) (c7 : PySem.W.codeIn K cd7 "text_octets" = true) (k7 : PySem.W.keepIn K (.ref f7) = true)
    (a8 : PySem.W.nsIn K mainGlobals "read_text" = some (some (.ref f8))) (l8 : K.lookup f8 = some ⟨oc8, od8, .func (PySem.W.fnOf "read_text" "read_text" (defArgs s_read_text) (defBody s_read_text) (defScope s_read_text) .none kV8 dc8 pm8 an8 cd8 ct8), sl8⟩) (c8 : PySem.W.codeIn K cd8 "read_text" = true) (k8 : PySem.W.keepIn K (.ref f8) = true)
    (a9 : PySem.W.nsIn K mainGlobals "sum_of_octets" = some (some (.ref f9))) (l9 : K.lookup f9 = some ⟨oc9, od9, .func (PySem.W.fnOf "sum_of_octets" "sum_of_octets" (defArgs s_sum_of_octets) (defBody s_sum_of_octets) (defScope s_sum_of_octets) .none kV9 dc9 pm9 an9 cd9 ct9), sl9⟩) (c9 : PySem.W.codeIn K cd9 "sum_of_octets" = true) (k9 : PySem.W.keepIn K (.ref f9) = true)
    (a10 : PySem.W.nsIn K mainGlobals "_law_deal" = some (some (.ref f10))) (l10 : K.lookup f10 = some ⟨oc10, od10, .func (PySem.W.fnOf "_law_deal" "_law_deal" (defArgs s__law_deal) (defBody s__law_deal) (defScope s__law_deal) .none kV10 dc10 pm10 an10 cd10 ct10), sl10⟩) (c10 : PySem.W.codeIn K cd10 "_law_deal" = true) (k10 : PySem.W.keepIn K (.ref f10) = true)
    (a11 : PySem.W.nsIn K mainGlobals "_law_any" = some (some (.ref f11))) (l11 : K.lookup f11 = some ⟨oc11, od11, .func (PySem.W.fnOf "_law_any" "_law_any" (defArgs s__law_any) (defBody s__law_any) (defScope s__law_any) .none kV11 dc11 pm11 an11 cd11 ct11), sl11⟩) (c11 : PySem.W.codeIn K cd11 "_law_any" = true) (k11 : PySem.W.keepIn K (.ref f11) = true)
    (a12 : PySem.W.nsIn K mainGlobals "_law_of" = some (some (.ref f12))) (l12 : K.lookup f12 = some ⟨oc12, od12, .func (PySem.W.fnOf "_law_of" "_law_of" (defArgs s__law_of) (defBody s__law_of) (defScope s__law_of) .none kV12 dc12 pm12 an12 cd12 ct12), sl12⟩) (c12 : PySem.W.codeIn K cd12 "_law_of" = true) (k12 : PySem.W.keepIn K (.ref f12) = true)
    (a13 : PySem.W.nsIn K mainGlobals "_law_is_kind" = some (some (.ref f13))) (l13 : K.lookup f13 = some ⟨oc13, od13, .func (PySem.W.fnOf "_law_is_kind" "_law_is_kind" (defArgs s__law_is_kind) (defBody s__law_is_kind) (defScope s__law_is_kind) .none kV13 dc13 pm13 an13 cd13 ct13), sl13⟩) (c13 : PySem.W.codeIn K cd13 "_law_is_kind" = true) (k13 : PySem.W.keepIn K (.ref f13) = true)
    (a14 : PySem.W.nsIn K mainGlobals "_law_same" = some (some (.ref f14))) (l14 : K.lookup f14 = some ⟨oc14, od14, .func (PySem.W.fnOf "_law_same" "_law_same" (defArgs s__law_same) (defBody s__law_same) (defScope s__law_same) .none kV14 dc14 pm14 an14 cd14 ct14), sl14⟩) (c14 : PySem.W.codeIn K cd14 "_law_same" = true) (k14 : PySem.W.keepIn K (.ref f14) = true)
    (a15 : PySem.W.nsIn K mainGlobals "_law_all" = some (some (.ref f15))) (l15 : K.lookup f15 = some ⟨oc15, od15, .func (PySem.W.fnOf "_law_all" "_law_all" (defArgs s__law_all) (defBody s__law_all) (defScope s__law_all) .none kV15 dc15 pm15 an15 cd15 ct15), sl15⟩) (c15 : PySem.W.codeIn K cd15 "_law_all" = true) (k15 : PySem.W.keepIn K (.ref f15) = true)
    (a16 : PySem.W.nsIn K mainGlobals "_law_tuple" = some (some (.ref f16))) (l16 : K.lookup f16 = some ⟨oc16, od16, .func (PySem.W.fnOf "_law_tuple" "_law_tuple" (defArgs s__law_tuple) (defBody s__law_tuple) (defScope s__law_tuple) .none kV16 dc16 pm16 an16 cd16 ct16), sl16⟩) (c16 : PySem.W.codeIn K cd16 "_law_tuple" = true) (k16 : PySem.W.keepIn K (.ref f16) = true)
    (a17 : PySem.W.nsIn K mainGlobals "_law_whole" = some (some (.ref f17))) (l17 : K.lookup f17 = some ⟨oc17, od17, .func (PySem.W.fnOf "_law_whole" "_law_whole" (defArgs s__law_whole) (defBody s__law_whole) (defScope s__law_whole) .none kV17 dc17 pm17 an17 cd17 ct17), sl17⟩) (c17 : PySem.W.codeIn K cd17 "_law_whole" = true) (k17 : PySem.W.keepIn K (.ref f17) = true)
    (a18 : PySem.W.nsIn K mainGlobals "_law_figures" = some (some (.ref f18))) (l18 : K.lookup f18 = some ⟨oc18, od18, .func (PySem.W.fnOf "_law_figures" "_law_figures" (defArgs s__law_figures) (defBody s__law_figures) (defScope s__law_figures) .none kV18 dc18 pm18 an18 cd18 ct18), sl18⟩) (c18 : PySem.W.codeIn K cd18 "_law_figures" = true) (k18 : PySem.W.keepIn K (.ref f18) = true)
    (a19 : PySem.W.nsIn K mainGlobals "_law_text_octets" = some (some (.ref f19))) (l19 : K.lookup f19 = some ⟨oc19, od19, .func (PySem.W.fnOf "_law_text_octets" "_law_text_octets" (defArgs s__law_text_octets) (defBody s__law_text_octets) (defScope s__law_text_octets) .none kV19 dc19 pm19 an19 cd19 ct19), sl19⟩) (c19 : PySem.W.codeIn K cd19 "_law_text_octets" = true) (k19 : PySem.W.keepIn K (.ref f19) = true)
    (a20 : PySem.W.nsIn K mainGlobals "_law_sum_of" = some (some (.ref f20))) (l20 : K.lookup f20 = some ⟨oc20, od20, .func (PySem.W.fnOf "_law_sum_of" "_law_sum_of" (defArgs s__law_sum_of) (defBody s__law_sum_of) (defScope s__law_sum_of) .none kV20 dc20 pm20 an20 cd20 ct20), sl20⟩) (c20 : PySem.W.codeIn K cd20 "_law_sum_of" = true) (k20 : PySem.W.keepIn K (.ref f20) = true)
    (a21 : PySem.W.nsIn K mainGlobals "_law_octet_row" = some (some (.ref f21))) (l21 : K.lookup f21 = some ⟨oc21, od21, .func (PySem.W.fnOf "_law_octet_row" "_law_octet_row" (defArgs s__law_octet_row) (defBody s__law_octet_row) (defScope s__law_octet_row) .none kV21 dc21 pm21 an21 cd21 ct21), sl21⟩) (c21 : PySem.W.codeIn K cd21 "_law_octet_row" = true) (k21 : PySem.W.keepIn K (.ref f21) = true)
    (a22 : PySem.W.nsIn K mainGlobals "_law_text" = some (some (.ref f22))) (l22 : K.lookup f22 = some ⟨oc22, od22, .func (PySem.W.fnOf "_law_text" "_law_text" (defArgs s__law_text) (defBody s__law_text) (defScope s__law_text) .none kV22 dc22 pm22 an22 cd22 ct22), sl22⟩) (c22 : PySem.W.codeIn K cd22 "_law_text" = true) (k22 : PySem.W.keepIn K (.ref f22) = true)
    (a23 : PySem.W.nsIn K mainGlobals "law" = some (some (.ref f23))) (l23 : K.lookup f23 = some ⟨oc23, od23, .func (PySem.W.fnOf "law" "law" (defArgs s_law) (defBody s_law) (defScope s_law) .none kV23 dc23 pm23 an23 cd23 ct23), sl23⟩) (c23 : PySem.W.codeIn K cd23 "law" = true) (k23 : PySem.W.keepIn K (.ref f23) = true)
    (z_abs : PySem.W.nsIn K mainGlobals "abs" = some none)
    (z_bool : PySem.W.nsIn K mainGlobals "bool" = some none)
    (z_dict : PySem.W.nsIn K mainGlobals "dict" = some none)
    (z_enumerate : PySem.W.nsIn K mainGlobals "enumerate" = some none)
    (z_int : PySem.W.nsIn K mainGlobals "int" = some none)
    (z_isinstance : PySem.W.nsIn K mainGlobals "isinstance" = some none)
    (z_len : PySem.W.nsIn K mainGlobals "len" = some none)
    (z_list : PySem.W.nsIn K mainGlobals "list" = some none)
    (z_ord : PySem.W.nsIn K mainGlobals "ord" = some none)
    (z_range : PySem.W.nsIn K mainGlobals "range" = some none)
    (z_str : PySem.W.nsIn K mainGlobals "str" = some none)
    (z_sum : PySem.W.nsIn K mainGlobals "sum" = some none)
    (z_tuple : PySem.W.nsIn K mainGlobals "tuple" = some none)
    (z_zip : PySem.W.nsIn K mainGlobals "zip" = some none)
    (n_BASE : PySem.W.nsIn K mainGlobals "BASE" = some (some (.int 128 t_BASE)))
    (n_NEWLINE : PySem.W.nsIn K mainGlobals "NEWLINE" = some (some (.int 10 t_NEWLINE)))
    (n_BLANK : PySem.W.nsIn K mainGlobals "BLANK" = some (some (.int 32 t_BLANK)))
    (n_PERCENT : PySem.W.nsIn K mainGlobals "PERCENT" = some (some (.int 37 t_PERCENT)))
    (n_SIGNS : PySem.W.nsIn K mainGlobals "SIGNS" = some (some (.str " !\"#$\x0a&'()*+,-./0123456789:;<=>?@ABCDEFGHIJKLMNOPQRSTUVWXYZ[\\]^_`abcdefghijklmnopqrstuvwxyz{|}~" t_SIGNS)))
    (n_PRIME : PySem.W.nsIn K mainGlobals "PRIME" = some (some (.int 65521 t_PRIME)))
    (law : LawSays) : ∃ fd : FuncData, (∀ (s : Shared) (v : Value), BindsTo s fd ⟨[v], []⟩ [("script", v)]) ∧ ∀ base : Heap, K.In base → base.Ns mainGlobals mg → FnOk l.prog w K mg base CX0 6 fa fd ["script"] (spL K) := by
  have e := hfa.symm.trans (PySem.W.mg_of X G a23)
  cases e
  have F0 := fun_mk (st := s_octets_of_number) l0 c0 k0
  have F1 := fun_mk (st := s_octets_of_text) l1 c1 k1
  have F2 := fun_mk (st := s_number_of) l2 c2 k2
  have F3 := fun_mk (st := s_behind_number) l3 c3 k3
  have F4 := fun_mk (st := s_number_in) l4 c4 k4
  have F5 := fun_mk (st := s_sign_of) l5 c5 k5
  have F6 := fun_mk (st := s_text_in) l6 c6 k6
  have F7 := fun_mk (st := s_text_octets) l7 c7 k7
  have F8 := fun_mk (st := s_read_text) l8 c8 k8
  have F9 := fun_mk (st := s_sum_of_octets) l9 c9 k9
  have F10 := fun_mk (st := s__law_deal) l10 c10 k10
  have F11 := fun_mk (st := s__law_any) l11 c11 k11
  have F12 := fun_mk (st := s__law_of) l12 c12 k12
  have F13 := fun_mk (st := s__law_is_kind) l13 c13 k13
  have F14 := fun_mk (st := s__law_same) l14 c14 k14
  have F15 := fun_mk (st := s__law_all) l15 c15 k15
  have F16 := fun_mk (st := s__law_tuple) l16 c16 k16
  have F17 := fun_mk (st := s__law_whole) l17 c17 k17
  have F18 := fun_mk (st := s__law_figures) l18 c18 k18
  have F19 := fun_mk (st := s__law_text_octets) l19 c19 k19
  have F20 := fun_mk (st := s__law_sum_of) l20 c20 k20
  have F21 := fun_mk (st := s__law_octet_row) l21 c21 k21
  have F22 := fun_mk (st := s__law_text) l22 c22 k22
  have F23 := fun_mk (st := s_law) l23 c23 k23
  have M : Mods mg := ⟨PySem.W.mg_none_of X G z_abs, PySem.W.mg_none_of X G z_bool, PySem.W.mg_none_of X G z_dict, PySem.W.mg_none_of X G z_enumerate, PySem.W.mg_none_of X G z_int, PySem.W.mg_none_of X G z_isinstance, PySem.W.mg_none_of X G z_len, PySem.W.mg_none_of X G z_list, PySem.W.mg_none_of X G z_ord, PySem.W.mg_none_of X G z_range, PySem.W.mg_none_of X G z_str, PySem.W.mg_none_of X G z_sum, PySem.W.mg_none_of X G z_tuple, PySem.W.mg_none_of X G z_zip, ⟨_, PySem.W.mg_of X G n_BASE⟩, ⟨_, PySem.W.mg_of X G n_NEWLINE⟩, ⟨_, PySem.W.mg_of X G n_BLANK⟩, ⟨_, PySem.W.mg_of X G n_PERCENT⟩, ⟨_, PySem.W.mg_of X G n_SIGNS⟩, ⟨_, PySem.W.mg_of X G n_PRIME⟩⟩
  refine ⟨PySem.W.fnOf "law" "law" (defArgs s_law) (defBody s_law) (defScope s_law) .none kV23 dc23 pm23 an23 cd23 ct23, fun s v => .of_eq rfl, fun base _ _ => ?_⟩
  have C0 := o_octets_of_number (P := l.prog) (w := w) (base := base) F0 (PySem.W.mg_of X G a0) M
  have C1 := o_octets_of_text (P := l.prog) (w := w) (base := base) F1 (PySem.W.mg_of X G a1) M (C0.mono (by decide))
  have C2 := o_number_of (P := l.prog) (w := w) (base := base) F2 (PySem.W.mg_of X G a2) M
  have C3 := o_behind_number (P := l.prog) (w := w) (base := base) F3 (PySem.W.mg_of X G a3) M
  have C4 := o_number_in (P := l.prog) (w := w) (base := base) F4 (PySem.W.mg_of X G a4) M (C3.mono (by decide)) (C2.mono (by decide))
  have C5 := o_sign_of (P := l.prog) (w := w) (base := base) F5 (PySem.W.mg_of X G a5) M
  have C6 := o_text_in (P := l.prog) (w := w) (base := base) F6 (PySem.W.mg_of X G a6) M (C4.mono (by decide)) (C5.mono (by decide))
  have C7 := o_text_octets (P := l.prog) (w := w) (base := base) F7 (PySem.W.mg_of X G a7) M (C1.mono (by decide))
  have C8 := o_read_text (P := l.prog) (w := w) (base := base) F8 (PySem.W.mg_of X G a8) M (C6.mono (by decide))
  have C9 := o_sum_of_octets (P := l.prog) (w := w) (base := base) F9 (PySem.W.mg_of X G a9) M
  have C10 := o__law_deal (P := l.prog) (w := w) (base := base) F10 (PySem.W.mg_of X G a10) M
  have C11 := o__law_any (P := l.prog) (w := w) (base := base) F11 (PySem.W.mg_of X G a11) M
  have C12 := o__law_of (P := l.prog) (w := w) (base := base) F12 (PySem.W.mg_of X G a12) M (C11.mono (by decide))
  have C13 := o__law_is_kind (P := l.prog) (w := w) (base := base) F13 (PySem.W.mg_of X G a13) M
  have C14 := o__law_same (P := l.prog) (w := w) (base := base) F14 (PySem.W.mg_of X G a14) M (C13.mono (by decide))
  have C15 := o__law_all (P := l.prog) (w := w) (base := base) F15 (PySem.W.mg_of X G a15) M (C14.mono (by decide))
  have C16 := o__law_tuple (P := l.prog) (w := w) (base := base) F16 (PySem.W.mg_of X G a16) M
  have C17 := o__law_whole (P := l.prog) (w := w) (base := base) F17 (PySem.W.mg_of X G a17) M
  have C18 := o__law_figures (P := l.prog) (w := w) (base := base) F18 (PySem.W.mg_of X G a18) M
  have C19 := o__law_text_octets (P := l.prog) (w := w) (base := base) F19 (PySem.W.mg_of X G a19) M (C18.mono (by decide))
  have C20 := o__law_sum_of (P := l.prog) (w := w) (base := base) F20 (PySem.W.mg_of X G a20) M
  have C21 := o__law_octet_row (P := l.prog) (w := w) (base := base) F21 (PySem.W.mg_of X G a21) M (C12.mono (by decide)) (C11.mono (by decide))
  have C22 := o__law_text (P := l.prog) (w := w) (base := base) F22 (PySem.W.mg_of X G a22) M (C12.mono (by decide))
  exact o_law F23 M (C21.mono (by decide)) (C17.mono (by decide)) (C9.mono (by decide)) (C20.mono (by decide)) (C11.mono (by decide)) (C22.mono (by decide)) (C16.mono (by decide)) (C7.mono (by decide)) (C19.mono (by decide)) (C8.mono (by decide)) (C18.mono (by decide)) (C15.mono (by decide)) (C10.mono (by decide)) law
end W35
/-! k35: numbers in octets: the mathematics. -/
namespace W35
open PySem PySem.Spec PyProof.Rows L2 DL
/-! ### digits -/
/-- a number's octets -/
def figs (n : Nat) : List Nat := if h : n < 128 then [n] else (n % 128 + 128) :: figs (n / 128)
termination_by n
decreasing_by omega
theorem figs_lt {n : Nat} (h : n < 128) : figs n = [n] := by
  rw [figs, dif_pos h]
theorem figs_ge {n : Nat} (h : ¬ n < 128) : figs n = (n % 128 + 128) :: figs (n / 128) := by
  rw [figs, dif_neg h]
/-- m digits -/
def pd : Nat → Nat → List Nat
  | _, 0 => []
  | n, m + 1 => n % 128 :: pd (n / 128) m
def cont : List Nat → List Nat
  | [] => []
  | [x] => [x]
  | x :: y :: r => (x + 128) :: cont (y :: r)
theorem pd_len (n m : Nat) : (pd n m).length = m := by
  induction m generalizing n with
  | zero => rfl
  | succ m ih => rw [pd, List.length_cons, ih]
/-- m is as many digits as n has -/
def ND (n m : Nat) : Prop := 1 ≤ m ∧ n < 128 ^ m ∧ (m = 1 ∨ 128 ^ (m - 1) ≤ n)
theorem figs_pd {n m : Nat} (h : ND n m) : figs n = cont (pd n m) := by
  obtain ⟨h1, h2, h3⟩ := h
  induction m generalizing n with
  | zero => omega
  | succ m ih =>
    cases m with
    | zero =>
      have : n < 128 := by simpa using h2
      rw [figs_lt this, pd, pd, Nat.mod_eq_of_lt this]
      rfl
    | succ m =>
      have h4 : 128 ^ (m + 1) ≤ n := by
        rcases h3 with h3 | h3
        · omega
        · exact h3
      have h5 : ¬ n < 128 := by
        have : 128 ^ 1 ≤ 128 ^ (m + 1) := Nat.pow_le_pow_right (by decide) (by omega)
        omega
      have e := ih (n := n / 128) (by omega) (by
        rw [Nat.pow_succ] at h2
        exact Nat.div_lt_of_lt_mul (by rw [Nat.mul_comm]; exact h2)) (by
        by_cases hm : m = 0
        · exact .inl (by omega)
        · refine .inr ?_
          rw [Nat.le_div_iff_mul_le (by decide)]
          have : 128 ^ (m + 1) = 128 ^ m * 128 := Nat.pow_succ ..
          have e2 : m + 1 - 1 = m := rfl
          rw [e2, ← this]
          exact h4)
      rw [figs_ge h5, e, pd]
      rfl
theorem nd_ex (n : Nat) : ∃ m, ND n m := by
  induction n using Nat.strongRecOn with
  | ind n ih =>
    by_cases h : n < 128
    · exact ⟨1, by decide, by simpa using h, .inl rfl⟩
    · obtain ⟨m, h1, h2, h3⟩ := ih (n / 128) (by omega)
      refine ⟨m + 1, by omega, ?_, .inr ?_⟩
      · rw [Nat.pow_succ]
        omega
      · show 128 ^ m ≤ n
        rcases h3 with rfl | h3
        · omega
        · have : 128 ^ m = 128 ^ (m - 1) * 128 := by
            rw [← Nat.pow_succ]
            congr 1
            omega
          omega
theorem cont_len (l : List Nat) : (cont l).length = l.length := by
  induction l with
  | nil => rfl
  | cons x l ih =>
    cases l with
    | nil => rfl
    | cons y r =>
      rw [cont, List.length_cons, ih]
      rfl
theorem figs_len {n m : Nat} (h : ND n m) : (figs n).length = m := by
  rw [figs_pd h, cont_len, pd_len]
theorem nd_small {n m k : Nat} (h : ND n m) (hk : n < 128 ^ k) (h1 : 1 ≤ k) : m ≤ k := by
  rcases h.2.2 with e | e
  · omega
  · by_cases hm : m ≤ k
    · exact hm
    · have : 128 ^ k ≤ 128 ^ (m - 1) := Nat.pow_le_pow_right (by decide) (by omega)
      omega
theorem figs_small {n k : Nat} (hk : n < 128 ^ k) (h1 : 1 ≤ k) : (figs n).length ≤ k := by
  obtain ⟨m, h⟩ := nd_ex n
  rw [figs_len h]
  exact nd_small h hk h1
theorem figs_ne (n : Nat) : figs n ≠ [] := by
  by_cases h : n < 128
  · rw [figs_lt h]; simp
  · rw [figs_ge h]; simp
/-- continued octets, the last one, which is not 0 where others are ahead -/
theorem figs_split (n : Nat) : ∃ mid x, figs n = mid.map (· + 128) ++ [x] ∧ (∀ y ∈ mid, y < 128) ∧ x < 128 ∧ (mid ≠ [] → x ≠ 0) ∧ pd n (mid.length + 1) = mid ++ [x] ∧ ND n (mid.length + 1) := by
  induction n using Nat.strongRecOn with
  | ind n ih =>
    by_cases h : n < 128
    · exact ⟨[], n, by rw [figs_lt h]; rfl, by simp, h, by simp, by simp [pd, Nat.mod_eq_of_lt h], by decide, by simpa using h, .inl rfl⟩
    · obtain ⟨mid, x, e, h1, h2, h3, h4, h5⟩ := ih (n / 128) (by omega)
      refine ⟨n % 128 :: mid, x, by rw [figs_ge h, e]; rfl, ?_, h2, fun _ => ?_, ?_, by simp, ?_, ?_⟩
      · intro y hy
        rcases List.mem_cons.mp hy with rfl | hy
        · omega
        · exact h1 y hy
      · by_cases hm : mid = []
        · subst hm
          have e' : figs (n / 128) = [x] := by simpa using e
          rw [figs] at e'
          by_cases hd : n / 128 < 128
          · rw [dif_pos hd] at e'
            have := List.head_eq_of_cons_eq e'
            omega
          · rw [dif_neg hd] at e'
            have := List.tail_eq_of_cons_eq e'
            exact absurd this (figs_ne _)
        · exact h3 hm
      · rw [List.length_cons, pd, h4]
        rfl
      · rw [List.length_cons, Nat.pow_succ]
        have := h5.2.1
        omega
      · refine .inr ?_
        rw [List.length_cons]
        show 128 ^ (mid.length + 1) ≤ n
        rcases h5.2.2 with e1 | e1
        · have : mid.length = 0 := by omega
          rw [this]
          omega
        · have e2 : mid.length + 1 - 1 = mid.length := rfl
          rw [e2] at e1
          rw [Nat.pow_succ]
          omega
theorem figs_drop {n at' : Nat} (h : at' < (figs n).length) : (figs n).drop at' = figs (n / 128 ^ at') := by
  induction at' generalizing n with
  | zero => simp
  | succ k ih =>
    by_cases hn : n < 128
    · rw [figs_lt hn] at h
      simp at h
    · rw [figs_ge hn] at h ⊢
      rw [List.drop_succ_cons, ih (by simpa using h), Nat.pow_succ, Nat.mul_comm, Nat.div_div_eq_div_mul]
/-- what digits are worth -/
def val (b : Nat) : List Nat → Nat
  | [] => 0
  | x :: r => x + b * val b r
theorem val_pd (n m : Nat) : val 128 (pd n m) = n % 128 ^ m := by
  induction m generalizing n with
  | zero => simp [pd, val, Nat.mod_one]
  | succ m ih =>
    rw [pd, val, ih, Nat.pow_succ, Nat.mul_comm (128 ^ m) 128, Nat.mod_mul]
theorem val_nd {n m : Nat} (h : ND n m) : val 128 (pd n m) = n := by
  rw [val_pd, Nat.mod_eq_of_lt h.2.1]
/-! ### octets of a number -/
def oD (l : List Nat) : List D := l.map fun (x : Nat) => D.int x
theorem oD_app (a b : List Nat) : oD (a ++ b) = oD a ++ oD b := List.map_append
theorem oD_len (a : List Nat) : (oD a).length = a.length := List.length_map ..
/-- the measure: octets to come -/
def toCome (i : Nat) (ρ : Rho) : Nat := match (ρ[i]? : Option SV) with | some (SV.sh (D.int z)) => (figs z.toNat).length | _ => 0
theorem figs_big {n : Nat} (h : n < 2 ^ 7000) : (figs n).length ≤ 1000 := figs_small (k := 1000) (Nat.lt_of_lt_of_le h (by
  have : (128 : Nat) ^ 1000 = 2 ^ 7000 := by rw [show (128 : Nat) = 2 ^ 7 from rfl, ← Nat.pow_mul]
  rw [this]
  exact Nat.le_refl _)) (by decide)
theorem octets_ok {n : Nat} (hn : n < 2 ^ 7000) : g_octets_of_number [.int n] = some (.tup (oD (figs n)), .sh) := by
  have hb := figs_big hn
  have w := whD_inv (c := wt_octets_of_number_1) (h := wb_octets_of_number_1) (n := turns) (ρ := [.sh (.int n), .ow (.lst []), .sh (.int n)]) (δ := ([], 0))
    (fun ρ δ => δ = ([], 0) ∧ ∃ (pre : List Nat) (k : Nat), ρ = [.sh (.int n), .ow (.lst (oD pre)), .sh (.int k)] ∧ pre ++ figs k = figs n) (fun ρ _ => toCome 2 ρ)
    (fun ρ δ => δ = ([], 0) ∧ ∃ (pre : List Nat) (k : Nat), ρ = [.sh (.int n), .ow (.lst (oD pre)), .sh (.int k)] ∧ pre ++ [k] = figs n) ?_ ⟨rfl, [], n, rfl, rfl⟩ (by
      show (figs (n : Int).toNat).length < turns
      exact Nat.lt_of_le_of_lt hb (by decide))
  · obtain ⟨ρ', δ', e, rfl, pre, k, rfl, hp⟩ := w
    have hl : (oD pre).length < sizeLine := by
      rw [oD_len]
      have := congrArg List.length hp
      rw [List.length_append] at this
      exact Nat.lt_of_lt_of_le (show pre.length < 1001 by omega) (by decide)
    have e2 : oD (figs n) = oD pre ++ [.int k] := by rw [← hp, oD_app]; rfl
    simp [g_octets_of_number, h_octets_of_number, e, hl, e2]
  · rintro ρ δ ⟨rfl, pre, k, rfl, hp⟩
    by_cases hk : k < 128
    · left
      refine ⟨_, ?_, rfl, pre, k, rfl, by rw [← hp, figs_lt hk]⟩
      have : ¬ (128 : Int) ≤ (k : Int) := by omega
      simp [wt_octets_of_number_1, this]
    · right
      have hl : (oD pre).length < sizeLine := by
        rw [oD_len]
        have := congrArg List.length hp
        rw [List.length_append] at this
        exact Nat.lt_of_lt_of_le (show pre.length < 1001 by omega) (by decide)
      have h1 : (128 : Int) ≤ (k : Int) := by omega
      have e1 : (128 : Int) + (k : Int) % 128 = ((k % 128 + 128 : Nat) : Int) := by omega
      have e2 : (k : Int) / 128 = ((k / 128 : Nat) : Int) := by omega
      have e3 : oD (pre ++ [k % 128 + 128]) = oD pre ++ [.int (128 + (k : Int) % 128)] := by rw [e1, oD_app]; rfl
      refine ⟨([], 0), [.sh (.int n), .ow (.lst (oD pre ++ [.int (128 + (k : Int) % 128)])), .sh (.int ((k : Int) / 128))], ([], 0), by simp [wt_octets_of_number_1, h1], ?_, ⟨rfl, pre ++ [k % 128 + 128], k / 128, by rw [e3, e2], ?_⟩, ?_⟩
      · simp [wb_octets_of_number_1, hl]
      · rw [← hp, figs_ge hk]
        simp
      · show (figs ((k : Int) / 128).toNat).length < (figs (k : Int).toNat).length
        rw [e2, Int.toNat_natCast, Int.toNat_natCast, figs_ge hk]
        simp
theorem figures_ok {n : Nat} (hn : n < 2 ^ 7000) : g__law_figures [.int n] = some (.tup (oD (figs n)), .sh) := by
  have hb := figs_big hn
  have w := whD_inv (c := wt__law_figures_1) (h := wb__law_figures_1) (n := turns) (ρ := [.sh (.int n), .ow (.lst []), .sh (.int n)]) (δ := ([], 0))
    (fun ρ δ => δ = ([], 0) ∧ ∃ (pre : List Nat) (k : Nat), ρ = [.sh (.int n), .ow (.lst (oD pre)), .sh (.int k)] ∧ pre ++ figs k = figs n) (fun ρ _ => toCome 2 ρ)
    (fun ρ δ => δ = ([], 0) ∧ ∃ (pre : List Nat) (k : Nat), ρ = [.sh (.int n), .ow (.lst (oD pre)), .sh (.int k)] ∧ pre ++ [k] = figs n) ?_ ⟨rfl, [], n, rfl, rfl⟩ (by
      show (figs (n : Int).toNat).length < turns
      exact Nat.lt_of_le_of_lt hb (by decide))
  · obtain ⟨ρ', δ', e, rfl, pre, k, rfl, hp⟩ := w
    have hl : (oD pre).length + 1 ≤ sizeLine := by
      rw [oD_len]
      have := congrArg List.length hp
      rw [List.length_append] at this
      exact Nat.le_of_lt (Nat.lt_of_lt_of_le (show pre.length + 1 < 1002 by omega) (by decide))
    have e2 : oD (figs n) = oD pre ++ [.int k] := by rw [← hp, oD_app]; rfl
    simp [g__law_figures, h__law_figures, e, hl, e2]
  · rintro ρ δ ⟨rfl, pre, k, rfl, hp⟩
    by_cases hk : k < 128
    · left
      refine ⟨_, ?_, rfl, pre, k, rfl, by rw [← hp, figs_lt hk]⟩
      have : ¬ (128 : Int) ≤ (k : Int) := by omega
      simp [wt__law_figures_1, this]
    · right
      have hl : (oD pre).length < sizeLine := by
        rw [oD_len]
        have := congrArg List.length hp
        rw [List.length_append] at this
        exact Nat.lt_of_lt_of_le (show pre.length < 1001 by omega) (by decide)
      have h1 : (128 : Int) ≤ (k : Int) := by omega
      have e1 : (128 : Int) + (k : Int) % 128 = ((k % 128 + 128 : Nat) : Int) := by omega
      have e2 : (k : Int) / 128 = ((k / 128 : Nat) : Int) := by omega
      have e3 : oD (pre ++ [k % 128 + 128]) = oD pre ++ [.int (128 + (k : Int) % 128)] := by rw [e1, oD_app]; rfl
      refine ⟨([], 0), [.sh (.int n), .ow (.lst (oD pre ++ [.int (128 + (k : Int) % 128)])), .sh (.int ((k : Int) / 128))], ([], 0), by simp [wt__law_figures_1, h1], ?_, ⟨rfl, pre ++ [k % 128 + 128], k / 128, by rw [e3, e2], ?_⟩, ?_⟩
      · simp [wb__law_figures_1, hl]
      · rw [← hp, figs_ge hk]
        simp
      · show (figs ((k : Int) / 128).toNat).length < (figs (k : Int).toNat).length
        rw [e2, Int.toNat_natCast, Int.toNat_natCast, figs_ge hk]
        simp
/-! ### reading -/
/-- where a number ends -/
theorem behind_neg {os : List D} {at' : Int} (h : at' < 0) : g_behind_number [.tup os, .int at'] = some (.non, .sh) := by
  simp [g_behind_number, h_behind_number, h]
theorem rng_cons (lo : Int) (n : Nat) : rng lo (n + 1) = .int lo :: rng (lo + 1) n := by
  unfold rng
  rw [List.range_succ_eq_map, List.map_cons, List.map_map]
  congr 1
  · simp
  · refine List.map_congr_left fun i _ => ?_
    show D.int (lo + ((i + 1 : Nat) : Int)) = D.int (lo + 1 + (i : Int))
    congr 1
    omega
theorem rng_nil (lo : Int) : rng lo 0 = [] := rfl
/-- the loop of behind_number over what is left of the octets -/
theorem behind_loop (pre rest : List Nat) (x : SV) : (∃ y, forD (bName 2) fb_behind_number_1 (rng (pre.length : Nat) rest.length) [.sh (.tup (oD (pre ++ rest))), .sh (.int at'), x] ([], 0) = match rest.findIdx? (· < 128) with
    | some i => some (.rt (.int ((pre.length + i + 1 : Nat) : Int)) .sh, [.sh (.tup (oD (pre ++ rest))), .sh (.int at'), y], ([], 0))
    | none => some (.nx, [.sh (.tup (oD (pre ++ rest))), .sh (.int at'), y], ([], 0))) := by
  induction rest generalizing pre x with
  | nil => exact ⟨x, rfl⟩
  | cons o rest ih =>
    have e0 : atD (oD (pre ++ o :: rest)) (pre.length : Nat) = some (.int o) := by
      rw [atD_nat]
      unfold oD
      rw [List.getElem?_map, List.getElem?_append_right (Nat.le_refl _), Nat.sub_self]
      rfl
    rw [List.length_cons, rng_cons, forD]
    simp only [bName_e, Option.bind_some]
    by_cases h : o < 128
    · have h' : (o : Int) < 128 := by omega
      refine ⟨.sh (.int (pre.length : Nat)), ?_⟩
      rw [List.findIdx?_cons, if_pos (by simpa using h)]
      simp [fb_behind_number_1, e0, h']
    · have h' : ¬ (o : Int) < 128 := by omega
      obtain ⟨y, e⟩ := ih (pre ++ [o]) (.sh (.int (pre.length : Nat)))
      refine ⟨y, ?_⟩
      have e1 : fb_behind_number_1 [.sh (.tup (oD (pre ++ o :: rest))), .sh (.int at'), .sh (.int (pre.length : Nat))] ([], 0) = some (.nx, [.sh (.tup (oD (pre ++ o :: rest))), .sh (.int at'), .sh (.int (pre.length : Nat))], ([], 0)) := by
        simp [fb_behind_number_1, e0, h']
      simp only [List.set_cons_succ, List.set_cons_zero]
      rw [e1]
      simp only [Option.bind_some]
      rw [List.append_assoc, List.length_append] at e
      have e2 : ((pre.length : Nat) : Int) + 1 = ((pre.length + [o].length : Nat) : Int) := by simp
      rw [e2]
      rw [show pre ++ o :: rest = pre ++ ([o] ++ rest) from rfl, e, List.findIdx?_cons, if_neg (by simpa using h)]
      cases rest.findIdx? (· < 128) with
      | none => rfl
      | some i =>
        simp
        omega
theorem behind_ok (pre rest : List Nat) (hl : (pre ++ rest).length ≤ 1000000) : g_behind_number [.tup (oD (pre ++ rest)), .int (pre.length : Nat)] = match rest.findIdx? (· < 128) with
    | some i => some (.int ((pre.length + i + 1 : Nat) : Int), .sh)
    | none => some (.non, .sh) := by
  obtain ⟨y, e⟩ := behind_loop (at' := (pre.length : Nat)) pre rest .un
  have hl' : pre.length + rest.length ≤ 1000000 := by rw [← List.length_append]; exact hl
  have h1 : (oD (pre ++ rest)).length = pre.length + rest.length := by rw [oD_len, List.length_append]
  have h2 : ((pre.length + rest.length : Nat) : Int) - (pre.length : Nat) = (rest.length : Nat) := by omega
  have h3 : -(2 ^ 62) ≤ ((pre.length : Nat) : Int) ∧ ((pre.length : Nat) : Int) < 2 ^ 62 ∧ -(2 ^ 62) ≤ ((pre.length + rest.length : Nat) : Int) ∧ ((pre.length + rest.length : Nat) : Int) < 2 ^ 62 := by omega
  have h4 : ¬ ((pre.length : Nat) : Int) < 0 := by omega
  have e2 : h_behind_number [.sh (.tup (oD (pre ++ rest))), .sh (.int (pre.length : Nat)), .un] ([], 0) = ((forD (bName 2) fb_behind_number_1 (rng (pre.length : Nat) rest.length) [.sh (.tup (oD (pre ++ rest))), .sh (.int (pre.length : Nat)), .un] ([], 0)).bind (hSeq1 (hRet (fC .non)))) := by
    simp only [h_behind_number, hSeq_e, hIf_e, asB_e, fBin_e, fVar_e, List.getElem?_cons_succ, List.getElem?_cons_zero, fVarK_sh, Option.bind_some, fBin1_e, fC_e, fBin2_e, oLt_i, Option.map_some, asB1_e, h4, decide_false, hIf1_f, hNil_e, hSeq1_nx, hFor_e, sRng2_e, rCons_e, rCons1_e, fCall_e, rNil_e, fCall1_e, oLen_t, h1, sRng2k_e, if_pos (show cRng ((pre.length : Nat) : Int) ∧ cRng ((pre.length + rest.length : Nat) : Int) from ⟨⟨h3.1, h3.2.1⟩, h3.2.2⟩), h2, hFor1_sh, Int.toNat_natCast]
  have e3 : g_behind_number [.tup (oD (pre ++ rest)), .int (pre.length : Nat)] = (endD (h_behind_number [.sh (.tup (oD (pre ++ rest))), .sh (.int (pre.length : Nat)), .un] ([], 0))).map fun r => (r.1, r.2.1) := by rw [g_behind_number, fnP_e]; rfl
  rw [e3, e2]
  cases hf : rest.findIdx? (· < 128) with
  | none =>
    rw [hf] at e
    simp only at e
    simp only [e, Option.bind_some, hSeq1_nx, hRet_e, fC_e, hRet1_sh, endD_sh, Option.map_some]
  | some i =>
    rw [hf] at e
    simp only at e
    simp only [e, Option.bind_some, hSeq1_rt, endD_sh, Option.map_some]
theorem behind_far {os : List D} {at' : Int} (h0 : 0 ≤ at') (h1 : (os.length : Int) ≤ at') (h2 : at' < 2 ^ 61) : g_behind_number [.tup os, .int at'] = some (.non, .sh) := by
  have a1 : ¬ at' < 0 := by omega
  have a2 : ((os.length : Int) - at').toNat = 0 := by omega
  have a3 : -(2 ^ 62) ≤ at' ∧ at' < 2 ^ 62 ∧ -(2 ^ 62) ≤ (os.length : Int) ∧ (os.length : Int) < 2 ^ 62 := by omega
  have e : h_behind_number [.sh (.tup os), .sh (.int at'), .un] ([], 0) = some (.rt .non .sh, [.sh (.tup os), .sh (.int at'), .un], ([], 0)) := by
    simp only [h_behind_number, hSeq_e, hIf_e, asB_e, fBin_e, fVar_e, List.getElem?_cons_succ, List.getElem?_cons_zero, fVarK_sh, Option.bind_some, fBin1_e, fC_e, fBin2_e, oLt_i, Option.map_some, asB1_e, a1, decide_false, hIf1_f, hNil_e, hSeq1_nx, hFor_e, sRng2_e, rCons_e, rCons1_e, fCall_e, rNil_e, fCall1_e, oLen_t, sRng2k_e, if_pos (show cRng at' ∧ cRng (os.length : Int) from ⟨⟨a3.1, a3.2.1⟩, a3.2.2⟩), a2, hFor1_sh, rng_nil, forD, hRet_e, hRet1_sh]
  rw [g_behind_number, fnP_e]
  show (endD (h_behind_number [.sh (.tup os), .sh (.int at'), .un] ([], 0))).map _ = _
  rw [e]
  rfl
/-! ### the number of figures -/
def pairUp (b : Nat) : List Nat → List Nat
  | x :: y :: r => (x + b * y) :: pairUp b r
  | l => l
theorem val_pairUp (b : Nat) : ∀ l : List Nat, val (b * b) (pairUp b l) = val b l
  | [] => rfl
  | [x] => by simp [pairUp, val]
  | x :: y :: r => by
    rw [pairUp, val, val_pairUp b r, val, val, Nat.mul_add, ← Nat.mul_assoc, Nat.add_assoc]
theorem pairUp_len (b : Nat) : ∀ l : List Nat, (pairUp b l).length = (l.length + 1) / 2
  | [] => rfl
  | [x] => by simp [pairUp]
  | x :: y :: r => by
    rw [pairUp, List.length_cons, pairUp_len b r, List.length_cons, List.length_cons]
    omega
theorem pairUp_small (b : Nat) (hb : 0 < b) : ∀ l : List Nat, (∀ x ∈ l, x < b) → ∀ x ∈ pairUp b l, x < b * b
  | [], _, x, h => by cases h
  | [y], hl, x, h => by
    have e : x = y := by simpa [pairUp] using h
    subst e
    have := hl x (by simp)
    exact Nat.lt_of_lt_of_le this (Nat.le_mul_of_pos_left b hb)
  | y :: z :: r, hl, x, h => by
    rw [pairUp] at h
    rcases List.mem_cons.mp h with rfl | h
    · have h1 := hl y (by simp)
      have h2 := hl z (by simp)
      have h3 : b * z ≤ b * (b - 1) := Nat.mul_le_mul_left b (by omega)
      have h4 : b * (b - 1) + b = b * b := by
        rw [← Nat.mul_succ]
        congr 1
        omega
      omega
    · exact pairUp_small b hb r (fun w hw => hl w (by simp [hw])) x h
/-- the pairs, and what is left over -/
theorem pairUp_eq (b : Nat) : ∀ l : List Nat, pairUp b l = ((List.range (l.length / 2)).map fun i => l.getD (2 * i) 0 + b * l.getD (2 * i + 1) 0) ++ (if l.length % 2 = 1 then [l.getD (l.length - 1) 0] else [])
  | [] => rfl
  | [x] => by simp [pairUp]
  | x :: y :: r => by
    have e : (x :: y :: r).length / 2 = r.length / 2 + 1 := by
      rw [List.length_cons, List.length_cons]
      omega
    rw [pairUp, pairUp_eq b r, e, List.range_succ_eq_map, List.map_cons, List.map_map, List.cons_append]
    congr 1
    congr 1
    · have e2 : (x :: y :: r).length % 2 = r.length % 2 := by
        rw [List.length_cons, List.length_cons]
        omega
      rw [e2]
      by_cases h : r.length % 2 = 1
      · rw [if_pos h, if_pos h]
        congr 1
        have : (x :: y :: r).length - 1 = (r.length - 1) + 1 + 1 := by
          rw [List.length_cons, List.length_cons]
          omega
        rw [this]
        rfl
      · rw [if_neg h, if_neg h]
def lenOf (i : Nat) (ρ : Rho) : Nat := match (ρ[i]? : Option SV) with | some (SV.sh (D.lst z)) => z.length | some (SV.ow (D.lst z)) => z.length | _ => 0
theorem small2 {b : Int} (h : -(2 ^ 62) ≤ b) (h' : b < 2 ^ 62) : Builtin.Range.small 0 b 2 = true := by
  unfold Builtin.Range.small Builtin.Range.rangeSize
  simp only [Builtin.Range.rangeFitsLong, Bool.and_eq_true, Bool.or_eq_true, decide_eq_true_eq, beq_iff_eq]
  simp only [show (2 : Int) > 0 from by decide, if_true]
  by_cases hb : 0 < b
  · simp only [if_pos hb]
    refine ⟨⟨⟨⟨⟨by omega, by omega⟩, by omega, by omega⟩, by omega, by omega⟩, by omega, by omega⟩, .inr ?_⟩
    simp only [Bool.and_eq_true, decide_eq_true_eq]
    omega
  · simp only [if_neg hb]
    exact ⟨⟨⟨⟨⟨by omega, by omega⟩, by omega, by omega⟩, by omega, by omega⟩, by omega, by omega⟩, .inl trivial⟩
theorem number_of_ok {fs : List Nat} (hne : fs ≠ []) (hl : fs.length ≤ 1001) (hs : ∀ x ∈ fs, x < 128) : g_number_of [.lst (oD fs)] = some (.int (val 128 fs), .sh) := by
  have w := whD_inv (c := wt_number_of_1) (h := wb_number_of_1) (n := turns) (ρ := [.sh (.lst (oD fs)), .sh (.lst (oD fs)), .sh (.int 128), .un, .un]) (δ := ([], 0))
    (fun ρ δ => δ = ([], 0) ∧ ∃ (l : List Nat) (e b : Nat) (x y : SV) (r : SV), (r = .sh (.lst (oD l)) ∨ r = .ow (.lst (oD l))) ∧ ρ = [.sh (.lst (oD fs)), r, .sh (.int (b : Nat)), x, y] ∧ l ≠ [] ∧ b = 128 ^ e ∧ 0 < e ∧ (∀ x ∈ l, x < b) ∧ val b l = val 128 fs ∧ l.length ≤ 1001 ∧ e * (l.length - 1) ≤ 1000)
    (fun ρ _ => lenOf 1 ρ)
    (fun ρ δ => δ = ([], 0) ∧ ∃ (x y z : SV) (r : SV), (r = .sh (.lst [.int (val 128 fs)]) ∨ r = .ow (.lst [.int (val 128 fs)])) ∧ ρ = [.sh (.lst (oD fs)), r, x, y, z]) ?_
    ⟨rfl, fs, 1, 128, .un, .un, _, .inl rfl, rfl, hne, rfl, by decide, hs, rfl, hl, by omega⟩ (by
      show (oD fs).length < turns
      rw [oD_len]
      exact Nat.lt_of_le_of_lt hl (by decide))
  · obtain ⟨ρ', δ', e, rfl, x, y, z, r, hr, rfl⟩ := w
    have e0 : ∀ v : D, atD [v] 0 = some v := fun v => atD_nat [v] 0
    rcases hr with rfl | rfl <;> simp [g_number_of, h_number_of, e, e0]
  · rintro ρ δ ⟨rfl, l, e, b, x, y, r, hr, rfl, hne', hb, he, hsm, hv, hlen, hle⟩
    by_cases h1 : l.length ≤ 1
    · left
      obtain ⟨v, rfl⟩ : ∃ v, l = [v] := by
        cases l with
        | nil => exact absurd rfl hne'
        | cons v l =>
          cases l with
          | nil => exact ⟨v, rfl⟩
          | cons _ _ => simp at h1
      have hv' : v = val 128 fs := by rw [← hv]; simp [val]
      refine ⟨_, ?_, rfl, _, _, _, r, ?_, rfl⟩
      · rcases hr with rfl | rfl <;> simp [wt_number_of_1, oD]
      · rw [← hv']
        exact hr
    · right
      have h2 : 2 ≤ l.length := by omega
      have hb0 : 0 < b := by rw [hb]; exact Nat.pow_pos (by decide)
      have he1 : e ≤ 1000 := Nat.le_trans (by
        have : e * 1 ≤ e * (l.length - 1) := Nat.mul_le_mul_left e (by omega)
        omega) hle
      have hbb : b < 2 ^ 8000 := by
        rw [hb, show (128 : Nat) = 2 ^ 7 from rfl, ← Nat.pow_mul]
        exact Nat.pow_lt_pow_right (by decide) (by omega)
      have big : ∀ v : Nat, v < b → ((v : Nat) : Int).natAbs < 2 ^ 400000 := fun v hv => Nat.lt_trans (Nat.lt_trans hv hbb) (Nat.pow_lt_pow_right (by decide) (by decide))
      have bigb : ((b : Nat) : Int).natAbs < 2 ^ 400000 := Nat.lt_trans hbb (Nat.pow_lt_pow_right (by decide) (by decide))
      have hcm : ∀ v : Nat, v < b → cMul (b : Int) (v : Int) := fun v hv => cMul_of bigb (big v hv)
      have hcb : cMul (b : Int) (b : Int) := cMul_of bigb bigb
      let half := (List.range (l.length / 2)).map fun i => l.getD (2 * i) 0 + b * l.getD (2 * i + 1) 0
      have lget : ∀ i, i < l.length → atD (oD l) (i : Int) = some (.int (l.getD i 0 : Nat)) := fun i hi => by
        rw [atD_nat]
        unfold oD
        rw [List.getElem?_map, List.getElem?_eq_getElem hi, List.getD_eq_getElem?_getD, List.getElem?_eq_getElem hi]
        rfl
      have lsm : ∀ i, i < l.length → l.getD i 0 < b := fun i hi => by
        rw [List.getD_eq_getElem?_getD, List.getElem?_eq_getElem hi]
        exact hsm _ (List.getElem_mem hi)
      -- the pairs
      have hc : lcD (bName 4) fYes ce_number_of_1 [.sh (.lst (oD fs)), r, .sh (.int (b : Nat)), x, .un] (rngC 0 2 (l.length / 2)) ([], 0) = some (oD half, ([], 0)) := by
        have z := lcD_map (b := bName 4) (f := ce_number_of_1) (g := fun d => match d with | .int k => .int ((l.getD k.toNat 0 + b * l.getD (k.toNat + 1) 0 : Nat) : Int) | d => d) (ds := rngC 0 2 (l.length / 2)) (ρ := [.sh (.lst (oD fs)), r, .sh (.int (b : Nat)), x, .un]) (δ := ([], 0)) fun d hd => by
          obtain ⟨i, hi, rfl⟩ := List.mem_map.mp hd
          have hi := List.mem_range.mp hi
          refine ⟨_, .sh, bName_e, ?_, by simp⟩
          have e0 : (0 : Int) + ((i : Nat) : Int) * 2 = ((2 * i : Nat) : Int) := by omega
          have e1 : ((2 * i : Nat) : Int) + 1 = ((2 * i + 1 : Nat) : Int) := by omega
          have g0 := lget (2 * i) (by omega)
          have g1 := lget (2 * i + 1) (by omega)
          have c1 := hcm _ (lsm (2 * i + 1) (by omega))
          have e2 : ((l.getD (2 * i) 0 : Nat) : Int) + (b : Int) * ((l.getD (2 * i + 1) 0 : Nat) : Int) = ((l.getD (2 * i) 0 + b * l.getD (2 * i + 1) 0 : Nat) : Int) := by
            rw [Int.natCast_add, Int.natCast_mul]
          rw [e0]
          show _ = (some (D.int ((l.getD ((2 * i : Nat) : Int).toNat 0 + b * l.getD (((2 * i : Nat) : Int).toNat + 1) 0 : Nat) : Int), Kd.sh, (([], 0) : Dr)) : Option (D × Kd × Dr))
          rw [Int.toNat_natCast, ← e2]
          rcases hr with rfl | rfl
          · simp only [ce_number_of_1, fBin_e, fVar_e, List.set_cons_succ, List.set_cons_zero, List.getElem?_cons_succ, List.getElem?_cons_zero, fVarK_sh, fVarK_ow, Option.bind_some, fBin1_e, fBin2_e, oIx_l, fC_e, oAdd_i, Option.map_some, e1, g0, g1, oMul_i, if_pos c1]
          · simp only [ce_number_of_1, fBin_e, fVar_e, List.set_cons_succ, List.set_cons_zero, List.getElem?_cons_succ, List.getElem?_cons_zero, fVarK_sh, fVarK_ow, Option.bind_some, fBin1_e, fBin2_e, oIx_l, fC_e, oAdd_i, Option.map_some, e1, g0, g1, oMul_i, if_pos c1]
        rw [z]
        congr 1
        congr 1
        unfold rngC oD
        rw [List.map_map, List.map_map]
        refine List.map_congr_left fun i _ => ?_
        have e0 : (0 : Int) + ((i : Nat) : Int) * 2 = ((2 * i : Nat) : Int) := by omega
        show (match D.int (0 + ((i : Nat) : Int) * 2) with | .int k => D.int ((l.getD k.toNat 0 + b * l.getD (k.toNat + 1) 0 : Nat) : Int) | d => d) = _
        rw [e0]
        rfl
      have hsz : Builtin.Range.rangeSize 0 ((l.length : Int) - 1) 2 = ((l.length / 2 : Nat) : Int) := by
        unfold Builtin.Range.rangeSize
        rw [if_pos (by decide), if_pos (by omega)]
        omega
      have hrg : sRng3k ([.int 0, .int ((l.length : Int) - 1), .int 2], (([], 0) : Dr)) = some (rngC 0 2 (l.length / 2), .sh, ([], 0)) := by
        rw [sRng3k_e, if_pos ⟨by decide, by decide, small2 (by omega) (by omega), by rw [hsz]; omega⟩, hsz, Int.toNat_natCast]
      have hhl : (oD half).length = l.length / 2 := by rw [oD_len, List.length_map, List.length_range]
      have hl1 : (rngC 0 2 (l.length / 2)).length ≤ sizeLine := by
        unfold rngC
        rw [List.length_map, List.length_range]
        exact Nat.le_trans (show l.length / 2 ≤ 1001 by omega) (by decide)
      have ol : (oD l).length = l.length := oD_len l
      have hset : hSet 3 (fLc (sRng3 (rCons (fC (.int 0)) (rCons (fBin oSub (fCall oLen (rCons (fVar 1) rNil)) (fC (.int 1))) (rCons (fC (.int 2)) rNil)))) (bName 4) fYes ce_number_of_1 [4]) [.sh (.lst (oD fs)), r, .sh (.int (b : Nat)), x, y] ([], 0) = some (.nx, [.sh (.lst (oD fs)), r, .sh (.int (b : Nat)), .ow (.lst (oD half)), y], ([], 0)) := by
        have hw : wip [.sh (.lst (oD fs)), r, .sh (.int (b : Nat)), x, y] [4] = [.sh (.lst (oD fs)), r, .sh (.int (b : Nat)), x, .un] := rfl
        rcases hr with rfl | rfl
        · simp only [hSet_e, fLc_e, sRng3_e, rCons_e, fC_e, Option.bind_some, rCons1_e, fBin_e, fCall_e, fVar_e, List.getElem?_cons_succ, List.getElem?_cons_zero, fVarK_sh, rNil_e, Option.map_some, fCall1_e, oLen_l, fBin1_e, fBin2_e, oSub_i, ol, hrg, fLc1_e, if_pos hl1, hw, hc, hSet1_ow, List.set_cons_succ, List.set_cons_zero]
        · simp only [hSet_e, fLc_e, sRng3_e, rCons_e, fC_e, Option.bind_some, rCons1_e, fBin_e, fCall_e, fVar_e, List.getElem?_cons_succ, List.getElem?_cons_zero, fVarK_ow, rNil_e, Option.map_some, fCall1_e, oLen_l, fBin1_e, fBin2_e, oSub_i, ol, hrg, fLc1_e, if_pos hl1, hw, hc, hSet1_ow, List.set_cons_succ, List.set_cons_zero]
      have hpu : pairUp b l = half ++ (if l.length % 2 = 1 then [l.getD (l.length - 1) 0] else []) := pairUp_eq b l
      have hif : hIf (asB (fBin oEq (fBin oMod (fCall oLen (rCons (fVar 1) rNil)) (fC (.int 2))) (fC (.int 1)))) (hApp 3 (fBin oIx (fVar 1) (fBin oSub (fCall oLen (rCons (fVar 1) rNil)) (fC (.int 1))))) hNil [.sh (.lst (oD fs)), r, .sh (.int (b : Nat)), .ow (.lst (oD half)), y] ([], 0) = some (.nx, [.sh (.lst (oD fs)), r, .sh (.int (b : Nat)), .ow (.lst (oD (pairUp b l))), y], ([], 0)) := by
        have g := lget (l.length - 1) (by omega)
        have e1 : ((l.length : Nat) : Int) - 1 = ((l.length - 1 : Nat) : Int) := by omega
        have hsl : (oD half).length < sizeLine := by rw [hhl]; exact Nat.lt_of_lt_of_le (show l.length / 2 < 1002 by omega) (by decide)
        have hm2 : (0 : Int) < 2 := by decide
        rw [hpu]
        by_cases ho : l.length % 2 = 1
        · have ho' : ((l.length : Nat) : Int) % 2 = 1 := by omega
          rw [if_pos ho, oD_app, show oD [l.getD (l.length - 1) 0] = [.int (l.getD (l.length - 1) 0 : Nat)] from rfl]
          rcases hr with rfl | rfl
          · simp only [hIf_e, asB_e, fBin_e, fCall_e, rCons_e, fVar_e, List.getElem?_cons_succ, List.getElem?_cons_zero, fVarK_sh, fVarK_ow, Option.bind_some, rCons1_e, rNil_e, Option.map_some, fCall1_e, oLen_l, ol, fBin1_e, fC_e, fBin2_e, oMod_i, cMod_e, if_pos hm2, ho', oEq_i, decide_true, asB1_e, hIf1_t, hApp_e, hApp1_e, oSub_i, e1, oIx_l, g, hApp2_sh, if_pos hsl, List.set_cons_succ, List.set_cons_zero]
          · simp only [hIf_e, asB_e, fBin_e, fCall_e, rCons_e, fVar_e, List.getElem?_cons_succ, List.getElem?_cons_zero, fVarK_sh, fVarK_ow, Option.bind_some, rCons1_e, rNil_e, Option.map_some, fCall1_e, oLen_l, ol, fBin1_e, fC_e, fBin2_e, oMod_i, cMod_e, if_pos hm2, ho', oEq_i, decide_true, asB1_e, hIf1_t, hApp_e, hApp1_e, oSub_i, e1, oIx_l, g, hApp2_sh, if_pos hsl, List.set_cons_succ, List.set_cons_zero]
        · have ho' : ¬ ((l.length : Nat) : Int) % 2 = 1 := by omega
          rw [if_neg ho, List.append_nil]
          rcases hr with rfl | rfl
          · simp only [hIf_e, asB_e, fBin_e, fCall_e, rCons_e, fVar_e, List.getElem?_cons_succ, List.getElem?_cons_zero, fVarK_sh, fVarK_ow, Option.bind_some, rCons1_e, rNil_e, Option.map_some, fCall1_e, oLen_l, ol, fBin1_e, fC_e, fBin2_e, oMod_i, cMod_e, if_pos hm2, ho', oEq_i, decide_false, asB1_e, hIf1_f, hNil_e]
          · simp only [hIf_e, asB_e, fBin_e, fCall_e, rCons_e, fVar_e, List.getElem?_cons_succ, List.getElem?_cons_zero, fVarK_sh, fVarK_ow, Option.bind_some, rCons1_e, rNil_e, Option.map_some, fCall1_e, oLen_l, ol, fBin1_e, fC_e, fBin2_e, oMod_i, cMod_e, if_pos hm2, ho', oEq_i, decide_false, asB1_e, hIf1_f, hNil_e]
      have hlt : (1 : Int) < ((l.length : Nat) : Int) := by omega
      have hpl := pairUp_len b l
      refine ⟨([], 0), [.sh (.lst (oD fs)), .ow (.lst (oD (pairUp b l))), .sh (.int ((b : Int) * (b : Int))), .un, y], ([], 0), ?_, ?_, ⟨rfl, pairUp b l, e * 2, b * b, .un, y, _, .inr rfl, by rw [Int.natCast_mul], ?_, ?_, by omega, pairUp_small b hb0 l hsm, ?_, by omega, ?_⟩, ?_⟩
      · rcases hr with rfl | rfl <;> simp [wt_number_of_1, ol, hlt]
      · rw [wb_number_of_1, hSeq_e, hset, Option.bind_some, hSeq1_nx, hSeq_e, hif, Option.bind_some, hSeq1_nx]
        simp only [hSeq_e, hMove_e, List.getElem?_cons_succ, List.getElem?_cons_zero, hMove1_ow, List.set_cons_succ, List.set_cons_zero, Option.bind_some, hSeq1_nx, hSet_e, fBin_e, fVar_e, fVarK_sh, fBin1_e, fBin2_e, oMul_i, if_pos hcb, Option.map_some, hSet1_sh]
      · intro h
        have := congrArg List.length h
        rw [hpl] at this
        simp at this
        omega
      · rw [hb, ← Nat.pow_add]
        congr 1
        omega
      · rw [val_pairUp, hv]
      · rw [hpl]
        have h5 : e * 2 * ((l.length + 1) / 2 - 1) ≤ e * (l.length - 1) := by
          rw [Nat.mul_assoc]
          exact Nat.mul_le_mul_left e (by omega)
        omega
      · show (oD (pairUp b l)).length < lenOf 1 _
        rw [oD_len, hpl]
        rcases hr with rfl | rfl
        · show _ < (oD l).length
          rw [ol]
          omega
        · show _ < (oD l).length
          rw [ol]
          omega
/-! ### a number read -/
theorem cutD_nat (xs : List D) {a b : Nat} (ha : a ≤ b) (hb : b ≤ xs.length) : DL.cutD xs (some (a : Int)) (some (b : Int)) = (xs.drop a).take (b - a) := by
  unfold DL.cutD sI
  rw [HT.sIx_nat, HT.sIx_nat, Nat.min_eq_left (Nat.le_trans ha hb), Nat.min_eq_left hb]
theorem findIdx_mid (mid : List Nat) (x : Nat) (post : List Nat) (hx : x < 128) : (mid.map (· + 128) ++ [x] ++ post).findIdx? (· < 128) = some mid.length := by
  induction mid with
  | nil => simp [List.findIdx?_cons, hx]
  | cons y mid ih =>
    rw [List.map_cons, List.cons_append, List.cons_append, List.findIdx?_cons, if_neg (by simp), ih]
    rfl
theorem number_in_ok (pre mid : List Nat) (x : Nat) (post : List Nat) (hm : ∀ y ∈ mid, y < 128) (hx : x < 128) (hl : (pre ++ (mid.map (· + 128) ++ [x] ++ post)).length ≤ 1000000) (hml : mid.length ≤ 1000) :
    g_number_in [.tup (oD (pre ++ (mid.map (· + 128) ++ [x] ++ post))), .int (pre.length : Nat)] = if mid ≠ [] ∧ x = 0 then some (.non, .sh) else some (.tup [.int (val 128 (mid ++ [x])), .int ((pre.length + mid.length + 1 : Nat) : Int)], .sh) := by
  generalize hos : pre ++ (mid.map (· + 128) ++ [x] ++ post) = os at hl
  have hb : g_behind_number [.tup (oD os), .int (pre.length : Nat)] = some (.int ((pre.length + mid.length + 1 : Nat) : Int), .sh) := by
    have z := behind_ok pre (mid.map (· + 128) ++ [x] ++ post) (by rw [hos]; exact hl)
    rw [findIdx_mid mid x post hx, hos] at z
    exact z
  have hol : (oD os).length = pre.length + (mid.length + 1 + post.length) := by
    rw [oD_len, ← hos]
    simp
    omega
  have hg : atD (oD os) ((pre.length + mid.length : Nat) : Int) = some (.int x) := by
    rw [atD_nat, ← hos]
    unfold oD
    rw [List.getElem?_map, List.getElem?_append_right (by omega), Nat.add_sub_cancel_left, List.append_assoc, List.getElem?_append_right (by simp)]
    simp
  have e1 : ((pre.length + mid.length + 1 : Nat) : Int) - 1 = ((pre.length + mid.length : Nat) : Int) := by omega
  have hcut : DL.cutD (oD os) (some ((pre.length : Nat) : Int)) (some ((pre.length + mid.length : Nat) : Int)) = oD (mid.map (· + 128)) := by
    rw [cutD_nat _ (by omega) (by rw [hol]; omega), Nat.add_sub_cancel_left, ← hos, oD_app, oD_app, oD_app, List.drop_left' (by rw [oD_len]), List.append_assoc, List.take_left' (by rw [oD_len, List.length_map])]
  have hlc : lcD (bName 4) fYes ce_number_in_1 [.sh (.tup (oD os)), .sh (.int (pre.length : Nat)), .sh (.int ((pre.length + mid.length + 1 : Nat) : Int)), .un, .un] (oD (mid.map (· + 128))) ([], 0) = some (oD mid, ([], 0)) := by
    have z := lcD_map (b := bName 4) (f := ce_number_in_1) (g := fun d => match d with | .int k => .int (k - 128) | d => d) (ds := oD (mid.map (· + 128))) (ρ := [.sh (.tup (oD os)), .sh (.int (pre.length : Nat)), .sh (.int ((pre.length + mid.length + 1 : Nat) : Int)), .un, .un]) (δ := ([], 0)) fun d hd => by
      obtain ⟨v, _, rfl⟩ := List.mem_map.mp hd
      exact ⟨_, .sh, bName_e, by simp [ce_number_in_1], by simp⟩
    rw [z]
    congr 1
    congr 1
    unfold oD
    rw [List.map_map, List.map_map]
    refine List.map_congr_left fun v _ => ?_
    show D.int (((v + 128 : Nat) : Int) - 128) = D.int v
    congr 1
    omega
  have hlm : (oD (mid.map (· + 128))).length ≤ sizeLine := by
    rw [oD_len, List.length_map]
    exact Nat.le_trans hml (by decide)
  have hadd : (oD mid).length + 1 ≤ sizeLine := by
    rw [oD_len]
    exact Nat.le_trans (show mid.length + 1 ≤ 1001 by omega) (by decide)
  have hnum : g_number_of [.lst (oD mid ++ [.int x])] = some (.int (val 128 (mid ++ [x])), .sh) := by
    have z := number_of_ok (fs := mid ++ [x]) (by simp) (by simp; omega) (fun y hy => by
      rcases List.mem_append.mp hy with hy | hy
      · exact hm y hy
      · have : y = x := by simpa using hy
        omega)
    rw [oD_app] at z
    exact z
  have hok : okR [(D.lst (oD mid ++ [D.int x]), Kd.br)] (.int (val 128 (mid ++ [x]))) .sh = true := rfl
  have hw : wip [.sh (.tup (oD os)), .sh (.int (pre.length : Nat)), .sh (.int ((pre.length + mid.length + 1 : Nat) : Int)), .un, .un] [4] = [.sh (.tup (oD os)), .sh (.int (pre.length : Nat)), .sh (.int ((pre.length + mid.length + 1 : Nat) : Int)), .un, .un] := rfl
  have h1l : ([D.int x] : List D).length = 1 := rfl
  have e2 : ((pre.length + mid.length + 1 : Nat) : Int) - ((pre.length : Nat) : Int) = ((mid.length + 1 : Nat) : Int) := by omega
  rw [g_number_in, fnP_e]
  show (endD (h_number_in [.sh (.tup (oD os)), .sh (.int (pre.length : Nat)), .un, .un, .un] ([], 0))).map _ = _
  have step1 : hSet 2 (fCallP g_behind_number (vCons (fVar 0) (vCons (fVar 1) vNil))) [.sh (.tup (oD os)), .sh (.int (pre.length : Nat)), .un, .un, .un] ([], 0) = some (.nx, [.sh (.tup (oD os)), .sh (.int (pre.length : Nat)), .sh (.int ((pre.length + mid.length + 1 : Nat) : Int)), .un, .un], ([], 0)) := by
    simp only [hSet_e, fCallP_e, vCons_e, fVar_e, List.getElem?_cons_succ, List.getElem?_cons_zero, fVarK_sh, Option.bind_some, vCons1_e, vNil_e, Option.map_some, fCallP1_e, List.map_cons, List.map_nil, hb, fCallP2_e, okR_sh, okR_nil, if_true, hSet1_sh, List.set_cons_succ, List.set_cons_zero]
  by_cases hz : mid ≠ [] ∧ x = 0
  · rw [if_pos hz]
    have hlt : (1 : Int) < ((mid.length + 1 : Nat) : Int) := by
      have := List.length_pos_iff.mpr hz.1
      omega
    have hx0 : ((x : Nat) : Int) = 0 := by omega
    rw [h_number_in, hSeq_e, step1, Option.bind_some, hSeq1_nx]
    simp only [hSeq_e, hIf_e, fOr_e, asB_e, fBin_e, fVar_e, List.getElem?_cons_succ, List.getElem?_cons_zero, fVarK_sh, Option.bind_some, fBin1_e, fC_e, fBin2_e, oIs_in, Option.map_some, asB1_e, fOr1_f, fAnd_e, oSub_i, e2, oGt_i, hlt, decide_true, fAnd1_t, oIx_t, e1, hg, oEq_i, hx0, hIf1_t, hRet_e, hRet1_sh, hSeq1_rt, endD_sh]
  · rw [if_neg hz]
    have htest : fOr (asB (fBin oIs (fVar 2) (fC .non))) (fAnd (asB (fBin oGt (fBin oSub (fVar 2) (fVar 1)) (fC (.int 1)))) (asB (fBin oEq (fBin oIx (fVar 0) (fBin oSub (fVar 2) (fC (.int 1)))) (fC (.int 0))))) [.sh (.tup (oD os)), .sh (.int (pre.length : Nat)), .sh (.int ((pre.length + mid.length + 1 : Nat) : Int)), .un, .un] ([], 0) = some (false, ([], 0)) := by
      by_cases hm0 : mid = []
      · have hlt : ¬ (1 : Int) < ((mid.length + 1 : Nat) : Int) := by
          rw [hm0]
          decide
        simp only [fOr_e, asB_e, fBin_e, fVar_e, List.getElem?_cons_succ, List.getElem?_cons_zero, fVarK_sh, Option.bind_some, fBin1_e, fC_e, fBin2_e, oIs_in, Option.map_some, asB1_e, fOr1_f, fAnd_e, oSub_i, e2, oGt_i, hlt, decide_false, fAnd1_f]
      · have hlt : (1 : Int) < ((mid.length + 1 : Nat) : Int) := by
          have := List.length_pos_iff.mpr hm0
          omega
        have hx0 : ¬ ((x : Nat) : Int) = 0 := fun h => hz ⟨hm0, by omega⟩
        simp only [fOr_e, asB_e, fBin_e, fVar_e, List.getElem?_cons_succ, List.getElem?_cons_zero, fVarK_sh, Option.bind_some, fBin1_e, fC_e, fBin2_e, oIs_in, Option.map_some, asB1_e, fOr1_f, fAnd_e, oSub_i, e2, oGt_i, hlt, decide_true, fAnd1_t, oIx_t, e1, hg, oEq_i, hx0, decide_false]
    rw [h_number_in, hSeq_e, step1, Option.bind_some, hSeq1_nx, hSeq_e, hIf_e, htest, Option.bind_some, hIf1_f, hNil_e, Option.bind_some, hSeq1_nx]
    have h2k : (2 : Nat) ≤ 1000 := by decide
    simp only [hSeq_e, hSet_e, fBin_e, fLc_e, sSeq_e, fCut_e, fVar_e, List.getElem?_cons_succ, List.getElem?_cons_zero, fVarK_sh, fVarK_ow, Option.bind_some, fCut1_e, bOf_e, bOf1_e, fCut2_e, fBin1_e, fC_e, fBin2_e, oSub_i, e1, Option.map_some, cutR_t, hcut, sSeq1_t, fLc1_e, if_pos hlm, hw, hlc, fLst_e, aCons_e, oIx_t, hg, aCons1_sh, aNil_e, fLst1_e, List.length_cons, List.length_nil, Nat.zero_add, show (1 : Nat) ≤ 1000 from by decide, if_true, oAdd_l, if_pos hadd, hSet1_ow, List.set_cons_succ, List.set_cons_zero, hSeq1_nx,
      hRet_e, fTup_e, fCallP_e, vCons_e, vCons1_e, vNil_e, fCallP1_e, List.map_cons, List.map_nil, hnum, fCallP2_e, hok, fTup1_e, if_pos h2k, hRet1_sh, endD_sh]

theorem cutD_init (xs : List D) (d : D) : DL.cutD (xs ++ [d]) none (some (-1)) = xs := by
  unfold DL.cutD sI
  have e : HT.sIx (xs ++ [d]).length (xs ++ [d]).length (some (-1)) = xs.length := by
    unfold HT.sIx
    simp
    all_goals first | omega | skip
  have e0 : HT.sIx (xs ++ [d]).length 0 none = 0 := rfl
  rw [e, e0]
  simp
theorem cutD_last (xs : List D) (d : D) : DL.cutD (xs ++ [d]) (some (-1)) none = [d] := by
  unfold DL.cutD sI
  have e : HT.sIx (xs ++ [d]).length 0 (some (-1)) = xs.length := by
    unfold HT.sIx
    simp
    all_goals first | omega | skip
  have e0 : HT.sIx (xs ++ [d]).length (xs ++ [d]).length none = (xs ++ [d]).length := rfl
  rw [e, e0]
  simp
end W35
/-! k35: sums of octets; signs. -/
namespace W35
open PySem PySem.Spec PyProof.Rows L2 DL
/-! ### sums -/
def ws : Nat → List Nat → Nat
  | _, [] => 0
  | k, x :: r => (k + 1) * x + ws (k + 1) r
theorem enD_oD (k x : Nat) (r : List Nat) : enD k (oD (x :: r)) = .tup [.int (k : Nat), .int (x : Nat)] :: enD (k + 1) (oD r) := rfl
theorem big64 {n : Nat} (h : n < 2 ^ 64) : (n : Int).natAbs < 2 ^ 400000 := Nat.lt_of_lt_of_le (show (n : Int).natAbs < 2 ^ 64 by simpa using h) (Nat.pow_le_pow_right (by decide) (by decide))
theorem mul_ok {k x : Nat} (hk : k + 1 < 2 ^ 64) (hx : x < 2 ^ 64) : oMul (.int ((k : Int) + 1)) (.int (x : Nat)) = some (.int (((k + 1) * x : Nat) : Int), .sh) := by
  have e : (k : Int) + 1 = ((k + 1 : Nat) : Int) := by omega
  rw [oMul_i, e, if_pos (cMul_of (big64 hk) (big64 hx)), Int.natCast_mul]
theorem sum_loop (t : SV) : ∀ (r : List Nat) (k acc : Nat) (a b : SV), (∀ x ∈ r, x < 2 ^ 64) → k + r.length < 2 ^ 64 →
    ∃ a' b', forD (bTup (bCons (bName 2) (bCons (bName 3) bNil))) fb_sum_of_octets_1 (enD k (oD r)) [t, .sh (.int (acc : Nat)), a, b] ([], 0) = some (.nx, [t, .sh (.int ((acc + ws k r : Nat) : Int)), a', b'], ([], 0))
  | [], k, acc, a, b, _, _ => ⟨a, b, rfl⟩
  | x :: r, k, acc, a, b, hx, hk => by
    have hk' : k + (r.length + 1) < 2 ^ 64 := by simpa using hk
    obtain ⟨a', b', e⟩ := sum_loop t r (k + 1) (acc + (k + 1) * x) (.sh (.int (k : Nat))) (.sh (.int (x : Nat))) (fun y hy => hx y (List.mem_cons_of_mem _ hy)) (by omega)
    refine ⟨a', b', ?_⟩
    have hm := mul_ok (k := k) (x := x) (by omega) (hx x (by simp))
    have e1 : fb_sum_of_octets_1 [t, .sh (.int (acc : Nat)), .sh (.int (k : Nat)), .sh (.int (x : Nat))] ([], 0) = some (.nx, [t, .sh (.int ((acc + (k + 1) * x : Nat) : Int)), .sh (.int (k : Nat)), .sh (.int (x : Nat))], ([], 0)) := by
      simp only [fb_sum_of_octets_1, hAug_e, hAug1_e, hAug2_e, sv_sh, fVarK_sh, List.getElem?_cons_succ, List.getElem?_cons_zero, Option.bind_some, fBin_e, fBin1_e, fBin2_e, fVar_e, fC_e, oAdd_i, Option.map_some, hm, oAddI_i, List.set_cons_succ, List.set_cons_zero, Int.natCast_add]
    rw [enD_oD, forD]
    simp only [bTup_e, bCons_e, bName_e, Option.bind_some, bNil_e, List.set_cons_succ, List.set_cons_zero]
    rw [e1]
    simp only [Option.bind_some]
    rw [e, ws, Nat.add_assoc]
theorem sum_ok {xs : List Nat} (hx : ∀ x ∈ xs, x < 2 ^ 64) (hl : xs.length < 2 ^ 60) : g_sum_of_octets [.tup (oD xs)] = some (.int ((ws 0 xs % 65521 : Nat) : Int), .sh) := by
  obtain ⟨a', b', e⟩ := sum_loop (.sh (.tup (oD xs))) xs 0 0 .un .un hx (by omega)
  rw [Nat.zero_add] at e
  have e' : forD (bTup (bCons (bName 2) (bCons (bName 3) bNil))) fb_sum_of_octets_1 (enD 0 (oD xs)) [.sh (.tup (oD xs)), .sh (.int 0), .un, .un] ([], 0) = _ := e
  rw [g_sum_of_octets, fnP_e]
  show (endD (h_sum_of_octets [.sh (.tup (oD xs)), .un, .un, .un] ([], 0))).map _ = _
  simp only [h_sum_of_octets, hSeq_e, hSet_e, fC_e, Option.bind_some, hSet1_sh, List.set_cons_succ, List.set_cons_zero, hSeq1_nx, hFor_e, sEnum_e, fVar_e, List.getElem?_cons_zero, List.getElem?_cons_succ, fVarK_sh, sEnum1_t, hFor1_sh, e', hRet_e, fBin_e, fBin1_e, fBin2_e, oMod_i, cMod_e]
  simp
/-! ### the law's own sum -/
def wl : Nat → List Nat → List Nat
  | _, [] => []
  | k, x :: r => (k + 1) * x :: wl (k + 1) r
theorem wl_sum (k : Nat) (r : List Nat) : (wl k r).sum = ws k r := by
  induction r generalizing k with
  | nil => rfl
  | cons x r ih => rw [wl, ws, List.sum_cons, ih]
theorem intsOf_oD (l : List Nat) : intsOf (oD l) = some (l.map fun (x : Nat) => (x : Int)) := by
  have e : oD l = (l.map fun (x : Nat) => (x : Int)).map D.int := by
    unfold oD
    rw [List.map_map]
    rfl
  rw [e, intsOf_map]
theorem sum_cast (l : List Nat) : (l.map fun (x : Nat) => (x : Int)).sum = ((l.sum : Nat) : Int) := by
  induction l with
  | nil => rfl
  | cons x l ih => rw [List.map_cons, List.sum_cons, List.sum_cons, ih, Int.natCast_add]
theorem oSum_oD (l : List Nat) : oSum [.lst (oD l)] = some (.int ((l.sum : Nat) : Int), .sh) := by
  rw [oSum_l, intsOf_oD, Option.map_some, sum_cast]
theorem oSumA_oD (l : List Nat) : oSumA [.tup (oD l)] = some (.int ((l.sum : Nat) : Int), .sh) := by
  rw [oSumA_t, intsOf_oD, Option.map_some, sum_cast]
theorem wl_loop (t : SV) : ∀ (r : List Nat) (k : Nat), (∀ x ∈ r, x < 2 ^ 64) → k + r.length < 2 ^ 64 →
    lcD (bTup (bCons (bName 1) (bCons (bName 2) bNil))) fYes ce__law_sum_of_1 [t, .un, .un] (enD k (oD r)) ([], 0) = some (oD (wl k r), ([], 0))
  | [], k, _, _ => rfl
  | x :: r, k, hx, hk => by
    have hk' : k + (r.length + 1) < 2 ^ 64 := by simpa using hk
    have e := wl_loop t r (k + 1) (fun y hy => hx y (List.mem_cons_of_mem _ hy)) (by omega)
    have hm := mul_ok (k := k) (x := x) (by omega) (hx x (by simp))
    have e1 : ce__law_sum_of_1 [t, .sh (.int (k : Nat)), .sh (.int (x : Nat))] ([], 0) = some (.int (((k + 1) * x : Nat) : Int), .sh, ([], 0)) := by
      simp only [ce__law_sum_of_1, fVarK_sh, List.getElem?_cons_succ, List.getElem?_cons_zero, Option.bind_some, fBin_e, fBin1_e, fBin2_e, fVar_e, fC_e, oAdd_i, Option.map_some, hm]
    rw [enD_oD, lcD]
    simp only [bTup_e, bCons_e, bName_e, Option.bind_some, bNil_e, List.set_cons_succ, List.set_cons_zero, fYes_e, if_true]
    rw [e1]
    simp only [Option.bind_some]
    rw [if_neg (by decide), e]
    rfl
theorem law_sum_ok {xs : List Nat} (hx : ∀ x ∈ xs, x < 2 ^ 64) (hl : xs.length ≤ sizeLine) : g__law_sum_of [.tup (oD xs)] = some (.int ((ws 0 xs % 65521 : Nat) : Int), .sh) := by
  have e := wl_loop (.sh (.tup (oD xs))) xs 0 hx (by rw [Nat.zero_add]; exact Nat.lt_of_le_of_lt hl (by decide))
  have hz : (enD 0 (oD xs)).length ≤ sizeLine := by rw [enD_len, oD_len]; exact hl
  have hw : wip [.sh (.tup (oD xs)), .un, .un] [1, 2] = [.sh (.tup (oD xs)), .un, .un] := rfl
  rw [g__law_sum_of, fnP_e]
  show (endD (h__law_sum_of [.sh (.tup (oD xs)), .un, .un] ([], 0))).map _ = _
  simp only [h__law_sum_of, hRet_e, fBin_e, fCall_e, rCons_e, fLc_e, sEnum_e, fVar_e, List.getElem?_cons_zero, fVarK_sh, Option.bind_some, sEnum1_t, fLc1_e, if_pos hz, hw, e, Option.map_some, rCons1_e, rNil_e, fCall1_e, oSum_oD, wl_sum, oInt_i, fBin1_e, fC_e, fBin2_e, oMod_i, cMod_e]
  simp
/-! ### laws of sums -/
theorem ws_shift (m k : Nat) (b : List Nat) : ws (m + k) b = ws m b + k * b.sum := by
  induction b generalizing m with
  | nil => simp [ws]
  | cons x b ih =>
    rw [ws, ws, show m + k + 1 = m + 1 + k by omega, ih, List.sum_cons, Nat.mul_add, show (m + 1 + k) * x = (m + 1) * x + k * x from Nat.add_mul ..]
    omega
theorem ws_app (k : Nat) (a b : List Nat) : ws k (a ++ b) = ws k a + ws (k + a.length) b := by
  induction a generalizing k with
  | nil => simp [ws]
  | cons x a ih =>
    rw [List.cons_append, ws, ws, ih, List.length_cons, show k + 1 + a.length = k + (a.length + 1) by omega, Nat.add_assoc]
theorem ws_cat (a b : List Nat) : ws 0 (a ++ b) = ws 0 a + ws 0 b + a.length * b.sum := by
  rw [ws_app, ws_shift]
  omega
theorem ws_rev (a : List Nat) : ws 0 a.reverse + ws 0 a = (a.length + 1) * a.sum := by
  induction a with
  | nil => rfl
  | cons x a ih =>
    rw [List.reverse_cons, ws_cat, List.length_reverse, show ws 0 (x :: a) = ws 0 ([x] ++ a) from rfl, ws_cat, List.length_cons, List.sum_cons]
    simp only [ws, List.sum_cons, List.sum_nil, List.length_cons, List.length_nil, Nat.zero_add, Nat.one_mul, Nat.add_zero, Nat.mul_add, Nat.add_mul] at ih ⊢
    omega
theorem ws_mid (pre post : List Nat) (x : Nat) : ws 0 (pre ++ (x :: post)) = ws 0 pre + (pre.length + 1) * x + ws (pre.length + 1) post := by
  rw [ws_app, ws, Nat.zero_add, Nat.add_assoc]
end W35
/-! k35: signs and texts. -/
namespace W35
open PySem PySem.Spec PyProof.Rows L2 DL
/-- the octets that are signs -/
def inA (c : Nat) : Prop := c = 10 ∨ (32 ≤ c ∧ c < 127 ∧ c ≠ 37)
instance (c : Nat) : Decidable (inA c) := by unfold inA; infer_instance
@[irreducible] def SG : Str := " !\"#$\x0a&'()*+,-./0123456789:;<=>?@ABCDEFGHIJKLMNOPQRSTUVWXYZ[\\]^_`abcdefghijklmnopqrstuvwxyz{|}~"
theorem SG_len : SG.length = 95 := by decide +kernel
theorem SG_at : ∀ i : Fin 95, SG.cps.toList[i.val]? = some (if i.val = 5 then 10 else i.val + 32) := by decide +kernel
theorem SG_get {i : Nat} (h : i < 95) : SG.cps.toList[i]? = some (if i = 5 then 10 else i + 32) := SG_at ⟨i, h⟩
theorem SG_ix {c : Nat} (h1 : 32 ≤ c) (h2 : c < 127) (h3 : c ≠ 37) : oIx (.str SG) (.int ((c : Int) - 32)) = some (.str ⟨#[c]⟩, .sh) := by
  have e : ((c : Int) - 32) = ((c - 32 : Nat) : Int) := by omega
  have hl : SG.cps.toList.length = 95 := by
    have := SG_len
    rw [Array.length_toList]
    exact this
  have e2 : atI SG.cps.toList ((c - 32 : Nat) : Int) = some c := by
    unfold atI ixN
    rw [if_pos (by omega), if_pos (by rw [hl]; omega)]
    simp only [Option.bind_some, Int.toNat_natCast]
    rw [SG_get (by omega), if_neg (by omega), show c - 32 + 32 = c by omega]
  rw [oIx_s, if_pos (by rw [SG_len]; decide), e, e2]
  rfl
theorem sign_lf {c : Nat} (h : c = 10) : g_sign_of [.int (c : Nat)] = some (.str ⟨#[c]⟩, .sh) := by
  have a1 : decide ((c : Int) = 10) = true := decide_eq_true (by omega)
  have a2 : (D.str "\n") = D.str ⟨#[c]⟩ := by rw [h]; rfl
  rw [g_sign_of, fnP_e]
  show (endD (h_sign_of [.sh (.int (c : Nat))] ([], 0))).map _ = _
  simp only [h_sign_of, hSeq_e, hIf_e, asB_e, fBin_e, fVar_e, List.getElem?_cons_zero, fVarK_sh, Option.bind_some, fBin1_e, fC_e, fBin2_e, oEq_i, a1, Option.map_some, asB1_e, hIf1_t, hRet_e, hRet1_sh, hSeq1_rt, endD_sh, a2]
theorem sgE : (D.str " !\"#$\x0a&'()*+,-./0123456789:;<=>?@ABCDEFGHIJKLMNOPQRSTUVWXYZ[\\]^_`abcdefghijklmnopqrstuvwxyz{|}~") = D.str SG := by kernel_rfl
theorem sgLen {δ : Dr} {ρ : Rho} : fCall oLen (rCons (fC (.str SG)) rNil) ρ δ = some (.int 95, .sh, δ) := by
  simp only [fCall_e, rCons_e, fC_e, Option.bind_some, rCons1_e, rNil_e, Option.map_some, fCall1_e]
  rw [oLen_s, if_pos (by rw [SG_len]; decide), SG_len]
  rfl
theorem sign_yes {c : Nat} (h1 : 32 ≤ c) (h2 : c < 127) (h3 : c ≠ 37) : g_sign_of [.int (c : Nat)] = some (.str ⟨#[c]⟩, .sh) := by
  have a1 : ¬ (c : Int) = 10 := by omega
  have a2 : ¬ (c : Int) < 32 := by omega
  have a3 : ¬ (32 : Int) + 95 ≤ (c : Int) := by omega
  have a4 : ¬ (c : Int) = 37 := by omega
  rw [g_sign_of, fnP_e]
  show (endD (h_sign_of [.sh (.int (c : Nat))] ([], 0))).map _ = _
  simp only [h_sign_of, hSeq_e, hIf_e, asB_e, fBin_e, fOr_e, sgE, sgLen, fVar_e, List.getElem?_cons_zero, fVarK_sh, Option.bind_some, fBin1_e, fC_e, fBin2_e, oEq_i, a1, decide_false, Option.map_some, asB1_e, hIf1_f, hNil_e, hSeq1_nx, oLt_i, a2, fOr1_f, oAdd_i, oGe_i, a3, a4, oSub_i, hRet_e, sgE, SG_ix h1 h2 h3, hRet1_sh, endD_sh]
theorem sign_no {c : Nat} (h : ¬ inA c) : g_sign_of [.int (c : Nat)] = some (.non, .sh) := by
  unfold inA at h
  have a1 : ¬ (c : Int) = 10 := by omega
  rw [g_sign_of, fnP_e]
  show (endD (h_sign_of [.sh (.int (c : Nat))] ([], 0))).map _ = _
  by_cases a2 : (c : Int) < 32
  · simp only [h_sign_of, hSeq_e, hIf_e, asB_e, fBin_e, fOr_e, fVar_e, List.getElem?_cons_zero, fVarK_sh, Option.bind_some, fBin1_e, fC_e, fBin2_e, oEq_i, a1, decide_false, Option.map_some, asB1_e, hIf1_f, hNil_e, hSeq1_nx, oLt_i, a2, decide_true, fOr1_t, hIf1_t, hRet_e, hRet1_sh, hSeq1_rt, endD_sh]
  · by_cases a3 : (32 : Int) + 95 ≤ (c : Int)
    · simp only [h_sign_of, hSeq_e, hIf_e, asB_e, fBin_e, fOr_e, sgE, sgLen, fVar_e, List.getElem?_cons_zero, fVarK_sh, Option.bind_some, fBin1_e, fC_e, fBin2_e, oEq_i, a1, decide_false, Option.map_some, asB1_e, hIf1_f, hNil_e, hSeq1_nx, oLt_i, a2, fOr1_f, oAdd_i, oGe_i, a3, decide_true, fOr1_t, hIf1_t, hRet_e, hRet1_sh, hSeq1_rt, endD_sh]
    · have a4' : decide ((c : Int) = 37) = true := decide_eq_true (by omega)
      simp only [h_sign_of, hSeq_e, hIf_e, asB_e, fBin_e, fOr_e, sgE, sgLen, fVar_e, List.getElem?_cons_zero, fVarK_sh, Option.bind_some, fBin1_e, fC_e, fBin2_e, oEq_i, a1, decide_false, Option.map_some, asB1_e, hIf1_f, hNil_e, hSeq1_nx, oLt_i, a2, fOr1_f, oAdd_i, oGe_i, a3, a4', decide_true, fOr1_t, hIf1_t, hRet_e, hRet1_sh, hSeq1_rt, endD_sh]
theorem sign_in {c : Nat} (h : inA c) : g_sign_of [.int (c : Nat)] = some (.str ⟨#[c]⟩, .sh) := by
  rcases h with h | h
  · exact sign_lf h
  · exact sign_yes h.1 h.2.1 h.2.2
end W35
/-! k35: texts in octets. -/
namespace W35
open PySem PySem.Spec PyProof.Rows L2 DL TL
/-- a text by its code points -/
def tx (cs : List Nat) : Str := ⟨cs.toArray⟩
theorem tx_len (cs : List Nat) : (tx cs).length = cs.length := List.size_toArray ..
theorem tx_signs (cs : List Nat) : DL.signs (tx cs) = cs.map fun c => D.str ⟨#[c]⟩ := rfl
theorem tx_of (z : Str) : z = tx z.cps.toList := rfl
def tcD (d : D) : D := match d with | .str z => .int (z.cps.getD 0 0 : Nat) | d => d
theorem tcD_map (cs : List Nat) : (cs.map fun c => D.str ⟨#[c]⟩).map tcD = oD cs := by
  unfold oD
  rw [List.map_map]
  rfl
theorem len_line {n : Nat} (h : n ≤ 1000000) : n ≤ sizeLine := Nat.le_trans h (by decide)
theorem small_of {n : Nat} (h : n ≤ 1000000) : n < 2 ^ 7000 := Nat.lt_of_lt_of_le (show n < 2 ^ 64 by omega) (Nat.pow_le_pow_right (by decide) (by decide))
theorem octets_of_text_ok {cs : List Nat} (hl : cs.length ≤ 100000) : g_octets_of_text [.str (tx cs)] = some (.tup (oD (figs cs.length ++ cs)), .sh) := by
  have h1 : cs.length ≤ sizeLine := len_line (by omega)
  have e1 := octets_ok (n := cs.length) (small_of (by omega))
  have hm : lcD (bName 1) fYes ce_octets_of_text_1 [.sh (.str (tx cs)), .un] (cs.map fun c => D.str ⟨#[c]⟩) ([], 0) = some (oD cs, ([], 0)) := by
    rw [← tcD_map]
    refine lcD_map fun d hd => ?_
    obtain ⟨c, _, rfl⟩ := List.mem_map.mp hd
    exact ⟨_, .sh, bName_e, by simp only [ce_octets_of_text_1, fCall_e, rCons_e, fVar_e, List.set_cons_succ, List.set_cons_zero, List.getElem?_cons_succ, List.getElem?_cons_zero, fVarK_sh, Option.bind_some, rCons1_e, rNil_e, Option.map_some, fCall1_e, oOrd_1, tcD]; rfl, by simp⟩
  have h2 : (cs.map fun c => D.str ⟨#[c]⟩).length ≤ sizeLine := by rw [List.length_map]; exact len_line (by omega)
  have hw : wip [.sh (.str (tx cs)), .un] [1] = [.sh (.str (tx cs)), .un] := rfl
  have hf := figs_big (n := cs.length) (small_of (by omega))
  have h3 : (oD (figs cs.length)).length + (oD cs).length ≤ sizeLine := by
    rw [oD_len, oD_len]
    exact len_line (by omega)
  rw [g_octets_of_text, fnP_e]
  show (endD (h_octets_of_text [.sh (.str (tx cs)), .un] ([], 0))).map _ = _
  simp only [h_octets_of_text, hRet_e, fBin_e, fCallP_e, vCons_e, fCall_e, rCons_e, fVar_e, List.getElem?_cons_zero, fVarK_sh, Option.bind_some, rCons1_e, rNil_e, Option.map_some, fCall1_e, oLen_s, tx_len, if_pos h1, vCons1_e, vNil_e, fCallP1_e, List.map_cons, List.map_nil, e1, fCallP2_e, okR_sh, okR_nil, if_true, fBin1_e,
    fLc_e, sSeq_e, sSeq1_s, tx_signs, fLc1_e, if_pos h2, hw, hm, oTuple_l, fBin2_e, oAdd_t, if_pos h3, hRet1_sh, endD_sh, oD_app]
theorem text_octets_ok {cs : List Nat} (hl : cs.length ≤ 100000) : g_text_octets [.str (tx cs)] = some (.tup (oD (figs cs.length ++ cs)), .sh) := by
  have e := octets_of_text_ok hl
  rw [g_text_octets, fnP_e]
  show (endD (h_text_octets [.sh (.str (tx cs))] ([], 0))).map _ = _
  simp only [h_text_octets, hRet_e, fCallP_e, vCons_e, fVar_e, List.getElem?_cons_zero, fVarK_sh, Option.bind_some, vCons1_e, vNil_e, Option.map_some, fCallP1_e, List.map_cons, List.map_nil, e, fCallP2_e, okR_sh, okR_nil, if_true, hRet1_sh, endD_sh]
/-! ### join -/
theorem join_tx (cs : List Nat) : Txt.join ("" : Str) (cs.map fun c => (⟨#[c]⟩ : Str)) = tx cs := by
  rw [join_eq]
  have e : tl (Str.join ("" : Str) (cs.map fun c => (⟨#[c]⟩ : Str))) = cs := by
    rw [tl_join, List.map_map]
    have e2 : ∀ l : List Nat, joinL (tl ("" : Str)) (l.map (tl ∘ fun c => (⟨#[c]⟩ : Str))) = l := by
      intro l
      induction l with
      | nil => rfl
      | cons a l ih =>
        cases l with
        | nil => rfl
        | cons b l =>
          rw [List.map_cons, List.map_cons, joinL, ← List.map_cons, ih]
          rfl
    exact e2 cs
  have e3 : ∀ z : Str, tl z = cs → z = tx cs := by
    rintro ⟨a⟩ h
    have h' : a.toList = cs := h
    rw [← h']
    rfl
  exact e3 _ e
theorem join_ok {cs : List Nat} (hl : cs.length ≤ 1000000) : joinR (.str "") (.lst (cs.map fun c => D.str ⟨#[c]⟩)) = some (.str (tx cs)) := by
  have e1 : (cs.map fun c => D.str ⟨#[c]⟩) = (cs.map fun c => (⟨#[c]⟩ : Str)).map D.str := by rw [List.map_map]; rfl
  have e2 : ((cs.map fun c => (⟨#[c]⟩ : Str)).map (·.length)).sum = cs.length := by
    rw [List.map_map]
    clear e1 hl
    induction cs with
    | nil => rfl
    | cons c cs ih =>
      rw [List.map_cons, List.sum_cons, ih, List.length_cons]
      show 1 + cs.length = cs.length + 1
      omega
  have e3 : ("" : Str).length = 0 := rfl
  rw [joinR_l, e1, strsOf_map]
  simp only [Option.bind_some]
  rw [e2, e3, Nat.mul_zero, Nat.add_zero, if_pos (by omega), join_tx]
end W35
/-! k35: texts read. -/
namespace W35
open PySem PySem.Spec PyProof.Rows L2 DL TL
theorem number_in_figs {n : Nat} (pre post : List Nat) (hn : n ≤ 1000000) (hl : (pre ++ (figs n ++ post)).length ≤ 1000000) :
    g_number_in [.tup (oD (pre ++ (figs n ++ post))), .int (pre.length : Nat)] = some (.tup [.int (n : Nat), .int ((pre.length + (figs n).length : Nat) : Int)], .sh) := by
  obtain ⟨mid, x, e, hm, hx, hz, hp, hnd⟩ := figs_split n
  have hb := figs_big (small_of hn)
  have hml : mid.length ≤ 1000 := by
    have := congrArg List.length e
    simp at this
    omega
  have z := number_in_ok pre mid x post hm hx (by rw [← e]; exact hl) hml
  rw [if_neg (fun q => hz q.1 q.2), ← e, ← hp, val_nd hnd] at z
  rw [z, e]
  simp [Nat.add_assoc]
/-- an octet's sign -/
def sgD (c : Nat) : D := if inA c then .str ⟨#[c]⟩ else .non
theorem sign_ok (c : Nat) : g_sign_of [.int (c : Nat)] = some (sgD c, .sh) := by
  unfold sgD
  by_cases h : inA c
  · rw [if_pos h, sign_in h]
  · rw [if_neg h, sign_no h]
theorem isIn_non (cs : List Nat) : isIn .non (cs.map sgD) = decide (∃ c ∈ cs, ¬ inA c) := by
  unfold isIn
  induction cs with
  | nil => simp
  | cons c cs ih =>
    rw [List.map_cons, List.any_cons, ih]
    by_cases h : inA c
    · have e : eqD (sgD c) .non = false := by unfold sgD; rw [if_pos h]; rfl
      rw [e, Bool.false_or]
      congr 1
      simp [h]
    · have e : eqD (sgD c) .non = true := by unfold sgD; rw [if_neg h]; rfl
      rw [e, Bool.true_or]
      simp [h]
theorem pl_sgD (cs : List Nat) : (cs.map sgD).all (pl 40) = true := by
  rw [List.all_map, List.all_eq_true]
  intro c _
  show pl 40 (sgD c) = true
  unfold sgD
  split <;> rfl
theorem oIn_sg (cs : List Nat) : oIn .non (.lst (cs.map sgD)) = some (.bl (decide (∃ c ∈ cs, ¬ inA c)), .sh) := by
  rw [oIn, if_pos (by show ((cs.map sgD).all (pl 40) && true) = true; rw [pl_sgD]; rfl)]
  show some (D.bl (isIn .non (cs.map sgD)), Kd.sh) = _
  rw [isIn_non]
section
variable {pre cs post : List Nat}
/-- too few octets -/
theorem text_in_few {n : Nat} (hn : n ≤ 100000) (hl : (pre ++ (figs n ++ post)).length ≤ 1000000) (hc : post.length < n) : g_text_in [.tup (oD (pre ++ (figs n ++ post))), .int (pre.length : Nat)] = some (.non, .sh) := by
  have e1 := number_in_figs pre post (n := n) (by omega) hl
  have e2 : (oD (pre ++ (figs n ++ post))).length = pre.length + (figs n).length + post.length := by rw [oD_len]; simp [Nat.add_assoc]
  generalize hos : oD (pre ++ (figs n ++ post)) = os at e1 e2
  have a1 : ((pre.length + (figs n).length + post.length : Nat) : Int) - ((pre.length + (figs n).length : Nat) : Int) < (n : Nat) := by omega
  have i0 : atD [D.int (n : Nat), .int ((pre.length + (figs n).length : Nat) : Int)] 0 = some (.int (n : Nat)) := rfl
  have i1 : atD [D.int (n : Nat), .int ((pre.length + (figs n).length : Nat) : Int)] 1 = some (.int ((pre.length + (figs n).length : Nat) : Int)) := rfl
  rw [g_text_in, fnP_e]
  show (endD (h_text_in [.sh (.tup os), .sh (.int (pre.length : Nat)), .un, .un, .un, .un] ([], 0))).map _ = _
  simp only [h_text_in, hSeq_e, hSet_e, fCallP_e, vCons_e, fVar_e, List.getElem?_cons_zero, List.getElem?_cons_succ, fVarK_sh, Option.bind_some, vCons1_e, vNil_e, Option.map_some, fCallP1_e, List.map_cons, List.map_nil, e1, fCallP2_e, okR_sh, okR_nil, if_true, hSet1_sh, List.set_cons_succ, List.set_cons_zero, hSeq1_nx,
    hIf_e, fOr_e, asB_e, fBin_e, fBin1_e, fC_e, fBin2_e, oIs_tn, asB1_e, fOr1_f, oIx_t, i0, i1, fCall_e, rCons_e, rCons1_e, rNil_e, fCall1_e, oLen_t, e2, oSub_i, oGt_i, a1, decide_true, hIf1_t, hRet_e, hRet1_sh, hSeq1_rt, endD_sh]
/-- a text, or an octet that is no sign -/
theorem text_in_ok (hn : cs.length ≤ 100000) (hl : (pre ++ (figs cs.length ++ (cs ++ post))).length ≤ 1000000) : g_text_in [.tup (oD (pre ++ (figs cs.length ++ (cs ++ post)))), .int (pre.length : Nat)] =
    if ∃ c ∈ cs, ¬ inA c then some (.non, .sh) else some (.tup [.str (tx cs), .int ((pre.length + (figs cs.length).length + cs.length : Nat) : Int)], .sh) := by
  have e1 := number_in_figs pre (cs ++ post) (n := cs.length) (by omega) hl
  have e2 : (oD (pre ++ (figs cs.length ++ (cs ++ post)))).length = pre.length + (figs cs.length).length + (cs.length + post.length) := by rw [oD_len]; simp [Nat.add_assoc]
  have e3 : DL.cutD (oD (pre ++ (figs cs.length ++ (cs ++ post)))) (some ((pre.length + (figs cs.length).length : Nat) : Int)) (some ((cs.length + (pre.length + (figs cs.length).length) : Nat) : Int)) = oD cs := by
    rw [cutD_nat _ (by omega) (by rw [e2]; omega), oD_app, oD_app, oD_app, ← List.append_assoc, List.drop_left' (by rw [List.length_append, oD_len, oD_len]), List.take_left' (by rw [oD_len]; omega)]
  generalize hos : oD (pre ++ (figs cs.length ++ (cs ++ post))) = os at e1 e2 e3
  generalize hE : pre.length + (figs cs.length).length = E at e1 e2 e3
  have a1 : ¬ ((E + (cs.length + post.length) : Nat) : Int) - (E : Int) < (cs.length : Nat) := by omega
  have i0 : atD [D.int (cs.length : Nat), .int (E : Int)] 0 = some (.int (cs.length : Nat)) := rfl
  have i1 : atD [D.int (cs.length : Nat), .int (E : Int)] 1 = some (.int (E : Int)) := rfl
  have a2 : ((cs.length : Nat) : Int) + (E : Int) = ((cs.length + E : Nat) : Int) := by omega
  have hlm : (oD cs).length ≤ sizeLine := by rw [oD_len]; exact len_line (by omega)
  have hm : ∀ z, lcD (bName 5) fYes ce_text_in_1 [.sh (.tup os), .sh (.int (pre.length : Nat)), .sh (.tup [.int (cs.length : Nat), .int (E : Int)]), .sh (.int ((cs.length + E : Nat) : Int)), .un, z] (oD cs) ([], 0) = some (cs.map sgD, ([], 0)) := fun z => by
    have e : cs.map sgD = (oD cs).map fun d => match d with | .int k => sgD k.toNat | d => d := by
      unfold oD
      rw [List.map_map]
      rfl
    rw [e]
    refine lcD_map fun d hd => ?_
    obtain ⟨c, _, rfl⟩ := List.mem_map.mp hd
    exact ⟨_, .sh, bName_e, by simp only [ce_text_in_1, fCallP_e, vCons_e, fVar_e, List.set_cons_succ, List.set_cons_zero, List.getElem?_cons_succ, List.getElem?_cons_zero, fVarK_sh, Option.bind_some, vCons1_e, vNil_e, Option.map_some, fCallP1_e, List.map_cons, List.map_nil, sign_ok, fCallP2_e, okR_sh, okR_nil, if_true, Int.toNat_natCast], by simp⟩
  have hw : wip [.sh (.tup os), .sh (.int (pre.length : Nat)), .sh (.tup [.int (cs.length : Nat), .int (E : Int)]), .sh (.int ((cs.length + E : Nat) : Int)), .un, .un] [5] = [.sh (.tup os), .sh (.int (pre.length : Nat)), .sh (.tup [.int (cs.length : Nat), .int (E : Int)]), .sh (.int ((cs.length + E : Nat) : Int)), .un, .un] := rfl
  rw [g_text_in, fnP_e]
  show (endD (h_text_in [.sh (.tup os), .sh (.int (pre.length : Nat)), .un, .un, .un, .un] ([], 0))).map _ = _
  by_cases hs : ∃ c ∈ cs, ¬ inA c
  · rw [if_pos hs]
    simp only [h_text_in, hSeq_e, hSet_e, fCallP_e, vCons_e, fVar_e, List.getElem?_cons_zero, List.getElem?_cons_succ, fVarK_sh, fVarK_ow, Option.bind_some, vCons1_e, vNil_e, Option.map_some, fCallP1_e, List.map_cons, List.map_nil, e1, fCallP2_e, okR_sh, okR_nil, if_true, hSet1_sh, hSet1_ow, List.set_cons_succ, List.set_cons_zero, hSeq1_nx,
      hIf_e, fOr_e, asB_e, fBin_e, fBin1_e, fC_e, fBin2_e, oIs_tn, asB1_e, fOr1_f, oIx_t, i0, i1, fCall_e, rCons_e, rCons1_e, rNil_e, fCall1_e, oLen_t, e2, oSub_i, oGt_i, a1, decide_false, hIf1_f, hNil_e, oAdd_i, a2, fLc_e, sSeq_e, fCut_e, fCut1_e, bOf_e, bOf1_e, fCut2_e, cutR_t, e3, sSeq1_t, fLc1_e, if_pos hlm, hw, hm, oIn_sg, hs, decide_true, hIf1_t, hRet_e, hRet1_sh, hSeq1_rt, endD_sh]
  · rw [if_neg hs]
    have hj : cs.map sgD = cs.map fun c => D.str ⟨#[c]⟩ := by
      refine List.map_congr_left fun c hc => ?_
      unfold sgD
      rw [if_pos (Classical.byContradiction fun z => hs ⟨c, hc, z⟩)]
    have hin : oIn .non (.lst (cs.map fun c => D.str ⟨#[c]⟩)) = some (.bl false, .sh) := by rw [← hj, oIn_sg, decide_eq_false hs]
    have hjn := join_ok (cs := cs) (by omega)
    have a3 : E + cs.length = cs.length + E := Nat.add_comm ..
    simp only [h_text_in, hSeq_e, hSet_e, fCallP_e, vCons_e, fVar_e, List.getElem?_cons_zero, List.getElem?_cons_succ, fVarK_sh, fVarK_ow, Option.bind_some, vCons1_e, vNil_e, Option.map_some, fCallP1_e, List.map_cons, List.map_nil, e1, fCallP2_e, okR_sh, okR_nil, if_true, hSet1_sh, hSet1_ow, List.set_cons_succ, List.set_cons_zero, hSeq1_nx,
      hIf_e, fOr_e, asB_e, fBin_e, fBin1_e, fC_e, fBin2_e, oIs_tn, asB1_e, fOr1_f, oIx_t, i0, i1, fCall_e, rCons_e, rCons1_e, rNil_e, fCall1_e, oLen_t, e2, oSub_i, oGt_i, a1, decide_false, hIf1_f, hNil_e, oAdd_i, a2, fLc_e, sSeq_e, fCut_e, fCut1_e, bOf_e, bOf1_e, fCut2_e, cutR_t, e3, sSeq1_t, fLc1_e, if_pos hlm, hw, hm, hj, hin, hIf1_f,
      fTup_e, aCons_e, fJoin_e, fJoin1_e, fJoin2_e, hj, hjn, aCons1_sh, aNil_e, fTup1_e, List.length_cons, List.length_nil, Nat.zero_add, if_pos (show 2 ≤ 1000 by decide), hRet_e, hRet1_sh, endD_sh, a3]
end
end W35
/-! k35: the law's own octets of a text; draws. -/
namespace W35
open PySem PySem.Spec PyProof.Rows L2 DL TL
@[irreducible] def CP : List (Key × D) := SG.cps.toList.map fun c => ((Sum.inr (⟨#[c]⟩ : Str) : Key), D.int (c : Nat))
def cpg (d : D) : D := match d with | .tup [.int k, .str z] => .tup [.str z, .int (if z == "\n" then 10 else 32 + k)] | d => d
theorem cp_pairs : pairsOf ((enD 0 (DL.signs SG)).map cpg) = some CP := by kernel_rfl
theorem cp_merge : mergeD [] CP = CP := by kernel_rfl
def toI : D → Option Int | .int i => some i | _ => none
theorem cp_get' : ∀ c : Fin 127, inA c.val → (getD' CP (.inr ⟨#[c.val]⟩)).bind toI = some (c.val : Int) := by decide +kernel
theorem cp_get {c : Nat} (h : inA c) : getD' CP (.inr ⟨#[c]⟩) = some (.int (c : Nat)) := by
  have hc : c < 127 := by unfold inA at h; omega
  have e := cp_get' ⟨c, hc⟩ h
  cases e2 : getD' CP (.inr ⟨#[c]⟩) with
  | none => rw [e2] at e; cases e
  | some d =>
    rw [e2] at e
    cases d <;> first | cases e; done | skip
    have e3 : some _ = some _ := e
    cases e3
    rfl
theorem en_mem {d : D} : ∀ {k : Nat} {l : List Nat}, d ∈ enD k (l.map fun c => D.str ⟨#[c]⟩) → ∃ (i c : Nat), d = .tup [.int (i : Nat), .str ⟨#[c]⟩]
  | _, [], h => by cases h
  | k, c :: l, h => by
    rcases List.mem_cons.mp h with h | h
    · exact ⟨k, c, h⟩
    · exact en_mem h
theorem fnP_1 {m : Nat} {h : HF'} {x : D} : fnP 1 m h [x] = (endD (h (.sh x :: List.replicate m .un) ([], 0))).map fun r => (r.1, r.2.1) := rfl
theorem oEq_s {x y : Str} : oEq (.str x) (.str y) = some (.bl (x == y), .sh) := rfl
theorem law_text_octets_ok {cs : List Nat} (hA : ∀ c ∈ cs, inA c) (hl : cs.length ≤ 100000) : g__law_text_octets [.str (tx cs)] = some (.tup (oD (figs cs.length ++ cs)), .sh) := by
  have h1 : cs.length ≤ sizeLine := len_line (by omega)
  have e1 := figures_ok (n := cs.length) (small_of (by omega))
  have m1 : lcD (bTup (bCons (bName 3) (bCons (bName 4) bNil))) fYes ce__law_text_octets_1 [.sh (.str (tx cs)), .sh (.str SG), .un, .un, .un] (enD 0 (DL.signs SG)) ([], 0) = some ((enD 0 (DL.signs SG)).map cpg, ([], 0)) := by
    refine lcD_map fun d hd => ?_
    obtain ⟨i, c, rfl⟩ := en_mem hd
    refine ⟨[.sh (.str (tx cs)), .sh (.str SG), .un, .sh (.int (i : Nat)), .sh (.str ⟨#[c]⟩)], .sh, rfl, ?_, by simp⟩
    show _ = some (D.tup [.str ⟨#[c]⟩, .int (if (⟨#[c]⟩ : Str) == "\n" then 10 else 32 + (i : Int))], Kd.sh, ([], 0))
    cases hb : (⟨#[c]⟩ : Str) == "\n" with
    | true => simp only [ce__law_text_octets_1, fTup_e, aCons_e, fVar_e, List.getElem?_cons_succ, List.getElem?_cons_zero, fVarK_sh, Option.bind_some, aCons1_sh, fIf_e, asB_e, fBin_e, fBin1_e, fC_e, fBin2_e, oEq_s, hb, Option.map_some, asB1_e, fIf1_t, aNil_e, fTup1_e, List.length_cons, List.length_nil, Nat.zero_add, if_pos (show 2 ≤ 1000 by decide), if_true]
    | false => simp only [ce__law_text_octets_1, fTup_e, aCons_e, fVar_e, List.getElem?_cons_succ, List.getElem?_cons_zero, fVarK_sh, Option.bind_some, aCons1_sh, fIf_e, asB_e, fBin_e, fBin1_e, fC_e, fBin2_e, oEq_s, hb, Option.map_some, asB1_e, fIf1_f, oAdd_i, aNil_e, fTup1_e, List.length_cons, List.length_nil, Nat.zero_add, if_pos (show 2 ≤ 1000 by decide)]; rfl
  have h2 : (enD 0 (DL.signs SG)).length ≤ sizeLine := by
    rw [enD_len]
    show (SG.cps.toList.map _).length ≤ _
    rw [List.length_map, Array.length_toList]
    show SG.length ≤ _
    rw [SG_len]
    decide
  have m2 : lcD (bName 4) fYes ce__law_text_octets_2 [.sh (.str (tx cs)), .sh (.str SG), .ow (.dic CP), .un, .un] (cs.map fun c => D.str ⟨#[c]⟩) ([], 0) = some (oD cs, ([], 0)) := by
    rw [← tcD_map]
    refine lcD_map fun d hd => ?_
    obtain ⟨c, hc, rfl⟩ := List.mem_map.mp hd
    exact ⟨_, .sh, bName_e, by simp only [ce__law_text_octets_2, fBin_e, fBin1_e, fBin2_e, fVar_e, List.set_cons_succ, List.set_cons_zero, List.getElem?_cons_succ, List.getElem?_cons_zero, fVarK_sh, fVarK_ow, Option.bind_some, oIxA_d, keyOf_s, cp_get (hA c hc), Option.map_some, tcD]; rfl, by simp⟩
  have h3 : (cs.map fun c => D.str ⟨#[c]⟩).length ≤ sizeLine := by rw [List.length_map]; exact h1
  have hw1 : wip [.sh (.str (tx cs)), .sh (.str SG), .un, .un, .un] [3, 4] = [.sh (.str (tx cs)), .sh (.str SG), .un, .un, .un] := rfl
  have hw2 : wip [.sh (.str (tx cs)), .sh (.str SG), .ow (.dic CP), .un, .un] [4] = [.sh (.str (tx cs)), .sh (.str SG), .ow (.dic CP), .un, .un] := rfl
  have hf := figs_big (n := cs.length) (small_of (by omega))
  have h4 : (oD (figs cs.length)).length + (oD cs).length ≤ sizeLine := by
    rw [oD_len, oD_len]
    exact len_line (by omega)
  rw [g__law_text_octets, fnP_1, show List.replicate 4 SV.un = [SV.un, SV.un, SV.un, SV.un] from rfl]
  simp only [h__law_text_octets, hSeq_e, hSet_e, fC_e, sgE, Option.bind_some, hSet1_sh, hSet1_ow, List.set_cons_succ, List.set_cons_zero, hSeq1_nx, fCall_e, rCons_e, fLc_e, sEnum_e, fVar_e, List.getElem?_cons_succ, List.getElem?_cons_zero, fVarK_sh, fVarK_ow, sEnum1_s, fLc1_e, if_pos h2, hw1, m1, Option.map_some, rCons1_e, rNil_e, fCall1_e, oDict_l, cp_pairs, cp_merge,
    hRet_e, fBin_e, fCallP_e, vCons_e, oLen_s, tx_len, if_pos h1, vCons1_e, vNil_e, fCallP1_e, List.map_cons, List.map_nil, e1, fCallP2_e, okR_sh, okR_nil, if_true, fBin1_e, sSeq_e, sSeq1_s, tx_signs, if_pos h3, hw2, m2, oTuple_l, fBin2_e, oAdd_t, if_pos h4, hRet1_sh, endD_sh, oD_app]
end W35
/-! k35: reading: the wrapper; where nothing is read. -/
namespace W35
open PySem PySem.Spec PyProof.Rows L2 DL TL
theorem fnP_2 {m : Nat} {h : HF'} {x y : D} : fnP 2 m h [x, y] = (endD (h (.sh x :: .sh y :: List.replicate m .un) ([], 0))).map fun r => (r.1, r.2.1) := rfl
theorem read_text_of {os : List D} {i : Int} {d : D} (e : g_text_in [.tup os, .int i] = some (d, .sh)) : g_read_text [.tup os, .int i] = some (d, .sh) := by
  rw [g_read_text, fnP_2, show List.replicate 0 SV.un = [] from rfl]
  simp only [h_read_text, hRet_e, fCallP_e, vCons_e, fCall_e, rCons_e, fVar_e, List.getElem?_cons_zero, List.getElem?_cons_succ, fVarK_sh, Option.bind_some, rCons1_e, rNil_e, Option.map_some, fCall1_e, oTuple_t, vCons1_e, vNil_e, fCallP1_e, List.map_cons, List.map_nil, e, fCallP2_e, okR_sh, okR_nil, if_true, hRet1_sh, endD_sh]
theorem number_in_no {os : List D} {i : Int} (e : g_behind_number [.tup os, .int i] = some (.non, .sh)) : g_number_in [.tup os, .int i] = some (.non, .sh) := by
  rw [g_number_in, fnP_2, show List.replicate 3 SV.un = [.un, .un, .un] from rfl]
  simp only [h_number_in, hSeq_e, hSet_e, hIf_e, fOr_e, asB_e, fBin_e, fBin1_e, fBin2_e, fC_e, oIs_nn, asB1_e, fOr1_t, hIf1_t, hSeq1_nx, hSeq1_rt, hSet1_sh, List.set_cons_succ, List.set_cons_zero, hRet_e, fCallP_e, vCons_e, fVar_e, List.getElem?_cons_zero, List.getElem?_cons_succ, fVarK_sh, Option.bind_some, Option.map_some, vCons1_e, vNil_e, fCallP1_e, List.map_cons, List.map_nil, e, fCallP2_e, okR_sh, okR_nil, if_true, hRet1_sh, endD_sh]
theorem text_in_no {os : List D} {i : Int} (e : g_number_in [.tup os, .int i] = some (.non, .sh)) : g_text_in [.tup os, .int i] = some (.non, .sh) := by
  rw [g_text_in, fnP_2, show List.replicate 4 SV.un = [.un, .un, .un, .un] from rfl]
  simp only [h_text_in, hSeq_e, hSet_e, hIf_e, fOr_e, asB_e, fBin_e, fBin1_e, fBin2_e, fC_e, oIs_nn, asB1_e, fOr1_t, hIf1_t, hSeq1_nx, hSeq1_rt, hSet1_sh, List.set_cons_succ, List.set_cons_zero, hRet_e, fCallP_e, vCons_e, fVar_e, List.getElem?_cons_zero, List.getElem?_cons_succ, fVarK_sh, Option.bind_some, Option.map_some, vCons1_e, vNil_e, fCallP1_e, List.map_cons, List.map_nil, e, fCallP2_e, okR_sh, okR_nil, if_true, hRet1_sh, endD_sh]
theorem read_far {os : List D} {i : Int} (h0 : 0 ≤ i) (h1 : (os.length : Int) ≤ i) (h2 : i < 2 ^ 61) : g_read_text [.tup os, .int i] = some (.non, .sh) := read_text_of (text_in_no (number_in_no (behind_far h0 h1 h2)))
theorem read_neg {os : List D} {i : Int} (h : i < 0) : g_read_text [.tup os, .int i] = some (.non, .sh) := read_text_of (text_in_no (number_in_no (behind_neg h)))
end W35
/-! k35: what is drawn. -/
namespace W35
open PySem PySem.Spec PyProof.Rows L2 DL TL
open LH (VD)
theorem of_is : g__law_of = LH.g__law_of := rfl
theorem any_is : g__law_any = LH.g__law_any := rfl
theorem fnW_0 {m : Nat} {h : HF'} {δ : Dr} : fnW 0 m h [] δ = endD (h (.dl :: List.replicate m .un) δ) := rfl
theorem nat_of {l : List Nat} {d : D} (h : d ∈ oD l) : ∃ n ∈ l, d = .int (n : Nat) := by
  obtain ⟨n, hn, e⟩ := List.mem_map.mp h
  exact ⟨n, hn, e.symm⟩
theorem nats_of : ∀ {es : List D} {P : Nat → Prop}, (∀ e ∈ es, ∃ n : Nat, P n ∧ e = .int (n : Nat)) → ∃ xs : List Nat, es = oD xs ∧ ∀ x ∈ xs, P x
  | [], P, _ => ⟨[], rfl, fun x hx => by cases hx⟩
  | e :: es, P, h => by
    obtain ⟨n, p, rfl⟩ := h e (by simp)
    obtain ⟨xs, e1, e2⟩ := nats_of (es := es) (P := P) fun y hy => h y (List.mem_cons_of_mem _ hy)
    refine ⟨n :: xs, by rw [e1]; rfl, fun x hx => ?_⟩
    rcases List.mem_cons.mp hx with rfl | hx
    · exact p
    · exact e2 x hx
theorem octet_one {t : SV} {δ : Dr} (v : VD δ) : ∃ (n : Nat) (δ' : Dr), ce__law_octet_row_1 [.dl, t] δ = some (.int (n : Nat), .sh, δ') ∧ n < 256 ∧ VD δ' := by
  obtain ⟨r, δ1, e1, r0, r1, v1⟩ := LH.any_ok (b := 256) v (by decide) (Nat.lt_of_lt_of_le (show (256 : Int).natAbs < 2 ^ 64 by decide) (Nat.pow_le_pow_right (by decide) (by decide)))
  have hr : r = (r.toNat : Nat) := (Int.toNat_of_nonneg r0).symm
  obtain ⟨d, δ2, e2, hd, v2⟩ := LH.of_ok (ds := [D.int 0, .int 1, .int 255, .int r]) v1 (by simp) (by simp)
  have hd' : d ∈ oD [0, 1, 255, r.toNat] := by
    have : oD [0, 1, 255, r.toNat] = [D.int 0, .int 1, .int 255, .int r] := by
      show [D.int 0, .int 1, .int 255, .int (r.toNat : Nat)] = _
      rw [← hr]
    rw [this]
    exact hd
  obtain ⟨n, hn, rfl⟩ := nat_of hd'
  refine ⟨n, δ2, ?_, ?_, v2⟩
  · simp only [ce__law_octet_row_1, fCallW_e, List.getElem?_cons_zero, fCallW0_e, vCons_e, fLst_e, aCons_e, fC_e, Option.bind_some, aCons1_sh, vCons1_e, vNil_e, Option.map_some, fCallW1_e, List.map_cons, List.map_nil, any_is, e1, fCallW2_e, okR_sh, okR_ow, okR_nil, if_true, aNil_e, fLst1_e, List.length_cons, List.length_nil, Nat.zero_add, if_pos (show 4 ≤ 1000 by decide), of_is, e2]
  · simp only [List.mem_cons, List.not_mem_nil, or_false] at hn
    omega
theorem octet_row_ok {δ : Dr} (v : VD δ) : ∃ (xs : List Nat) (δ' : Dr), g__law_octet_row [] δ = some (.tup (oD xs), .sh, δ') ∧ xs.length ≤ 900 ∧ (∀ x ∈ xs, x < 256) ∧ VD δ' := by
  obtain ⟨d, δ1, e1, hd, v1⟩ := LH.of_ok (ds := oD [0, 1, 2, 7, 60, 900]) v (by decide) (by decide)
  obtain ⟨n, hn, rfl⟩ := nat_of hd
  have hn' : n ≤ 900 := by
    simp only [List.mem_cons, List.not_mem_nil, or_false] at hn
    omega
  obtain ⟨es, δ2, e2, e3, e4, v2⟩ := lcD_draw (b := bName 1) (f := ce__law_octet_row_1) (Z := VD) (Pd := fun d => ∃ n : Nat, n < 256 ∧ d = .int (n : Nat)) (ds := rng 0 n) (ρ := [.dl, .un]) (δ := δ1) (fun x hx δ v => by
    obtain ⟨m, δ', a1, a2, a3⟩ := octet_one (t := .sh x) v
    exact ⟨_, _, .sh, δ', bName_e, a1, by simp, ⟨m, a2, rfl⟩, a3⟩) v1
  obtain ⟨xs, rfl, hx⟩ := nats_of e4
  have hr : (rng 0 n).length = n := by unfold rng; rw [List.length_map, List.length_range]
  have e1' : LH.g__law_of [.lst [.int 0, .int 1, .int 2, .int 7, .int 60, .int 900]] δ = _ := e1
  have hz : (rng 0 n).length ≤ sizeLine := by rw [hr]; exact len_line (by omega)
  have hw : wip [.dl, .un] [1] = [.dl, .un] := rfl
  refine ⟨xs, δ2, ?_, by rw [oD_len, hr] at e3; omega, hx, v2⟩
  rw [g__law_octet_row, fnW_0, show List.replicate 1 SV.un = [.un] from rfl]
  simp only [h__law_octet_row, hRet_e, fCall_e, rCons_e, fLc_e, sRng1_e, fCallW_e, List.getElem?_cons_zero, fCallW0_e, vCons_e, fLst_e, aCons_e, fC_e, Option.bind_some, aCons1_sh, aNil_e, Option.map_some, fLst1_e, List.length_cons, List.length_nil, Nat.zero_add, if_pos (show 6 ≤ 1000 by decide), vCons1_e, vNil_e, fCallW1_e, List.map_cons, List.map_nil, of_is, e1', fCallW2_e, okR_ow, okR_nil, if_true, rCons1_e, rNil_e, sRng1k_ok (show (n : Int) < 2 ^ 62 by omega), fLc1_e, if_pos hz, hw, e2, fCall1_e, oTuple_l, hRet1_sh, endD_sh]
def SL : Str := " !\"#$&'()*+,-./0123456789:;<=>?@ABCDEFGHIJKLMNOPQRSTUVWXYZ[\\]^_`abcdefghijklmnopqrstuvwxyz{|}~\x0a"
theorem SL_len : SL.length = 95 := by decide +kernel
theorem SL_in : ∀ c ∈ SL.cps.toList, inA c := by decide +kernel
theorem slE : (D.str " !\"#$&'()*+,-./0123456789:;<=>?@ABCDEFGHIJKLMNOPQRSTUVWXYZ[\\]^_`abcdefghijklmnopqrstuvwxyz{|}~\x0a") = D.str SL := rfl
theorem strs_of : ∀ {es : List D} {P : Nat → Prop}, (∀ e ∈ es, ∃ n : Nat, P n ∧ e = .str ⟨#[n]⟩) → ∃ xs : List Nat, es = (xs.map fun c => D.str ⟨#[c]⟩) ∧ ∀ x ∈ xs, P x
  | [], P, _ => ⟨[], rfl, fun x hx => by cases hx⟩
  | e :: es, P, h => by
    obtain ⟨n, p, rfl⟩ := h e (by simp)
    obtain ⟨xs, e1, e2⟩ := strs_of (es := es) (P := P) fun y hy => h y (List.mem_cons_of_mem _ hy)
    refine ⟨n :: xs, by rw [e1]; rfl, fun x hx => ?_⟩
    rcases List.mem_cons.mp hx with rfl | hx
    · exact p
    · exact e2 x hx
theorem law_text_ok {δ : Dr} (v : VD δ) : ∃ (cs : List Nat) (δ' : Dr), g__law_text [] δ = some (.str (tx cs), .sh, δ') ∧ cs.length ≤ 300 ∧ (∀ c ∈ cs, inA c) ∧ VD δ' := by
  obtain ⟨d, δ1, e1, hd, v1⟩ := LH.of_ok (ds := oD [0, 1, 5, 127, 128, 300]) v (by decide) (by decide)
  obtain ⟨n, hn, rfl⟩ := nat_of hd
  have hn' : n ≤ 300 := by
    simp only [List.mem_cons, List.not_mem_nil, or_false] at hn
    omega
  obtain ⟨es, δ2, e2, e3, e4, v2⟩ := lcD_draw (b := bName 2) (f := ce__law_text_1) (Z := VD) (Pd := fun d => ∃ n : Nat, inA n ∧ d = .str ⟨#[n]⟩) (ds := rng 0 n) (ρ := [.dl, .sh (.str SL), .un]) (δ := δ1) (fun x hx δ v => by
    obtain ⟨c, δ', a1, a2, a3⟩ := of_okS (z := SL) v (by rw [SL_len]; decide) (by rw [SL_len]; decide)
    refine ⟨_, _, .sh, δ', bName_e, ?_, by simp, ⟨c, SL_in c a2, rfl⟩, a3⟩
    simp only [ce__law_text_1, fCallW_e, List.set_cons_succ, List.set_cons_zero, List.getElem?_cons_zero, fCallW0_e, vCons_e, fVar_e, List.getElem?_cons_succ, fVarK_sh, Option.bind_some, vCons1_e, vNil_e, Option.map_some, fCallW1_e, List.map_cons, List.map_nil, of_is, a1, fCallW2_e, okR_sh, okR_nil, if_true]) v1
  obtain ⟨cs, rfl, hx⟩ := strs_of e4
  have hr : (rng 0 n).length = n := by unfold rng; rw [List.length_map, List.length_range]
  have e1' : LH.g__law_of [.lst [.int 0, .int 1, .int 5, .int 127, .int 128, .int 300]] δ = _ := e1
  have hz : (rng 0 n).length ≤ sizeLine := by rw [hr]; exact len_line (by omega)
  have hw : wip [.dl, .sh (.str SL), .un] [2] = [.dl, .sh (.str SL), .un] := rfl
  have hc : cs.length ≤ 300 := by rw [List.length_map, hr] at e3; omega
  have hj := join_ok (cs := cs) (by omega)
  refine ⟨cs, δ2, ?_, hc, hx, v2⟩
  rw [g__law_text, fnW_0, show List.replicate 2 SV.un = [.un, .un] from rfl]
  simp only [h__law_text, slE, hSeq_e, hSet_e, fC_e, Option.bind_some, hSet1_sh, List.set_cons_succ, List.set_cons_zero, hSeq1_nx, hRet_e, fJoin_e, fJoin1_e, fJoin2_e, fLc_e, sRng1_e, rCons_e, fCallW_e, List.getElem?_cons_zero, fCallW0_e, vCons_e, fLst_e, aCons_e, aCons1_sh, aNil_e, Option.map_some, fLst1_e, List.length_cons, List.length_nil, Nat.zero_add, if_pos (show 6 ≤ 1000 by decide), vCons1_e, vNil_e, fCallW1_e, List.map_cons, List.map_nil, of_is, e1', fCallW2_e, okR_ow, okR_nil, if_true, rCons1_e, rNil_e, sRng1k_ok (show (n : Int) < 2 ^ 62 by omega), fLc1_e, if_pos hz, hw, e2, hj, hRet1_sh, endD_sh]
end W35
/-! k35: the law's loop. -/
namespace W35
open PySem PySem.Spec PyProof.Rows L2 DL TL
open LH (VD k_ii k_ib k_tt)
theorem whole_ok (i : Int) : g__law_whole [.int i] = some (.int i, .sh) := by simp [g__law_whole, h__law_whole, oIsa, tyD, k_ii, k_ib]
theorem tuple_ok (ds : List D) : g__law_tuple [.tup ds] = some (.tup ds, .sh) := by simp [g__law_tuple, h__law_tuple, oIsa, tyD, k_tt]
theorem cat_mod (a b : List Nat) : (((ws 0 a % 65521 : Nat) : Int) + ((ws 0 b % 65521 : Nat) : Int) + (a.length : Int) * ((b.sum : Nat) : Int)) % 65521 = ((ws 0 (a ++ b) % 65521 : Nat) : Int) := by
  rw [ws_cat, ← Int.natCast_mul]
  generalize a.length * b.sum = m
  omega
theorem cat_mod' (a b : List Nat) : (((ws 0 a % 65521 : Nat) : Int) + ((ws 0 b % 65521 : Nat) : Int) + (b.length : Int) * ((a.sum : Nat) : Int)) % 65521 = ((ws 0 (b ++ a) % 65521 : Nat) : Int) := by
  rw [ws_cat, ← Int.natCast_mul]
  generalize b.length * a.sum = m
  omega
theorem rev_mod (a : List Nat) : (((a.length : Int) + 1) * ((a.sum : Nat) : Int) - ((ws 0 a % 65521 : Nat) : Int)) % 65521 = ((ws 0 a.reverse % 65521 : Nat) : Int) := by
  have e := ws_rev a
  have e2 : ((a.length : Int) + 1) * ((a.sum : Nat) : Int) = (((a.length + 1) * a.sum : Nat) : Int) := by rw [Int.natCast_mul]; rfl
  rw [e2]
  generalize (a.length + 1) * a.sum = m at e
  omega
end W35
/-! k35: one turn of the law. -/
namespace W35
open PySem PySem.Spec PyProof.Rows L2 DL TL LT
open LH (VD Goo k_ii k_ib k_tt)
/-! ### cuts -/
theorem cut_lo (a : List Nat) {i : Nat} (h : i ≤ a.length) : DL.cutD (oD a) none (some (i : Int)) = oD (a.take i) := by
  rw [cutD_lo _ (by rw [oD_len]; exact h)]
  exact List.map_take.symm
theorem cut_hi (a : List Nat) {i : Nat} (h : i ≤ a.length) : DL.cutD (oD a) (some (i : Int)) none = oD (a.drop i) := by
  rw [cutD_hi _ (by rw [oD_len]; exact h)]
  exact List.map_drop.symm
theorem at_oD (a : List Nat) {i : Nat} (h : i < a.length) : atD (oD a) (i : Int) = some (.int (a[i] : Nat)) := by
  rw [atD_nat]
  unfold oD
  rw [List.getElem?_map, List.getElem?_eq_getElem h]
  rfl
theorem oAdd_sx (a b : List Nat) (h : a.length + b.length ≤ 1000000) : oAdd (.str (tx a)) (.str (tx b)) = some (.str (tx (a ++ b)), .sh) := by
  have e : tx a ++ tx b = tx (a ++ b) := by
    show (⟨a.toArray ++ b.toArray⟩ : Str) = _
    rw [List.append_toArray]
    rfl
  have e2 : oAdd (.str (tx a)) (.str (tx b)) = if (tx a).length + (tx b).length ≤ sizeLine then some (.str (tx a ++ tx b), .sh) else none := rfl
  rw [e2, tx_len, tx_len, if_pos (len_line h), e]
theorem back_oD (a : List Nat) : (oD a).reverse = oD a.reverse := by
  unfold oD
  rw [List.map_reverse]
theorem oAdd_oD (a b : List Nat) (h : a.length + b.length ≤ 1000000) : oAdd (.tup (oD a)) (.tup (oD b)) = some (.tup (oD (a ++ b)), .sh) := by
  rw [oAdd_t, oD_len, oD_len, if_pos (len_line h), oD_app]
theorem one_oD (n : Nat) : [D.int (n : Nat)] = oD [n] := rfl
theorem two_oD (n m : Nat) : [D.int (n : Nat), D.int (m : Nat)] = oD [n, m] := rfl
theorem len_oD (a : List Nat) : oLen [.tup (oD a)] = some (.int (a.length : Nat), .sh) := by rw [oLen_t, oD_len]
theorem len_tx (a : List Nat) (h : a.length ≤ 1000000) : oLen [.str (tx a)] = some (.int (a.length : Nat), .sh) := by rw [oLen_s, tx_len, if_pos (len_line h)]
/-! ### sums changed -/
theorem split_at (a : List Nat) {i : Nat} (h : i < a.length) : a = a.take i ++ (a[i] :: a.drop (i + 1)) := by
  rw [← List.drop_eq_getElem_cons h, List.take_append_drop]
theorem chg_mod (a : List Nat) {i o : Nat} (h : i < a.length) : (((ws 0 a % 65521 : Nat) : Int) + ((i : Int) + 1) * ((o : Int) - ((a[i] : Nat) : Int))) % 65521 = ((ws 0 (a.take i ++ (o :: a.drop (i + 1))) % 65521 : Nat) : Int) := by
  have e1 := ws_mid (a.take i) (a.drop (i + 1)) a[i]
  have e2 := ws_mid (a.take i) (a.drop (i + 1)) o
  rw [← split_at a h] at e1
  have hl : (a.take i).length = i := by rw [List.length_take]; omega
  rw [hl] at e1 e2
  rw [e1, e2]
  have e3 : ((i : Int) + 1) * ((o : Int) - ((a[i] : Nat) : Int)) = (((i + 1) * o : Nat) : Int) - (((i + 1) * a[i] : Nat) : Int) := by
    rw [Int.mul_sub, Int.natCast_mul, Int.natCast_mul]
    rfl
  rw [e3]
  generalize (i + 1) * o = x
  generalize (i + 1) * a[i] = y
  omega
theorem split_at2 (a : List Nat) {i : Nat} (h : i + 1 < a.length) : a = a.take i ++ (a[i] :: a[i + 1] :: a.drop (i + 2)) := by
  have h1 : i < a.length := by omega
  have e : a.drop (i + 1) = a[i + 1] :: a.drop (i + 2) := List.drop_eq_getElem_cons h
  rw [← e]
  exact split_at a h1
theorem exc_mod (a : List Nat) {i : Nat} (h : i + 1 < a.length) : (((ws 0 a % 65521 : Nat) : Int) + ((a[i] : Nat) : Int) - ((a[i + 1] : Nat) : Int)) % 65521 = ((ws 0 (a.take i ++ (a[i + 1] :: a[i] :: a.drop (i + 2))) % 65521 : Nat) : Int) := by
  have e1 := ws_mid (a.take i) (a[i + 1] :: a.drop (i + 2)) a[i]
  have e2 := ws_mid (a.take i) (a[i] :: a.drop (i + 2)) a[i + 1]
  rw [← split_at2 a h] at e1
  have hl : (a.take i).length = i := by rw [List.length_take]; omega
  rw [hl, ws] at e1 e2
  rw [e1, e2]
  have e3 : ∀ n : Nat, (i + 1 + 1) * n = (i + 1) * n + n := fun n => by rw [Nat.add_mul (i + 1) 1 n, Nat.one_mul]
  rw [e3, e3]
  generalize (i + 1) * a[i] = x
  generalize (i + 1) * a[i + 1] = y
  omega
end W35
/-! k35: one turn of the law, step by step (printed by a program of ours). -/
namespace W35
open PySem PySem.Spec PyProof.Rows L2 DL TL LT
open LH (VD Goo k_ii k_ib k_tt)
section
variable {ps : List D} {n : Nat} {turn : Nat} {x4 x5 x6 x7 x8 x9 x10 x11 x12 x13 x14 x15 x16 : SV} {δ : Dr} {Q : Ou × Rho × Dr → Prop}
theorem oD_app' (a b : List Nat) : oD a ++ oD b = oD (a ++ b) := (oD_app a b).symm
theorem goo_oD (a : List Nat) (h : a.length ≤ 5000) : Goo (.tup [.tup (oD a), .tup (oD a)]) := by
  have nd : ∀ l : List Nat, LH.nodess (oD l) = l.length := by
    intro l
    induction l with
    | nil => rfl
    | cons x l ih =>
      show LH.nodess (.int _ :: oD l) = _
      rw [LH.nodess, ih, List.length_cons]
      show 1 + l.length = l.length + 1
      omega
  refine ⟨_, rfl, LH.lfs_of fun x hx => ?_, ?_⟩
  · obtain ⟨m, _, rfl⟩ := List.mem_map.mp hx
    rfl
  · show LH.nodess (oD a) + 1 ≤ _
    rw [nd]
    omega
theorem goo_txt (z : Str) (i : Int) : Goo (.tup [.tup [.str z, .int i], .tup [.str z, .int i]]) := ⟨_, rfl, rfl, by simp [LH.nodes, LH.nodess]⟩
theorem vPerm10 {i : Nat} {d : D} : vPerm [1, 0] 0 2 vNil (vCons (fC d) (vCons (fVar i) vNil)) = vCons (fVar i) (vCons (fC d) vNil) := by
  funext ρ δ
  rw [vPerm_e, vNil_e]
  simp only [Option.bind_some, vPerm1_e, vCons_e, fC_e, vCons1_e, vNil_e, Option.map_some]
  cases e : fVar i ρ δ with
  | none => rfl
  | some p =>
    obtain ⟨d2, k, δ2⟩ := p
    have : δ2 = δ := by
      unfold fVar at e
      split at e <;> cases e <;> rfl
    subst this
    simp only [Option.bind_some, vCons1_e, vNil_e, Option.map_some]
    rfl
/-! ### the inner loop -/
theorem inner_ok (hg : PG ps n) (hn : n + 2 ≤ 100000) {a : List Nat} (h1 : 1 < a.length) (hl : a.length ≤ 900) (hx : ∀ x ∈ a, x < 256) (v : VD δ) :
    ∃ qs y9 y10 δ', fb_law_1 [.un, .dl, .ow (.lst ps), .sh (.int (turn : Nat)), .sh (.tup (oD a)), x5, .sh (.int ((ws 0 a % 65521 : Nat) : Int)), x7, x8, x9, x10, x11, x12, x13, x14, x15, x16] δ = some (.nx, [.un, .dl, .ow (.lst qs), .sh (.int (turn : Nat)), .sh (.tup (oD a)), x5, .sh (.int ((ws 0 a % 65521 : Nat) : Int)), x7, x8, y9, y10, x11, x12, x13, x14, x15, x16], δ') ∧ PG qs (n + 2) ∧ VD δ' := by
  have bigI : ∀ x : Int, x.natAbs < 2 ^ 64 → x.natAbs < 2 ^ 8000 := fun x h => Nat.lt_of_lt_of_le h (Nat.pow_le_pow_right (by decide) (by decide))
  have bigM : ∀ x : Int, x.natAbs < 2 ^ 64 → x.natAbs < 2 ^ 400000 := fun x h => Nat.lt_of_lt_of_le h (Nat.pow_le_pow_right (by decide) (by decide))
  obtain ⟨r, δ1, e1, r0, r1, v1⟩ := LH.any_ok (b := (a.length : Nat)) v (by omega) (bigI _ (by omega))
  obtain ⟨o, δ2, e2, o0, o1, v2⟩ := LH.any_ok (b := 256) v1 (by decide) (bigI _ (by decide))
  obtain ⟨s, δ3, e3, s0, s1, v3⟩ := LH.any_ok (b := (a.length : Nat) - 1) v2 (by omega) (bigI _ (by omega))
  obtain ⟨i, rfl⟩ : ∃ i : Nat, r = i := ⟨r.toNat, by omega⟩
  obtain ⟨c, rfl⟩ : ∃ i : Nat, o = i := ⟨o.toNat, by omega⟩
  obtain ⟨j, rfl⟩ : ∃ i : Nat, s = i := ⟨s.toNat, by omega⟩
  have hi : i < a.length := by omega
  have hj : j + 1 < a.length := by omega
  have hj' : j < a.length := by omega
  have k1 : DL.cutD (oD a) (some ((i : Int) + 1)) none = oD (a.drop (i + 1)) := cut_hi a (show i + 1 ≤ a.length by omega)
  have k2 : DL.cutD (oD a) (some ((j : Int) + 2)) none = oD (a.drop (j + 2)) := cut_hi a (show j + 2 ≤ a.length by omega)
  have k3 : atD (oD a) ((j : Int) + 1) = some (.int (a[j + 1] : Nat)) := at_oD a hj
  have l1 : (a.take i).length ≤ 900 := by rw [List.length_take]; omega
  have l2 : (a.drop (i + 1)).length ≤ 900 := by rw [List.length_drop]; omega
  have l3 : (a.take j).length ≤ 900 := by rw [List.length_take]; omega
  have l4 : (a.drop (j + 2)).length ≤ 900 := by rw [List.length_drop]; omega
  have a1 := oAdd_oD (a.take i) [c] (by simp only [List.length_singleton]; omega)
  have a2 := oAdd_oD (a.take i ++ [c]) (a.drop (i + 1)) (by rw [List.length_append]; simp only [List.length_singleton]; omega)
  have a3 := oAdd_oD (a.take j) [a[j + 1], a[j]] (by simp only [List.length_cons, List.length_nil]; omega)
  have a4 := oAdd_oD (a.take j ++ [a[j + 1], a[j]]) (a.drop (j + 2)) (by rw [List.length_append]; simp only [List.length_cons, List.length_nil]; omega)
  have hb : ∀ m : Nat, m < 256 → m < 2 ^ 64 := fun m h => Nat.lt_of_lt_of_le h (by decide)
  have mem : ∀ x ∈ a, x < 2 ^ 64 := fun x h => hb x (hx x h)
  have s1' := sum_ok (xs := a.take i ++ [c] ++ a.drop (i + 1)) (fun x h => by
    rcases List.mem_append.mp h with h | h
    · rcases List.mem_append.mp h with h | h
      · exact mem x (List.mem_of_mem_take h)
      · rw [List.mem_singleton.mp h]; exact hb c (by omega)
    · exact mem x (List.mem_of_mem_drop h)) (by rw [List.length_append, List.length_append, List.length_singleton]; exact Nat.lt_of_le_of_lt (show _ ≤ 2000 by omega) (by decide))
  have s2' := sum_ok (xs := a.take j ++ [a[j + 1], a[j]] ++ a.drop (j + 2)) (fun x h => by
    rcases List.mem_append.mp h with h | h
    · rcases List.mem_append.mp h with h | h
      · exact mem x (List.mem_of_mem_take h)
      · simp only [List.mem_cons, List.not_mem_nil, or_false] at h
        rcases h with rfl | rfl
        · exact mem _ (List.getElem_mem hj)
        · exact mem _ (List.getElem_mem hj')
    · exact mem x (List.mem_of_mem_drop h)) (by rw [List.length_append, List.length_append]; exact Nat.lt_of_le_of_lt (show (a.take j).length + 2 + (a.drop (j + 2)).length ≤ 2000 by omega) (by decide))
  have ai := hx _ (List.getElem_mem hi)
  have m1 : cMul ((i : Int) + 1) ((c : Int) - ((a[i] : Nat) : Int)) := cMul_of (bigM _ (by omega)) (bigM _ (by omega))
  have q1 := chg_mod a (o := c) hi
  have q2 := exc_mod a hj
  have f1 : a.take i ++ [c] ++ a.drop (i + 1) = a.take i ++ (c :: a.drop (i + 1)) := by rw [List.append_assoc]; rfl
  have f2 : a.take j ++ [a[j + 1], a[j]] ++ a.drop (j + 2) = a.take j ++ (a[j + 1] :: a[j] :: a.drop (j + 2)) := by rw [List.append_assoc]; rfl
  rw [f1] at s1'
  rw [f2] at s2'
  have z1 : ps.length ≤ 100000 := by have := hg.n; omega
  have z2 : (ps ++ [D.tup [.int ((ws 0 (a.take i ++ (c :: a.drop (i + 1))) % 65521 : Nat) : Int), .int ((ws 0 (a.take i ++ (c :: a.drop (i + 1))) % 65521 : Nat) : Int)]]).length ≤ 100000 := by rw [List.length_append]; simp only [List.length_singleton]; have := hg.n; omega
  have sm : ∀ x : Int, oMul ((D.int ((i : Int) + 1))) (.int ((c : Int) - ((a[i] : Nat) : Int))) = some (.int (((i : Int) + 1) * ((c : Int) - ((a[i] : Nat) : Int))), .sh) := fun _ => by rw [oMul_i, if_pos m1]
  refine ⟨_, .sh (.int (j : Nat)), .sh (.int (c : Nat)), δ3, ?_, (hg.app (m := 1) (goos_cons (goo_int ((ws 0 (a.take i ++ (c :: a.drop (i + 1))) % 65521 : Nat) : Int)) goos_nil) (by simp)).app (m := 1) (goos_cons (goo_int ((ws 0 (a.take j ++ (a[j + 1] :: a[j] :: a.drop (j + 2))) % 65521 : Nat) : Int)) goos_nil) (by simp), v3⟩
  rw [fb_law_1]
  simp only [hSeq_e, hSeq1_nx, hSet_e, hIf_e, hApp_e, hApp1_e, hPar_e, hPar1_e, hPar2_e, sv_sh, sv_ow, fBin_e, fVar_e, List.getElem?_cons_succ, List.getElem?_cons_zero, fVarK_sh, fVarK_ow, Option.bind_some, fBin1_e, fC_e, fBin2_e, Option.map_some, asB_e, asB1_e, fCall_e, rCons_e, rCons1_e, rNil_e, fCall1_e, fCallP_e, vCons_e, vCons1_e, vNil_e, fCallP1_e, List.map_cons, List.map_nil, fCallP2_e, okR_sh, okR_nil, if_true, fCallW_e, fCallW0_e, fCallW1_e, fCallW2_e, fTup_e, fLst_e, aCons_e, aCons1_sh, aCons1_ow, aNil_e, fTup1_z, fLst1_z, List.length_cons, List.length_nil, hSet1_sh, hSet1_ow, List.set_cons_succ, List.set_cons_zero, oAdd_i, oSub_i, oGt_i, oEq_i, fCut_e, fCut1_e, fCut2_e, bNo_e, bOf_e, bOf1_e, fNeg_e, fNeg1_e, cutR_t, oIx_t, oInt_i, oMod_i, cMod_e, fIf_same, vPerm1_id, hApp2_z, oAdd_lz, fBack_e, fBack1_t, len_oD, whole_ok, tuple_ok, oSumA_oD, back_oD, oD_app', oD_len, Nat.zero_add, Nat.reduceAdd, Nat.reduceLeDiff, Int.reduceLT, any_is, e1, e2, e3, cut_lo a (Nat.le_of_lt hi), sm 0, k1, k2, k3, at_oD a hi, at_oD a hj', cut_lo a (Nat.le_of_lt hj'), one_oD c, two_oD a[j + 1] a[j], a1, a2, a3, a4, f1, f2, s1', s2', z1, z2, q1, q2]
end
end W35
/-! k35: one turn of the law as a whole (printed by a program of ours). -/
namespace W35
open PySem PySem.Spec PyProof.Rows L2 DL TL LT
open LH (VD Goo k_ii k_ib k_tt)
theorem sum_le (b : List Nat) (h : ∀ x ∈ b, x < 256) : b.sum ≤ 256 * b.length := by
  induction b with
  | nil => simp
  | cons x b ih =>
    have h1 := h x (by simp)
    have h2 := ih fun y hy => h y (List.mem_cons_of_mem _ hy)
    rw [List.sum_cons, List.length_cons]
    omega
theorem mul_len {a b : List Nat} (ha : a.length ≤ 1000) (hb : b.length ≤ 900) (h : ∀ x ∈ b, x < 256) : oMul (.int ((a.length : Nat) : Int)) (.int ((b.sum : Nat) : Int)) = some (.int ((a.length : Int) * ((b.sum : Nat) : Int)), .sh) := by
  have := sum_le b h
  rw [oMul_i, if_pos (cMul_of (big64 (show a.length < 2 ^ 64 by omega)) (big64 (show b.sum < 2 ^ 64 by omega)))]
theorem mul_len1 {b : List Nat} (hb : b.length ≤ 900) (h : ∀ x ∈ b, x < 256) : oMul (.int ((b.length : Int) + 1)) (.int ((b.sum : Nat) : Int)) = some (.int (((b.length : Int) + 1) * ((b.sum : Nat) : Int)), .sh) := by
  have := sum_le b h
  have e : (b.length : Int) + 1 = ((b.length + 1 : Nat) : Int) := rfl
  rw [e, oMul_i, if_pos (cMul_of (big64 (show b.length + 1 < 2 ^ 64 by omega)) (big64 (show b.sum < 2 ^ 64 by omega)))]
section
variable {ps : List D} {n : Nat} {turn : Nat} {x4 x5 x6 x7 x8 x9 x10 x11 x12 x13 x14 x15 x16 : SV} {δ : Dr} {Q : Ou × Rho × Dr → Prop}
def Post (turn m : Nat) (r : Ou × Rho × Dr) : Prop := ∃ (qs : List D) (x4 x5 x6 x7 x8 x9 x10 x11 x12 x13 x14 x15 x16 : SV) (δ' : Dr), r = (.nx, [.un, .dl, .ow (.lst (qs)), .sh (.int (turn : Nat)), x4, x5, x6, x7, x8, x9, x10, x11, x12, x13, x14, x15, x16], δ') ∧ PG qs m ∧ VD δ'
theorem loop_ok (hg : PG ps n) (hn : n + 6 ≤ 100000) {a b : List Nat} (hl : a.length ≤ 900) (hx : ∀ x ∈ a, x < 256) (v : VD δ) :
    ∃ (qs : List D) (y8 y9 y10 : SV) (δ' : Dr), (hFor (sRng1 (rCons (fIf (asB (fBin oGt (fCall oLen (rCons (fVar 4) rNil)) (fC (.int 1)))) (fC (.int 3)) (fC (.int 0))) rNil)) (bName 8) fb_law_1) [.un, .dl, .ow (.lst (ps)), .sh (.int (turn : Nat)), .sh (.tup (oD a)), .sh (.tup (oD b)), .sh (.int ((ws 0 a % 65521 : Nat) : Int)), .sh (.int ((ws 0 b % 65521 : Nat) : Int)), x8, x9, x10, x11, x12, x13, x14, x15, x16] δ = some (.nx, [.un, .dl, .ow (.lst (qs)), .sh (.int (turn : Nat)), .sh (.tup (oD a)), .sh (.tup (oD b)), .sh (.int ((ws 0 a % 65521 : Nat) : Int)), .sh (.int ((ws 0 b % 65521 : Nat) : Int)), y8, y9, y10, x11, x12, x13, x14, x15, x16], δ') ∧ PG qs (n + 6) ∧ VD δ' := by
  by_cases h : 1 < a.length
  · obtain ⟨ρ', δ', e, qs, m, y8, y9, y10, rfl, hq, hm, v'⟩ := forD_inv (b := bName 8) (h := fb_law_1) (ds := rng 0 3) (ρ := [.un, .dl, .ow (.lst (ps)), .sh (.int (turn : Nat)), .sh (.tup (oD a)), .sh (.tup (oD b)), .sh (.int ((ws 0 a % 65521 : Nat) : Int)), .sh (.int ((ws 0 b % 65521 : Nat) : Int)), x8, x9, x10, x11, x12, x13, x14, x15, x16]) (δ := δ) (fun ds ρ δ => ∃ (qs : List D) (m : Nat) (y8 y9 y10 : SV), ρ = [.un, .dl, .ow (.lst (qs)), .sh (.int (turn : Nat)), .sh (.tup (oD a)), .sh (.tup (oD b)), .sh (.int ((ws 0 a % 65521 : Nat) : Int)), .sh (.int ((ws 0 b % 65521 : Nat) : Int)), y8, y9, y10, x11, x12, x13, x14, x15, x16] ∧ PG qs m ∧ m + 2 * ds.length = n + 6 ∧ VD δ) (fun x xs ρ δ i => by
      obtain ⟨qs, m, y8, y9, y10, rfl, hq, hm, v'⟩ := i
      rw [List.length_cons] at hm
      obtain ⟨q2, z9, z10, δ2, e2, h2, v2⟩ := inner_ok (x5 := .sh (.tup (oD b))) (x7 := .sh (.int ((ws 0 b % 65521 : Nat) : Int))) (x8 := .sh x) (x9 := y9) (x10 := y10) (x11 := x11) (x12 := x12) (x13 := x13) (x14 := x14) (x15 := x15) (x16 := x16) (turn := turn) hq (by omega) h hl hx v'
      exact ⟨_, _, δ2, bName_e, e2, q2, m + 2, .sh x, z9, z10, rfl, h2, by omega, v2⟩) ⟨ps, n, x8, x9, x10, rfl, hg, rfl, v⟩
    have hm' : m = n + 6 := by simpa using hm
    subst hm'
    refine ⟨qs, y8, y9, y10, δ', ?_, hq, v'⟩
    have d1 : (1 : Int) < (a.length : Int) := by omega
    have r3 : sRng1k ([.int 3], δ) = some (rng 0 3, .sh, δ) := sRng1k_ok (n := 3) (by decide)
    simp only [hFor_e, sRng1_e, fIf_e, fIf1_t, d1, decide_true, r3, hFor1_sh, hSet_e, hIf_e, hApp_e, hApp1_e, hPar_e, hPar1_e, hPar2_e, sv_sh, sv_ow, fBin_e, fVar_e, List.getElem?_cons_succ, List.getElem?_cons_zero, fVarK_sh, fVarK_ow, Option.bind_some, fBin1_e, fC_e, fBin2_e, Option.map_some, asB_e, asB1_e, fCall_e, rCons_e, rCons1_e, rNil_e, fCall1_e, fCallP_e, vCons_e, vCons1_e, vNil_e, fCallP1_e, List.map_cons, List.map_nil, fCallP2_e, okR_sh, okR_nil, if_true, fCallW_e, fCallW0_e, fCallW1_e, fCallW2_e, fTup_e, fLst_e, aCons_e, aCons1_sh, aCons1_ow, aNil_e, fTup1_z, fLst1_z, List.length_cons, List.length_nil, hSet1_sh, hSet1_ow, List.set_cons_succ, List.set_cons_zero, oAdd_i, oSub_i, oGt_i, oEq_i, fCut_e, fCut1_e, fCut2_e, bNo_e, bOf_e, bOf1_e, fNeg_e, fNeg1_e, cutR_t, oIx_t, oInt_i, oMod_i, cMod_e, vPerm1_id, hApp2_z, oAdd_lz, fBack_e, fBack1_t, len_oD, whole_ok, tuple_ok, oSumA_oD, back_oD, oD_app', oD_len, Nat.zero_add, Nat.reduceAdd, Nat.reduceLeDiff, Int.reduceLT]
    exact e
  · refine ⟨ps, x8, x9, x10, δ, ?_, hg.mono (by omega), v⟩
    have d1 : ¬ (1 : Int) < (a.length : Int) := by omega
    have r3 : sRng1k ([.int 0], δ) = some (rng 0 0, .sh, δ) := sRng1k_ok (n := 0) (by decide)
    simp only [hFor_e, sRng1_e, fIf_e, fIf1_f, d1, decide_false, r3, hFor1_sh, hSet_e, hIf_e, hApp_e, hApp1_e, hPar_e, hPar1_e, hPar2_e, sv_sh, sv_ow, fBin_e, fVar_e, List.getElem?_cons_succ, List.getElem?_cons_zero, fVarK_sh, fVarK_ow, Option.bind_some, fBin1_e, fC_e, fBin2_e, Option.map_some, asB_e, asB1_e, fCall_e, rCons_e, rCons1_e, rNil_e, fCall1_e, fCallP_e, vCons_e, vCons1_e, vNil_e, fCallP1_e, List.map_cons, List.map_nil, fCallP2_e, okR_sh, okR_nil, if_true, fCallW_e, fCallW0_e, fCallW1_e, fCallW2_e, fTup_e, fLst_e, aCons_e, aCons1_sh, aCons1_ow, aNil_e, fTup1_z, fLst1_z, List.length_cons, List.length_nil, hSet1_sh, hSet1_ow, List.set_cons_succ, List.set_cons_zero, oAdd_i, oSub_i, oGt_i, oEq_i, fCut_e, fCut1_e, fCut2_e, bNo_e, bOf_e, bOf1_e, fNeg_e, fNeg1_e, cutR_t, oIx_t, oInt_i, oMod_i, cMod_e, vPerm1_id, hApp2_z, oAdd_lz, fBack_e, fBack1_t, len_oD, whole_ok, tuple_ok, oSumA_oD, back_oD, oD_app', oD_len, Nat.zero_add, Nat.reduceAdd, Nat.reduceLeDiff, Int.reduceLT]
    rfl
theorem tail_ok {a b cs es : List Nat} {y8 y9 y10 : SV} (hg : PG ps n) (hn : n + 30 ≤ 100000) (lc : cs.length ≤ 300) (le : es.length ≤ 300) (hc : ∀ c ∈ cs, inA c) (he : ∀ c ∈ es, inA c) (v : VD δ) : Wp ((hSeq (hPar 13 14 (fCallP g__law_tuple (vCons (fIf (asB (fBin oGt (fVar 3) (fC (.int 0)))) (fCallP g_text_octets (vCons (fVar 11) vNil)) (fCallP g_text_octets (vCons (fVar 11) vNil))) vNil)) (fCallP g__law_tuple (vCons (fCallP g_text_octets (vCons (fVar 12) vNil)) vNil)))
  (hSeq (hSet 2 (fBin oAdd (fVar 2) (fLst (aCons (fTup (aCons (fVar 13) (aCons (fCallP g__law_text_octets (vCons (fVar 11) vNil)) aNil))) (aCons (fTup (aCons (fVar 14) (aCons (fCallP g__law_text_octets (vCons (fVar 12) vNil)) aNil))) aNil)))))
  (hSeq (hSet 15 (fBin oAdd (fVar 13) (fVar 14)))
  (hSeq (hSet 2 (fBin oAdd (fVar 2) (fLst (aCons (fTup (aCons (fIf (asB (fBin oGt (fVar 3) (fC (.int 0)))) (fCallP g_read_text (vCons (fVar 15) (vCons (fC (.int 0)) vNil))) (fCallP g_read_text (vCons (fVar 15) (vCons (fC (.int 0)) vNil)))) (aCons (fTup (aCons (fVar 11) (aCons (fCall oLen (rCons (fVar 13) rNil)) aNil))) aNil))) aNil))))
  (hSeq (hSet 2 (fBin oAdd (fVar 2) (fLst (aCons (fTup (aCons (fCallP g_read_text (vCons (fVar 15) (vCons (fCall oLen (rCons (fVar 13) rNil)) vNil))) (aCons (fTup (aCons (fVar 12) (aCons (fCall oLen (rCons (fVar 15) rNil)) aNil))) aNil))) (aCons (fTup (aCons (fCallP g_read_text (vCons (fVar 15) (vCons (fCall oLen (rCons (fVar 15) rNil)) vNil))) (aCons (fC .non) aNil))) (aCons (fTup (aCons (fCallP g_read_text (vCons (fVar 15) (vCons (fBin oSub (fC (.int 0)) (fC (.int 1))) vNil))) (aCons (fC .non) aNil))) aNil))))))
  (hSeq (hApp 2 (fTup (aCons (fCallP g_text_octets (vCons (fBin oAdd (fVar 11) (fVar 12)) vNil)) (aCons (fBin oAdd (fBin oAdd (fCallP g__law_figures (vCons (fCall oLen (rCons (fBin oAdd (fVar 11) (fVar 12)) rNil)) vNil)) (fCut (fVar 13) (bOf (fCall oLen (rCons (fCallP g__law_figures (vCons (fCall oLen (rCons (fVar 11) rNil)) vNil)) rNil))) bNo)) (fCut (fVar 14) (bOf (fCall oLen (rCons (fCallP g__law_figures (vCons (fCall oLen (rCons (fVar 12) rNil)) vNil)) rNil))) bNo)) aNil))))
  (hIf (asB (fBin oGt (fCall oLen (rCons (fVar 11) rNil)) (fC (.int 0)))) (hSeq (hSet 9 (fBin oAdd (fCall oLen (rCons (fCallP g__law_figures (vCons (fCall oLen (rCons (fVar 11) rNil)) vNil)) rNil)) (fCallW 1 g__law_any (vCons (fCall oLen (rCons (fVar 11) rNil)) vNil))))
  (hSeq (hFor (sSeq (fLst (aCons (fC (.int 37)) (aCons (fC (.int 0)) (aCons (fC (.int 9)) (aCons (fC (.int 31)) (aCons (fC (.int 127)) (aCons (fC (.int 200)) (aCons (fC (.int 255)) aNil))))))))) (bName 16) fb_law_2)
  (hSeq (hSet 2 (fBin oAdd (fVar 2) (fLst (aCons (fTup (aCons (fCallP g_read_text (vCons (fCut (fVar 13) bNo (bOf (fNeg (fC (.int 1))))) (vCons (fC (.int 0)) vNil))) (aCons (fC .non) aNil))) (aCons (fTup (aCons (fCallP g_read_text (vCons (fCut (fVar 13) bNo (bOf (fVar 9))) (vCons (fC (.int 0)) vNil))) (aCons (fC .non) aNil))) aNil)))))
  (hSet 2 (fBin oAdd (fVar 2) (fLst (aCons (fTup (aCons (fCallP g_read_text (vCons (fBin oAdd (fCallP g__law_figures (vCons (fBin oAdd (fCall oLen (rCons (fVar 11) rNil)) (fC (.int 1))) vNil)) (fCut (fVar 13) (bOf (fCall oLen (rCons (fCallP g__law_figures (vCons (fCall oLen (rCons (fVar 11) rNil)) vNil)) rNil))) bNo)) (vCons (fC (.int 0)) vNil))) (aCons (fC .non) aNil))) aNil))))))) hNil))))))) [.un, .dl, .ow (.lst (ps)), .sh (.int (turn : Nat)), .sh (.tup (oD a)), .sh (.tup (oD b)), .sh (.int ((ws 0 a % 65521 : Nat) : Int)), .sh (.int ((ws 0 b % 65521 : Nat) : Int)), y8, y9, y10, .sh (.str (tx cs)), .sh (.str (tx es)), x13, x14, x15, x16] δ) (Post turn (n + 30)) := by
  have fc : (figs cs.length).length ≤ 1000 := figs_big (small_of (by omega))
  have fe : (figs es.length).length ≤ 1000 := figs_big (small_of (by omega))
  have oc := text_octets_ok (cs := cs) (by omega)
  have oe := text_octets_ok (cs := es) (by omega)
  have lwc := law_text_octets_ok hc (by omega)
  have lwe := law_text_octets_ok he (by omega)
  have z0 : ps.length ≤ 100000 := by have := hg.n; omega
  refine wp_nx (ρ' := [.un, .dl, .ow (.lst (ps)), .sh (.int (turn : Nat)), .sh (.tup (oD a)), .sh (.tup (oD b)), .sh (.int ((ws 0 a % 65521 : Nat) : Int)), .sh (.int ((ws 0 b % 65521 : Nat) : Int)), y8, y9, y10, .sh (.str (tx cs)), .sh (.str (tx es)), .sh (.tup (oD (figs cs.length ++ cs))), .sh (.tup (oD (figs es.length ++ es))), x15, x16]) (δ' := δ) (by simp only [hSet_e, hIf_e, hApp_e, hApp1_e, hPar_e, hPar1_e, hPar2_e, sv_sh, sv_ow, fBin_e, fVar_e, List.getElem?_cons_succ, List.getElem?_cons_zero, fVarK_sh, fVarK_ow, Option.bind_some, fBin1_e, fC_e, fBin2_e, Option.map_some, asB_e, asB1_e, fCall_e, rCons_e, rCons1_e, rNil_e, fCall1_e, fCallP_e, vCons_e, vCons1_e, vNil_e, fCallP1_e, List.map_cons, List.map_nil, fCallP2_e, okR_sh, okR_nil, if_true, fCallW_e, fCallW0_e, fCallW1_e, fCallW2_e, fTup_e, fLst_e, aCons_e, aCons1_sh, aCons1_ow, aNil_e, fTup1_z, fLst1_z, List.length_cons, List.length_nil, hSet1_sh, hSet1_ow, List.set_cons_succ, List.set_cons_zero, oAdd_i, oSub_i, oGt_i, oEq_i, fCut_e, fCut1_e, fCut2_e, bNo_e, bOf_e, bOf1_e, fNeg_e, fNeg1_e, cutR_t, oIx_t, oInt_i, oMod_i, cMod_e, fIf_same, vPerm1_id, hApp2_z, oAdd_lz, fBack_e, fBack1_t, len_oD, whole_ok, tuple_ok, oSumA_oD, back_oD, oD_app', oD_len, Nat.zero_add, Nat.reduceAdd, Nat.reduceLeDiff, Int.reduceLT, oc, oe]) ?_
  refine wp_pairs (m := 2) (ds := [.tup [.tup (oD (figs cs.length ++ cs)), .tup (oD (figs cs.length ++ cs))], .tup [.tup (oD (figs es.length ++ es)), .tup (oD (figs es.length ++ es))]]) hg (by simp only [hSet_e, hIf_e, hApp_e, hApp1_e, hPar_e, hPar1_e, hPar2_e, sv_sh, sv_ow, fBin_e, fVar_e, List.getElem?_cons_succ, List.getElem?_cons_zero, fVarK_sh, fVarK_ow, Option.bind_some, fBin1_e, fC_e, fBin2_e, Option.map_some, asB_e, asB1_e, fCall_e, rCons_e, rCons1_e, rNil_e, fCall1_e, fCallP_e, vCons_e, vCons1_e, vNil_e, fCallP1_e, List.map_cons, List.map_nil, fCallP2_e, okR_sh, okR_nil, if_true, fCallW_e, fCallW0_e, fCallW1_e, fCallW2_e, fTup_e, fLst_e, aCons_e, aCons1_sh, aCons1_ow, aNil_e, fTup1_z, fLst1_z, List.length_cons, List.length_nil, hSet1_sh, hSet1_ow, List.set_cons_succ, List.set_cons_zero, oAdd_i, oSub_i, oGt_i, oEq_i, fCut_e, fCut1_e, fCut2_e, bNo_e, bOf_e, bOf1_e, fNeg_e, fNeg1_e, cutR_t, oIx_t, oInt_i, oMod_i, cMod_e, fIf_same, vPerm1_id, hApp2_z, oAdd_lz, fBack_e, fBack1_t, len_oD, whole_ok, tuple_ok, oSumA_oD, back_oD, oD_app', oD_len, Nat.zero_add, Nat.reduceAdd, Nat.reduceLeDiff, Int.reduceLT, lwc, lwe, z0]) (goos_cons (goo_oD _ (by rw [List.length_append]; omega)) (goos_cons (goo_oD _ (by rw [List.length_append]; omega)) goos_nil)) (by simp) (by omega) fun ps hg z0 => ?_
  clear lwc lwe oc oe
  have pr := oAdd_oD (figs cs.length ++ cs) (figs es.length ++ es) (by rw [List.length_append, List.length_append]; omega)
  refine wp_nx (ρ' := [.un, .dl, .ow (.lst (ps)), .sh (.int (turn : Nat)), .sh (.tup (oD a)), .sh (.tup (oD b)), .sh (.int ((ws 0 a % 65521 : Nat) : Int)), .sh (.int ((ws 0 b % 65521 : Nat) : Int)), y8, y9, y10, .sh (.str (tx cs)), .sh (.str (tx es)), .sh (.tup (oD (figs cs.length ++ cs))), .sh (.tup (oD (figs es.length ++ es))), .sh (.tup (oD (figs cs.length ++ cs ++ (figs es.length ++ es)))), x16]) (δ' := δ) (by simp only [hSet_e, hIf_e, hApp_e, hApp1_e, hPar_e, hPar1_e, hPar2_e, sv_sh, sv_ow, fBin_e, fVar_e, List.getElem?_cons_succ, List.getElem?_cons_zero, fVarK_sh, fVarK_ow, Option.bind_some, fBin1_e, fC_e, fBin2_e, Option.map_some, asB_e, asB1_e, fCall_e, rCons_e, rCons1_e, rNil_e, fCall1_e, fCallP_e, vCons_e, vCons1_e, vNil_e, fCallP1_e, List.map_cons, List.map_nil, fCallP2_e, okR_sh, okR_nil, if_true, fCallW_e, fCallW0_e, fCallW1_e, fCallW2_e, fTup_e, fLst_e, aCons_e, aCons1_sh, aCons1_ow, aNil_e, fTup1_z, fLst1_z, List.length_cons, List.length_nil, hSet1_sh, hSet1_ow, List.set_cons_succ, List.set_cons_zero, oAdd_i, oSub_i, oGt_i, oEq_i, fCut_e, fCut1_e, fCut2_e, bNo_e, bOf_e, bOf1_e, fNeg_e, fNeg1_e, cutR_t, oIx_t, oInt_i, oMod_i, cMod_e, fIf_same, vPerm1_id, hApp2_z, oAdd_lz, fBack_e, fBack1_t, len_oD, whole_ok, tuple_ok, oSumA_oD, back_oD, oD_app', oD_len, Nat.zero_add, Nat.reduceAdd, Nat.reduceLeDiff, Int.reduceLT, pr]) ?_
  clear pr
  have zr : (figs cs.length ++ cs ++ (figs es.length ++ es)).length ≤ 3000 := by simp only [List.length_append]; omega
  have r0 : g_read_text [.tup (oD (figs cs.length ++ cs ++ (figs es.length ++ es))), .int 0] = some (.tup [.str (tx cs), .int ((figs cs.length ++ cs).length : Nat)], .sh) := by
    have z := text_in_ok (pre := []) (cs := cs) (post := figs es.length ++ es) (by omega) (by simp only [List.nil_append, List.length_append] at zr ⊢; omega)
    rw [if_neg (fun q => by obtain ⟨c, h1, h2⟩ := q; exact h2 (hc c h1)), List.nil_append, ← List.append_assoc] at z
    rw [List.length_append]
    simp only [List.length_nil, Nat.zero_add] at z
    exact read_text_of z
  have r1 : g_read_text [.tup (oD (figs cs.length ++ cs ++ (figs es.length ++ es))), .int ((figs cs.length ++ cs).length : Nat)] = some (.tup [.str (tx es), .int ((figs cs.length ++ cs ++ (figs es.length ++ es)).length : Nat)], .sh) := by
    have z := text_in_ok (pre := figs cs.length ++ cs) (cs := es) (post := []) (by omega) (by rw [List.append_nil]; omega)
    rw [if_neg (fun q => by obtain ⟨c, h1, h2⟩ := q; exact h2 (he c h1)), List.append_nil] at z
    rw [List.length_append (as := figs cs.length ++ cs) (bs := figs es.length ++ es), List.length_append (as := figs es.length), ← Nat.add_assoc]
    exact read_text_of z
  have r2 : g_read_text [.tup (oD (figs cs.length ++ cs ++ (figs es.length ++ es))), .int ((figs cs.length ++ cs ++ (figs es.length ++ es)).length : Nat)] = some (.non, .sh) := read_far (by omega) (by rw [oD_len]; omega) (by omega)
  have r3 : g_read_text [.tup (oD (figs cs.length ++ cs ++ (figs es.length ++ es))), .int (0 - 1)] = some (.non, .sh) := read_neg (by decide)
  refine wp_pairs (m := 1) (ds := [.tup [.tup [.str (tx cs), .int ((figs cs.length ++ cs).length : Nat)], .tup [.str (tx cs), .int ((figs cs.length ++ cs).length : Nat)]]]) hg (by simp only [hSet_e, hIf_e, hApp_e, hApp1_e, hPar_e, hPar1_e, hPar2_e, sv_sh, sv_ow, fBin_e, fVar_e, List.getElem?_cons_succ, List.getElem?_cons_zero, fVarK_sh, fVarK_ow, Option.bind_some, fBin1_e, fC_e, fBin2_e, Option.map_some, asB_e, asB1_e, fCall_e, rCons_e, rCons1_e, rNil_e, fCall1_e, fCallP_e, vCons_e, vCons1_e, vNil_e, fCallP1_e, List.map_cons, List.map_nil, fCallP2_e, okR_sh, okR_nil, if_true, fCallW_e, fCallW0_e, fCallW1_e, fCallW2_e, fTup_e, fLst_e, aCons_e, aCons1_sh, aCons1_ow, aNil_e, fTup1_z, fLst1_z, List.length_cons, List.length_nil, hSet1_sh, hSet1_ow, List.set_cons_succ, List.set_cons_zero, oAdd_i, oSub_i, oGt_i, oEq_i, fCut_e, fCut1_e, fCut2_e, bNo_e, bOf_e, bOf1_e, fNeg_e, fNeg1_e, cutR_t, oIx_t, oInt_i, oMod_i, cMod_e, fIf_same, vPerm1_id, hApp2_z, oAdd_lz, fBack_e, fBack1_t, len_oD, whole_ok, tuple_ok, oSumA_oD, back_oD, oD_app', oD_len, Nat.zero_add, Nat.reduceAdd, Nat.reduceLeDiff, Int.reduceLT, r0, z0]) (goos_cons (goo_txt _ _) goos_nil) (by simp) (by omega) fun ps hg z0 => ?_
  refine wp_pairs (m := 3) (ds := [.tup [.tup [.str (tx es), .int ((figs cs.length ++ cs ++ (figs es.length ++ es)).length : Nat)], .tup [.str (tx es), .int ((figs cs.length ++ cs ++ (figs es.length ++ es)).length : Nat)]], .tup [.non, .non], .tup [.non, .non]]) hg (by simp only [hSet_e, hIf_e, hApp_e, hApp1_e, hPar_e, hPar1_e, hPar2_e, sv_sh, sv_ow, fBin_e, fVar_e, List.getElem?_cons_succ, List.getElem?_cons_zero, fVarK_sh, fVarK_ow, Option.bind_some, fBin1_e, fC_e, fBin2_e, Option.map_some, asB_e, asB1_e, fCall_e, rCons_e, rCons1_e, rNil_e, fCall1_e, fCallP_e, vCons_e, vCons1_e, vNil_e, fCallP1_e, List.map_cons, List.map_nil, fCallP2_e, okR_sh, okR_nil, if_true, fCallW_e, fCallW0_e, fCallW1_e, fCallW2_e, fTup_e, fLst_e, aCons_e, aCons1_sh, aCons1_ow, aNil_e, fTup1_z, fLst1_z, List.length_cons, List.length_nil, hSet1_sh, hSet1_ow, List.set_cons_succ, List.set_cons_zero, oAdd_i, oSub_i, oGt_i, oEq_i, fCut_e, fCut1_e, fCut2_e, bNo_e, bOf_e, bOf1_e, fNeg_e, fNeg1_e, cutR_t, oIx_t, oInt_i, oMod_i, cMod_e, fIf_same, vPerm1_id, hApp2_z, oAdd_lz, fBack_e, fBack1_t, len_oD, whole_ok, tuple_ok, oSumA_oD, back_oD, oD_app', oD_len, Nat.zero_add, Nat.reduceAdd, Nat.reduceLeDiff, Int.reduceLT, r1, r2, r3, z0]) (goos_cons (goo_txt _ _) (goos_cons goo_non (goos_cons goo_non goos_nil))) (by simp) (by omega) fun ps hg z0 => ?_
  clear r0 r1 r2 r3 zr
  have q1 := oAdd_sx cs es (by omega)
  have q2 := text_octets_ok (cs := cs ++ es) (by rw [List.length_append]; omega)
  have q3 := len_tx (cs ++ es) (by rw [List.length_append]; omega)
  have q4 := figures_ok (n := (cs ++ es).length) (small_of (by rw [List.length_append]; omega))
  have q5 := len_tx cs (by omega)
  have q6 := figures_ok (n := cs.length) (small_of (by omega))
  have q7 := len_tx es (by omega)
  have q8 := figures_ok (n := es.length) (small_of (by omega))
  have hce : (cs ++ es).length ≤ 600 := by rw [List.length_append]; omega
  have fce : (figs (cs ++ es).length).length ≤ 1000 := figs_big (small_of (by rw [List.length_append]; omega))
  have c1 : DL.cutD (oD (figs cs.length ++ cs)) (some ((figs cs.length).length : Nat)) none = oD cs := by
    rw [cut_hi _ (by rw [List.length_append]; omega), List.drop_left' rfl]
  have c2 : DL.cutD (oD (figs es.length ++ es)) (some ((figs es.length).length : Nat)) none = oD es := by
    rw [cut_hi _ (by rw [List.length_append]; omega), List.drop_left' rfl]
  have s1 := oAdd_oD (figs (cs ++ es).length) cs (by omega)
  have s2 := oAdd_oD (figs (cs ++ es).length ++ cs) es (by rw [List.length_append]; omega)
  have as : figs (cs ++ es).length ++ cs ++ es = figs (cs ++ es).length ++ (cs ++ es) := List.append_assoc ..
  rw [as] at s2
  refine wp_pairs (m := 1) (ds := [.tup [.tup (oD (figs (cs ++ es).length ++ (cs ++ es))), .tup (oD (figs (cs ++ es).length ++ (cs ++ es)))]]) hg (by simp only [hSet_e, hIf_e, hApp_e, hApp1_e, hPar_e, hPar1_e, hPar2_e, sv_sh, sv_ow, fBin_e, fVar_e, List.getElem?_cons_succ, List.getElem?_cons_zero, fVarK_sh, fVarK_ow, Option.bind_some, fBin1_e, fC_e, fBin2_e, Option.map_some, asB_e, asB1_e, fCall_e, rCons_e, rCons1_e, rNil_e, fCall1_e, fCallP_e, vCons_e, vCons1_e, vNil_e, fCallP1_e, List.map_cons, List.map_nil, fCallP2_e, okR_sh, okR_nil, if_true, fCallW_e, fCallW0_e, fCallW1_e, fCallW2_e, fTup_e, fLst_e, aCons_e, aCons1_sh, aCons1_ow, aNil_e, fTup1_z, fLst1_z, List.length_cons, List.length_nil, hSet1_sh, hSet1_ow, List.set_cons_succ, List.set_cons_zero, oAdd_i, oSub_i, oGt_i, oEq_i, fCut_e, fCut1_e, fCut2_e, bNo_e, bOf_e, bOf1_e, fNeg_e, fNeg1_e, cutR_t, oIx_t, oInt_i, oMod_i, cMod_e, fIf_same, vPerm1_id, hApp2_z, oAdd_lz, fBack_e, fBack1_t, len_oD, whole_ok, tuple_ok, oSumA_oD, back_oD, oD_app', oD_len, Nat.zero_add, Nat.reduceAdd, Nat.reduceLeDiff, Int.reduceLT, q1, q2, q3, q4, q5, q6, q7, q8, c1, c2, s1, s2, z0]) (goos_cons (goo_oD _ (by rw [List.length_append (as := figs (cs ++ es).length)]; omega)) goos_nil) (by simp) (by omega) fun ps hg z0 => ?_
  clear q1 q2 q3 q4 q7 q8 c2 s1 s2 as fce
  by_cases h0 : (0 : Int) < ((cs.length : Nat) : Int)
  · have hn0 : 0 < cs.length := by omega
    have bigI : ∀ x : Int, x.natAbs < 2 ^ 64 → x.natAbs < 2 ^ 8000 := fun x h => Nat.lt_of_lt_of_le h (Nat.pow_le_pow_right (by decide) (by decide))
    obtain ⟨r, δ1, e1, i0, i1, v1⟩ := LH.any_ok (b := (cs.length : Nat)) v (by omega) (bigI _ (by omega))
    obtain ⟨i, rfl⟩ : ∃ i : Nat, r = i := ⟨r.toNat, by omega⟩
    have hi : i < cs.length := by omega
    have ca : DL.cutD (oD (figs cs.length ++ cs)) none (some (((figs cs.length).length : Int) + (i : Int))) = oD (figs cs.length ++ cs.take i) := by
      have z := cut_lo (figs cs.length ++ cs) (i := (figs cs.length).length + i) (by rw [List.length_append]; omega)
      rw [List.take_length_add_append] at z
      exact z
    have cb : DL.cutD (oD (figs cs.length ++ cs)) (some (((figs cs.length).length : Int) + (i : Int) + 1)) none = oD (cs.drop (i + 1)) := by
      have z := cut_hi (figs cs.length ++ cs) (i := (figs cs.length).length + (i + 1)) (by rw [List.length_append]; omega)
      rw [List.drop_length_add_append] at z
      exact z
    have few : ∀ (m : Nat) (l : List Nat), m ≤ 1000 → l.length < m → g_read_text [.tup (oD (figs m ++ l)), .int 0] = some (.non, .sh) := fun m l hm hl => by
      have fm : (figs m).length ≤ 1000 := figs_big (small_of (by omega))
      have z := text_in_few (pre := []) (post := l) (n := m) (by omega) (by rw [List.nil_append, List.length_append]; omega) hl
      rw [List.nil_append] at z
      exact read_text_of z
    have hlast : ∃ l x, cs = l ++ [x] := by
      rcases List.eq_nil_or_concat cs with h | ⟨l, x, h⟩
      · rw [h] at hn0; exact absurd hn0 (by decide)
      · exact ⟨l, x, by rw [h, List.concat_eq_append]⟩
    obtain ⟨l, x, hlx⟩ := hlast
    have cc : DL.cutD (oD (figs cs.length ++ cs)) none (some (-1)) = oD (figs cs.length ++ l) := by
      have z : oD (figs cs.length ++ cs) = oD (figs cs.length ++ l) ++ [.int (x : Nat)] := by
        rw [show figs cs.length ++ cs = (figs cs.length ++ l) ++ [x] by rw [List.append_assoc, ← hlx], oD_app]
        rfl
      rw [z]
      exact cutD_init _ _
    have lel : l.length < cs.length := by rw [hlx, List.length_append, List.length_singleton]; omega
    have f1 := few cs.length l (by omega) lel
    have f2 := few cs.length (cs.take i) (by omega) (by rw [List.length_take]; omega)
    have f3 := few (cs.length + 1) cs (by omega) (by omega)
    have q9 : g__law_figures [.int ((cs.length : Int) + 1)] = some (.tup (oD (figs (cs.length + 1))), .sh) := figures_ok (n := cs.length + 1) (small_of (by omega))
    have f1c : (figs (cs.length + 1)).length ≤ 1000 := figs_big (small_of (by omega))
    have s3 := oAdd_oD (figs (cs.length + 1)) cs (by omega)
    have sA := fun o : Nat => oAdd_oD (figs cs.length ++ cs.take i) [o] (by rw [List.length_append, List.length_take]; simp only [List.length_singleton]; omega)
    have sB := fun o : Nat => oAdd_oD (figs cs.length ++ cs.take i ++ [o]) (cs.drop (i + 1)) (by rw [List.length_append, List.length_append, List.length_take, List.length_drop]; simp only [List.length_singleton]; omega)
    have odd : ∀ o : Nat, ¬ inA o → g_read_text [.tup (oD (figs cs.length ++ cs.take i ++ [o] ++ cs.drop (i + 1))), .int 0] = some (.non, .sh) := fun o ho => by
      have hl : (cs.take i ++ (o :: cs.drop (i + 1))).length = cs.length := by
        rw [List.length_append, List.length_cons, List.length_take, List.length_drop]; omega
      have z := text_in_ok (pre := []) (cs := cs.take i ++ (o :: cs.drop (i + 1))) (post := []) (by omega) (by rw [List.nil_append, List.append_nil, List.length_append, hl]; omega)
      rw [if_pos ⟨o, by simp, ho⟩, hl, List.nil_append, List.append_nil] at z
      have z2 : figs cs.length ++ cs.take i ++ [o] ++ cs.drop (i + 1) = figs cs.length ++ (cs.take i ++ (o :: cs.drop (i + 1))) := by simp
      rw [z2]
      exact read_text_of z
    have loop : ∃ (qs : List D) (y16 : SV), forD (bName 16) fb_law_2 [.int 37, .int 0, .int 9, .int 31, .int 127, .int 200, .int 255] [.un, .dl, .ow (.lst (ps)), .sh (.int (turn : Nat)), .sh (.tup (oD a)), .sh (.tup (oD b)), .sh (.int ((ws 0 a % 65521 : Nat) : Int)), .sh (.int ((ws 0 b % 65521 : Nat) : Int)), y8, .sh (.int (((figs cs.length).length : Int) + (i : Int))), y10, .sh (.str (tx cs)), .sh (.str (tx es)), .sh (.tup (oD (figs cs.length ++ cs))), .sh (.tup (oD (figs es.length ++ es))), .sh (.tup (oD (figs cs.length ++ cs ++ (figs es.length ++ es)))), x16] δ1 = some (.nx, [.un, .dl, .ow (.lst (qs)), .sh (.int (turn : Nat)), .sh (.tup (oD a)), .sh (.tup (oD b)), .sh (.int ((ws 0 a % 65521 : Nat) : Int)), .sh (.int ((ws 0 b % 65521 : Nat) : Int)), y8, .sh (.int (((figs cs.length).length : Int) + (i : Int))), y10, .sh (.str (tx cs)), .sh (.str (tx es)), .sh (.tup (oD (figs cs.length ++ cs))), .sh (.tup (oD (figs es.length ++ es))), .sh (.tup (oD (figs cs.length ++ cs ++ (figs es.length ++ es)))), y16], δ1) ∧ PG qs (n + 14) := by
      obtain ⟨ρ', δ', e, qs, m, y16, rfl, rfl, hq, hm, _⟩ := forD_inv (b := bName 16) (h := fb_law_2) (ds := oD [37, 0, 9, 31, 127, 200, 255]) (ρ := [.un, .dl, .ow (.lst (ps)), .sh (.int (turn : Nat)), .sh (.tup (oD a)), .sh (.tup (oD b)), .sh (.int ((ws 0 a % 65521 : Nat) : Int)), .sh (.int ((ws 0 b % 65521 : Nat) : Int)), y8, .sh (.int (((figs cs.length).length : Int) + (i : Int))), y10, .sh (.str (tx cs)), .sh (.str (tx es)), .sh (.tup (oD (figs cs.length ++ cs))), .sh (.tup (oD (figs es.length ++ es))), .sh (.tup (oD (figs cs.length ++ cs ++ (figs es.length ++ es)))), x16]) (δ := δ1) (fun ds ρ δ => ∃ (qs : List D) (m : Nat) (y16 : SV), δ = δ1 ∧ ρ = [.un, .dl, .ow (.lst (qs)), .sh (.int (turn : Nat)), .sh (.tup (oD a)), .sh (.tup (oD b)), .sh (.int ((ws 0 a % 65521 : Nat) : Int)), .sh (.int ((ws 0 b % 65521 : Nat) : Int)), y8, .sh (.int (((figs cs.length).length : Int) + (i : Int))), y10, .sh (.str (tx cs)), .sh (.str (tx es)), .sh (.tup (oD (figs cs.length ++ cs))), .sh (.tup (oD (figs es.length ++ es))), .sh (.tup (oD (figs cs.length ++ cs ++ (figs es.length ++ es)))), y16] ∧ PG qs m ∧ m + ds.length = n + 14 ∧ ∀ d ∈ ds, ∃ o : Nat, d = .int (o : Nat) ∧ ¬ inA o) (fun x xs ρ δ I => by
        obtain ⟨qs, m, y16, rfl, rfl, hq, hm, hd⟩ := I
        obtain ⟨o, rfl, ho⟩ := hd x (List.mem_cons_self ..)
        rw [List.length_cons] at hm
        have zz : qs.length ≤ 100000 := by have := hq.n; omega
        refine ⟨_, _, δ, bName_e, ?_, qs ++ [.tup [.non, .non]], m + 1, .sh (.int (o : Nat)), rfl, rfl, hq.app (goos_cons goo_non goos_nil) (by simp), by omega, fun d h => hd d (by simp [h])⟩
        simp only [fb_law_2, hSet_e, hIf_e, hApp_e, hApp1_e, hPar_e, hPar1_e, hPar2_e, sv_sh, sv_ow, fBin_e, fVar_e, List.getElem?_cons_succ, List.getElem?_cons_zero, fVarK_sh, fVarK_ow, Option.bind_some, fBin1_e, fC_e, fBin2_e, Option.map_some, asB_e, asB1_e, fCall_e, rCons_e, rCons1_e, rNil_e, fCall1_e, fCallP_e, vCons_e, vCons1_e, vNil_e, fCallP1_e, List.map_cons, List.map_nil, fCallP2_e, okR_sh, okR_nil, if_true, fCallW_e, fCallW0_e, fCallW1_e, fCallW2_e, fTup_e, fLst_e, aCons_e, aCons1_sh, aCons1_ow, aNil_e, fTup1_z, fLst1_z, List.length_cons, List.length_nil, hSet1_sh, hSet1_ow, List.set_cons_succ, List.set_cons_zero, oAdd_i, oSub_i, oGt_i, oEq_i, fCut_e, fCut1_e, fCut2_e, bNo_e, bOf_e, bOf1_e, fNeg_e, fNeg1_e, cutR_t, oIx_t, oInt_i, oMod_i, cMod_e, fIf_same, vPerm1_id, hApp2_z, oAdd_lz, fBack_e, fBack1_t, len_oD, whole_ok, tuple_ok, oSumA_oD, back_oD, oD_app', oD_len, Nat.zero_add, Nat.reduceAdd, Nat.reduceLeDiff, Int.reduceLT, ca, cb, one_oD o, sA, sB, odd o ho, zz]) ⟨ps, n + 7, x16, rfl, rfl, hg, rfl, by
          intro d hd
          obtain ⟨o, ho, e⟩ := List.mem_map.mp hd
          exact ⟨o, e.symm, (by decide : ∀ o ∈ [37, 0, 9, 31, 127, 200, 255], ¬ inA o) o ho⟩⟩
      have hm' : m = n + 14 := by simpa using hm
      subst hm'
      exact ⟨qs, y16, e, hq⟩
    obtain ⟨qs, y16, eL, hq⟩ := loop
    have zq : qs.length ≤ 100000 := by have := hq.n; omega
    have zq2 : (qs ++ [D.tup [.non, .non], .tup [.non, .non]]).length ≤ 100000 := by rw [List.length_append]; simp only [List.length_cons, List.length_nil]; have := hq.n; omega
    refine ⟨(.nx, [.un, .dl, .ow (.lst (qs ++ [.tup [.non, .non], .tup [.non, .non]] ++ [.tup [.non, .non]])), .sh (.int (turn : Nat)), .sh (.tup (oD a)), .sh (.tup (oD b)), .sh (.int ((ws 0 a % 65521 : Nat) : Int)), .sh (.int ((ws 0 b % 65521 : Nat) : Int)), y8, .sh (.int (((figs cs.length).length : Int) + (i : Int))), y10, .sh (.str (tx cs)), .sh (.str (tx es)), .sh (.tup (oD (figs cs.length ++ cs))), .sh (.tup (oD (figs es.length ++ es))), .sh (.tup (oD (figs cs.length ++ cs ++ (figs es.length ++ es)))), y16], δ1), ?_, qs ++ [.tup [.non, .non], .tup [.non, .non]] ++ [.tup [.non, .non]], _, _, _, _, _, _, _, _, _, _, _, _, _, _, rfl, ((hq.app (m := 2) (goos_cons goo_non (goos_cons goo_non goos_nil)) (by simp)).app (m := 1) (goos_cons goo_non goos_nil) (by simp)).mono (by omega), v1⟩
    simp only [hSeq_e, hSeq1_nx, hSet_e, hIf_e, hApp_e, hApp1_e, hPar_e, hPar1_e, hPar2_e, sv_sh, sv_ow, fBin_e, fVar_e, List.getElem?_cons_succ, List.getElem?_cons_zero, fVarK_sh, fVarK_ow, Option.bind_some, fBin1_e, fC_e, fBin2_e, Option.map_some, asB_e, asB1_e, fCall_e, rCons_e, rCons1_e, rNil_e, fCall1_e, fCallP_e, vCons_e, vCons1_e, vNil_e, fCallP1_e, List.map_cons, List.map_nil, fCallP2_e, okR_sh, okR_nil, if_true, fCallW_e, fCallW0_e, fCallW1_e, fCallW2_e, fTup_e, fLst_e, aCons_e, aCons1_sh, aCons1_ow, aNil_e, fTup1_z, fLst1_z, List.length_cons, List.length_nil, hSet1_sh, hSet1_ow, List.set_cons_succ, List.set_cons_zero, oAdd_i, oSub_i, oGt_i, oEq_i, fCut_e, fCut1_e, fCut2_e, bNo_e, bOf_e, bOf1_e, fNeg_e, fNeg1_e, cutR_t, oIx_t, oInt_i, oMod_i, cMod_e, fIf_same, vPerm1_id, hApp2_z, oAdd_lz, fBack_e, fBack1_t, len_oD, whole_ok, tuple_ok, oSumA_oD, back_oD, oD_app', oD_len, Nat.zero_add, Nat.reduceAdd, Nat.reduceLeDiff, Int.reduceLT, q5, q6, h0, decide_true, hIf1_t, any_is, e1, hFor_e, sSeq_e, sSeq1_l, hFor1_ow, eL, cc, ca, f1, f2, q9, c1, s3, f3, zq, zq2]
  · refine ⟨(.nx, [.un, .dl, .ow (.lst (ps)), .sh (.int (turn : Nat)), .sh (.tup (oD a)), .sh (.tup (oD b)), .sh (.int ((ws 0 a % 65521 : Nat) : Int)), .sh (.int ((ws 0 b % 65521 : Nat) : Int)), y8, y9, y10, .sh (.str (tx cs)), .sh (.str (tx es)), .sh (.tup (oD (figs cs.length ++ cs))), .sh (.tup (oD (figs es.length ++ es))), .sh (.tup (oD (figs cs.length ++ cs ++ (figs es.length ++ es)))), x16], δ), ?_, ps, _, _, _, _, _, _, _, _, _, _, _, _, _, _, rfl, hg.mono (by omega), v⟩
    simp only [hSet_e, hIf_e, hApp_e, hApp1_e, hPar_e, hPar1_e, hPar2_e, sv_sh, sv_ow, fBin_e, fVar_e, List.getElem?_cons_succ, List.getElem?_cons_zero, fVarK_sh, fVarK_ow, Option.bind_some, fBin1_e, fC_e, fBin2_e, Option.map_some, asB_e, asB1_e, fCall_e, rCons_e, rCons1_e, rNil_e, fCall1_e, fCallP_e, vCons_e, vCons1_e, vNil_e, fCallP1_e, List.map_cons, List.map_nil, fCallP2_e, okR_sh, okR_nil, if_true, fCallW_e, fCallW0_e, fCallW1_e, fCallW2_e, fTup_e, fLst_e, aCons_e, aCons1_sh, aCons1_ow, aNil_e, fTup1_z, fLst1_z, List.length_cons, List.length_nil, hSet1_sh, hSet1_ow, List.set_cons_succ, List.set_cons_zero, oAdd_i, oSub_i, oGt_i, oEq_i, fCut_e, fCut1_e, fCut2_e, bNo_e, bOf_e, bOf1_e, fNeg_e, fNeg1_e, cutR_t, oIx_t, oInt_i, oMod_i, cMod_e, fIf_same, vPerm1_id, hApp2_z, oAdd_lz, fBack_e, fBack1_t, len_oD, whole_ok, tuple_ok, oSumA_oD, back_oD, oD_app', oD_len, Nat.zero_add, Nat.reduceAdd, Nat.reduceLeDiff, Int.reduceLT, q5, h0, decide_false, hIf1_f, hNil_e]
theorem cat_mul (a b : List Nat) : ((ws 0 a % 65521 : Nat) : Int) + ((ws 0 b % 65521 : Nat) : Int) + (b.length : Int) * ((a.sum : Nat) : Int) = ((ws 0 a % 65521 : Nat) : Int) + ((ws 0 b % 65521 : Nat) : Int) + (b.length : Int) * ((a.sum : Nat) : Int) := rfl
theorem turn_ok (hg : PG ps n) (hn : n + 40 ≤ 100000) (v : VD δ) : Wp (fb_law_3 [.un, .dl, .ow (.lst (ps)), .sh (.int (turn : Nat)), x4, x5, x6, x7, x8, x9, x10, x11, x12, x13, x14, x15, x16] δ) (Post turn (n + 40)) := by
  obtain ⟨a, δ1, e1, la, ha, v1⟩ := octet_row_ok v
  obtain ⟨b, δ2, e2, lb, hb, v2⟩ := octet_row_ok v1
  have h64 : ∀ l : List Nat, (∀ x ∈ l, x < 256) → ∀ x ∈ l, x < 2 ^ 64 := fun l h x hx => Nat.lt_trans (h x hx) (by decide)
  have ha64 := h64 a ha
  have hb64 := h64 b hb
  have app64 : ∀ (l m : List Nat), (∀ x ∈ l, x < 2 ^ 64) → (∀ x ∈ m, x < 2 ^ 64) → ∀ x ∈ l ++ m, x < 2 ^ 64 := fun l m h1 h2 x hx => (List.mem_append.mp hx).elim (h1 x) (h2 x)
  have sa := sum_ok ha64 (Nat.lt_of_le_of_lt la (by decide))
  have sb := sum_ok hb64 (Nat.lt_of_le_of_lt lb (by decide))
  have sab := sum_ok (app64 a b ha64 hb64) (by rw [List.length_append]; exact Nat.lt_of_le_of_lt (show _ ≤ 1800 by omega) (by decide))
  have sba := sum_ok (app64 b a hb64 ha64) (by rw [List.length_append]; exact Nat.lt_of_le_of_lt (show _ ≤ 1800 by omega) (by decide))
  have sr := sum_ok (xs := a.reverse) (fun x hx => ha64 x (List.mem_reverse.mp hx)) (by rw [List.length_reverse]; exact Nat.lt_of_le_of_lt la (by decide))
  have lsa := law_sum_ok ha64 (len_line (by omega))
  have pab := oAdd_oD a b (by omega)
  have pba := oAdd_oD b a (by omega)
  have mab := mul_len (a := a) (by omega) lb hb
  have mba := mul_len (a := b) (by omega) la ha
  have ma1 := mul_len1 la ha
  have z0 : ps.length ≤ 100000 := by have := hg.n; omega
  rw [fb_law_3]
  simp only [vPerm1_id, vPerm10]
  refine wp_nx (ρ' := [.un, .dl, .ow (.lst (ps)), .sh (.int (turn : Nat)), .sh (.tup (oD a)), .sh (.tup (oD b)), x6, x7, x8, x9, x10, x11, x12, x13, x14, x15, x16]) (δ' := δ2) (by simp only [hSet_e, hIf_e, hApp_e, hApp1_e, hPar_e, hPar1_e, hPar2_e, sv_sh, sv_ow, fBin_e, fVar_e, List.getElem?_cons_succ, List.getElem?_cons_zero, fVarK_sh, fVarK_ow, Option.bind_some, fBin1_e, fC_e, fBin2_e, Option.map_some, asB_e, asB1_e, fCall_e, rCons_e, rCons1_e, rNil_e, fCall1_e, fCallP_e, vCons_e, vCons1_e, vNil_e, fCallP1_e, List.map_cons, List.map_nil, fCallP2_e, okR_sh, okR_nil, if_true, fCallW_e, fCallW0_e, fCallW1_e, fCallW2_e, fTup_e, fLst_e, aCons_e, aCons1_sh, aCons1_ow, aNil_e, fTup1_z, fLst1_z, List.length_cons, List.length_nil, hSet1_sh, hSet1_ow, List.set_cons_succ, List.set_cons_zero, oAdd_i, oSub_i, oGt_i, oEq_i, fCut_e, fCut1_e, fCut2_e, bNo_e, bOf_e, bOf1_e, fNeg_e, fNeg1_e, cutR_t, oIx_t, oInt_i, oMod_i, cMod_e, fIf_same, vPerm1_id, hApp2_z, oAdd_lz, fBack_e, fBack1_t, len_oD, whole_ok, tuple_ok, oSumA_oD, back_oD, oD_app', oD_len, Nat.zero_add, Nat.reduceAdd, Nat.reduceLeDiff, Int.reduceLT, e1, e2]) ?_
  refine wp_nx (ρ' := [.un, .dl, .ow (.lst (ps)), .sh (.int (turn : Nat)), .sh (.tup (oD a)), .sh (.tup (oD b)), .sh (.int ((ws 0 a % 65521 : Nat) : Int)), .sh (.int ((ws 0 b % 65521 : Nat) : Int)), x8, x9, x10, x11, x12, x13, x14, x15, x16]) (δ' := δ2) (by simp only [hSet_e, hIf_e, hApp_e, hApp1_e, hPar_e, hPar1_e, hPar2_e, sv_sh, sv_ow, fBin_e, fVar_e, List.getElem?_cons_succ, List.getElem?_cons_zero, fVarK_sh, fVarK_ow, Option.bind_some, fBin1_e, fC_e, fBin2_e, Option.map_some, asB_e, asB1_e, fCall_e, rCons_e, rCons1_e, rNil_e, fCall1_e, fCallP_e, vCons_e, vCons1_e, vNil_e, fCallP1_e, List.map_cons, List.map_nil, fCallP2_e, okR_sh, okR_nil, if_true, fCallW_e, fCallW0_e, fCallW1_e, fCallW2_e, fTup_e, fLst_e, aCons_e, aCons1_sh, aCons1_ow, aNil_e, fTup1_z, fLst1_z, List.length_cons, List.length_nil, hSet1_sh, hSet1_ow, List.set_cons_succ, List.set_cons_zero, oAdd_i, oSub_i, oGt_i, oEq_i, fCut_e, fCut1_e, fCut2_e, bNo_e, bOf_e, bOf1_e, fNeg_e, fNeg1_e, cutR_t, oIx_t, oInt_i, oMod_i, cMod_e, fIf_same, vPerm1_id, hApp2_z, oAdd_lz, fBack_e, fBack1_t, len_oD, whole_ok, tuple_ok, oSumA_oD, back_oD, oD_app', oD_len, Nat.zero_add, Nat.reduceAdd, Nat.reduceLeDiff, Int.reduceLT, sa, sb]) ?_
  refine wp_pairs (m := 2) (ds := [.tup [.int ((ws 0 a % 65521 : Nat) : Int), .int ((ws 0 a % 65521 : Nat) : Int)], .tup [.int ((ws 0 (a ++ b) % 65521 : Nat) : Int), .int ((ws 0 (a ++ b) % 65521 : Nat) : Int)]]) hg (by simp only [hSet_e, hIf_e, hApp_e, hApp1_e, hPar_e, hPar1_e, hPar2_e, sv_sh, sv_ow, fBin_e, fVar_e, List.getElem?_cons_succ, List.getElem?_cons_zero, fVarK_sh, fVarK_ow, Option.bind_some, fBin1_e, fC_e, fBin2_e, Option.map_some, asB_e, asB1_e, fCall_e, rCons_e, rCons1_e, rNil_e, fCall1_e, fCallP_e, vCons_e, vCons1_e, vNil_e, fCallP1_e, List.map_cons, List.map_nil, fCallP2_e, okR_sh, okR_nil, if_true, fCallW_e, fCallW0_e, fCallW1_e, fCallW2_e, fTup_e, fLst_e, aCons_e, aCons1_sh, aCons1_ow, aNil_e, fTup1_z, fLst1_z, List.length_cons, List.length_nil, hSet1_sh, hSet1_ow, List.set_cons_succ, List.set_cons_zero, oAdd_i, oSub_i, oGt_i, oEq_i, fCut_e, fCut1_e, fCut2_e, bNo_e, bOf_e, bOf1_e, fNeg_e, fNeg1_e, cutR_t, oIx_t, oInt_i, oMod_i, cMod_e, fIf_same, vPerm1_id, hApp2_z, oAdd_lz, fBack_e, fBack1_t, len_oD, whole_ok, tuple_ok, oSumA_oD, back_oD, oD_app', oD_len, Nat.zero_add, Nat.reduceAdd, Nat.reduceLeDiff, Int.reduceLT, lsa, pab, sab, mab, cat_mod, z0]) (goos_cons (goo_int _) (goos_cons (goo_int _) goos_nil)) (by simp) (by omega) fun ps hg z0 => ?_
  refine wp_pairs (m := 1) (ds := [.tup [.int ((ws 0 (b ++ a) % 65521 : Nat) : Int), .int ((ws 0 (b ++ a) % 65521 : Nat) : Int)]]) hg (by simp only [hSet_e, hIf_e, hApp_e, hApp1_e, hPar_e, hPar1_e, hPar2_e, sv_sh, sv_ow, fBin_e, fVar_e, List.getElem?_cons_succ, List.getElem?_cons_zero, fVarK_sh, fVarK_ow, Option.bind_some, fBin1_e, fC_e, fBin2_e, Option.map_some, asB_e, asB1_e, fCall_e, rCons_e, rCons1_e, rNil_e, fCall1_e, fCallP_e, vCons_e, vCons1_e, vNil_e, fCallP1_e, List.map_cons, List.map_nil, fCallP2_e, okR_sh, okR_nil, if_true, fCallW_e, fCallW0_e, fCallW1_e, fCallW2_e, fTup_e, fLst_e, aCons_e, aCons1_sh, aCons1_ow, aNil_e, fTup1_z, fLst1_z, List.length_cons, List.length_nil, hSet1_sh, hSet1_ow, List.set_cons_succ, List.set_cons_zero, oAdd_i, oSub_i, oGt_i, oEq_i, fCut_e, fCut1_e, fCut2_e, bNo_e, bOf_e, bOf1_e, fNeg_e, fNeg1_e, cutR_t, oIx_t, oInt_i, oMod_i, cMod_e, fIf_same, vPerm1_id, hApp2_z, oAdd_lz, fBack_e, fBack1_t, len_oD, whole_ok, tuple_ok, oSumA_oD, back_oD, oD_app', oD_len, Nat.zero_add, Nat.reduceAdd, Nat.reduceLeDiff, Int.reduceLT, pba, sba, mba, cat_mod', z0]) (goos_cons (goo_int _) goos_nil) (by simp) (by omega) fun ps hg z0 => ?_
  refine wp_pairs (m := 1) (ds := [.tup [.int ((ws 0 a.reverse % 65521 : Nat) : Int), .int ((ws 0 a.reverse % 65521 : Nat) : Int)]]) hg (by simp only [hSet_e, hIf_e, hApp_e, hApp1_e, hPar_e, hPar1_e, hPar2_e, sv_sh, sv_ow, fBin_e, fVar_e, List.getElem?_cons_succ, List.getElem?_cons_zero, fVarK_sh, fVarK_ow, Option.bind_some, fBin1_e, fC_e, fBin2_e, Option.map_some, asB_e, asB1_e, fCall_e, rCons_e, rCons1_e, rNil_e, fCall1_e, fCallP_e, vCons_e, vCons1_e, vNil_e, fCallP1_e, List.map_cons, List.map_nil, fCallP2_e, okR_sh, okR_nil, if_true, fCallW_e, fCallW0_e, fCallW1_e, fCallW2_e, fTup_e, fLst_e, aCons_e, aCons1_sh, aCons1_ow, aNil_e, fTup1_z, fLst1_z, List.length_cons, List.length_nil, hSet1_sh, hSet1_ow, List.set_cons_succ, List.set_cons_zero, oAdd_i, oSub_i, oGt_i, oEq_i, fCut_e, fCut1_e, fCut2_e, bNo_e, bOf_e, bOf1_e, fNeg_e, fNeg1_e, cutR_t, oIx_t, oInt_i, oMod_i, cMod_e, fIf_same, vPerm1_id, hApp2_z, oAdd_lz, fBack_e, fBack1_t, len_oD, whole_ok, tuple_ok, oSumA_oD, back_oD, oD_app', oD_len, Nat.zero_add, Nat.reduceAdd, Nat.reduceLeDiff, Int.reduceLT, sr, ma1, rev_mod, z0]) (goos_cons (goo_int _) goos_nil) (by simp) (by omega) fun ps hg z0 => ?_
  obtain ⟨qs, y8, y9, y10, δ3, eL, hg, v3⟩ := loop_ok (turn := turn) (a := a) (b := b) (x8 := x8) (x9 := x9) (x10 := x10) (x11 := x11) (x12 := x12) (x13 := x13) (x14 := x14) (x15 := x15) (x16 := x16) hg (by omega) la ha v2
  refine wp_nx eL ?_
  clear eL z0 sab sba sr lsa pab pba mab mba ma1 sa sb
  obtain ⟨cs, δ4, e3, lc, hc, v4⟩ := law_text_ok v3
  obtain ⟨es, δ5, e4, le, he, v5⟩ := law_text_ok v4
  refine wp_nx (ρ' := [.un, .dl, .ow (.lst (qs)), .sh (.int (turn : Nat)), .sh (.tup (oD a)), .sh (.tup (oD b)), .sh (.int ((ws 0 a % 65521 : Nat) : Int)), .sh (.int ((ws 0 b % 65521 : Nat) : Int)), y8, y9, y10, .sh (.str (tx cs)), .sh (.str (tx es)), x13, x14, x15, x16]) (δ' := δ5) (by simp only [hSet_e, hIf_e, hApp_e, hApp1_e, hPar_e, hPar1_e, hPar2_e, sv_sh, sv_ow, fBin_e, fVar_e, List.getElem?_cons_succ, List.getElem?_cons_zero, fVarK_sh, fVarK_ow, Option.bind_some, fBin1_e, fC_e, fBin2_e, Option.map_some, asB_e, asB1_e, fCall_e, rCons_e, rCons1_e, rNil_e, fCall1_e, fCallP_e, vCons_e, vCons1_e, vNil_e, fCallP1_e, List.map_cons, List.map_nil, fCallP2_e, okR_sh, okR_nil, if_true, fCallW_e, fCallW0_e, fCallW1_e, fCallW2_e, fTup_e, fLst_e, aCons_e, aCons1_sh, aCons1_ow, aNil_e, fTup1_z, fLst1_z, List.length_cons, List.length_nil, hSet1_sh, hSet1_ow, List.set_cons_succ, List.set_cons_zero, oAdd_i, oSub_i, oGt_i, oEq_i, fCut_e, fCut1_e, fCut2_e, bNo_e, bOf_e, bOf1_e, fNeg_e, fNeg1_e, cutR_t, oIx_t, oInt_i, oMod_i, cMod_e, fIf_same, vPerm1_id, hApp2_z, oAdd_lz, fBack_e, fBack1_t, len_oD, whole_ok, tuple_ok, oSumA_oD, back_oD, oD_app', oD_len, Nat.zero_add, Nat.reduceAdd, Nat.reduceLeDiff, Int.reduceLT, e3, e4]) ?_
  refine tail_ok hg (by omega) lc le hc he v5
end
end W35
/-! k35: the law holds. -/
namespace W35
open PySem PySem.Spec PyProof.Rows L2 DL TL LT
open LH (VD Goo deal_ok)
theorem law_says : LawSays := by
  intro ns hns
  obtain ⟨δ, hd, v⟩ := deal_ok (a := 70001) (b := 7919) (salt := 7935) (by decide) (by decide) (by decide) hns
  have w := forD_inv (b := bName 3) (h := fb_law_3) (ds := rng 0 5) (ρ := [.un, .dl, .ow (.lst []), .un, .un, .un, .un, .un, .un, .un, .un, .un, .un, .un, .un, .un, .un]) (δ := δ)
    (fun ds ρ δ' => VD δ' ∧ (∀ d ∈ ds, ∃ n : Nat, d = .int n) ∧ ∃ (ps : List D) (m : Nat) (x3 x4 x5 x6 x7 x8 x9 x10 x11 x12 x13 x14 x15 x16 : SV), ρ = [.un, .dl, .ow (.lst ps), x3, x4, x5, x6, x7, x8, x9, x10, x11, x12, x13, x14, x15, x16] ∧ PG ps m ∧ m + ds.length * 40 = 200) ?_
    ⟨v, fun d hd => by
      obtain ⟨i, _, rfl⟩ := List.mem_map.mp hd
      exact ⟨i, by rw [Int.zero_add]⟩, [], 0, .un, .un, .un, .un, .un, .un, .un, .un, .un, .un, .un, .un, .un, .un, rfl, PG.nil, by decide⟩
  · obtain ⟨ρ', δ', e, v', _, ps, m, x3, x4, x5, x6, x7, x8, x9, x10, x11, x12, x13, x14, x15, x16, rfl, hg, hm⟩ := w
    have hm' : m = 200 := by simpa using hm
    subst hm'
    have z0 : ps.length ≤ 100000 := by have := hg.n; omega
    have u0 : g_sum_of_octets [.tup []] = some (.int 0, .sh) := sum_ok (xs := []) (fun x h => by cases h) (by decide)
    have k0 : ws 0 (List.replicate 600 255) % 65521 = 46279 := by decide +kernel
    have u1 : g_sum_of_octets [.tup (List.replicate 600 [D.int 255]).flatten] = some (.int 46279, .sh) := by
      have z := sum_ok (xs := List.replicate 600 255) (fun x h => by rw [List.eq_of_mem_replicate h]; decide) (by rw [List.length_replicate]; decide)
      rw [k0] at z
      have e2 : (List.replicate 600 [D.int 255]).flatten = oD (List.replicate 600 255) := by kernel_rfl
      rw [e2]
      exact z
    have k1 : (255 : Int) * 300 * 601 % 65521 = 46279 := by decide
    have f0 : figs 0 = [0] := figs_lt (by decide)
    have f1 : figs 1 = [1] := figs_lt (by decide)
    have u2 : g_text_octets [.str ""] = some (.tup [.int 0], .sh) := by
      have z := text_octets_ok (cs := []) (by decide)
      rw [List.length_nil, f0] at z
      exact z
    have u3 : g_read_text [.tup [.int 0, .int 65], .int 0] = some (.tup [.str "", .int 1], .sh) := by
      have z := text_in_ok (pre := []) (cs := []) (post := [65]) (by decide) (by rw [List.length_nil, f0]; decide)
      rw [if_neg (by simp), List.length_nil, f0] at z
      exact read_text_of z
    have u4 : g_read_text [.tup [.int 1, .int 10], .int 0] = some (.tup [.str "\n", .int 2], .sh) := by
      have z := text_in_ok (pre := []) (cs := [10]) (post := []) (by decide) (by rw [List.length_singleton, f1]; decide)
      rw [if_neg (by simp [inA]), List.length_singleton, f1] at z
      exact read_text_of z
    have m1 : cMul 255 300 := cMul_of (Nat.lt_of_lt_of_le (show (255 : Int).natAbs < 2 ^ 64 by decide) (Nat.pow_le_pow_right (by decide) (by decide))) (Nat.lt_of_lt_of_le (show (300 : Int).natAbs < 2 ^ 64 by decide) (Nat.pow_le_pow_right (by decide) (by decide)))
    have m2 : cMul (255 * 300) 601 := cMul_of (Nat.lt_of_lt_of_le (show ((255 : Int) * 300).natAbs < 2 ^ 64 by decide) (Nat.pow_le_pow_right (by decide) (by decide))) (Nat.lt_of_lt_of_le (show (601 : Int).natAbs < 2 ^ 64 by decide) (Nat.pow_le_pow_right (by decide) (by decide)))
    have t1 : oMulA (.tup [.int 255]) (.int 600) = some (.tup (List.replicate 600 [D.int 255]).flatten, .sh) := by
      rw [oMulA_t, if_pos ⟨by simp, by decide, by decide, by simp⟩]
      rfl
    have t2 : oMul (.int 255) (.int 300) = some (.int (255 * 300), .sh) := by rw [oMul_i, if_pos m1]
    have t3 : oMul (.int (255 * 300)) (.int 601) = some (.int (255 * 300 * 601), .sh) := by rw [oMul_i, if_pos m2]
    have g1 := hg.app (m := 3) (ds := [.tup [.int 0, .int 0], .tup [.int 46279, .int 46279], .tup [.tup [.int 0], .tup [.int 0]]]) (goos_cons (goo_int _) (goos_cons (goo_int _) (goos_cons (goo_oD [0] (by decide)) goos_nil))) (by simp)
    have z1 : (ps ++ [D.tup [.int 0, .int 0], .tup [.int 46279, .int 46279], .tup [.tup [.int 0], .tup [.int 0]]]).length ≤ 100000 := by have := g1.n; omega
    have g2 := g1.app (m := 2) (ds := [.tup [.tup [.str "", .int 1], .tup [.str "", .int 1]], .tup [.tup [.str "\n", .int 2], .tup [.str "\n", .int 2]]]) (goos_cons (goo_txt _ _) (goos_cons (goo_txt _ _) goos_nil)) (by simp)
    have ha := LH.all_ok g2.g (z_line (by have := g2.n; omega))
    have hrg : sRng1k ([.int 5], δ) = some (rng 0 5, .sh, δ) := sRng1k_ok (n := 5) (by decide)
    have s1 : hFor (sRng1 (rCons (fC (.int 5)) rNil)) (bName 3) fb_law_3 [.un, .dl, .ow (.lst []), .un, .un, .un, .un, .un, .un, .un, .un, .un, .un, .un, .un, .un, .un] δ = some (.nx, [.un, .dl, .ow (.lst ps), x3, x4, x5, x6, x7, x8, x9, x10, x11, x12, x13, x14, x15, x16], δ') := by
      simp only [hFor_e, sRng1_e, rCons_e, fC_e, Option.bind_some, rCons1_e, rNil_e, Option.map_some, hrg, hFor1_sh]
      exact e
    have e_all : g__law_all = LH.g__law_all := rfl
    have fin : Wp (h_law [.un, .dl, .ow (.lst []), .un, .un, .un, .un, .un, .un, .un, .un, .un, .un, .un, .un, .un, .un] δ) fun z => z.1 = .rt (.bl true) .sh := by
      rw [h_law]
      refine wp_nx s1 ?_
      refine wp_nx (ρ' := [.un, .dl, .ow (.lst (ps ++ [.tup [.int 0, .int 0], .tup [.int 46279, .int 46279], .tup [.tup [.int 0], .tup [.int 0]]])), x3, x4, x5, x6, x7, x8, x9, x10, x11, x12, x13, x14, x15, x16]) (δ' := δ') (by simp only [hSet_e, hIf_e, hApp_e, hApp1_e, hPar_e, hPar1_e, hPar2_e, sv_sh, sv_ow, fBin_e, fVar_e, List.getElem?_cons_succ, List.getElem?_cons_zero, fVarK_sh, fVarK_ow, Option.bind_some, fBin1_e, fC_e, fBin2_e, Option.map_some, asB_e, asB1_e, fCall_e, rCons_e, rCons1_e, rNil_e, fCall1_e, fCallP_e, vCons_e, vCons1_e, vNil_e, fCallP1_e, List.map_cons, List.map_nil, fCallP2_e, okR_sh, okR_nil, if_true, fCallW_e, fCallW0_e, fCallW1_e, fCallW2_e, fTup_e, fLst_e, aCons_e, aCons1_sh, aCons1_ow, aNil_e, fTup1_z, fLst1_z, List.length_cons, List.length_nil, hSet1_sh, hSet1_ow, List.set_cons_succ, List.set_cons_zero, oAdd_i, oSub_i, oGt_i, oEq_i, fCut_e, fCut1_e, fCut2_e, bNo_e, bOf_e, bOf1_e, fNeg_e, fNeg1_e, cutR_t, oIx_t, oInt_i, oMod_i, cMod_e, fIf_same, vPerm1_id, hApp2_z, oAdd_lz, fBack_e, fBack1_t, len_oD, whole_ok, tuple_ok, oSumA_oD, back_oD, oD_app', oD_len, Nat.zero_add, Nat.reduceAdd, Nat.reduceLeDiff, Int.reduceLT, u0, u1, u2, t1, t2, t3, k1, z0]) ?_
      exact wp_ret (d := .bl true) (δ' := δ') (by simp only [hSet_e, hIf_e, hApp_e, hApp1_e, hPar_e, hPar1_e, hPar2_e, sv_sh, sv_ow, fBin_e, fVar_e, List.getElem?_cons_succ, List.getElem?_cons_zero, fVarK_sh, fVarK_ow, Option.bind_some, fBin1_e, fC_e, fBin2_e, Option.map_some, asB_e, asB1_e, fCall_e, rCons_e, rCons1_e, rNil_e, fCall1_e, fCallP_e, vCons_e, vCons1_e, vNil_e, fCallP1_e, List.map_cons, List.map_nil, fCallP2_e, okR_sh, okR_nil, if_true, fCallW_e, fCallW0_e, fCallW1_e, fCallW2_e, fTup_e, fLst_e, aCons_e, aCons1_sh, aCons1_ow, aNil_e, fTup1_z, fLst1_z, List.length_cons, List.length_nil, hSet1_sh, hSet1_ow, List.set_cons_succ, List.set_cons_zero, oAdd_i, oSub_i, oGt_i, oEq_i, fCut_e, fCut1_e, fCut2_e, bNo_e, bOf_e, bOf1_e, fNeg_e, fNeg1_e, cutR_t, oIx_t, oInt_i, oMod_i, cMod_e, fIf_same, vPerm1_id, hApp2_z, oAdd_lz, fBack_e, fBack1_t, len_oD, whole_ok, tuple_ok, oSumA_oD, back_oD, oD_app', oD_len, Nat.zero_add, Nat.reduceAdd, Nat.reduceLeDiff, Int.reduceLT, u3, u4, okR_ow, e_all, z1, ha]) rfl
    obtain ⟨ρ', δ'', e3⟩ := says_of fin
    exact ⟨δ, ρ', δ'', hd, e3⟩
  · rintro d ds ρ δ' ⟨v', hd', ps, m, x3, x4, x5, x6, x7, x8, x9, x10, x11, x12, x13, x14, x15, x16, rfl, hg, hm⟩
    obtain ⟨n, rfl⟩ := hd' d (List.mem_cons_self ..)
    rw [List.length_cons] at hm
    obtain ⟨r, e, qs, y4, y5, y6, y7, y8, y9, y10, y11, y12, y13, y14, y15, y16, δ2, rfl, g2, v2⟩ := turn_ok (turn := n) (x4 := x4) (x5 := x5) (x6 := x6) (x7 := x7) (x8 := x8) (x9 := x9) (x10 := x10) (x11 := x11) (x12 := x12) (x13 := x13) (x14 := x14) (x15 := x15) (x16 := x16) hg (by omega) v'
    exact ⟨_, _, δ2, bName_e, e, v2, fun d h => hd' d (List.mem_cons_of_mem _ h), qs, m + 40, _, y4, y5, y6, y7, y8, y9, y10, y11, y12, y13, y14, y15, y16, rfl, g2, by omega⟩
end W35
open PySem PySem.W PyProof.Rows
set_option maxHeartbeats 0 in
theorem PySem.Challenge.cw_eachtongue_k35_whole_sums_of_octets_join_holds : PySem.Challenge.rw_eachtongue_k35_whole_sums_of_octets_join.Holds := by
  w_on; o_law; k_head; (case hw => w_witness2)
  k_fill
  refine L2.walk_of (l := PySem.Challenge.rw_eachtongue_k35_whole_sums_of_octets_join) (n := 63) (k := 6) (x := "script") (CX := fun _ => L2.CX0) (sp := fun w => DL.spL _) rfl (by decide) rfl ⟨rfl, by decide, by decide⟩ (fun w h Y => PySem.W.kIn_of Y) ?F (fun _ _ a ns hl hO hS => ⟨a, ns, rfl, DL.wl_of hO hS, hl, fun _ => rfl⟩) (fun _ _ _ _ _ h => h)
  case F =>
    intro w mg fa h KX G hmg
    refine' W35.all_mk KX G hmg ?a0 ?l0 ?c0 ?k0 ?a1 ?l1 ?c1 ?k1 ?a2 ?l2 ?c2 ?k2 ?a3 ?l3 ?c3 ?k3 ?a4 ?l4 ?c4 ?k4 ?a5 ?l5 ?c5 ?k5 ?a6 ?l6 ?c6 ?k6 ?a7 ?l7 ?c7 ?k7 ?a8 ?l8 ?c8 ?k8 ?a9 ?l9 ?c9 ?k9 ?a10 ?l10 ?c10 ?k10 ?a11 ?l11 ?c11 ?k11 ?a12 ?l12 ?c12 ?k12 ?a13 ?l13 ?c13 ?k13 ?a14 ?l14 ?c14 ?k14 ?a15 ?l15 ?c15 ?k15 ?a16 ?l16 ?c16 ?k16 ?a17 ?l17 ?c17 ?k17 ?a18 ?l18 ?c18 ?k18 ?a19 ?l19 ?c19 ?k19 ?a20 ?l20 ?c20 ?k20 ?a21 ?l21 ?c21 ?k21 ?a22 ?l22 ?c22 ?k22 ?a23 ?l23 ?c23 ?k23 ?z_abs ?z_bool ?z_dict ?z_enumerate ?z_int ?z_isinstance ?z_len ?z_list ?z_ord ?z_range ?z_str ?z_sum ?z_tuple ?z_zip ?n_BASE ?n_NEWLINE ?n_BLANK ?n_PERCENT ?n_SIGNS ?n_PRIME W35.law_says
    (case a0 => k_is); (case l0 => k_is); (case c0 => k_is); (case k0 => k_is); (case a1 => k_is); (case l1 => k_is); (case c1 => k_is); (case k1 => k_is); (case a2 => k_is); (case l2 => k_is); (case c2 => k_is); (case k2 => k_is); (case a3 => k_is); (case l3 => k_is); (case c3 => k_is); (case k3 => k_is); (case a4 => k_is); (case l4 => k_is); (case c4 => k_is); (case k4 => k_is); (case a5 => k_is); (case l5 => k_is); (case c5 => k_is); (case k5 => k_is); (case a6 => k_is); (case l6 => k_is); (case c6 => k_is); (case k6 => k_is); (case a7 => k_is); (case l7 => k_is); (case c7 => k_is); (case k7 => k_is); (case a8 => k_is); (case l8 => k_is); (case c8 => k_is); (case k8 => k_is); (case a9 => k_is); (case l9 => k_is); (case c9 => k_is); (case k9 => k_is); (case a10 => k_is); (case l10 => k_is); (case c10 => k_is); (case k10 => k_is); (case a11 => k_is); (case l11 => k_is); (case c11 => k_is); (case k11 => k_is); (case a12 => k_is); (case l12 => k_is); (case c12 => k_is); (case k12 => k_is); (case a13 => k_is); (case l13 => k_is); (case c13 => k_is); (case k13 => k_is); (case a14 => k_is); (case l14 => k_is); (case c14 => k_is); (case k14 => k_is); (case a15 => k_is); (case l15 => k_is); (case c15 => k_is); (case k15 => k_is); (case a16 => k_is); (case l16 => k_is); (case c16 => k_is); (case k16 => k_is); (case a17 => k_is); (case l17 => k_is); (case c17 => k_is); (case k17 => k_is); (case a18 => k_is); (case l18 => k_is); (case c18 => k_is); (case k18 => k_is); (case a19 => k_is); (case l19 => k_is); (case c19 => k_is); (case k19 => k_is); (case a20 => k_is); (case l20 => k_is); (case c20 => k_is); (case k20 => k_is); (case a21 => k_is); (case l21 => k_is); (case c21 => k_is); (case k21 => k_is); (case a22 => k_is); (case l22 => k_is); (case c22 => k_is); (case k22 => k_is); (case a23 => k_is); (case l23 => k_is); (case c23 => k_is); (case k23 => k_is); (case z_abs => k_is); (case z_bool => k_is); (case z_dict => k_is); (case z_enumerate => k_is); (case z_int => k_is); (case z_isinstance => k_is); (case z_len => k_is); (case z_list => k_is); (case z_ord => k_is); (case z_range => k_is); (case z_str => k_is); (case z_sum => k_is); (case z_tuple => k_is); (case z_zip => k_is); (case n_BASE => k_is); (case n_NEWLINE => k_is); (case n_BLANK => k_is); (case n_PERCENT => k_is); (case n_SIGNS => k_is); (case n_PRIME => k_is)
