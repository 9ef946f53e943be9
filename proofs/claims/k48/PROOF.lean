import PyProof.Rows.All
import HandS.ForMost
import HandS.Wide
import KE.DataEq
import KE.DataCmp
import KE.DataMinMax
import KE.DataFind
import KE.DataIsa
import KE.DataAny
import KE.SortData
import PyProof.Rows.SeqMore
import HandS.Codes
import HandS.IsInst
import HandS.Style
import HandS.Defaults
import HandS.Zip
import KE.KDictZip
import KE.GoesEnum
import KE.GoesNew
import HandS.TupMul
import HandS.Text
import KE.KTupSum
import HandS.Dict
import HandS.Conv
import HandS.TupSets
import HandS.Exc
import HandS.ExcOwn
import HandS.ExcSuper
import KE.KExcIs
import HandS.WordsExc
import PySem.Challenge.RW_eachtongue_k48_trace_programs_refused_at
set_option Elab.async false
set_option linter.all false
set_option maxRecDepth 100000
set_option maxHeartbeats 4000000
/-! D-layer, part a: data D, what a value stands for (Rep), who owns which list (SR), judgements for expressions and statements. -/
namespace DL
open PySem PySem.Spec PyProof.Rows L2

/-- plain data: what a value stands for -/
inductive D where
  | non | bl (b : Bool) | int (i : Int) | str (x : Str)
  | tup (xs : List D) | lst (xs : List D)
  | dic (kvs : List (Key × D)) | set (xs : List D)
  | ins (n : Str) (fs : List (Str × D))
  | obj (a : Addr) | ty (n : String)
  /-- a list that was there ahead of all and never changes -/
  | wls (xs : List D)

/-- objects that may change -/
def Mt : HO → Prop
  | .tup _ => False
  | .own _ => False
  | .frz _ _ => False
  | .tbl _ => False
  | _ => True

/-- all that was tracked is as it was, but for what may change at addresses of P -/
def Keep (P : Addr → Prop) (H H' : Hp) : Prop := ∀ a o, H a = some o → H' a = some o ∨ (P a ∧ Mt o ∧ ∃ o', H' a = some o' ∧ Mt o')
theorem Keep.refl (P : Addr → Prop) (H : Hp) : Keep P H H := fun _ _ h => .inl h
theorem Keep.of_same {P : Addr → Prop} {H H' : Hp} (h : Same H H') : Keep P H H' := fun a o e => .inl (h a o e)
theorem Keep.trans {P : Addr → Prop} {H H1 H2 : Hp} (a : Keep P H H1) (b : Keep P H1 H2) : Keep P H H2 := fun c o h => by
  rcases a c o h with h1 | ⟨p, m, o1, h1, m1⟩
  · exact b c o h1
  · rcases b c o1 h1 with h2 | ⟨_, _, o2, h2, m2⟩
    · exact .inr ⟨p, m, o1, h2, m1⟩
    · exact .inr ⟨p, m, o2, h2, m2⟩
theorem Keep.mono {P Q : Addr → Prop} {H H' : Hp} (a : Keep P H H') (h : ∀ x, P x → Q x) : Keep Q H H' := fun c o e => (a c o e).imp id fun ⟨p, r⟩ => ⟨h c p, r⟩
theorem Keep.there {P : Addr → Prop} {H H' : Hp} (k : Keep P H H') {a : Addr} (h : H a ≠ none) : H' a ≠ none := by
  cases e : H a with
  | none => exact absurd e h
  | some o =>
    rcases k a o e with h1 | ⟨_, _, o', h1, _⟩ <;> rw [h1] <;> simp
theorem Keep.free {P : Addr → Prop} {H H' : Hp} (k : Keep P H H') {a : Addr} (h : H' a = none) : H a = none := by
  cases e : H a with
  | none => rfl
  | some o => exact absurd h (k.there (by rw [e]; simp))
theorem Keep.at_ {P : Addr → Prop} {H H' : Hp} (k : Keep P H H') {a : Addr} {o : HO} (h : H a = some o) (hp : ¬ P a) : H' a = some o :=
  (k a o h).elim id fun x => absurd x.1 hp
theorem Keep.still {P : Addr → Prop} {H H' : Hp} (k : Keep P H H') {a : Addr} {o : HO} (h : H a = some o) (hp : ¬ Mt o) : H' a = some o :=
  (k a o h).elim id fun x => absurd x.2.1 hp
theorem same_upd {H : Hp} {p : Addr} {o : HO} (h : H p = none) : Same H (upd H p o) := fun b x e => by
  rw [upd_ne (ne_of_none e h)]
  exact e
/-- a tracked thing is changed -/
theorem keep_upd {P : Addr → Prop} {H : Hp} {p : Addr} {o o' : HO} (h : H p = some o) (m : Mt o) (m' : Mt o') (hp : P p) : Keep P H (upd H p o') := fun b x e => by
  by_cases hb : b = p
  · subst hb
    rw [h] at e
    cases e
    exact .inr ⟨hp, m, o', upd_same, m'⟩
  · exact .inl (by rw [upd_ne hb]; exact e)

theorem SqT.keep {P : Addr → Prop} {K : PySem.W.Frag} {H H' : Hp} {a : Addr} {xs : List V} (k : Keep P H H') (h : SqT K H a xs) : SqT K H' a xs := by
  rcases h with (h | ⟨o, h⟩) | h
  · exact .inl (.inl (k.still h (by exact id)))
  · exact .inl (.inr ⟨o, k.still h (by exact id)⟩)
  · exact .inr h

theorem rd_keep {P : Addr → Prop} {H H' : Hp} {a : Addr} {xs : List V} (k : Keep P H H') (h : Rd H a (.lst xs)) (n : ¬ P a) : Rd H' a (.lst xs) := by
  rcases h with h | ⟨o, h⟩
  · exact .inl (k.at_ h n)
  · exact .inr ⟨o, k.still h (by exact id)⟩
theorem rd_there {H : Hp} {a : Addr} {xs : List V} (h : Rd H a (.lst xs)) : ¬ H a = none := fun z => by
  rcases h with h | ⟨o, h⟩ <;> (rw [h] at z; cases z)
/-- a list that never changes -/
def WL (K : PySem.W.Frag) (H : Hp) (a : Addr) (xs : List V) : Prop := (∃ o, H a = some (.frz o (.lst xs))) ∨ ∃ (o : Obj) (its : Array Value) (n : Nat), K.lookup a = some o ∧ o.cls = .type "list" ∧ o.dict = none ∧ o.data = .seq its n ∧ its.size ≤ sizeLine ∧ Vals xs its.toList
theorem WL.keep {P : Addr → Prop} {K : PySem.W.Frag} {H H' : Hp} {a : Addr} {xs : List V} (k : Keep P H H') (h : WL K H a xs) : WL K H' a xs := by
  rcases h with ⟨o, h⟩ | h
  · exact .inl ⟨o, k.still h (by exact id)⟩
  · exact .inr h
theorem WL.sq {K : PySem.W.Frag} {H : Hp} {a : Addr} {xs : List V} (h : WL K H a xs) : SqL K H a xs := by
  rcases h with ⟨o, h⟩ | h
  · exact .inl (.inr ⟨o, h⟩)
  · exact .inr h
/-- where the class of that name stands -/
def caddr (K : PySem.W.Frag) (n : Str) : Option Addr := match PySem.W.nsIn K mainGlobals n with
  | some (some (.ref a)) => some a
  | _ => none
mutual
/-- v stands for the data; no list or instance of it lies at an address of O -/
inductive Rep (K : PySem.W.Frag) (O : Addr → Prop) (H : Hp) : V → D → Prop
  | non : Rep K O H .non .non
  | bl (b : Bool) : Rep K O H (.bl b) (.bl b)
  | int (i : Int) : Rep K O H (.int i) (.int i)
  | str (x : Str) : Rep K O H (.str x) (.str x)
  | tup {a : Addr} {xs : List V} {ds : List D} : SqT K H a xs → Reps K O H xs ds → Rep K O H (.ref a) (.tup ds)
  | lst {a : Addr} {xs : List V} {ds : List D} : H a = some (.lst xs) → ¬ O a → Reps K O H xs ds → Rep K O H (.ref a) (.lst ds)
  | ins {n : Str} {C a dx : Addr} {fs : List (Str × V)} {ds : List (Str × D)} : caddr K n = some C → H a = some (.ins C dx fs) → ¬ O a → fs.map (·.1) = ds.map (·.1) → Reps K O H (fs.map (·.2)) (ds.map (·.2)) → Rep K O H (.ref a) (.ins n ds)
  | dic {a : Addr} {kvs : List (Key × V)} {ds : List (Key × D)} : H a = some (.dK kvs) → ¬ O a → kvs.map (·.1) = ds.map (·.1) → Reps K O H (kvs.map (·.2)) (ds.map (·.2)) → Rep K O H (.ref a) (.dic ds)
  | obj (a : Addr) : Rep K O H (.ref a) (.obj a)
  | ty (n : String) : Rep K O H (.ty n) (.ty n)
  | wls {a : Addr} {xs : List V} {ds : List D} : WL K H a xs → Reps K O H xs ds → Rep K O H (.ref a) (.wls ds)
inductive Reps (K : PySem.W.Frag) (O : Addr → Prop) (H : Hp) : List V → List D → Prop
  | nil : Reps K O H [] []
  | cons {v : V} {d : D} {vs : List V} {ds : List D} : Rep K O H v d → Reps K O H vs ds → Reps K O H (v :: vs) (d :: ds)
end

section
variable {K : PySem.W.Frag} {O O' P : Addr → Prop} {H H' : Hp} {v : V} {d : D} {vs : List V} {ds : List D}
mutual
theorem Rep.keep (k : Keep P H H') (hp : ∀ a, P a → O a) : ∀ {v : V} {d : D}, Rep K O H v d → Rep K O H' v d
  | _, _, .non => .non
  | _, _, .bl b => .bl b
  | _, _, .int i => .int i
  | _, _, .str x => .str x
  | _, _, .tup h r => .tup (SqT.keep k h) (Reps.keep k hp r)
  | _, _, .lst h n r => .lst (k.at_ h fun z => n (hp _ z)) n (Reps.keep k hp r)
  | _, _, .ins hc h n e r => .ins hc (k.at_ h fun z => n (hp _ z)) n e (Reps.keep k hp r)
  | _, _, .dic h n e r => .dic (k.at_ h fun z => n (hp _ z)) n e (Reps.keep k hp r)
  | _, _, .obj a => .obj a
  | _, _, .ty n => .ty n
  | _, _, .wls h r => .wls (WL.keep k h) (Reps.keep k hp r)
theorem Reps.keep (k : Keep P H H') (hp : ∀ a, P a → O a) : ∀ {vs : List V} {ds : List D}, Reps K O H vs ds → Reps K O H' vs ds
  | _, _, .nil => .nil
  | _, _, .cons h r => .cons (Rep.keep k hp h) (Reps.keep k hp r)
end
mutual
theorem Rep.weak (hp : ∀ a, O' a → O a) : ∀ {v : V} {d : D}, Rep K O H v d → Rep K O' H v d
  | _, _, .non => .non
  | _, _, .bl b => .bl b
  | _, _, .int i => .int i
  | _, _, .str x => .str x
  | _, _, .tup h r => .tup h (Reps.weak hp r)
  | _, _, .lst h n r => .lst h (fun z => n (hp _ z)) (Reps.weak hp r)
  | _, _, .ins hc h n e r => .ins hc h (fun z => n (hp _ z)) e (Reps.weak hp r)
  | _, _, .dic h n e r => .dic h (fun z => n (hp _ z)) e (Reps.weak hp r)
  | _, _, .obj a => .obj a
  | _, _, .ty n => .ty n
  | _, _, .wls h r => .wls (h) (Reps.weak hp r)
theorem Reps.weak (hp : ∀ a, O' a → O a) : ∀ {vs : List V} {ds : List D}, Reps K O H vs ds → Reps K O' H vs ds
  | _, _, .nil => .nil
  | _, _, .cons h r => .cons (Rep.weak hp h) (Reps.weak hp r)
end
theorem Rep.same (e : Same H H') (r : Rep K O H v d) : Rep K O H' v d := r.keep (P := fun _ => False) (Keep.of_same e) fun _ z => z.elim
theorem Reps.same (e : Same H H') (r : Reps K O H vs ds) : Reps K O H' vs ds := r.keep (P := fun _ => False) (Keep.of_same e) fun _ z => z.elim
mutual
/-- what is new (H p = none ahead) is no part of it -/
theorem Rep.more (hp : ∀ a, O' a → O a ∨ H a = none) : ∀ {v : V} {d : D}, Rep K O H v d → Rep K O' H v d
  | _, _, .non => .non
  | _, _, .bl b => .bl b
  | _, _, .int i => .int i
  | _, _, .str x => .str x
  | _, _, .tup h r => .tup h (Reps.more hp r)
  | _, _, .lst h n r => .lst h (fun z => (hp _ z).elim n fun z => rd_there (.inl h) z) (Reps.more hp r)
  | _, _, .ins hc h n e r => .ins hc h (fun z => (hp _ z).elim n fun z => by rw [h] at z; cases z) e (Reps.more hp r)
  | _, _, .dic h n e r => .dic h (fun z => (hp _ z).elim n fun z => by rw [h] at z; cases z) e (Reps.more hp r)
  | _, _, .obj a => .obj a
  | _, _, .ty n => .ty n
  | _, _, .wls h r => .wls (h) (Reps.more hp r)
theorem Reps.more (hp : ∀ a, O' a → O a ∨ H a = none) : ∀ {vs : List V} {ds : List D}, Reps K O H vs ds → Reps K O' H vs ds
  | _, _, .nil => .nil
  | _, _, .cons h r => .cons (Rep.more hp h) (Reps.more hp r)
end
theorem Reps.length : ∀ {vs : List V} {ds : List D}, Reps K O H vs ds → vs.length = ds.length
  | _, _, .nil => rfl
  | _, _, .cons _ r => by rw [List.length_cons, List.length_cons, r.length]
theorem Reps.append : ∀ {vs ws : List V} {ds es : List D}, Reps K O H vs ds → Reps K O H ws es → Reps K O H (vs ++ ws) (ds ++ es)
  | _, _, _, _, .nil, s => s
  | _, _, _, _, .cons h r, s => .cons h (Reps.append r s)
theorem Reps.get : ∀ {vs : List V} {ds : List D} {i : Nat} {v : V}, Reps K O H vs ds → vs[i]? = some v → ∃ d, ds[i]? = some d ∧ Rep K O H v d
  | _, _, _, _, .nil, e => by simp at e
  | _, _, 0, _, .cons h _, e => by simp at e; subst e; exact ⟨_, rfl, h⟩
  | _, _, i + 1, _, .cons _ r, e => by
    obtain ⟨d, h1, h2⟩ := Reps.get (i := i) r (by simpa using e)
    exact ⟨d, by simpa using h1, h2⟩
theorem Reps.getD : ∀ {vs : List V} {ds : List D} {i : Nat} {d : D}, Reps K O H vs ds → ds[i]? = some d → ∃ v, vs[i]? = some v ∧ Rep K O H v d
  | _, _, _, _, .nil, e => by simp at e
  | _, _, 0, _, .cons h _, e => by simp at e; subst e; exact ⟨_, rfl, h⟩
  | _, _, i + 1, _, .cons _ r, e => by
    obtain ⟨d, h1, h2⟩ := Reps.getD (i := i) r (by simpa using e)
    exact ⟨d, by simpa using h1, h2⟩
theorem Reps.take : ∀ {vs : List V} {ds : List D} (n : Nat), Reps K O H vs ds → Reps K O H (vs.take n) (ds.take n)
  | _, _, 0, _ => .nil
  | _, _, _ + 1, .nil => .nil
  | _, _, n + 1, .cons h r => .cons h (Reps.take n r)
theorem Reps.drop : ∀ {vs : List V} {ds : List D} (n : Nat), Reps K O H vs ds → Reps K O H (vs.drop n) (ds.drop n)
  | _, _, 0, r => r
  | _, _, _ + 1, .nil => .nil
  | _, _, n + 1, .cons _ r => Reps.drop n r
theorem Reps.set (i : Nat) (h : Rep K O H v d) : ∀ {vs : List V} {ds : List D} {i : Nat}, Reps K O H vs ds → Reps K O H (vs.set i v) (ds.set i d)
  | _, _, _, .nil => .nil
  | _, _, 0, .cons _ r => .cons h r
  | _, _, i + 1, .cons g r => .cons g (Reps.set i h r)
theorem Reps.eraseIdx : ∀ {vs : List V} {ds : List D} (i : Nat), Reps K O H vs ds → Reps K O H (vs.eraseIdx i) (ds.eraseIdx i)
  | _, _, _, .nil => .nil
  | _, _, 0, .cons _ r => r
  | _, _, i + 1, .cons g r => .cons g (Reps.eraseIdx i r)
theorem Reps.reverse (r : Reps K O H vs ds) : Reps K O H vs.reverse ds.reverse := by
  induction r using Reps.rec (motive_1 := fun _ _ _ => True) with
  | nil => exact .nil
  | cons h r _ ih =>
    rw [List.reverse_cons, List.reverse_cons]
    exact ih.append (.cons h .nil)
  | _ => trivial
theorem Reps.dropLast (r : Reps K O H vs ds) : Reps K O H vs.dropLast ds.dropLast := by
  rw [List.dropLast_eq_take, List.dropLast_eq_take, r.length]
  exact r.take _
theorem Reps.one {d : D} : Reps K O H vs [d] → ∃ v, vs = [v] ∧ Rep K O H v d
  | .cons h .nil => ⟨_, rfl, h⟩
theorem Reps.ints : ∀ {vs : List V} {is : List Int}, Reps K O H vs (is.map D.int) → vs = is.map V.int
  | [], [], _ => rfl
  | _ :: _, [], h => by cases h
  | [], _ :: _, h => by cases h
  | _ :: _, _ :: _, .cons h r => by
    cases h
    rw [List.map_cons, Reps.ints r]
theorem Reps.of_ints (is : List Int) : Reps K O H (is.map V.int) (is.map D.int) := by
  induction is with
  | nil => exact .nil
  | cons i r ih => exact .cons (.int i) ih
end

/-! ### who owns what -/
/-- what a def's run leans on: A what others own, P the draws' list and its cells -/
structure Gh where
  A : Addr → Prop
  P : Option (Addr × Addr)
def Gh.Pd (g : Gh) (a : Addr) : Prop := ∃ p q, g.P = some (p, q) ∧ (a = p ∨ a = q)
/-- a name's slot: unknown, data that stays, a list (dict, set) of one's own, the draws -/
inductive SV where
  | un | sh (d : D) | ow (d : D) | dl
abbrev Rho := List SV
/-- the draws: the cells, the mix -/
abbrev Dr := List Int × Int
abbrev Fp := Nat → List Addr
def Ow (F : Fp) (a : Addr) : Prop := ∃ i, a ∈ F i
def Av (g : Gh) (F : Fp) (a : Addr) : Prop := g.A a ∨ g.Pd a ∨ Ow F a
/-- the object at p is one's own thing -/
def Top (K : PySem.W.Frag) (O : Addr → Prop) (H : Hp) (p : Addr) : D → Prop
  | .lst ds => ∃ xs, H p = some (.lst xs) ∧ Reps K O H xs ds
  | .dic ds => ∃ kvs : List (Key × V), H p = some (.dK kvs) ∧ kvs.map (·.1) = ds.map (·.1) ∧ Reps K O H (kvs.map (·.2)) (ds.map (·.2))
  | _ => False
theorem Top.keep {K : PySem.W.Frag} {O P : Addr → Prop} {H H' : Hp} {p : Addr} {d : D} (k : Keep P H H') (hp : ∀ a, P a → O a) (np : ¬ P p) (t : Top K O H p d) : Top K O H' p d := by
  cases d with
  | lst ds =>
    obtain ⟨xs, h, r⟩ := t
    exact ⟨xs, k.at_ h np, r.keep k hp⟩
  | dic ds =>
    obtain ⟨xs, h, e, r⟩ := t
    exact ⟨xs, k.at_ h np, e, r.keep k hp⟩
  | _ => exact t.elim
theorem Top.weak {K : PySem.W.Frag} {O O' : Addr → Prop} {H : Hp} {p : Addr} {d : D} (hp : ∀ a, O' a → O a) (t : Top K O H p d) : Top K O' H p d := by
  cases d with
  | lst ds =>
    obtain ⟨xs, h, r⟩ := t
    exact ⟨xs, h, r.weak hp⟩
  | dic ds =>
    obtain ⟨xs, h, e, r⟩ := t
    exact ⟨xs, h, e, r.weak hp⟩
  | _ => exact t.elim
theorem Top.there {K : PySem.W.Frag} {O : Addr → Prop} {H : Hp} {p : Addr} {d : D} (t : Top K O H p d) : ∃ o, H p = some o ∧ Mt o := by
  cases d with
  | lst ds =>
    obtain ⟨xs, h, r⟩ := t
    exact ⟨_, h, trivial⟩
  | dic ds =>
    obtain ⟨xs, h, e, r⟩ := t
    exact ⟨_, h, trivial⟩
  | _ => exact t.elim
/-- given out of hand -/
theorem Top.rep {K : PySem.W.Frag} {O : Addr → Prop} {H : Hp} {p : Addr} {d : D} (hp : ¬ O p) (t : Top K O H p d) : Rep K O H (.ref p) d := by
  cases d with
  | lst ds =>
    obtain ⟨xs, h, r⟩ := t
    exact .lst h hp r
  | dic ds =>
    obtain ⟨xs, h, e, r⟩ := t
    exact .dic h hp e r
  | _ => exact t.elim

def SlotR (K : PySem.W.Frag) (g : Gh) (F : Fp) (H : Hp) (i : Nat) (s : Option (Option V)) : SV → Prop
  | .un => True
  | .sh d => ∃ v, s = some (some v) ∧ Rep K (Av g F) H v d
  | .ow d => ∃ p, s = some (some (.ref p)) ∧ F i = [p] ∧ Top K (Av g F) H p d
  | .dl => ∃ p q, g.P = some (p, q) ∧ s = some (some (.ref p))
def DealR (g : Gh) (H : Hp) (δ : Dr) : Prop := ∀ p q, g.P = some (p, q) → p ≠ q ∧ H p = some (.lst [.ref q, .int δ.2]) ∧ H q = some (.lst (δ.1.map .int))
structure SR (K : PySem.W.Frag) (g : Gh) (F : Fp) (σ : L2.St) (ρ : Rho) (δ : Dr) (H : Hp) : Prop where
  len : σ.length = ρ.length
  slot : ∀ i s, ρ[i]? = some s → SlotR K g F H i σ[i]? s
  apart : ∀ i j a, a ∈ F i → a ∈ F j → i = j
  new : ∀ i a, a ∈ F i → ¬ g.A a ∧ ¬ g.Pd a
  dom : ∀ a, g.A a → ¬ g.Pd a
  there : ∀ a, Av g F a → H a ≠ none
  mt : ∀ i a, a ∈ F i → ∃ o, H a = some o ∧ Mt o
  deal : DealR g H δ
/-- at a def's entry the heap was H0 -/
structure SH (H0 : Hp) (g : Gh) (F : Fp) (H : Hp) : Prop where
  new : ∀ i a, a ∈ F i → H0 a = none
  dom : ∀ a, g.A a → H0 a ≠ none
  pd : ∀ a, g.Pd a → H0 a ≠ none
  keep : Keep g.Pd H0 H
section
variable {K : PySem.W.Frag} {g : Gh} {F : Fp} {σ : L2.St} {ρ : Rho} {δ δ' : Dr} {H H' : Hp}
theorem SR.fresh (S : SR K g F σ ρ δ H) {a : Addr} (h : H a = none) : ¬ Av g F a := fun z => S.there a z h
theorem SlotR.keep {i : Nat} {s : Option (Option V)} {v : SV} (k : Keep g.Pd H H') (hn : ∀ a, a ∈ F i → ¬ g.Pd a) (r : SlotR K g F H i s v) : SlotR K g F H' i s v := by
  cases v with
  | un => trivial
  | sh d =>
    obtain ⟨x, h, r⟩ := r
    exact ⟨x, h, r.keep k fun a z => .inr (.inl z)⟩
  | ow d =>
    obtain ⟨p, h, hf, r⟩ := r
    exact ⟨p, h, hf, r.keep k (fun a z => .inr (.inl z)) (hn p (by rw [hf]; simp))⟩
  | dl => exact r
/-- the heap grows, the draws go on -/
theorem SR.grow (S : SR K g F σ ρ δ H) (k : Keep g.Pd H H') (d : DealR g H' δ') : SR K g F σ ρ δ' H' where
  len := S.len
  slot := fun i s h => (S.slot i s h).keep k fun a z => (S.new i a z).2
  apart := S.apart
  new := S.new
  dom := S.dom
  there := fun a h => k.there (S.there a h)
  mt := fun i a h => by
    obtain ⟨o, ho, m⟩ := S.mt i a h
    exact ⟨o, k.at_ ho (S.new i a h).2, m⟩
  deal := d
theorem DealR.same (d : DealR g H δ) (k : Same H H') : DealR g H' δ := fun p q e => ⟨(d p q e).1, k _ _ (d p q e).2.1, k _ _ (d p q e).2.2⟩
theorem SR.same (S : SR K g F σ ρ δ H) (k : Same H H') : SR K g F σ ρ δ H' := S.grow (Keep.of_same k) (S.deal.same k)
theorem SH.grow {H0 : Hp} (S : SH H0 g F H) (k : Keep g.Pd H H') : SH H0 g F H' := ⟨S.new, S.dom, S.pd, S.keep.trans k⟩
end

/-! ### expressions -/
/-- what comes: data to be handed on, a new thing of one's own, a name's own thing looked at -/
inductive Kd where
  | sh | ow | br
  deriving DecidableEq
/-- H ahead, H' behind -/
def Res (K : PySem.W.Frag) (g : Gh) (F : Fp) (H H' : Hp) : Kd → V → D → Prop
  | .sh, v, d => Rep K (Av g F) H' v d
  | .ow, v, d => ∃ p, v = .ref p ∧ H p = none ∧ Top K (fun a => Av g F a ∨ a = p) H' p d
  | .br, v, d => ∃ p, v = .ref p ∧ ¬ g.Pd p ∧ Top K (Av g F) H' p d
/-- it may be read -/
def Rd1 (K : PySem.W.Frag) (g : Gh) (F : Fp) (H : Hp) (v : V) (d : D) : Prop := Rep K (Av g F) H v d ∨ ∃ p, v = .ref p ∧ ¬ g.Pd p ∧ Top K (Av g F) H p d
/-- owned addresses are there -/
def Good (g : Gh) (F : Fp) (H : Hp) : Prop := ∀ a, Av g F a → H a ≠ none
theorem SR.good {K : PySem.W.Frag} {g : Gh} {F : Fp} {σ : L2.St} {ρ : Rho} {δ : Dr} {H : Hp} (S : SR K g F σ ρ δ H) : Good g F H := fun a h => S.there a h
section
variable {K : PySem.W.Frag} {g : Gh} {F : Fp} {σ : L2.St} {ρ : Rho} {δ δ' : Dr} {H H1 H' : Hp} {v : V} {d : D} {k : Kd}
theorem Good.grow {P : Addr → Prop} (G : Good g F H) (h : Keep P H H') : Good g F H' := fun a z => h.there (G a z)
theorem Rd1.keep (h : Keep g.Pd H H') (r : Rd1 K g F H v d) : Rd1 K g F H' v d := by
  rcases r with r | ⟨p, e, n, t⟩
  · exact .inl (r.keep h fun a z => .inr (.inl z))
  · exact .inr ⟨p, e, n, t.keep h (fun a z => .inr (.inl z)) n⟩
theorem Rd1.same (h : Same H H') (r : Rd1 K g F H v d) : Rd1 K g F H' v d := r.keep (Keep.of_same h)
theorem Res.keep (h : Keep g.Pd H1 H') (G : Good g F H) (r : Res K g F H H1 k v d) : Res K g F H H' k v d := by
  cases k with
  | sh => exact Rep.keep h (fun a z => .inr (.inl z)) r
  | ow =>
    obtain ⟨p, e, n, t⟩ := r
    exact ⟨p, e, n, t.keep h (fun a z => .inl (.inr (.inl z))) fun z => G p (.inr (.inl z)) n⟩
  | br =>
    obtain ⟨p, e, n, t⟩ := r
    exact ⟨p, e, n, t.keep h (fun a z => .inr (.inl z)) n⟩
theorem Res.rd (G : Good g F H) (r : Res K g F H H' k v d) : Rd1 K g F H' v d := by
  cases k with
  | sh => exact .inl r
  | ow =>
    obtain ⟨p, e, n, t⟩ := r
    exact .inr ⟨p, e, fun z => G p (.inr (.inl z)) n, t.weak fun a z => .inl z⟩
  | br => exact .inr r
/-- handed on -/
theorem Res.rep (G : Good g F H) (hk : k ≠ .br) (r : Res K g F H H' k v d) : Rep K (Av g F) H' v d := by
  cases k with
  | sh => exact r
  | ow =>
    obtain ⟨p, e, n, t⟩ := r
    subst e
    exact Top.rep (fun z => G p z n) (t.weak fun a z => .inl z)
  | br => exact absurd rfl hk
theorem Res.earlier {P : Addr → Prop} (h : Keep P H H1) (r : Res K g F H1 H' k v d) : Res K g F H H' k v d := by
  cases k with
  | sh => exact r
  | ow =>
    obtain ⟨p, e, n, t⟩ := r
    exact ⟨p, e, h.free n, t⟩
  | br => exact r
theorem Rd1.lst {ds : List D} (r : Rd1 K g F H v (.lst ds)) : ∃ p xs, v = .ref p ∧ Rd H p (.lst xs) ∧ Reps K (Av g F) H xs ds := by
  rcases r with r | ⟨p, e, n, xs, h, r⟩
  · cases r with
    | lst h n r => exact ⟨_, _, rfl, .inl h, r⟩
  · exact ⟨p, xs, e, .inl h, r⟩
theorem Rd1.dic {ds : List (Key × D)} (r : Rd1 K g F H v (.dic ds)) : ∃ p kvs, v = .ref p ∧ H p = some (.dK kvs) ∧ kvs.map (·.1) = ds.map (·.1) ∧ Reps K (Av g F) H (kvs.map (·.2)) (ds.map (·.2)) := by
  rcases r with r | ⟨p, e, n, kvs, h, e2, r⟩
  · cases r with
    | dic h n e r => exact ⟨_, _, rfl, h, e, r⟩
  · exact ⟨p, kvs, e, h, e2, r⟩
theorem Rd1.wls {ds : List D} (r : Rd1 K g F H v (.wls ds)) : ∃ p xs, v = .ref p ∧ WL K H p xs ∧ Reps K (Av g F) H xs ds := by
  rcases r with r | ⟨p, e, n, t⟩
  · cases r with
    | wls h r => exact ⟨_, _, rfl, h, r⟩
  · exact t.elim
theorem Rd1.tup {ds : List D} (r : Rd1 K g F H v (.tup ds)) : ∃ p xs, v = .ref p ∧ SqT K H p xs ∧ Reps K (Av g F) H xs ds := by
  rcases r with r | ⟨p, e, n, t⟩
  · cases r with
    | tup h r => exact ⟨_, _, rfl, h, r⟩
  · exact t.elim
theorem Rd1.int {i : Int} (r : Rd1 K g F H v (.int i)) : v = .int i := by
  rcases r with r | ⟨p, e, n, t⟩
  · cases r; rfl
  · exact t.elim
theorem Rd1.bl {b : Bool} (r : Rd1 K g F H v (.bl b)) : v = .bl b := by
  rcases r with r | ⟨p, e, n, t⟩
  · cases r; rfl
  · exact t.elim
theorem Rd1.str {x : Str} (r : Rd1 K g F H v (.str x)) : v = .str x := by
  rcases r with r | ⟨p, e, n, t⟩
  · cases r; rfl
  · exact t.elim
theorem Rd1.non (r : Rd1 K g F H v .non) : v = .non := by
  rcases r with r | ⟨p, e, n, t⟩
  · cases r; rfl
  · exact t.elim
theorem Rd1.ins {n : Str} {ds : List (Str × D)} (r : Rd1 K g F H v (.ins n ds)) : ∃ C a dx fs, caddr K n = some C ∧ v = .ref a ∧ H a = some (.ins C dx fs) ∧ fs.map (·.1) = ds.map (·.1) ∧ Reps K (Av g F) H (fs.map (·.2)) (ds.map (·.2)) := by
  rcases r with r | ⟨p, e, n, t⟩
  · cases r with
    | ins hc h n e r => exact ⟨_, _, _, _, hc, rfl, h, e, r⟩
  · exact t.elim
end

/-- an expression's meaning: from the slots and the draws to data -/
abbrev EF := Rho → Dr → Option (D × Kd × Dr)
structure DE (X : Cx) (e : Expr) (f : EF) : Prop where
  ex : ∃ t : TE, PE X e t ∧ ∀ (g : Gh) (F : Fp) (σ : L2.St) (H : Hp) (ρ : Rho) (δ : Dr) (d : D) (k : Kd) (δ' : Dr) (Q : VK), SR X.K g F σ ρ δ H → f ρ δ = some (d, k, δ') →
    (∀ v H', Keep g.Pd H H' → SR X.K g F σ ρ δ' H' → Res X.K g F H H' k v d → Q v H') → t σ H Q
/-- a test -/
abbrev TF := Rho → Dr → Option (Bool × Dr)
structure DT (X : Cx) (e : Expr) (f : TF) : Prop where
  ex : ∃ t : TT, PT X e t ∧ ∀ (g : Gh) (F : Fp) (σ : L2.St) (H : Hp) (ρ : Rho) (δ : Dr) (b : Bool) (δ' : Dr) (Q : Bool → Hp → Prop), SR X.K g F σ ρ δ H → f ρ δ = some (b, δ') →
    (∀ H', Keep g.Pd H H' → SR X.K g F σ ρ δ' H' → Q b H') → t σ H Q
/-- arguments: all of them may be handed on -/
abbrev AF := Rho → Dr → Option (List D × Dr)
structure DA (X : Cx) (es : List Expr) (f : AF) : Prop where
  ex : ∃ t : TA, PA X es t ∧ ∀ (g : Gh) (F : Fp) (σ : L2.St) (H : Hp) (ρ : Rho) (δ : Dr) (ds : List D) (δ' : Dr) (Q : List V → Hp → Prop), SR X.K g F σ ρ δ H → f ρ δ = some (ds, δ') →
    (∀ vs H', Keep g.Pd H H' → SR X.K g F σ ρ δ' H' → Reps X.K (Av g F) H' vs ds → Q vs H') → t σ H Q
/-- arguments that are only read -/
structure DR (X : Cx) (es : List Expr) (f : AF) : Prop where
  ex : ∃ t : TA, PA X es t ∧ ∀ (g : Gh) (F : Fp) (σ : L2.St) (H : Hp) (ρ : Rho) (δ : Dr) (ds : List D) (δ' : Dr) (Q : List V → Hp → Prop), SR X.K g F σ ρ δ H → f ρ δ = some (ds, δ') →
    (∀ vs H', Keep g.Pd H H' → SR X.K g F σ ρ δ' H' → Paired (Rd1 X.K g F H') vs ds → Q vs H') → t σ H Q
end DL
/-! D-layer, part b: names, constants, operators, tests, displays, subscripts, calls of built-ins. -/
namespace DL
open PySem PySem.Spec PyProof.Rows L2
section
variable {X : Cx}
theorem run1 {e : Expr} {f : EF} (h : DE X e f) : ∃ t : TE, PE X e t ∧ ∀ (g : Gh) (F : Fp) (σ : L2.St) (H : Hp) (ρ : Rho) (δ : Dr) (d : D) (k : Kd) (δ' : Dr) (Q : VK), SR X.K g F σ ρ δ H → f ρ δ = some (d, k, δ') →
    (∀ v H', Keep g.Pd H H' → SR X.K g F σ ρ δ' H' → Res X.K g F H H' k v d → Q v H') → t σ H Q := h.ex

/-! ### names and constants -/
def fVar (i : Nat) : EF := fun ρ δ => match ρ[i]? with
  | some (.sh d) => some (d, .sh, δ)
  | some (.ow d) => some (d, .br, δ)
  | _ => none
theorem de_var {i : Nat} {x : Str} {pos : Pos} (h : PE X (.Name x pos) (tVar i)) : DE X (.Name x pos) (fVar i) := by
  refine ⟨_, h, fun g F σ H ρ δ d k δ' Q S hf q => ?_⟩
  unfold fVar at hf
  split at hf
  · rename_i d' e
    cases hf
    obtain ⟨v, e1, r⟩ := S.slot i _ e
    exact ⟨v, e1, q v H (.refl _ _) S r⟩
  · rename_i d' e
    cases hf
    obtain ⟨p, e1, hF, r⟩ := S.slot i _ e
    exact ⟨_, e1, q _ H (.refl _ _) S ⟨p, rfl, (S.new i p (by rw [hF]; simp)).2, r⟩⟩
  · cases hf
def fC (d : D) : EF := fun _ δ => some (d, .sh, δ)
theorem de_c {e : Expr} {v : V} {c : D} (h : PE X e (tC v)) (r : ∀ O H, Rep X.K O H v c) : DE X e (fC c) := by
  refine ⟨_, h, fun g F σ H ρ δ d k δ' Q S hf q => ?_⟩
  cases hf
  exact q v H (.refl _ _) S (r _ _)
theorem de_int {i j pos} : DE X (.Constant (.int i) j pos) (fC (.int i)) := de_c pe_int fun _ _ => .int i
theorem de_bl {b j pos} : DE X (.Constant (.bool b) j pos) (fC (.bl b)) := de_c pe_bl fun _ _ => .bl b
theorem de_non {j pos} : DE X (.Constant .none j pos) (fC .non) := de_c pe_non fun _ _ => .non
theorem de_str {x j pos} : DE X (.Constant (.str x) j pos) (fC (.str x)) := de_c pe_str fun _ _ => .str x
/-- whatever is never come to -/
def fNo : EF := fun _ _ => none
theorem de_no {e : Expr} : DE X e fNo := ⟨fun _ _ _ => False, ⟨fun _ _ _ _ _ _ h => h.elim⟩, fun _ _ _ _ _ _ _ _ _ _ _ h => by cases h⟩

/-! ### operators by data -/
abbrev OF2 := D → D → Option (D × Kd)
def Fit2 (K : PySem.W.Frag) (r : R2) (o : OF2) : Prop := ∀ (g : Gh) (F : Fp) (H : Hp) (x y : V) (dx dy d : D) (k : Kd) (Q : VK), Good g F H → Rd1 K g F H x dx → Rd1 K g F H y dy → o dx dy = some (d, k) →
  (∀ v H', Same H H' → Res K g F H H' k v d → Q v H') → r x y H Q
def Op2 (X : Cx) (f : Value → Value → Sem Value) (o : OF2) : Prop := ∃ r : R2, OpR X f r ∧ Fit2 X.K r o
def fBin (o : OF2) (fa fb : EF) : EF := fun ρ δ => (fa ρ δ).bind fun p => (fb ρ p.2.2).bind fun q => (o p.1 q.1).map fun r => (r.1, r.2, q.2.2)
theorem bin_run {a b : Expr} {fa fb : EF} {o : OF2} {r : R2} (ho : Fit2 X.K r o) (ha : DE X a fa) (hb : DE X b fb) : ∃ ta tb, PE X a ta ∧ PE X b tb ∧
    ∀ (g : Gh) (F : Fp) (σ : L2.St) (H : Hp) (ρ : Rho) (δ : Dr) (d : D) (k : Kd) (δ' : Dr) (Q : VK), SR X.K g F σ ρ δ H → fBin o fa fb ρ δ = some (d, k, δ') →
    (∀ v H', Keep g.Pd H H' → SR X.K g F σ ρ δ' H' → Res X.K g F H H' k v d → Q v H') → tOp r ta tb σ H Q := by
  obtain ⟨ta, pa, ea⟩ := ha.ex
  obtain ⟨tb, pb, eb⟩ := hb.ex
  refine ⟨ta, tb, pa, pb, fun g F σ H ρ δ d k δ' Q S hf q => ?_⟩
  unfold fBin at hf
  cases h1 : fa ρ δ with
  | none => rw [h1] at hf; cases hf
  | some p =>
    obtain ⟨dx, kx, δ1⟩ := p
    rw [h1] at hf
    simp only [Option.bind_some] at hf
    cases h2 : fb ρ δ1 with
    | none => rw [h2] at hf; cases hf
    | some p =>
      obtain ⟨dy, ky, δ2⟩ := p
      rw [h2] at hf
      simp only [Option.bind_some] at hf
      cases h3 : o dx dy with
      | none => rw [h3] at hf; cases hf
      | some p =>
        obtain ⟨d0, k0⟩ := p
        rw [h3] at hf
        cases hf
        refine ea g F σ H ρ δ dx kx δ1 _ S h1 fun x H1 k1 S1 r1 => ?_
        refine eb g F σ H1 ρ δ1 dy ky _ _ S1 h2 fun y H2 k2 S2 r2 => ?_
        have x1 := (r1.rd S.good).keep k2
        have x2 := r2.rd S1.good
        refine ho g F H2 x y dx dy _ _ Q S2.good x1 x2 h3 fun v H3 s3 r3 => ?_
        exact q v H3 (k1.trans (k2.trans (Keep.of_same s3))) (S2.same s3) (r3.earlier (k1.trans k2))
theorem de_bin {a b : Expr} {fa fb : EF} {o : OF2} {op : Operator} {pos : Pos} (ho : Op2 X (binaryOp op) o) (ha : DE X a fa) (hb : DE X b fb) : DE X (.BinOp a op b pos) (fBin o fa fb) := by
  obtain ⟨r, hr, hfit⟩ := ho
  obtain ⟨ta, tb, pa, pb, h⟩ := bin_run hfit ha hb
  exact ⟨_, pe_op hr pa pb, h⟩
theorem de_cmp {a b : Expr} {fa fb : EF} {o : OF2} {op : CmpOp} {pos : Pos} (ho : Op2 X (compareOp op) o) (ha : DE X a fa) (hb : DE X b fb) (hm : behindInMarks op b = false := by first | exact nomark _ | rfl) : DE X (.Compare a [op] [b] pos) (fBin o fa fb) := by
  obtain ⟨r, hr, hfit⟩ := ho
  obtain ⟨ta, tb, pa, pb, h⟩ := bin_run hfit ha hb
  exact ⟨_, pe_cmpR hr pa pb hm, h⟩
def asB (f : EF) : TF := fun ρ δ => (f ρ δ).bind fun p => match p.1 with
  | .bl b => some (b, p.2.2)
  | _ => none
theorem asB_some {f : EF} {ρ : Rho} {δ δ' : Dr} {b : Bool} (h : asB f ρ δ = some (b, δ')) : ∃ k, f ρ δ = some (.bl b, k, δ') := by
  unfold asB at h
  cases e : f ρ δ with
  | none => rw [e] at h; cases h
  | some p =>
    obtain ⟨d, k, δ1⟩ := p
    rw [e] at h
    simp only [Option.bind_some] at h
    cases d <;> first | cases h | (simp only [reduceCtorEq] at h)
    exact ⟨k, rfl⟩
theorem Res.blB {K : PySem.W.Frag} {g : Gh} {F : Fp} {H H' : Hp} {k : Kd} {v : V} {b : Bool} (r : Res K g F H H' k v (.bl b)) : v = .bl b := by
  cases k with
  | sh => cases r; rfl
  | ow => obtain ⟨_, _, _, t⟩ := r; exact t.elim
  | br => obtain ⟨_, _, _, t⟩ := r; exact t.elim
theorem dt_cmp {a b : Expr} {fa fb : EF} {o : OF2} {op : CmpOp} {pos : Pos} (ho : Op2 X (compareOp op) o) (ha : DE X a fa) (hb : DE X b fb) (hm : behindInMarks op b = false := by first | exact nomark _ | rfl) : DT X (.Compare a [op] [b] pos) (asB (fBin o fa fb)) := by
  obtain ⟨r, hr, hfit⟩ := ho
  obtain ⟨ta, tb, pa, pb, h⟩ := bin_run hfit ha hb
  refine ⟨_, pt_cmpR hr pa pb hm, fun g F σ H ρ δ b δ' Q S hf q => ?_⟩
  obtain ⟨k, e⟩ := asB_some hf
  exact h g F σ H ρ δ (.bl b) k δ' _ S e fun v H' k1 S1 r1 => ⟨b, r1.blB, q H' k1 S1⟩
theorem dt_val {e : Expr} {f : EF} (h : DE X e f) (he : ∀ whole, isTrue e X.env whole = (do let v ← whole; standAt e.pos; holding [v] (truthy v)) := by intro _; rfl) : DT X e (asB f) := by
  obtain ⟨t, p, x⟩ := h.ex
  refine ⟨_, pt_val p he, fun g F σ H ρ δ b δ' Q S hf q => ?_⟩
  obtain ⟨k, e⟩ := asB_some hf
  exact x g F σ H ρ δ (.bl b) k δ' _ S e fun v H' k1 S1 r1 => ⟨b, r1.blB, q H' k1 S1⟩
/-! ### not, and, or -/
def fNot (f : TF) : TF := fun ρ δ => (f ρ δ).map fun p => (!p.1, p.2)
theorem dt_not {a : Expr} {f : TF} {pos : Pos} (h : DT X a f) : DT X (.UnaryOp .Not a pos) (fNot f) := by
  obtain ⟨t, p, x⟩ := h.ex
  refine ⟨_, pt_not p, fun g F σ H ρ δ b δ' Q S hf q => ?_⟩
  unfold fNot at hf
  cases e : f ρ δ with
  | none => rw [e] at hf; cases hf
  | some c =>
    obtain ⟨c, δ1⟩ := c
    rw [e] at hf
    cases hf
    exact x g F σ H ρ δ c _ _ S e fun H' k1 S1 => q H' k1 S1
structure DW (X : Cx) (e : Expr) (f : TF) : Prop where
  ex : ∃ t : TT, PW X e t ∧ ∀ (g : Gh) (F : Fp) (σ : L2.St) (H : Hp) (ρ : Rho) (δ : Dr) (b : Bool) (δ' : Dr) (Q : Bool → Hp → Prop), SR X.K g F σ ρ δ H → f ρ δ = some (b, δ') →
    (∀ H', Keep g.Pd H H' → SR X.K g F σ ρ δ' H' → Q b H') → t σ H Q
theorem DW.t {e : Expr} {f : TF} (h : DW X e f) : DT X e f := by
  obtain ⟨t, p, x⟩ := h.ex
  exact ⟨t, p.pt, x⟩
def fAnd (f g : TF) : TF := fun ρ δ => (f ρ δ).bind fun p => if p.1 = true then g ρ p.2 else some (false, p.2)
def fOr (f g : TF) : TF := fun ρ δ => (f ρ δ).bind fun p => if p.1 = true then some (true, p.2) else g ρ p.2
theorem dw_and1 {a : Expr} {f : TF} {pos : Pos} (h : DT X a f) : DW X (.BoolOp .And [a] pos) f := by
  obtain ⟨t, p, x⟩ := h.ex
  exact ⟨t, pw_and1 p, x⟩
theorem dw_or1 {a : Expr} {f : TF} {pos : Pos} (h : DT X a f) : DW X (.BoolOp .Or [a] pos) f := by
  obtain ⟨t, p, x⟩ := h.ex
  exact ⟨t, pw_or1 p, x⟩
theorem dw_and {a b : Expr} {rest : List Expr} {f g : TF} {pos : Pos} (ha : DT X a f) (hb : DW X (.BoolOp .And (b :: rest) pos) g) : DW X (.BoolOp .And (a :: b :: rest) pos) (fAnd f g) := by
  obtain ⟨t, p, x⟩ := ha.ex
  obtain ⟨t2, p2, x2⟩ := hb.ex
  refine ⟨_, pw_and p p2, fun g0 F σ H ρ δ b δ' Q S hf q => ?_⟩
  unfold fAnd at hf
  cases e : f ρ δ with
  | none => rw [e] at hf; cases hf
  | some c =>
    obtain ⟨c, δ1⟩ := c
    rw [e] at hf
    simp only [Option.bind_some] at hf
    refine x g0 F σ H ρ δ c δ1 _ S e fun H1 k1 S1 => ?_
    cases c with
    | true => exact x2 g0 F σ H1 ρ δ1 b δ' Q S1 hf fun H2 k2 S2 => q H2 (k1.trans k2) S2
    | false =>
      cases hf
      exact q H1 k1 S1
theorem dw_or {a b : Expr} {rest : List Expr} {f g : TF} {pos : Pos} (ha : DT X a f) (hb : DW X (.BoolOp .Or (b :: rest) pos) g) : DW X (.BoolOp .Or (a :: b :: rest) pos) (fOr f g) := by
  obtain ⟨t, p, x⟩ := ha.ex
  obtain ⟨t2, p2, x2⟩ := hb.ex
  refine ⟨_, pw_or p p2, fun g0 F σ H ρ δ b δ' Q S hf q => ?_⟩
  unfold fOr at hf
  cases e : f ρ δ with
  | none => rw [e] at hf; cases hf
  | some c =>
    obtain ⟨c, δ1⟩ := c
    rw [e] at hf
    simp only [Option.bind_some] at hf
    refine x g0 F σ H ρ δ c δ1 _ S e fun H1 k1 S1 => ?_
    cases c with
    | false => exact x2 g0 F σ H1 ρ δ1 b δ' Q S1 hf fun H2 k2 S2 => q H2 (k1.trans k2) S2
    | true =>
      cases hf
      exact q H1 k1 S1
/-- .. as values -/
def ofT (f : TF) : EF := fun ρ δ => (f ρ δ).map fun p => (.bl p.1, .sh, p.2)
theorem ofT_some {f : TF} {ρ : Rho} {δ δ' : Dr} {d : D} {k : Kd} (h : ofT f ρ δ = some (d, k, δ')) : ∃ b, d = .bl b ∧ k = .sh ∧ f ρ δ = some (b, δ') := by
  unfold ofT at h
  cases e : f ρ δ with
  | none => rw [e] at h; cases h
  | some p =>
    rw [e] at h
    cases h
    exact ⟨_, rfl, rfl, rfl⟩
theorem de_one {a : Expr} {op} {f : EF} {pos : Pos} (h : DE X a f) : DE X (.BoolOp op [a] pos) f := by
  obtain ⟨t, p, x⟩ := h.ex
  exact ⟨t, pe_one p, x⟩
def fAndV (f : TF) (g : EF) : EF := fun ρ δ => (f ρ δ).bind fun p => if p.1 = true then g ρ p.2 else some (.bl false, .sh, p.2)
def fOrV (f : TF) (g : EF) : EF := fun ρ δ => (f ρ δ).bind fun p => if p.1 = true then some (.bl true, .sh, p.2) else g ρ p.2
theorem de_and {a b : Expr} {rest : List Expr} {f g : EF} {pos : Pos} (ha : DE X a f) (hb : DE X (.BoolOp .And (b :: rest) pos) g) : DE X (.BoolOp .And (a :: b :: rest) pos) (fAndV (asB f) g) := by
  obtain ⟨t, p, x⟩ := ha.ex
  obtain ⟨t2, p2, x2⟩ := hb.ex
  refine ⟨_, pe_and p p2, fun g0 F σ H ρ δ d k δ' Q S hf q => ?_⟩
  unfold fAndV at hf
  cases e : asB f ρ δ with
  | none => rw [e] at hf; cases hf
  | some c =>
    obtain ⟨c, δ1⟩ := c
    rw [e] at hf
    simp only [Option.bind_some] at hf
    obtain ⟨kk, e2⟩ := asB_some e
    refine x g0 F σ H ρ δ (.bl c) kk δ1 _ S e2 fun v H1 k1 S1 r1 => ⟨c, r1.blB, ?_⟩
    cases c with
    | true => exact x2 g0 F σ H1 ρ δ1 d k δ' Q S1 hf fun w H2 k2 S2 r2 => q w H2 (k1.trans k2) S2 (r2.earlier k1)
    | false =>
      cases hf
      exact q _ H1 k1 S1 (.bl false)
theorem de_or {a b : Expr} {rest : List Expr} {f g : EF} {pos : Pos} (ha : DE X a f) (hb : DE X (.BoolOp .Or (b :: rest) pos) g) : DE X (.BoolOp .Or (a :: b :: rest) pos) (fOrV (asB f) g) := by
  obtain ⟨t, p, x⟩ := ha.ex
  obtain ⟨t2, p2, x2⟩ := hb.ex
  refine ⟨_, pe_or p p2, fun g0 F σ H ρ δ d k δ' Q S hf q => ?_⟩
  unfold fOrV at hf
  cases e : asB f ρ δ with
  | none => rw [e] at hf; cases hf
  | some c =>
    obtain ⟨c, δ1⟩ := c
    rw [e] at hf
    simp only [Option.bind_some] at hf
    obtain ⟨kk, e2⟩ := asB_some e
    refine x g0 F σ H ρ δ (.bl c) kk δ1 _ S e2 fun v H1 k1 S1 r1 => ⟨c, r1.blB, ?_⟩
    cases c with
    | false => exact x2 g0 F σ H1 ρ δ1 d k δ' Q S1 hf fun w H2 k2 S2 r2 => q w H2 (k1.trans k2) S2 (r2.earlier k1)
    | true =>
      cases hf
      exact q _ H1 k1 S1 (.bl true)
theorem de_not {a : Expr} {f : EF} {pos : Pos} (h : DE X a f) : DE X (.UnaryOp .Not a pos) (ofT (fNot (asB f))) := by
  obtain ⟨t, p, x⟩ := h.ex
  refine ⟨_, pe_not p, fun g F σ H ρ δ d k δ' Q S hf q => ?_⟩
  obtain ⟨b, rfl, rfl, hg⟩ := ofT_some hf
  unfold fNot at hg
  cases e : asB f ρ δ with
  | none => rw [e] at hg; cases hg
  | some c =>
    obtain ⟨c, δ1⟩ := c
    rw [e] at hg
    cases hg
    obtain ⟨kk, e2⟩ := asB_some e
    exact x g F σ H ρ δ (.bl c) kk _ _ S e2 fun v H1 k1 S1 r1 => ⟨c, r1.blB, q _ H1 k1 S1 (.bl _)⟩
/-- a if t else b -/
def fIf (t : TF) (f g : EF) : EF := fun ρ δ => (t ρ δ).bind fun p => if p.1 = true then f ρ p.2 else g ρ p.2
theorem de_if {c a b : Expr} {t : TF} {f g : EF} {pos : Pos} (hc : DT X c t) (ha : DE X a f) (hb : DE X b g) : DE X (.IfExp c a b pos) (fIf t f g) := by
  obtain ⟨tc, pc, xc⟩ := hc.ex
  obtain ⟨ta, pa, xa⟩ := ha.ex
  obtain ⟨tb, pb, xb⟩ := hb.ex
  refine ⟨_, pe_ifExp pc pa pb, fun g0 F σ H ρ δ d k δ' Q S hf q => ?_⟩
  unfold fIf at hf
  cases e : t ρ δ with
  | none => rw [e] at hf; cases hf
  | some c =>
    obtain ⟨c, δ1⟩ := c
    rw [e] at hf
    simp only [Option.bind_some] at hf
    refine xc g0 F σ H ρ δ c δ1 _ S e fun H1 k1 S1 => ?_
    cases c with
    | true => exact xa g0 F σ H1 ρ δ1 d k δ' Q S1 hf fun w H2 k2 S2 r2 => q w H2 (k1.trans k2) S2 (r2.earlier k1)
    | false => exact xb g0 F σ H1 ρ δ1 d k δ' Q S1 hf fun w H2 k2 S2 r2 => q w H2 (k1.trans k2) S2 (r2.earlier k1)

/-! ### arguments, displays -/
def aNil : AF := fun _ δ => some ([], δ)
def aCons (f : EF) (r : AF) : AF := fun ρ δ => (f ρ δ).bind fun p => if p.2.1 = .br then none else (r ρ p.2.2).map fun q => (p.1 :: q.1, q.2)
theorem da_nil : DA X [] aNil := ⟨_, pa_nil, fun g F σ H ρ δ ds δ' Q S hf q => by
  cases hf
  exact q [] H (.refl _ _) S .nil⟩
theorem da_cons {e : Expr} {es : List Expr} {f : EF} {r : AF} (he : DE X e f) (hr : DA X es r) (hs : starEach (e :: es) X.env = (false, eval e X.env) :: starEach es X.env := by rfl) : DA X (e :: es) (aCons f r) := by
  obtain ⟨t, p, x⟩ := he.ex
  obtain ⟨t2, p2, x2⟩ := hr.ex
  refine ⟨_, pa_cons p p2 hs, fun g F σ H ρ δ ds δ' Q S hf q => ?_⟩
  unfold aCons at hf
  cases e1 : f ρ δ with
  | none => rw [e1] at hf; cases hf
  | some c =>
    obtain ⟨d, k, δ1⟩ := c
    rw [e1] at hf
    simp only [Option.bind_some] at hf
    split at hf
    · cases hf
    · rename_i hk
      cases e2 : r ρ δ1 with
      | none => rw [e2] at hf; cases hf
      | some c =>
        obtain ⟨ds2, δ2⟩ := c
        rw [e2] at hf
        cases hf
        refine x g F σ H ρ δ d k δ1 _ S e1 fun v H1 k1 S1 r1 => ?_
        refine x2 g F σ H1 ρ δ1 ds2 _ _ S1 e2 fun vs H2 k2 S2 r2 => ?_
        exact q (v :: vs) H2 (k1.trans k2) S2 (.cons ((r1.rep S.good hk).keep k2 fun a z => .inr (.inl z)) r2)
def rNil : AF := aNil
def rCons (f : EF) (r : AF) : AF := fun ρ δ => (f ρ δ).bind fun p => (r ρ p.2.2).map fun q => (p.1 :: q.1, q.2)
theorem dr_nil : DR X [] rNil := ⟨_, pa_nil, fun g F σ H ρ δ ds δ' Q S hf q => by
  cases hf
  exact q [] H (.refl _ _) S .nil⟩
theorem dr_cons {e : Expr} {es : List Expr} {f : EF} {r : AF} (he : DE X e f) (hr : DR X es r) (hs : starEach (e :: es) X.env = (false, eval e X.env) :: starEach es X.env := by rfl) : DR X (e :: es) (rCons f r) := by
  obtain ⟨t, p, x⟩ := he.ex
  obtain ⟨t2, p2, x2⟩ := hr.ex
  refine ⟨_, pa_cons p p2 hs, fun g F σ H ρ δ ds δ' Q S hf q => ?_⟩
  unfold rCons at hf
  cases e1 : f ρ δ with
  | none => rw [e1] at hf; cases hf
  | some c =>
    obtain ⟨d, k, δ1⟩ := c
    rw [e1] at hf
    simp only [Option.bind_some] at hf
    cases e2 : r ρ δ1 with
    | none => rw [e2] at hf; cases hf
    | some c =>
      obtain ⟨ds2, δ2⟩ := c
      rw [e2] at hf
      cases hf
      refine x g F σ H ρ δ d k δ1 _ S e1 fun v H1 k1 S1 r1 => ?_
      refine x2 g F σ H1 ρ δ1 ds2 _ _ S1 e2 fun vs H2 k2 S2 r2 => ?_
      exact q (v :: vs) H2 (k1.trans k2) S2 (.cons ((r1.rd S.good).keep k2) r2)
def fTup (f : AF) : EF := fun ρ δ => (f ρ δ).bind fun p => if p.1.length ≤ 1000 then some (.tup p.1, .sh, p.2) else none
def fLst (f : AF) : EF := fun ρ δ => (f ρ δ).bind fun p => if p.1.length ≤ 1000 then some (.lst p.1, .ow, p.2) else none
theorem line1000 {n : Nat} (h : n ≤ 1000) : n ≤ sizeLine := Nat.le_trans h (by decide)
theorem de_tup {es : List Expr} {f : AF} {x1 pos} (h : DA X es f) : DE X (.Tuple es x1 pos) (fTup f) := by
  obtain ⟨t, p, x⟩ := h.ex
  refine ⟨_, pe_tup p, fun g F σ H ρ δ d k δ' Q S hf q => ?_⟩
  unfold fTup at hf
  cases e1 : f ρ δ with
  | none => rw [e1] at hf; cases hf
  | some c =>
    obtain ⟨ds, δ1⟩ := c
    rw [e1] at hf
    simp only [Option.bind_some] at hf
    split at hf
    · rename_i hl
      cases hf
      refine x g F σ H ρ δ ds _ _ S e1 fun vs H1 k1 S1 r1 => ⟨by rw [r1.length]; exact line1000 hl, fun a ha => ?_⟩
      have sm := same_upd (o := .tup vs) ha
      exact q _ _ (k1.trans (Keep.of_same sm)) (S1.same sm) (.tup (.inl (.inl upd_same)) (r1.same sm))
    · cases hf
theorem de_lst {es : List Expr} {f : AF} {pos} (h : DA X es f) : DE X (.List es pos) (fLst f) := by
  obtain ⟨t, p, x⟩ := h.ex
  refine ⟨_, pe_lst p, fun g F σ H ρ δ d k δ' Q S hf q => ?_⟩
  unfold fLst at hf
  cases e1 : f ρ δ with
  | none => rw [e1] at hf; cases hf
  | some c =>
    obtain ⟨ds, δ1⟩ := c
    rw [e1] at hf
    simp only [Option.bind_some] at hf
    split at hf
    · rename_i hl
      cases hf
      refine x g F σ H ρ δ ds _ _ S e1 fun vs H1 k1 S1 r1 => ⟨by rw [r1.length]; exact line1000 hl, fun a ha => ?_⟩
      have sm := same_upd (o := .lst vs) ha
      refine q _ _ (k1.trans (Keep.of_same sm)) (S1.same sm) ⟨a, rfl, k1.free ha, vs, upd_same, ?_⟩
      exact (r1.more (O' := fun b => Av g F b ∨ b = a) fun b z => z.imp id fun z => by rw [z]; exact ha).same sm
    · cases hf
end
end DL
/-! D-layer, part c: data that reads off the heap: == and !=, <, in, truth, isinstance. -/
namespace DL
open PySem PySem.Spec PyProof.Rows L2 SeqAt
mutual
/-- Python's == of plain data -/
def eqD : D → D → Bool
  | .non, e => match e with | .non => true | _ => false
  | .bl a, e => match e with | .bl b => a == b | .int j => (if a then 1 else 0) == j | _ => false
  | .int i, e => match e with | .bl b => i == (if b then 1 else 0) | .int j => i == j | _ => false
  | .str x, e => match e with | .str y => x == y | _ => false
  | .tup xs, e => match e with | .tup ys => eqDs xs ys | _ => false
  | .lst xs, e => match e with | .lst ys => eqDs xs ys | _ => false
  | .dic _, _ => false
  | .set _, _ => false
  | .ins _ _, _ => false
  | .obj _, _ => false
  | .ty _, _ => false
  | .wls _, _ => false
def eqDs : List D → List D → Bool
  | [], ys => ys.isEmpty
  | x :: xs, ys => match ys with | [] => false | y :: ys => eqD x y && eqDs xs ys
end
mutual
/-- the library's word for the same data -/
def toP : D → PyData
  | .non => .none
  | .bl b => .bool b
  | .int i => .int i
  | .str x => .str x
  | .tup xs => .tuple (toPs xs)
  | .lst xs => .list (toPs xs)
  | .dic _ => .dict []
  | .set _ => .dict []
  | .ins _ _ => .dict []
  | .obj _ => .dict []
  | .ty _ => .dict []
  | .wls _ => .dict []
def toPs : List D → List PyData
  | [] => []
  | x :: xs => toP x :: toPs xs
end
theorem toPs_map : ∀ xs : List D, toPs xs = xs.map toP
  | [] => rfl
  | x :: xs => by rw [toPs, List.map_cons, toPs_map xs]
/-- plain data: of numbers, texts, lists and tuples, at most n within one another -/
def pl : Nat → D → Bool
  | _, .non => true
  | _, .bl _ => true
  | _, .int _ => true
  | _, .str _ => true
  | n + 1, .tup xs => xs.all (pl n)
  | n + 1, .lst xs => xs.all (pl n)
  | _, _ => false
theorem pl_cases {n : Nat} {d : D} (h : pl n d = true) : d = .non ∨ (∃ b, d = .bl b) ∨ (∃ i, d = .int i) ∨ (∃ x, d = .str x) ∨ (∃ m xs, n = m + 1 ∧ d = .tup xs ∧ xs.all (pl m) = true) ∨ ∃ m xs, n = m + 1 ∧ d = .lst xs ∧ xs.all (pl m) = true := by
  cases d with
  | non => exact .inl rfl
  | bl b => exact .inr (.inl ⟨b, rfl⟩)
  | int b => exact .inr (.inr (.inl ⟨b, rfl⟩))
  | str b => exact .inr (.inr (.inr (.inl ⟨b, rfl⟩)))
  | tup xs =>
    cases n with
    | zero => simp [pl] at h
    | succ n => exact .inr (.inr (.inr (.inr (.inl ⟨n, xs, rfl, rfl, by rw [pl] at h; exact h⟩))))
  | lst xs =>
    cases n with
    | zero => simp [pl] at h
    | succ n => exact .inr (.inr (.inr (.inr (.inr ⟨n, xs, rfl, rfl, by rw [pl] at h; exact h⟩))))
  | dic _ => cases n <;> simp [pl] at h
  | set _ => cases n <;> simp [pl] at h
  | ins _ _ => cases n <;> simp [pl] at h
  | obj _ => cases n <;> simp [pl] at h
  | ty _ => cases n <;> simp [pl] at h
  | wls _ => cases n <;> simp [pl] at h
theorem pl_all {n : Nat} {xs : List D} (h : xs.all (pl n) = true) {x : D} (hx : x ∈ xs) : pl n x = true := List.all_eq_true.mp h x hx
theorem pl_mono : ∀ (n m : Nat) (d : D), n ≤ m → pl n d = true → pl m d = true
  | n, m, d, h, p => by
    rcases pl_cases p with rfl | ⟨b, rfl⟩ | ⟨i, rfl⟩ | ⟨x, rfl⟩ | ⟨k, xs, rfl, rfl, q⟩ | ⟨k, xs, rfl, rfl, q⟩
    · cases m <;> simp [pl]
    · cases m <;> simp [pl]
    · cases m <;> simp [pl]
    · cases m <;> simp [pl]
    · cases m with
      | zero => exact absurd h (by omega)
      | succ m =>
        rw [pl, List.all_eq_true]
        exact fun x hx => pl_mono k m x (by omega) (pl_all q hx)
    · cases m with
      | zero => exact absurd h (by omega)
      | succ m =>
        rw [pl, List.all_eq_true]
        exact fun x hx => pl_mono k m x (by omega) (pl_all q hx)
theorem plain_toP : ∀ (n : Nat) (d : D), pl n d = true → (toP d).plain = true ∧ (toP d).depth ≤ n
  | n, d, p => by
    have go : ∀ k, (∀ d, pl k d = true → (toP d).plain = true ∧ (toP d).depth ≤ k) → ∀ xs : List D, xs.all (pl k) = true → PyData.plainAll (toPs xs) = true ∧ PyData.depthAll (toPs xs) ≤ k := by
      intro k ih xs
      induction xs with
      | nil => intro _; exact ⟨by simp [toPs, PyData.plainAll], by simp [toPs, PyData.depthAll]⟩
      | cons x xs ihx =>
        intro h
        rw [List.all_cons, Bool.and_eq_true] at h
        obtain ⟨a, b⟩ := ih x h.1
        obtain ⟨c, e⟩ := ihx h.2
        refine ⟨by simp [toPs, PyData.plainAll, a, c], ?_⟩
        rw [toPs, PyData.depthAll]
        exact Nat.max_le.mpr ⟨b, e⟩
    rcases pl_cases p with rfl | ⟨b, rfl⟩ | ⟨i, rfl⟩ | ⟨x, rfl⟩ | ⟨k, xs, rfl, rfl, q⟩ | ⟨k, xs, rfl, rfl, q⟩
    · simp [toP, PyData.plain, PyData.depth]
    · simp [toP, PyData.plain, PyData.depth]
    · simp [toP, PyData.plain, PyData.depth]
    · simp [toP, PyData.plain, PyData.depth]
    · obtain ⟨a, b⟩ := go k (plain_toP k) xs q
      exact ⟨by rw [toP, PyData.plain]; exact a, by rw [toP, PyData.depth]; omega⟩
    · obtain ⟨a, b⟩ := go k (plain_toP k) xs q
      exact ⟨by rw [toP, PyData.plain]; exact a, by rw [toP, PyData.depth]; omega⟩
theorem plainAll_toPs {k : Nat} {xs : List D} (h : xs.all (pl k) = true) : PyData.plainAll (toPs xs) = true ∧ PyData.depthAll (toPs xs) ≤ k := by
  have a := plain_toP (k + 1) (.tup xs) (by rw [pl]; exact h)
  rw [toP, PyData.plain, PyData.depth] at a
  exact ⟨a.1, by omega⟩
mutual
theorem eqv_toP : ∀ (n m : Nat) (d e : D), pl n d = true → pl m e = true → PyData.eqv (toP d) (toP e) = eqD d e
  | n, m, .non, e, p, q => by rcases pl_cases q with rfl | ⟨b, rfl⟩ | ⟨i, rfl⟩ | ⟨x, rfl⟩ | ⟨k, xs, rfl, rfl, q⟩ | ⟨k, xs, rfl, rfl, q⟩ <;> simp [toP, PyData.eqv, eqD]
  | n, m, .bl _, e, p, q => by rcases pl_cases q with rfl | ⟨b, rfl⟩ | ⟨i, rfl⟩ | ⟨x, rfl⟩ | ⟨k, xs, rfl, rfl, q⟩ | ⟨k, xs, rfl, rfl, q⟩ <;> simp [toP, PyData.eqv, eqD]
  | n, m, .int _, e, p, q => by rcases pl_cases q with rfl | ⟨b, rfl⟩ | ⟨i, rfl⟩ | ⟨x, rfl⟩ | ⟨k, xs, rfl, rfl, q⟩ | ⟨k, xs, rfl, rfl, q⟩ <;> simp [toP, PyData.eqv, eqD]
  | n, m, .str _, e, p, q => by rcases pl_cases q with rfl | ⟨b, rfl⟩ | ⟨i, rfl⟩ | ⟨x, rfl⟩ | ⟨k, xs, rfl, rfl, q⟩ | ⟨k, xs, rfl, rfl, q⟩ <;> simp [toP, PyData.eqv, eqD]
  | n, m, .tup ds, e, p, q => by
    rcases pl_cases p with h | ⟨b, h⟩ | ⟨i, h⟩ | ⟨x, h⟩ | ⟨k, xs, hn, h, p⟩ | ⟨k, xs, hn, h, p⟩ <;> first | cases h | skip
    rcases pl_cases q with rfl | ⟨b, rfl⟩ | ⟨i, rfl⟩ | ⟨x, rfl⟩ | ⟨k', ys, rfl, rfl, q⟩ | ⟨k', ys, rfl, rfl, q⟩ <;> first
      | (simp only [toP, PyData.eqv, eqD] <;> first | rfl | exact eqvs_toP k k' ds ys p q)
  | n, m, .lst ds, e, p, q => by
    rcases pl_cases p with h | ⟨b, h⟩ | ⟨i, h⟩ | ⟨x, h⟩ | ⟨k, xs, hn, h, p⟩ | ⟨k, xs, hn, h, p⟩ <;> first | cases h | skip
    rcases pl_cases q with rfl | ⟨b, rfl⟩ | ⟨i, rfl⟩ | ⟨x, rfl⟩ | ⟨k', ys, rfl, rfl, q⟩ | ⟨k', ys, rfl, rfl, q⟩ <;> first
      | (simp only [toP, PyData.eqv, eqD] <;> first | rfl | exact eqvs_toP k k' ds ys p q)
  | n, m, .dic _, e, p, q => by cases n <;> simp [pl] at p
  | n, m, .set _, e, p, q => by cases n <;> simp [pl] at p
  | n, m, .ins _ _, e, p, q => by cases n <;> simp [pl] at p
  | n, m, .obj _, e, p, q => by cases n <;> simp [pl] at p
  | n, m, .ty _, e, p, q => by cases n <;> simp [pl] at p
  | n, m, .wls _, e, p, q => by cases n <;> simp [pl] at p
theorem eqvs_toP : ∀ (n m : Nat) (xs ys : List D), xs.all (pl n) = true → ys.all (pl m) = true → PyData.eqvAll (toPs xs) (toPs ys) = eqDs xs ys
  | n, m, [], [], _, _ => by simp [toPs, PyData.eqvAll, eqDs]
  | n, m, [], y :: ys, _, _ => by simp [toPs, PyData.eqvAll, eqDs]
  | n, m, x :: xs, [], _, _ => by simp [toPs, PyData.eqvAll, eqDs]
  | n, m, x :: xs, y :: ys, p, q => by
    rw [List.all_cons, Bool.and_eq_true] at p q
    simp only [toPs, PyData.eqvAll, eqDs]
    rw [eqv_toP n m x y p.1 q.1, eqvs_toP n m xs ys p.2 q.2]
end
section
variable {K : PySem.W.Frag} {O O' : Addr → Prop} {H : Hp} {s : Shared}
/-- what the abstract heap says of the heap's sequences -/
structure HF (K : PySem.W.Frag) (H : Hp) (s : Shared) : Prop where
  tup : ∀ a xs, SqT K H a xs → ∃ its : List Value, Vals xs its ∧ s.heap.IsTuple a its.toArray
  lst : ∀ a xs, Rd H a (.lst xs) → ∃ its : List Value, Vals xs its ∧ s.heap.IsList a its.toArray
theorem hf_of {X : Cx} {pins : List (Addr × Obj)} {σ : L2.St} (I : Inv X pins σ H s) : HF X.K H s where
  tup := fun a xs h => by
    obtain ⟨its, r, p, _⟩ := I.tuple h
    exact ⟨its, r, p⟩
  lst := fun a xs h => by
    obtain ⟨its, r, p, _⟩ := I.list (.inl h)
    exact ⟨its, r, p.isList⟩
mutual
theorem reads_of (hf : HF K H s) : ∀ {n : Nat} {d : D} {v : V} {u : Value}, pl n d = true → Rep K O H v d → RelV v u → ∃ as, Reads s.heap u (toP d) as
  | n, .non, _, u, p, r, rv => by cases r; cases rv; exact ⟨_, .none⟩
  | n, .bl b, _, u, p, r, rv => by cases r; cases rv; exact ⟨_, .bool b⟩
  | n, .int i, _, u, p, r, rv => by cases r; obtain ⟨t, rfl⟩ := rv; exact ⟨_, .int i t⟩
  | n, .str i, _, u, p, r, rv => by cases r; obtain ⟨t, rfl⟩ := rv; exact ⟨_, .str i t⟩
  | n, .tup ds, _, u, p, .tup h r, rv => by
    cases rv
    obtain ⟨its, vi, o, e, c, k, hd⟩ := hf.tup _ _ h
    cases n with
    | zero => simp [pl] at p
    | succ n =>
      rw [pl] at p
      obtain ⟨as, ra⟩ := readsAll_of hf p r vi
      rw [toP]
      exact ⟨_, .tuple e c hd (by simpa using ra)⟩
  | n, .lst ds, _, u, p, .lst h _ r, rv => by
    cases rv
    obtain ⟨its, vi, o, e, c, k, hd⟩ := hf.lst _ _ (.inl h)
    cases n with
    | zero => simp [pl] at p
    | succ n =>
      rw [pl] at p
      obtain ⟨as, ra⟩ := readsAll_of hf p r vi
      rw [toP]
      exact ⟨_, .list e c hd (by simpa using ra)⟩
  | n, .ins _ _, _, u, p, _, rv => by cases n <;> simp [pl] at p
  | n, .obj _, _, u, p, _, rv => by cases n <;> simp [pl] at p
  | n, .ty _, _, u, p, _, rv => by cases n <;> simp [pl] at p
  | n, .wls _, _, u, p, _, rv => by cases n <;> simp [pl] at p
  | n, .dic _, _, u, p, _, rv => by cases n <;> simp [pl] at p
  | n, .set _, _, u, p, _, rv => by cases n <;> simp [pl] at p
theorem readsAll_of (hf : HF K H s) : ∀ {n : Nat} {ds : List D} {vs : List V} {us : List Value}, ds.all (pl n) = true → Reps K O H vs ds → Vals vs us → ∃ as, ReadsAll s.heap us (toPs ds) as
  | _, _, _, _, _, .nil, .nil => ⟨_, .nil⟩
  | n, _, _, _, p, .cons r rs, .cons rv rvs => by
    rw [List.all_cons, Bool.and_eq_true] at p
    obtain ⟨a1, h1⟩ := reads_of hf p.1 r rv
    obtain ⟨a2, h2⟩ := readsAll_of hf p.2 rs rvs
    exact ⟨_, .cons h1 h2⟩
end
end

section
variable {X : Cx}
/-- what is read stands for the data, whoever owns it -/
theorem Rd1.any {K : PySem.W.Frag} {g : Gh} {F : Fp} {H : Hp} {v : V} {d : D} (r : Rd1 K g F H v d) : ∃ O, Rep K O H v d := by
  rcases r with r | ⟨p, e, n, t⟩
  · exact ⟨_, r⟩
  · subst e
    exact ⟨fun _ => False, Top.rep (fun z => z) (t.weak fun a z => z.elim)⟩
/-- an operator read off the data alone -/
theorem op2_by {f : Value → Value → Sem Value} (C : D → D → Bool) (B : D → D → Bool)
    (rule : ∀ (H : Hp) (s : Shared) (O O' : Addr → Prop) (x y : V) (dx dy : D) (u w : Value) (Q : Value → Shared → Prop), HF X.K H s → Rep X.K O H x dx → Rep X.K O' H y dy → RelV x u → RelV y w → C dx dy = true → Q (.bool (B dx dy)) s →
      wpAny (model X.prog X.w) X.A (f u w) Q X.xe s) : Op2 X f (fun x y => if C x y = true then some (.bl (B x y), .sh) else none) := by
  refine ⟨fun x y H Q => ∃ dx dy O O', Rep X.K O H x dx ∧ Rep X.K O' H y dy ∧ C dx dy = true ∧ Q (.bl (B dx dy)) H, fun pins s σ H x y u w Q I rx ry h => ?_, fun g F H x y dx dy d k Q G r1 r2 ho q => ?_⟩
  · obtain ⟨dx, dy, O, O', a1, a2, c, q⟩ := h
    exact rule H s O O' x y dx dy u w _ (hf_of I) a1 a2 rx ry c ⟨.bl _, H, I, rfl, q⟩
  · obtain ⟨O, a1⟩ := r1.any
    obtain ⟨O', a2⟩ := r2.any
    dsimp only at ho
    split at ho
    · rename_i c
      cases ho
      exact ⟨dx, dy, O, O', a1, a2, c, q _ H (Same.refl _) (.bl _)⟩
    · cases ho
/-- both may be compared -/
def pl2 (x y : D) : Bool := pl 40 x && pl 40 y
theorem pl2_of {x y : D} (h : pl2 x y = true) : pl 40 x = true ∧ pl 40 y = true := by
  rw [pl2, Bool.and_eq_true] at h
  exact h
def oEq : OF2 := fun x y => if pl2 x y = true then some (.bl (eqD x y), .sh) else none
def oNe : OF2 := fun x y => if pl2 x y = true then some (.bl (!eqD x y), .sh) else none
theorem minD40 {a b n : Nat} (h : a ≤ 40) (hu : n + 64 < cLine) : n + min a b < cLine := by
  have := Nat.min_le_left a b
  omega
theorem o_eq (hu : X.A.units + 64 < cLine) : Op2 X (compareOp .Eq) oEq := by
  refine op2_by pl2 eqD fun H s O O' x y dx dy u w Q hf r1 r2 rx ry c q => ?_
  obtain ⟨c1, c2⟩ := pl2_of c
  obtain ⟨as, h1⟩ := reads_of hf c1 r1 rx
  obtain ⟨bs, h2⟩ := reads_of hf c2 r2 ry
  exact eq_plain h1 h2 (plain_toP _ _ c1).1 (plain_toP _ _ c2).1 (minD40 (plain_toP _ _ c1).2 hu) (by rw [eqv_toP _ _ _ _ c1 c2]; exact q)
theorem o_ne (hu : X.A.units + 64 < cLine) : Op2 X (compareOp .NotEq) oNe := by
  refine op2_by pl2 (fun x y => !eqD x y) fun H s O O' x y dx dy u w Q hf r1 r2 rx ry c q => ?_
  obtain ⟨c1, c2⟩ := pl2_of c
  obtain ⟨as, h1⟩ := reads_of hf c1 r1 rx
  obtain ⟨bs, h2⟩ := reads_of hf c2 r2 ry
  exact ne_plain h1 h2 (plain_toP _ _ c1).1 (plain_toP _ _ c2).1 (minD40 (plain_toP _ _ c1).2 hu) (by rw [eqv_toP _ _ _ _ c1 c2]; exact q)
/-! ### order -/
def ltD (x y : D) : Bool := PySem.W.dataLt (toP x) (toP y)
def notNon : D → Bool
  | .non => false
  | _ => true
/-- the two may be ordered -/
def al2 (x y : D) : Bool := pl2 x y && PySem.W.alike (toP x) (toP y) && notNon x
def oLt : OF2 := fun x y => if al2 x y = true then some (.bl (ltD x y), .sh) else none
def oGt : OF2 := fun x y => if al2 x y = true then some (.bl (ltD y x), .sh) else none
def oLe : OF2 := fun x y => if al2 x y = true then some (.bl (!ltD y x), .sh) else none
def oGe : OF2 := fun x y => if al2 x y = true then some (.bl (!ltD x y), .sh) else none
theorem al2_of {x y : D} (h : al2 x y = true) : pl 40 x = true ∧ pl 40 y = true ∧ PySem.W.alike (toP x) (toP y) = true ∧ toP x ≠ .none := by
  rw [al2, Bool.and_eq_true, Bool.and_eq_true] at h
  obtain ⟨⟨a, b⟩, c⟩ := h
  obtain ⟨a1, a2⟩ := pl2_of a
  refine ⟨a1, a2, b, fun z => ?_⟩
  cases x <;> simp [toP, notNon] at z c
theorem o_lt (hu : X.A.units + 64 < cLine) : Op2 X (compareOp .Lt) oLt := by
  refine op2_by al2 ltD fun H s O O' x y dx dy u w Q hf r1 r2 rx ry c q => ?_
  obtain ⟨c1, c2, c3, c4⟩ := al2_of c
  obtain ⟨as, h1⟩ := reads_of hf c1 r1 rx
  obtain ⟨bs, h2⟩ := reads_of hf c2 r2 ry
  exact PySem.W.lt_data h1 h2 c3 c4 (minD40 (plain_toP _ _ c1).2 hu) q
theorem o_gt (hu : X.A.units + 64 < cLine) : Op2 X (compareOp .Gt) oGt := by
  refine op2_by al2 (fun x y => ltD y x) fun H s O O' x y dx dy u w Q hf r1 r2 rx ry c q => ?_
  obtain ⟨c1, c2, c3, c4⟩ := al2_of c
  obtain ⟨as, h1⟩ := reads_of hf c1 r1 rx
  obtain ⟨bs, h2⟩ := reads_of hf c2 r2 ry
  exact PySem.W.gt_data h1 h2 c3 c4 (minD40 (plain_toP _ _ c1).2 hu) q
theorem o_le (hu : X.A.units + 64 < cLine) : Op2 X (compareOp .LtE) oLe := by
  refine op2_by al2 (fun x y => !ltD y x) fun H s O O' x y dx dy u w Q hf r1 r2 rx ry c q => ?_
  obtain ⟨c1, c2, c3, c4⟩ := al2_of c
  obtain ⟨as, h1⟩ := reads_of hf c1 r1 rx
  obtain ⟨bs, h2⟩ := reads_of hf c2 r2 ry
  exact PySem.W.le_data h1 h2 c3 c4 (minD40 (plain_toP _ _ c1).2 hu) q
theorem o_ge (hu : X.A.units + 64 < cLine) : Op2 X (compareOp .GtE) oGe := by
  refine op2_by al2 (fun x y => !ltD x y) fun H s O O' x y dx dy u w Q hf r1 r2 rx ry c q => ?_
  obtain ⟨c1, c2, c3, c4⟩ := al2_of c
  obtain ⟨as, h1⟩ := reads_of hf c1 r1 rx
  obtain ⟨bs, h2⟩ := reads_of hf c2 r2 ry
  exact PySem.W.ge_data h1 h2 c3 c4 (minD40 (plain_toP _ _ c1).2 hu) q
/-! ### in -/
def isIn (x : D) (xs : List D) : Bool := xs.any fun y => eqD y x
theorem isIn_toP {n m : Nat} {x : D} {xs : List D} (h1 : xs.all (pl n) = true) (h2 : pl m x = true) : ((toPs xs).any fun y => PyData.eqv y (toP x)) = isIn x xs := by
  induction xs with
  | nil => rfl
  | cons y ys ih =>
    rw [List.all_cons, Bool.and_eq_true] at h1
    rw [toPs, List.any_cons, ih h1.2, eqv_toP n m y x h1.1 h2]
    rfl
/-- where is looked: a list, a tuple, a text -/
def inC (x c : D) : Bool := match c with
  | .lst xs => xs.all (pl 40) && pl 40 x
  | .tup xs => xs.all (pl 40) && pl 40 x
  | .str _ => match x with | .str _ => true | _ => false
  | _ => false
def inB (x c : D) : Bool := match c with
  | .lst xs => isIn x xs
  | .tup xs => isIn x xs
  | .str y => match x with | .str z => !(Builtin.Str.occurrences y z 0 y.length 1).isEmpty | _ => false
  | _ => false
def oIn : OF2 := fun x y => if inC x y = true then some (.bl (inB x y), .sh) else none
def oNotIn : OF2 := fun x y => if inC x y = true then some (.bl (!inB x y), .sh) else none
theorem in40 {a b n : Nat} (h : a ≤ 40) (hu : n + 64 < cLine) : n + 1 + min a b < cLine := by
  have := Nat.min_le_left a b
  omega
theorem o_in (hu : X.A.units + 64 < cLine) : Op2 X (compareOp .In) oIn := by
  refine op2_by inC inB fun H s O O' x y dx dy u w Q hf r1 r2 rx ry c q => ?_
  cases dy with
  | lst xs =>
    have c' : (xs.all (pl 40) && pl 40 dx) = true := c
    rw [Bool.and_eq_true] at c'
    obtain ⟨as, h1⟩ := reads_of hf c'.2 r1 rx
    obtain ⟨bs, h2⟩ := reads_of hf (n := 41) (by rw [pl]; exact c'.1) r2 ry
    exact in_list_data h2 h1 (plainAll_toPs c'.1).1 (plain_toP _ _ c'.2).1 (in40 (plainAll_toPs c'.1).2 hu) (by rw [isIn_toP c'.1 c'.2]; exact q)
  | tup xs =>
    have c' : (xs.all (pl 40) && pl 40 dx) = true := c
    rw [Bool.and_eq_true] at c'
    obtain ⟨as, h1⟩ := reads_of hf c'.2 r1 rx
    obtain ⟨bs, h2⟩ := reads_of hf (n := 41) (by rw [pl]; exact c'.1) r2 ry
    exact in_tuple_data h2 h1 (plainAll_toPs c'.1).1 (plain_toP _ _ c'.2).1 (in40 (plainAll_toPs c'.1).2 hu) (by rw [isIn_toP c'.1 c'.2]; exact q)
  | str z =>
    cases dx with
    | str z' =>
      cases r1
      cases r2
      obtain ⟨t, rfl⟩ := rx
      obtain ⟨t', rfl⟩ := ry
      exact in_str q
    | _ => exact absurd c (by simp [inC])
  | _ => exact absurd c (by simp [inC])
theorem o_notIn (hu : X.A.units + 64 < cLine) : Op2 X (compareOp .NotIn) oNotIn := by
  refine op2_by inC (fun x y => !inB x y) fun H s O O' x y dx dy u w Q hf r1 r2 rx ry c q => ?_
  cases dy with
  | lst xs =>
    have c' : (xs.all (pl 40) && pl 40 dx) = true := c
    rw [Bool.and_eq_true] at c'
    obtain ⟨as, h1⟩ := reads_of hf c'.2 r1 rx
    obtain ⟨bs, h2⟩ := reads_of hf (n := 41) (by rw [pl]; exact c'.1) r2 ry
    exact notIn_list_data h2 h1 (plainAll_toPs c'.1).1 (plain_toP _ _ c'.2).1 (in40 (plainAll_toPs c'.1).2 hu) (by rw [isIn_toP c'.1 c'.2]; exact q)
  | tup xs =>
    have c' : (xs.all (pl 40) && pl 40 dx) = true := c
    rw [Bool.and_eq_true] at c'
    obtain ⟨as, h1⟩ := reads_of hf c'.2 r1 rx
    obtain ⟨bs, h2⟩ := reads_of hf (n := 41) (by rw [pl]; exact c'.1) r2 ry
    exact notIn_tuple_data h2 h1 (plainAll_toPs c'.1).1 (plain_toP _ _ c'.2).1 (in40 (plainAll_toPs c'.1).2 hu) (by rw [isIn_toP c'.1 c'.2]; exact q)
  | str z =>
    cases dx with
    | str z' =>
      cases r1
      cases r2
      obtain ⟨t, rfl⟩ := rx
      obtain ⟨t', rfl⟩ := ry
      exact notIn_str q
    | _ => exact absurd c (by simp [inC])
  | _ => exact absurd c (by simp [inC])
/-! ### is -/
def isC (_ y : D) : Bool := match y with
  | .non => true
  | .bl _ => true
  | _ => false
def isB (x y : D) : Bool := match x, y with
  | .non, .non => true
  | .bl a, .bl b => a == b
  | _, _ => false
end
end DL
/-! D-layer, part d: arithmetic, joining, places, slices. -/
namespace DL
open PySem PySem.Spec PyProof.Rows L2
section
variable {X : Cx}
/-! ### ints -/
theorem fit_int {C : Int → Int → Prop} [∀ i j, Decidable (C i j)] {g : Int → Int → Int} {f : Value → Value → Sem Value} (h : OpR X f (rI C fun i j => .int (g i j))) :
    Op2 X f (fun x y => match x, y with | .int i, .int j => if C i j then some (.int (g i j), .sh) else none | _, _ => none) := by
  refine ⟨_, h, fun g F H x y dx dy d k Q G r1 r2 ho q => ?_⟩
  cases dx <;> cases dy <;> dsimp only at ho <;> first
    | cases ho
    | (split at ho
       · rename_i c
         cases ho
         have e1 := r1.int
         have e2 := r2.int
         exact ⟨_, _, e1, e2, c, q _ H (Same.refl _) (.int _)⟩
       · cases ho)
def cMul (i j : Int) : Prop := i.natAbs.log2 + j.natAbs.log2 < 1000000
instance (i j : Int) : Decidable (cMul i j) := inferInstanceAs (Decidable (_ < _))
def cDiv (_ j : Int) : Prop := 0 < j ∧ j.natAbs.log2 < 9000
instance (i j : Int) : Decidable (cDiv i j) := inferInstanceAs (Decidable (_ ∧ _))
def cMod (_ j : Int) : Prop := 0 < j
instance (i j : Int) : Decidable (cMod i j) := inferInstanceAs (Decidable (_ < _))
def cPow (i j : Int) : Prop := 0 ≤ j ∧ j ≤ 1000000 ∧ i.natAbs < 2 ^ 64
instance (i j : Int) : Decidable (cPow i j) := inferInstanceAs (Decidable (_ ∧ _))
def oSub : OF2 := fun x y => match x, y with | .int i, .int j => some (.int (i - j), .sh) | _, _ => none
def oDiv : OF2 := fun x y => match x, y with | .int i, .int j => if cDiv i j then some (.int (i / j), .sh) else none | _, _ => none
def oMod : OF2 := fun x y => match x, y with | .int i, .int j => if cMod i j then some (.int (i % j), .sh) else none | _, _ => none
def oPow : OF2 := fun x y => match x, y with | .int i, .int j => if cPow i j then some (.int (i ^ j.toNat), .sh) else none | _, _ => none
theorem o_sub : Op2 X (binaryOp .Sub) oSub := by
  refine ⟨_, op_sub, fun g F H x y dx dy d k Q G r1 r2 ho q => ?_⟩
  cases dx <;> cases dy <;> dsimp only [oSub] at ho <;> first
    | cases ho
      done
    | (cases ho
       exact ⟨_, _, r1.int, r2.int, q _ H (Same.refl _) (.int _)⟩)
theorem o_div : Op2 X (binaryOp .FloorDiv) oDiv := fit_int (C := cDiv) op_fdivW
theorem o_mod : Op2 X (binaryOp .Mod) oMod := fit_int (C := cMod) op_mod
theorem o_pow : Op2 X (binaryOp .Pow) oPow := fit_int (C := cPow) op_pow
/-! ### + -/
theorem cat_tup0 {prog : Program} {w : World} {A : Around} {E : Value → Shared → Prop} {s : Shared} {t b : Addr} {ws : List Value} {Q : Value → Shared → Prop} (ht : IsTup s.heap t #[]) (hb : IsTup s.heap b ws.toArray) (h : Q (.ref b) s) :
    wpAny (model prog w) A (binaryOp .Add (.ref t) (.ref b)) Q E s := by
  obtain ⟨⟨cls, dd, data, sl⟩, ho, hc, n, hd⟩ := id ht
  obtain ⟨⟨cls2, dd2, data2, sl2⟩, ho2, hc2, n2, hd2⟩ := id hb
  dsimp only at hc hd hc2 hd2
  subst hc hd hc2 hd2
  exact concat_meets (s := s) ⟨_, ho, rfl⟩ ⟨_, ho2, rfl⟩ noFill_tuple_add seq_tuple_add PySem.F.slot_tuple_add PySem.F.entry_tuple_add (PySem.F.args_tuple_add_2 _ _) (tuple_addW0 t b #[] ws.toArray n n2 dd dd2 sl sl2 rfl) ⟨ho, ho2, h⟩
def rCatT0 (K : PySem.W.Frag) : R2 := fun x y H Q => ∃ a b ys, x = .ref a ∧ y = .ref b ∧ SqT K H a [] ∧ SqT K H b ys ∧ Q (.ref b) H
theorem op_catT0 : OpR X (binaryOp .Add) (rCatT0 X.K) := by
  intro pins s σ H x y v u Q I rx ry h
  obtain ⟨a, b, ys, rfl, rfl, ha, hb, q⟩ := h
  cases rx
  cases ry
  obtain ⟨its, r1, p1, _⟩ := I.tuple ha
  obtain ⟨its2, r2, p2, _⟩ := I.tuple hb
  cases r1
  exact cat_tup0 p1 p2 ⟨.ref b, H, I, rfl, q⟩
theorem lstR {pins : List (Addr × Obj)} {σ : L2.St} {H : Hp} {s : Shared} {l : Addr} {xs : List V} (I : Inv X pins σ H s) (h : Rd H l (.lst xs)) : ∃ (ws : List Value) (m : Nat), Vals xs ws ∧ s.heap.get? l = some { cls := .type "list", data := .seq ws.toArray m } ∧ ws.length ≤ sizeLine := by
  obtain ⟨a, ws, m, r, e⟩ := h.ok I.hok
  exact ⟨ws, m, r, e, by rw [← r.length]; exact a⟩
def rCatR : R2 := fun x y H Q => ∃ l b xs zs, x = .ref l ∧ y = .ref b ∧ Rd H l (.lst xs) ∧ Rd H b (.lst zs) ∧ xs.length + zs.length ≤ sizeLine ∧ ∀ p, H p = none → Q (.ref p) (upd H p (.lst (xs ++ zs)))
theorem op_catR : OpR X (binaryOp .Add) rCatR := by
  intro pins s σ H x y v u Q I rx ry h
  obtain ⟨l, b, xs, zs, rfl, rfl, h1, h2, hz, q⟩ := h
  cases rx
  cases ry
  obtain ⟨w1, m1, r1, g1, z1⟩ := lstR I h1
  obtain ⟨w2, m2, r2, g2, z2⟩ := lstR I h2
  refine PySem.P.add_list g1 g2 ?_ ?_
  · rw [show w1.toArray ++ w2.toArray = (w1 ++ w2).toArray from by simp]
    exact ⟨.ref _, _, I.lnew (t' := s.toks) (r1.append r2) (by rw [List.length_append]; exact hz), rfl, q _ I.fresh⟩
  · rw [List.size_toArray, List.size_toArray, ← r1.length, ← r2.length]
    omega
def oAdd : OF2 := fun x y => match x, y with
  | .int i, .int j => some (.int (i + j), .sh)
  | .str a, .str b => if a.length + b.length ≤ sizeLine then some (.str (a ++ b), .sh) else none
  | .lst a, .lst b => if a.length + b.length ≤ sizeLine then some (.lst (a ++ b), .ow) else none
  | .tup a, .tup b => if a.length + b.length ≤ sizeLine then some (.tup (a ++ b), .sh) else none
  | _, _ => none
theorem res_new {K : PySem.W.Frag} {g : Gh} {F : Fp} {H : Hp} {p : Addr} {xs : List V} {ds : List D} (hp : H p = none) (r : Reps K (Av g F) H xs ds) : Res K g F H (upd H p (.lst xs)) .ow (.ref p) (.lst ds) :=
  ⟨p, rfl, hp, xs, upd_same, (r.more (O' := fun b => Av g F b ∨ b = p) fun b z => z.imp id fun z => by rw [z]; exact hp).same (same_upd hp)⟩
theorem rep_newT {K : PySem.W.Frag} {O : Addr → Prop} {H : Hp} {p : Addr} {xs : List V} {ds : List D} (hp : H p = none) (r : Reps K O H xs ds) : Rep K O (upd H p (.tup xs)) (.ref p) (.tup ds) :=
  .tup (.inl (.inl upd_same)) (r.same (same_upd hp))
theorem o_add : Op2 X (binaryOp .Add) oAdd := by
  refine ⟨_, op_add.or (op_add_str.or (op_catR.or (op_catT0.or op_catT))), fun g F H x y dx dy d k Q G r1 r2 ho q => ?_⟩
  cases dx with
  | int i =>
    cases dy with
    | int j =>
      cases ho
      exact .inl ⟨_, _, r1.int, r2.int, q _ H (Same.refl _) (.int _)⟩
    | _ => cases ho
  | str a =>
    cases dy with
    | str b =>
      simp only [oAdd] at ho
      split at ho
      · rename_i c
        cases ho
        exact .inr (.inl ⟨_, _, r1.str, r2.str, c, q _ H (Same.refl _) (.str _)⟩)
      · cases ho
    | _ => cases ho
  | lst a =>
    cases dy with
    | lst b =>
      simp only [oAdd] at ho
      split at ho
      · rename_i c
        cases ho
        obtain ⟨p1, x1, rfl, h1, s1⟩ := r1.lst
        obtain ⟨p2, x2, rfl, h2, s2⟩ := r2.lst
        refine .inr (.inr (.inl ⟨_, _, _, _, rfl, rfl, h1, h2, by rw [s1.length, s2.length]; exact c, fun p hp => ?_⟩))
        exact q _ _ (same_upd hp) (res_new hp (s1.append s2))
      · cases ho
    | _ => cases ho
  | tup a =>
    cases dy with
    | tup b =>
      simp only [oAdd] at ho
      split at ho
      · rename_i c
        cases ho
        obtain ⟨p1, x1, rfl, h1, s1⟩ := r1.tup
        obtain ⟨p2, x2, rfl, h2, s2⟩ := r2.tup
        by_cases hx : x1 = []
        · subst hx
          cases s1
          exact .inr (.inr (.inr (.inl ⟨_, _, _, rfl, rfl, h1, h2, q _ H (Same.refl _) (.tup h2 s2)⟩)))
        · refine .inr (.inr (.inr (.inr ⟨_, _, _, _, rfl, rfl, h1, h2, hx, by rw [s1.length, s2.length]; exact c, fun e => ?_, fun _ p hp => ?_⟩)))
          · subst e
            cases s2
            exact q _ H (Same.refl _) (.tup h1 (by rw [List.append_nil]; exact s1))
          · exact q _ _ (same_upd hp) (rep_newT hp (s1.append s2))
      · cases ho
    | _ => cases ho
  | _ => cases ho
/-! ### * : ints, a list or a tuple some times over -/
def oMul : OF2 := fun x y => match x, y with
  | .int i, .int j => if cMul i j then some (.int (i * j), .sh) else none
  | .lst a, .int k => if -(2 ^ 63) ≤ k ∧ k < 2 ^ 63 ∧ a.length * k.toNat ≤ sizeLine then some (.lst (List.replicate k.toNat a).flatten, .ow) else none
  | _, _ => none
theorem Reps.rep {K : PySem.W.Frag} {O : Addr → Prop} {H : Hp} {xs : List V} {ds : List D} (r : Reps K O H xs ds) : ∀ k : Nat, Reps K O H (List.replicate k xs).flatten (List.replicate k ds).flatten
  | 0 => .nil
  | k + 1 => by
    rw [List.replicate_succ, List.replicate_succ, List.flatten_cons, List.flatten_cons]
    exact r.append (Reps.rep r k)
def rRepR : R2 := fun x y H Q => ∃ l k xs, x = .ref l ∧ y = .int k ∧ Rd H l (.lst xs) ∧ -(2 ^ 63) ≤ k ∧ k < 2 ^ 63 ∧ xs.length * k.toNat ≤ sizeLine ∧ ∀ p, H p = none → Q (.ref p) (upd H p (.lst (List.replicate k.toNat xs).flatten))
theorem op_repR : OpR X (binaryOp .Mult) rRepR := by
  intro pins s σ H x y v u Q I rx ry h
  obtain ⟨l, k, xs, rfl, rfl, h1, b1, b2, hz, q⟩ := h
  cases rx
  obtain ⟨t, rfl⟩ := ry
  obtain ⟨w1, m1, r1, g1, z1⟩ := lstR I h1
  have c1 : w1.toArray.size * k.toNat ≤ sizeLine := by rw [List.size_toArray, ← r1.length]; exact hz
  have c2 : ¬ w1.toArray.size * k.toNat > (2 ^ 63 - 1) / 8 := by
    have z : (sizeLine : Nat) ≤ (2 ^ 63 - 1) / 8 := by decide
    omega
  have c3 : ¬ (!Builtin.List.listFitsIndex k) = true := by rw [fitsIndex_both b1 b2]; simp
  have c4 : ¬ Builtin.List.listTooLong (w1.toArray.size * k.toNat) = true := by rw [notLongL c1]; simp
  have e1 : List.foldl (fun x1 x2 => x1 ++ x2) #[] (List.replicate (if w1.toArray.isEmpty = true then 0 else k.toNat) w1.toArray) = (List.replicate k.toNat w1).flatten.toArray := by
    have f1 : ∀ m : Nat, List.foldl (fun x1 x2 => x1 ++ x2) #[] (List.replicate m w1.toArray) = (List.replicate m w1).flatten.toArray := fun m => by
      simpa using foldl_rep w1 m []
    rw [f1]
    cases w1 with
    | nil => simp
    | cons a r' => rw [if_neg (by simp)]
  refine wpAny_binaryOp_repeat_ref (T := "list") (U := "int") (by decide) ⟨_, g1, rfl⟩ (fun s' => typeIs_int s' k t) noFill_list_mul PySem.F.fills_int_mul PySem.F.slot_int_rmul repeat_list PySem.F.slot_int_index.lookup
    (call_meets PySem.F.slot_int_rmul (typeIs_int s k t) PySem.F.entry_int_rmul (PySem.F.args_int_rmul_2 _ _) (int___rmul___int_list k t l w1.toArray m1) ⟨g1, rfl, ⟨_, g1, rfl⟩, call_meets PySem.F.slot_list_mul ⟨_, g1, rfl⟩ PySem.F.entry_list_mul (PySem.F.args_list_mul_2 _ _) (AutoListH.list___mul___list_int_3 l w1.toArray m1 k t c3 c2 c4) ⟨g1, ?_⟩⟩)
  rw [e1]
  exact ⟨.ref _, _, I.lnew (t' := s.toks) (r1.rep k.toNat) (by rw [PyProof.Rows.lm_len_rep_flat, Nat.mul_comm]; exact hz), rfl, q _ I.fresh⟩
theorem o_mul : Op2 X (binaryOp .Mult) oMul := by
  refine ⟨_, op_mulW.or op_repR, fun g F H x y dx dy d k Q G r1 r2 ho q => ?_⟩
  cases dx with
  | int i =>
    cases dy with
    | int j =>
      simp only [oMul] at ho
      split at ho
      · rename_i c
        cases ho
        exact .inl ⟨_, _, r1.int, r2.int, c, q _ H (Same.refl _) (.int _)⟩
      · cases ho
    | _ => cases ho
  | lst a =>
    cases dy with
    | int k =>
      simp only [oMul] at ho
      split at ho
      · rename_i c
        cases ho
        obtain ⟨p1, x1, rfl, h1, s1⟩ := r1.lst
        refine .inr ⟨_, _, _, rfl, r2.int, h1, c.1, c.2.1, by rw [s1.length]; exact c.2.2, fun p hp => ?_⟩
        exact q _ _ (same_upd hp) (res_new hp (s1.rep _))
      · cases ho
    | _ => cases ho
  | _ => cases ho
/-! ### -x -/
def fNeg (f : EF) : EF := fun ρ δ => (f ρ δ).bind fun p => match p.1 with | .int i => some (.int (-i), .sh, p.2.2) | _ => none
theorem de_neg {a : Expr} {f : EF} {pos : Pos} (h : DE X a f) : DE X (.UnaryOp .USub a pos) (fNeg f) := by
  obtain ⟨t, p, x⟩ := h.ex
  refine ⟨_, pe_un un_neg p, fun g F σ H ρ δ d k δ' Q S hf q => ?_⟩
  unfold fNeg at hf
  cases e : f ρ δ with
  | none => rw [e] at hf; cases hf
  | some c =>
    obtain ⟨c, k0, δ1⟩ := c
    rw [e] at hf
    cases c <;> simp only [Option.bind_some] at hf <;> first
      | cases hf
        done
      | (cases hf
         exact x g F σ H ρ δ _ k0 _ _ S e fun v H1 k1 S1 r1 => ⟨_, (r1.rd S.good).int, q _ H1 k1 S1 (.int _)⟩)
/-! ### places -/
def atD (xs : List D) (i : Int) : Option D := (ixN xs.length i).bind fun j => xs[j]?
theorem Reps.at {K : PySem.W.Frag} {O : Addr → Prop} {H : Hp} {xs : List V} {ds : List D} {i : Int} {d : D} (r : Reps K O H xs ds) (h : atD ds i = some d) : ∃ v, atI xs i = some v ∧ Rep K O H v d := by
  unfold atD at h
  unfold atI
  rw [← r.length] at h
  cases e : ixN xs.length i with
  | none => rw [e] at h; cases h
  | some j =>
    rw [e] at h
    exact r.getD h
def oIx : OF2 := fun x y => match x, y with
  | .lst a, .int i => (atD a i).map fun d => (d, .sh)
  | .tup a, .int i => (atD a i).map fun d => (d, .sh)
  | .str z, .int i => if z.length ≤ sizeLine then (atI z.cps.toList i).map fun c => (.str ⟨#[c]⟩, .sh) else none
  | _, _ => none
theorem fit_ix : Fit2 X.K (rIx X.K) oIx := by
  intro g F H x y dx dy d k Q G r1 r2 ho q
  cases dx with
  | lst a =>
    cases dy with
    | int i =>
      simp only [oIx] at ho
      cases e : atD a i with
      | none => rw [e] at ho; cases ho
      | some z =>
        rw [e] at ho
        cases ho
        obtain ⟨p1, x1, rfl, h1, s1⟩ := r1.lst
        obtain ⟨v, e1, e2⟩ := s1.at e
        exact .inl ⟨_, _, _, _, rfl, r2.int, .inl h1, e1, q _ H (Same.refl _) e2⟩
    | _ => cases ho
  | tup a =>
    cases dy with
    | int i =>
      simp only [oIx] at ho
      cases e : atD a i with
      | none => rw [e] at ho; cases ho
      | some z =>
        rw [e] at ho
        cases ho
        obtain ⟨p1, x1, rfl, h1, s1⟩ := r1.tup
        obtain ⟨v, e1, e2⟩ := s1.at e
        exact .inr (.inl ⟨_, _, _, _, rfl, r2.int, h1, e1, q _ H (Same.refl _) e2⟩)
    | _ => cases ho
  | str z =>
    cases dy with
    | int i =>
      simp only [oIx] at ho
      split at ho
      · rename_i hz
        cases e : atI z.cps.toList i with
        | none => rw [e] at ho; cases ho
        | some c =>
          rw [e] at ho
          cases ho
          exact .inr (.inr ⟨_, _, _, r1.str, r2.int, hz, e, q _ H (Same.refl _) (.str _)⟩)
      · cases ho
    | _ => cases ho
  | _ => cases ho
theorem de_ix {a b : Expr} {fa fb : EF} {pos : Pos} (ha : DE X a fa) (hb : DE X b fb) (hs : PlainIx b := by exact fun _ _ => rfl) : DE X (.Subscript a b pos) (fBin oIx fa fb) := by
  obtain ⟨ta, tb, pa, pb, h⟩ := bin_run fit_ix ha hb
  exact ⟨_, pe_ix ix_seq pa pb hs, h⟩
/-! ### slices -/
/-- a bound that may be left out -/
abbrev OF := Rho → Dr → Option (Option Int × Dr)
structure DO (X : Cx) (e : Option Expr) (f : OF) : Prop where
  ex : ∃ t : TO, PO X e t ∧ ∀ (g : Gh) (F : Fp) (σ : L2.St) (H : Hp) (ρ : Rho) (δ : Dr) (o : Option Int) (δ' : Dr) (Q : Option Int → Hp → Prop), SR X.K g F σ ρ δ H → f ρ δ = some (o, δ') →
    (∀ H', Keep g.Pd H H' → SR X.K g F σ ρ δ' H' → Q o H') → t σ H Q
def bNo : OF := fun _ δ => some (none, δ)
def bOf (f : EF) : OF := fun ρ δ => (f ρ δ).bind fun p => match p.1 with | .int i => some (some i, p.2.2) | _ => none
theorem do_no : DO X none bNo := ⟨_, po_none, fun g F σ H ρ δ o δ' Q S hf q => by
  cases hf
  exact q H (.refl _ _) S⟩
theorem do_of {e : Expr} {f : EF} (h : DE X e f) : DO X (some e) (bOf f) := by
  obtain ⟨t, p, x⟩ := h.ex
  refine ⟨_, po_some p, fun g F σ H ρ δ o δ' Q S hf q => ?_⟩
  unfold bOf at hf
  cases e1 : f ρ δ with
  | none => rw [e1] at hf; cases hf
  | some c =>
    obtain ⟨c, k0, δ1⟩ := c
    rw [e1] at hf
    cases c <;> simp only [Option.bind_some] at hf <;> first
      | cases hf
        done
      | (cases hf
         exact x g F σ H ρ δ _ k0 _ _ S e1 fun v H1 k1 S1 r1 => ⟨_, (r1.rd S.good).int, q H1 k1 S1⟩)
/-- a slice's bound as a place among n -/
abbrev sI := HT.sIx
def cutD (xs : List D) (lo hi : Option Int) : List D := (xs.drop (sI xs.length 0 lo)).take (sI xs.length xs.length hi - sI xs.length 0 lo)
theorem Reps.cut {K : PySem.W.Frag} {O : Addr → Prop} {H : Hp} {xs : List V} {ds : List D} (r : Reps K O H xs ds) (lo hi : Option Int) : Reps K O H (cutV xs lo hi) (cutD ds lo hi) := by
  unfold cutV cutD
  rw [r.length]
  exact (r.drop _).take _
end
end DL
/-! D-layer, part e: slices, built-in functions, own defs. -/
namespace DL
open PySem PySem.Spec PyProof.Rows L2
/-- t[lo:hi], the whole of it: t itself -/
theorem tuple_whole {prog : Program} {w : World} {A : Around} {E : Value → Shared → Prop} {s : Shared} {t sl : Addr} {its : Array Value} {vl vu : Value} {lo hi : Option Int} {Q : Value → Shared → Prop}
    (p1 : IsTup s.heap t its) (p2 : s.heap.IsSliceOf sl vl vu .none) (p3 : IsPart vl lo) (p4 : IsPart vu hi) (hw : sI its.size 0 lo = 0 ∧ sI its.size its.size hi = its.size) (h : Q (.ref t) s) :
    wpAny (model prog w) A (getItem (.ref t) (.ref sl)) Q E s := by
  obtain ⟨os, hos, hcs, hds⟩ := id p2
  have q2 : s.TypeIs (.ref sl) "slice" := ⟨os, hos, hcs⟩
  unfold getItem
  refine wpAny_holding (wpAny_bind (wpAny_sequenceKey p1.typeIs (by decide) (wpAny_bind (wpAny_callSpecial?_slot (name := Str.ofString "__getitem__") p1.typeIs PyProof.Rows.slot_tuple_getitem (wpAny_call_entry PyProof.Rows.slot_tuple_getitem p1.typeIs entry_tuple_getitem ?_ (args_tuple_getitem _ _))))))
  show wpAny (model prog w) _ (Builtin.Tuple.tupleItemsOf (.ref t) >>= _) _ _ s
  refine wpAny_bind (tupleItemsOf_ p1 (wpAny_bind (wpAny_typeOf q2 ?_)))
  rw [if_pos (by decide)]
  refine wpAny_bind (HT.sliceApplied_gen p2 p3 p4 ?_)
  have yes : ((((sI its.size 0 lo : Nat) : Int) == 0 && (1 : Int) == 1 && (sI its.size its.size hi - sI its.size 0 lo) == its.size) = true) := by
    rw [hw.1, hw.2]
    simp
  show wpAny (model prog w) _ (if ((((sI its.size 0 lo : Nat) : Int) == 0 && (1 : Int) == 1 && (sI its.size its.size hi - sI its.size 0 lo) == its.size) = true) then _ else _) _ _ s
  rw [if_pos yes]
  refine wpAny_bind ?_
  unfold Builtin.Tuple.tupleIsExact
  refine wpAny_bind (wpAny_typeOf p1.typeIs ?_)
  refine wpAny_pure ?_
  rw [if_pos (by decide)]
  exact wpAny_bind (wpAny_rule (wpAny_pure ⟨_, rfl, wpAny_pure h⟩))
section
variable {X : Cx}
def rWhole (K : PySem.W.Frag) : V → Option Int → Option Int → Hp → VK → Prop := fun x lo hi H Q => ∃ a xs, x = .ref a ∧ SqT K H a xs ∧ (sI xs.length 0 lo = 0 ∧ sI xs.length xs.length hi = xs.length) ∧ Q (.ref a) H
theorem sl_whole : SlR X (rWhole X.K) := by
  intro pins s σ H x v vl vu lo hi sl Q I rx hs pl pu h
  obtain ⟨a, xs, rfl, hx, hw, q⟩ := h
  cases rx
  obtain ⟨its, r, ht, hz⟩ := I.tuple hx
  have hlen : its.toArray.size = xs.length := by rw [List.size_toArray, r.length]
  exact ⟨"tuple", _, PyProof.Rows.slot_tuple_getitem.lookup, ht.typeIs, tuple_whole ht hs pl pu (by rw [hlen]; exact hw) ⟨.ref a, H, I, rfl, q⟩⟩
/-- what a slice gives -/
def cutR (d : D) (lo hi : Option Int) : Option (D × Kd) := match d with
  | .lst a => some (.lst (cutD a lo hi), .ow)
  | .wls a => some (.lst (cutD a lo hi), .ow)
  | .tup a => some (.tup (cutD a lo hi), .sh)
  | .str z => if z.length ≤ sizeLine then some (.str (cutS z lo hi), .sh) else none
  | _ => none
theorem cut_whole {xs : List V} {lo hi : Option Int} (h : sI xs.length 0 lo = 0 ∧ sI xs.length xs.length hi = xs.length) : cutV xs lo hi = xs := by
  unfold cutV
  rw [show HT.sIx xs.length 0 lo = 0 from h.1, show HT.sIx xs.length xs.length hi = xs.length from h.2]
  simp
def fCut (f : EF) (l h : OF) : EF := fun ρ δ => (f ρ δ).bind fun p => (l ρ p.2.2).bind fun q => (h ρ q.2).bind fun r => (cutR p.1 q.1 r.1).map fun z => (z.1, z.2, r.2)
theorem de_cut {e : Expr} {lo hi : Option Expr} {p2 pos : Pos} {f : EF} {l h : OF} (he : DE X e f) (hl : DO X lo l) (hh : DO X hi h) : DE X (.Subscript e (.Slice lo hi none p2) pos) (fCut f l h) := by
  obtain ⟨t, p, x⟩ := he.ex
  obtain ⟨tl, pl, xl⟩ := hl.ex
  obtain ⟨th, ph, xh⟩ := hh.ex
  refine ⟨_, pe_slice (sl_list.or (sl_whole.or (sl_tup.or sl_str))) p pl ph, fun g F σ H ρ δ d k δ' Q S hf q => ?_⟩
  unfold fCut at hf
  cases e1 : f ρ δ with
  | none => rw [e1] at hf; cases hf
  | some c =>
    obtain ⟨d1, k1, δ1⟩ := c
    rw [e1] at hf
    simp only [Option.bind_some] at hf
    cases e2 : l ρ δ1 with
    | none => rw [e2] at hf; cases hf
    | some c =>
      obtain ⟨o1, δ2⟩ := c
      rw [e2] at hf
      simp only [Option.bind_some] at hf
      cases e3 : h ρ δ2 with
      | none => rw [e3] at hf; cases hf
      | some c =>
        obtain ⟨o2, δ3⟩ := c
        rw [e3] at hf
        simp only [Option.bind_some] at hf
        cases e4 : cutR d1 o1 o2 with
        | none => rw [e4] at hf; cases hf
        | some z =>
          obtain ⟨d0, k0⟩ := z
          rw [e4] at hf
          cases hf
          refine x g F σ H ρ δ d1 k1 δ1 _ S e1 fun v H1 ke1 S1 r1 => xl g F σ H1 ρ δ1 o1 δ2 _ S1 e2 fun H2 ke2 S2 => xh g F σ H2 ρ δ2 o2 _ _ S2 e3 fun H3 ke3 S3 => ?_
          have rd := ((r1.rd S.good).keep ke2).keep ke3
          have kk := ke1.trans (ke2.trans ke3)
          cases d1 with
          | lst a =>
            cases e4
            obtain ⟨p1, x1, rfl, h1, s1⟩ := rd.lst
            refine .inl ⟨_, _, rfl, .inl h1, fun b hb => ?_⟩
            have sm := same_upd (o := .lst (cutV x1 o1 o2)) hb
            exact q _ _ (kk.trans (Keep.of_same sm)) (S3.same sm) ((res_new hb (s1.cut o1 o2)).earlier kk)
          | wls a =>
            cases e4
            obtain ⟨p1, x1, rfl, h1, s1⟩ := rd.wls
            refine .inl ⟨_, _, rfl, h1.sq, fun b hb => ?_⟩
            have sm := same_upd (o := .lst (cutV x1 o1 o2)) hb
            exact q _ _ (kk.trans (Keep.of_same sm)) (S3.same sm) ((res_new hb (s1.cut o1 o2)).earlier kk)
          | tup a =>
            cases e4
            obtain ⟨p1, x1, rfl, h1, s1⟩ := rd.tup
            by_cases hw : sI x1.length 0 o1 = 0 ∧ sI x1.length x1.length o2 = x1.length
            · refine .inr (.inl ⟨_, _, rfl, h1, hw, q _ H3 kk S3 ?_⟩)
              have z := s1.cut o1 o2
              rw [cut_whole hw] at z
              exact .tup h1 z
            · refine .inr (.inr (.inl ⟨_, _, rfl, h1, hw, fun b hb => ?_⟩))
              have sm := same_upd (o := .tup (cutV x1 o1 o2)) hb
              exact q _ _ (kk.trans (Keep.of_same sm)) (S3.same sm) (rep_newT hb (s1.cut o1 o2))
          | str z =>
            simp only [cutR] at e4
            split at e4
            · rename_i hz
              cases e4
              exact .inr (.inr (.inr ⟨z, rd.str, hz, q _ H3 kk S3 (.str _)⟩))
            · cases e4
          | _ => cases e4

/-! ### built-in functions -/
abbrev OFn := List D → Option (D × Kd)
def FitC (K : PySem.W.Frag) (r : List V → Hp → VK → Prop) (o : OFn) : Prop := ∀ (g : Gh) (F : Fp) (H : Hp) (vs : List V) (ds : List D) (d : D) (k : Kd) (Q : VK), Good g F H → Paired (Rd1 K g F H) vs ds → o ds = some (d, k) →
  (∀ v H', Same H H' → Res K g F H H' k v d → Q v H') → r vs H Q
def CallD (X : Cx) (f : Value) (o : OFn) : Prop := ∃ r, CallR X f r ∧ FitC X.K r o
def fCall (o : OFn) (a : AF) : EF := fun ρ δ => (a ρ δ).bind fun p => (o p.1).map fun r => (r.1, r.2, p.2)
theorem call_run {es : List Expr} {a : AF} {o : OFn} {r : List V → Hp → VK → Prop} (ho : FitC X.K r o) (ha : DR X es a) : ∃ t, PA X es t ∧
    ∀ (g : Gh) (F : Fp) (σ : L2.St) (H : Hp) (ρ : Rho) (δ : Dr) (d : D) (k : Kd) (δ' : Dr) (Q : VK), SR X.K g F σ ρ δ H → fCall o a ρ δ = some (d, k, δ') →
    (∀ v H', Keep g.Pd H H' → SR X.K g F σ ρ δ' H' → Res X.K g F H H' k v d → Q v H') → tCB r t σ H Q := by
  obtain ⟨t, p, x⟩ := ha.ex
  refine ⟨t, p, fun g F σ H ρ δ d k δ' Q S hf q => ?_⟩
  unfold fCall at hf
  cases e1 : a ρ δ with
  | none => rw [e1] at hf; cases hf
  | some c =>
    obtain ⟨ds, δ1⟩ := c
    rw [e1] at hf
    simp only [Option.bind_some] at hf
    cases e2 : o ds with
    | none => rw [e2] at hf; cases hf
    | some c =>
      obtain ⟨d0, k0⟩ := c
      rw [e2] at hf
      cases hf
      refine x g F σ H ρ δ ds _ _ S e1 fun vs H1 k1 S1 r1 => ?_
      exact ho g F H1 vs ds _ _ _ S1.good r1 e2 fun v H2 s2 r2 => q v H2 (k1.trans (Keep.of_same s2)) (S1.same s2) (r2.earlier k1)
theorem de_callB {x : Str} {p pos : Pos} {e : Expr} {es : List Expr} {id : String} {o : OFn} {a : AF} (hc : CallD X (.builtin id) o) (hg : Gl X x) (hm : X.mg x = none) (hv : bootBuiltins x = some (.builtin id)) (ha : DR X (e :: es) a) (hn : x ≠ "__name__" := by decide) (hdb : (x == ("__debug__" : Str)) = false := by decide)
    (he : starEach (e :: es) X.env = (false, eval e X.env) :: starEach es X.env := by rfl) (hpl : (backTo pos (starEach es X.env)).any (·.1) = false := by rfl) : DE X (.Call (.Name x p) (e :: es) [] pos) (fCall o a) := by
  obtain ⟨r, hr, hf⟩ := hc
  obtain ⟨t, pa, h⟩ := call_run hf ha
  exact ⟨_, pe_callB hr hg hm hv pa hn hdb he hpl, h⟩
theorem de_callTy {x : Str} {p pos : Pos} {e : Expr} {es : List Expr} {T : String} {o : OFn} {a : AF} (hc : CallD X (.type T) o) (hg : Gl X x) (hm : X.mg x = none) (hv : bootBuiltins x = some (.type T)) (ha : DR X (e :: es) a) (hn : x ≠ "__name__" := by decide) (hdb : (x == ("__debug__" : Str)) = false := by decide)
    (he : starEach (e :: es) X.env = (false, eval e X.env) :: starEach es X.env := by rfl) (hpl : (backTo pos (starEach es X.env)).any (·.1) = false := by rfl) : DE X (.Call (.Name x p) (e :: es) [] pos) (fCall o a) := by
  obtain ⟨r, hr, hf⟩ := hc
  obtain ⟨t, pa, h⟩ := call_run hf ha
  exact ⟨_, pe_callTy hr hg hm hv pa hn hdb he hpl, h⟩
/-- len -/
def oLen : OFn := fun ds => match ds with
  | [.lst a] => some (.int a.length, .sh)
  | [.tup a] => some (.int a.length, .sh)
  | [.str z] => if z.length ≤ sizeLine then some (.int z.length, .sh) else none
  | _ => none
theorem c_len : CallD X (.builtin "len") oLen := by
  refine ⟨_, call_len_seq.or call_len_str, fun g F H vs ds d k Q G r ho q => ?_⟩
  unfold oLen at ho
  split at ho
  · cases ho
    cases r with
    | cons r1 rr =>
      cases rr
      obtain ⟨p1, x1, rfl, h1, s1⟩ := r1.lst
      refine .inl ⟨_, _, rfl, .inl (.inl h1), ?_⟩
      rw [s1.length]
      exact q _ H (Same.refl _) (.int _)
  · cases ho
    cases r with
    | cons r1 rr =>
      cases rr
      obtain ⟨p1, x1, rfl, h1, s1⟩ := r1.tup
      refine .inl ⟨_, _, rfl, .inr h1, ?_⟩
      rw [s1.length]
      exact q _ H (Same.refl _) (.int _)
  · split at ho
    · rename_i hz
      cases ho
      cases r with
      | cons r1 rr =>
        cases rr
        exact .inr ⟨_, by rw [r1.str], hz, q _ H (Same.refl _) (.int _)⟩
    · cases ho
  · cases ho
/-- abs, int -/
def oAbs : OFn := fun ds => match ds with
  | [.int i] => some (.int (if i < 0 then -i else i), .sh)
  | _ => none
theorem c_abs : CallD X (.builtin "abs") oAbs := by
  refine ⟨_, call_abs, fun g F H vs ds d k Q G r ho q => ?_⟩
  unfold oAbs at ho
  split at ho
  · cases ho
    cases r with
    | cons r1 rr =>
      cases rr
      exact ⟨_, by rw [r1.int], q _ H (Same.refl _) (.int _)⟩
  · cases ho
def oInt : OFn := fun ds => match ds with
  | [.int i] => some (.int i, .sh)
  | [.bl b] => some (.int (if b then 1 else 0), .sh)
  | _ => none
theorem c_int : CallD X (.type "int") oInt := by
  refine ⟨_, call_int1, fun g F H vs ds d k Q G r ho q => ?_⟩
  unfold oInt at ho
  split at ho
  · cases ho
    cases r with
    | cons r1 rr =>
      cases rr
      exact .inl ⟨_, by rw [r1.int], q _ H (Same.refl _) (.int _)⟩
  · cases ho
    cases r with
    | cons r1 rr =>
      cases rr
      exact .inr ⟨_, by rw [r1.bl], q _ H (Same.refl _) (.int _)⟩
  · cases ho
/-- list(x), tuple(x) of a list or a tuple -/
def oList : OFn := fun ds => match ds with
  | [.lst a] => some (.lst a, .ow)
  | [.tup a] => some (.lst a, .ow)
  | _ => none
theorem c_list : CallD X (.type "list") oList := by
  refine ⟨_, call_list_of, fun g F H vs ds d k Q G r ho q => ?_⟩
  unfold oList at ho
  split at ho
  · cases ho
    cases r with
    | cons r1 rr =>
      cases rr
      obtain ⟨p1, x1, rfl, h1, s1⟩ := r1.lst
      exact ⟨_, _, rfl, .inl (.inl h1), fun b hb => q _ _ (same_upd hb) (res_new hb s1)⟩
  · cases ho
    cases r with
    | cons r1 rr =>
      cases rr
      obtain ⟨p1, x1, rfl, h1, s1⟩ := r1.tup
      exact ⟨_, _, rfl, .inr h1, fun b hb => q _ _ (same_upd hb) (res_new hb s1)⟩
  · cases ho
def oTuple : OFn := fun ds => match ds with
  | [.lst a] => some (.tup a, .sh)
  | [.tup a] => some (.tup a, .sh)
  | _ => none
theorem c_tuple : CallD X (.type "tuple") oTuple := by
  refine ⟨_, call_tuple_of, fun g F H vs ds d k Q G r ho q => ?_⟩
  unfold oTuple at ho
  split at ho
  · cases ho
    cases r with
    | cons r1 rr =>
      cases rr
      obtain ⟨p1, x1, rfl, h1, s1⟩ := r1.lst
      exact ⟨_, _, rfl, .inl ⟨.inl h1, fun b hb => q _ _ (same_upd hb) (rep_newT hb s1)⟩⟩
  · cases ho
    cases r with
    | cons r1 rr =>
      cases rr
      obtain ⟨p1, x1, rfl, h1, s1⟩ := r1.tup
      exact ⟨_, _, rfl, .inr ⟨h1, q _ H (Same.refl _) (.tup h1 s1)⟩⟩
  · cases ho
/-- max(i, j), min(i, j) of ints -/
def oMax2 : OFn := fun ds => match ds with
  | [.int i, .int j] => some (.int (if j > i then j else i), .sh)
  | _ => none
def oMin2 : OFn := fun ds => match ds with
  | [.int i, .int j] => some (.int (if j < i then j else i), .sh)
  | _ => none
theorem c_max2 (hc : X.calm = true) : CallD X (.builtin "max") oMax2 := by
  refine ⟨_, call_max2 hc, fun g F H vs ds d k Q G r ho q => ?_⟩
  unfold oMax2 at ho
  split at ho
  · cases ho
    cases r with
    | cons r1 rr =>
      cases rr with
      | cons r2 rr =>
        cases rr
        exact ⟨_, _, by rw [r1.int, r2.int], q _ H (Same.refl _) (.int _)⟩
  · cases ho
theorem c_min2 (hc : X.calm = true) : CallD X (.builtin "min") oMin2 := by
  refine ⟨_, call_min2 hc, fun g F H vs ds d k Q G r ho q => ?_⟩
  unfold oMin2 at ho
  split at ho
  · cases ho
    cases r with
    | cons r1 rr =>
      cases rr with
      | cons r2 rr =>
        cases rr
        exact ⟨_, _, by rw [r1.int, r2.int], q _ H (Same.refl _) (.int _)⟩
  · cases ho
/-- sum of a list of ints -/
def intsOf : List D → Option (List Int)
  | [] => some []
  | .int i :: r => (intsOf r).map fun l => i :: l
  | _ => none
theorem intsOf_some : ∀ {ds : List D} {is : List Int}, intsOf ds = some is → ds = is.map D.int
  | [], is, h => by cases h; rfl
  | d :: r, is, h => by
    cases d <;> simp only [intsOf] at h <;> first
      | cases h
        done
      | (cases e : intsOf r with
         | none => rw [e] at h; cases h
         | some l =>
           rw [e] at h
           cases h
           rw [List.map_cons, intsOf_some e])
def oSum : OFn := fun ds => match ds with
  | [.lst a] => (intsOf a).map fun l => (.int l.sum, .sh)
  | _ => none
theorem c_sum (hc : X.calm = true) : CallD X (.builtin "sum") oSum := by
  refine ⟨_, cr_sum hc, fun g F H vs ds d k Q G r ho q => ?_⟩
  unfold oSum at ho
  split at ho
  · rename_i a
    cases e : intsOf a with
    | none => rw [e] at ho; cases ho
    | some l =>
      rw [e] at ho
      cases ho
      cases r with
      | cons r1 rr =>
        cases rr
        obtain ⟨p1, x1, rfl, h1, s1⟩ := r1.lst
        have e2 := intsOf_some e
        subst e2
        have e3 := s1.ints
        subst e3
        exact ⟨_, _, rfl, .inl h1, q _ H (Same.refl _) (.int _)⟩
  · cases ho
end
end DL
/-! D-layer, part f: statements. -/
namespace DL
open PySem PySem.Spec PyProof.Rows L2
def fset (F : Fp) (i : Nat) (l : List Addr) : Fp := fun j => if j = i then l else F j
theorem fset_same {F : Fp} {i : Nat} {l : List Addr} : fset F i l i = l := if_pos rfl
theorem fset_ne {F : Fp} {i j : Nat} {l : List Addr} (h : j ≠ i) : fset F i l j = F j := if_neg h
/-- fewer things of one's own -/
def FSub (F' F : Fp) : Prop := ∀ i a, a ∈ F' i → a ∈ F i
theorem FSub.refl (F : Fp) : FSub F F := fun _ _ h => h
theorem FSub.trans {F F' F'' : Fp} (a : FSub F' F) (b : FSub F'' F') : FSub F'' F := fun i x h => a i x (b i x h)
theorem FSub.nil (F : Fp) (i : Nat) : FSub (fset F i []) F := fun j a h => by
  by_cases e : j = i
  · subst e
    rw [fset_same] at h
    cases h
  · rw [fset_ne e] at h
    exact h
theorem FSub.av {F F' : Fp} {g : Gh} (s : FSub F' F) {a : Addr} (h : Av g F' a) : Av g F a := by
  rcases h with h | h | ⟨i, h⟩
  · exact .inl h
  · exact .inr (.inl h)
  · exact .inr (.inr ⟨i, s i a h⟩)
theorem av_set {F : Fp} {g : Gh} {i : Nat} {p a : Addr} (h : Av g (fset F i [p]) a) : Av g F a ∨ a = p := by
  rcases h with h | h | ⟨j, h⟩
  · exact .inl (.inl h)
  · exact .inl (.inr (.inl h))
  · by_cases e : j = i
    · subst e
      rw [fset_same] at h
      exact .inr (List.mem_singleton.mp h)
    · rw [fset_ne e] at h
      exact .inl (.inr (.inr ⟨j, h⟩))
section
variable {K : PySem.W.Frag} {g : Gh} {F F' : Fp} {σ : L2.St} {ρ : Rho} {δ δ' : Dr} {H H' H0 : Hp} {v : V} {d : D} {i : Nat} {p : Addr}
theorem SH.sub (S : SH H0 g F H) (s : FSub F' F) : SH H0 g F' H := ⟨fun i a h => S.new i a (s i a h), S.dom, S.pd, S.keep⟩
theorem getSet {α : Type} {l : List α} {i j : Nat} {x y : α} (h : (l.set i x)[j]? = some y) : (j = i ∧ y = x ∧ i < l.length) ∨ (j ≠ i ∧ l[j]? = some y) := by
  by_cases e : j = i
  · subst e
    by_cases hl : j < l.length
    · rw [List.getElem?_set_self hl] at h
      cases h
      exact .inl ⟨rfl, rfl, hl⟩
    · rw [List.getElem?_eq_none (by simpa using hl)] at h
      cases h
  · rw [List.getElem?_set_ne (Ne.symm e)] at h
    exact .inr ⟨e, h⟩
/-- a name gets data -/
theorem SR.putS (S : SR K g F σ ρ δ H) (r : Rep K (Av g F) H v d) (i : Nat) : SR K g (fset F i []) (σ.set i (some v)) (ρ.set i (.sh d)) δ H where
  len := by rw [List.length_set, List.length_set, S.len]
  slot := fun j s h => by
    rcases getSet h with ⟨e, e2, hl⟩ | ⟨e, h⟩
    · subst e e2
      exact ⟨v, List.getElem?_set_self (by rw [S.len]; exact hl), r.weak fun a z => (FSub.nil F j).av z⟩
    · rw [List.getElem?_set_ne (Ne.symm e)]
      have q := S.slot j s h
      cases s with
      | un => trivial
      | sh d =>
        obtain ⟨x, a, r⟩ := q
        exact ⟨x, a, r.weak fun a z => (FSub.nil F i).av z⟩
      | ow d =>
        obtain ⟨p, a, hf, t⟩ := q
        exact ⟨p, a, by rw [fset_ne e]; exact hf, t.weak fun a z => (FSub.nil F i).av z⟩
      | dl => exact q
  apart := fun j k a h1 h2 => S.apart j k a (FSub.nil F i j a h1) (FSub.nil F i k a h2)
  new := fun j a h => S.new j a (FSub.nil F i j a h)
  dom := S.dom
  there := fun a h => S.there a ((FSub.nil F i).av h)
  mt := fun j a h => S.mt j a (FSub.nil F i j a h)
  deal := S.deal
/-- a name gets data; what it had stays put aside -/
theorem SR.putK (S : SR K g F σ ρ δ H) (r : Rep K (Av g F) H v d) (i : Nat) : SR K g F (σ.set i (some v)) (ρ.set i (.sh d)) δ H where
  len := by rw [List.length_set, List.length_set, S.len]
  slot := fun j s h => by
    rcases getSet h with ⟨e, e2, hl⟩ | ⟨e, h⟩
    · subst e e2
      exact ⟨v, List.getElem?_set_self (by rw [S.len]; exact hl), r⟩
    · rw [List.getElem?_set_ne (Ne.symm e)]
      exact S.slot j s h
  apart := S.apart
  new := S.new
  dom := S.dom
  there := S.there
  mt := S.mt
  deal := S.deal
theorem Top.more {O O' : Addr → Prop} (hp : ∀ a, O' a → O a ∨ H a = none) (t : Top K O H p d) : Top K O' H p d := by
  cases d with
  | lst ds =>
    obtain ⟨xs, h, r⟩ := t
    exact ⟨xs, h, r.more hp⟩
  | dic ds =>
    obtain ⟨xs, h, e, r⟩ := t
    exact ⟨xs, h, e, r.more hp⟩
  | _ => exact t.elim
/-- a name gets a new thing of its own -/
theorem SR.putO (S : SR K g F σ ρ δ H) (k : Keep g.Pd H H') (dl : DealR g H' δ') (hp : H p = none) (t : Top K (fun a => Av g F a ∨ a = p) H' p d) (i : Nat) :
    SR K g (fset F i [p]) (σ.set i (some (.ref p))) (ρ.set i (.ow d)) δ' H' where
  len := by rw [List.length_set, List.length_set, S.len]
  slot := fun j s h => by
    have more : ∀ a, Av g (fset F i [p]) a → Av g F a ∨ H a = none := fun a z => (av_set z).imp id fun z => by rw [z]; exact hp
    rcases getSet h with ⟨e, e2, hl⟩ | ⟨e, h⟩
    · subst e e2
      exact ⟨p, List.getElem?_set_self (by rw [S.len]; exact hl), fset_same, t.weak fun a z => av_set z⟩
    · rw [List.getElem?_set_ne (Ne.symm e)]
      have q := S.slot j s h
      cases s with
      | un => trivial
      | sh d =>
        obtain ⟨x, a, r⟩ := q
        exact ⟨x, a, (r.more more).keep k fun a z => .inr (.inl z)⟩
      | ow d =>
        obtain ⟨p', a, hf, t⟩ := q
        exact ⟨p', a, by rw [fset_ne e]; exact hf, (t.more more).keep k (fun a z => .inr (.inl z)) (S.new j p' (by rw [hf]; simp)).2⟩
      | dl => exact q
  apart := fun j k a h1 h2 => by
    have nf : ∀ j, p ∉ F j := fun j z => S.fresh hp (.inr (.inr ⟨j, z⟩))
    by_cases e1 : j = i <;> by_cases e2 : k = i
    · rw [e1, e2]
    · rw [e1, fset_same, List.mem_singleton] at h1
      rw [fset_ne e2, h1] at h2
      exact (nf k h2).elim
    · rw [e2, fset_same, List.mem_singleton] at h2
      rw [fset_ne e1, h2] at h1
      exact (nf j h1).elim
    · rw [fset_ne e1] at h1
      rw [fset_ne e2] at h2
      exact S.apart j k a h1 h2
  new := fun j a h => by
    by_cases e : j = i
    · rw [e, fset_same, List.mem_singleton] at h
      rw [h]
      exact ⟨fun z => S.fresh hp (.inl z), fun z => S.fresh hp (.inr (.inl z))⟩
    · rw [fset_ne e] at h
      exact S.new j a h
  dom := S.dom
  there := fun a h => by
    rcases av_set h with z | z
    · exact k.there (S.there a z)
    · obtain ⟨o, ho, _⟩ := t.there
      rw [z, ho]
      simp
  mt := fun j a h => by
    by_cases e : j = i
    · rw [e, fset_same, List.mem_singleton] at h
      rw [h]
      exact t.there
    · rw [fset_ne e] at h
      obtain ⟨o, ho, m⟩ := S.mt j a h
      exact ⟨o, k.at_ ho (S.new j a h).2, m⟩
  deal := dl
theorem SH.putO (S : SH H0 g F H) (k : Keep g.Pd H H') (hp : H p = none) (i : Nat) : SH H0 g (fset F i [p]) H' where
  new := fun j a h => by
    by_cases e : j = i
    · rw [e, fset_same, List.mem_singleton] at h
      rw [h]
      exact S.keep.free hp
    · rw [fset_ne e] at h
      exact S.new j a h
  dom := S.dom
  pd := S.pd
  keep := S.keep.trans k
/-- one's own thing changes -/
theorem SR.turn (S : SR K g F σ ρ δ H) {d' : D} (e1 : ρ[i]? = some (.ow d)) (e2 : F i = [p]) (e3 : σ[i]? = some (some (.ref p))) (k : Keep (fun a => a = p) H H') (t : Top K (Av g F) H' p d') : SR K g F σ (ρ.set i (.ow d')) δ H' where
  len := by rw [List.length_set, S.len]
  slot := fun j s h => by
    have hp : Av g F p := .inr (.inr ⟨i, by rw [e2]; simp⟩)
    rcases getSet h with ⟨e, e4, hl⟩ | ⟨e, h⟩
    · subst e e4
      exact ⟨p, e3, e2, t⟩
    · have q := S.slot j s h
      cases s with
      | un => trivial
      | sh d =>
        obtain ⟨x, a, r⟩ := q
        exact ⟨x, a, r.keep k fun a z => by rw [z]; exact hp⟩
      | ow d =>
        obtain ⟨p', a, hf, t⟩ := q
        refine ⟨p', a, hf, t.keep k (fun a z => by rw [z]; exact hp) fun z => e ?_⟩
        exact S.apart j i p (by rw [hf, z]; simp) (by rw [e2]; simp)
      | dl => exact q
  apart := S.apart
  new := S.new
  dom := S.dom
  there := fun a h => k.there (S.there a h)
  mt := fun j a h => by
    obtain ⟨o, ho, m⟩ := S.mt j a h
    rcases k a o ho with h1 | ⟨_, _, o', h1, m1⟩
    · exact ⟨o, h1, m⟩
    · exact ⟨o', h1, m1⟩
  deal := fun p' q' e => by
    have np : ¬ g.Pd p := (S.new i p (by rw [e2]; simp)).2
    obtain ⟨h1, h2, h3⟩ := S.deal p' q' e
    exact ⟨h1, k.at_ h2 fun z => np ⟨p', q', e, .inl z.symm⟩, k.at_ h3 fun z => np ⟨p', q', e, .inr z.symm⟩⟩
theorem SH.turn (S : SH H0 g F H) (e2 : F i = [p]) (k : Keep (fun a => a = p) H H') : SH H0 g F H' where
  new := S.new
  dom := S.dom
  pd := S.pd
  keep := fun a o h => by
    have hp : H0 p = none := S.new i p (by rw [e2]; simp)
    have hap : a ≠ p := fun z => by rw [z, hp] at h; cases h
    rcases S.keep a o h with h1 | ⟨x, m, o', h1, m1⟩
    · exact .inl (k.at_ h1 hap)
    · exact .inr ⟨x, m, o', k.at_ h1 hap, m1⟩
/-- one's own thing is given out of hand -/
theorem SR.freeze (S : SR K g F σ ρ δ H) (e1 : ρ[i]? = some (.ow d)) : ∃ p, σ[i]? = some (some (.ref p)) ∧ Rep K (Av g (fset F i [])) H (.ref p) d ∧ SR K g (fset F i []) σ (ρ.set i (.sh d)) δ H := by
  obtain ⟨p, e3, e2, t⟩ := S.slot i _ e1
  have np : ¬ Av g (fset F i []) p := by
    rintro (z | z | ⟨j, z⟩)
    · exact (S.new i p (by rw [e2]; simp)).1 z
    · exact (S.new i p (by rw [e2]; simp)).2 z
    · have hj := S.apart j i p (FSub.nil F i j p z) (by rw [e2]; simp)
      rw [hj, fset_same] at z
      cases z
  have r := Top.rep np (t.weak fun a z => (FSub.nil F i).av z)
  refine ⟨p, e3, r, ⟨by rw [List.length_set, S.len], fun j s h => ?_, fun j k a h1 h2 => S.apart j k a (FSub.nil F i j a h1) (FSub.nil F i k a h2), fun j a h => S.new j a (FSub.nil F i j a h), S.dom, fun a h => S.there a ((FSub.nil F i).av h), fun j a h => S.mt j a (FSub.nil F i j a h), S.deal⟩⟩
  rcases getSet h with ⟨e, e4, hl⟩ | ⟨e, h⟩
  · subst e e4
    exact ⟨_, e3, r⟩
  · have q := S.slot j s h
    cases s with
    | un => trivial
    | sh d =>
      obtain ⟨x, a, r⟩ := q
      exact ⟨x, a, r.weak fun a z => (FSub.nil F i).av z⟩
    | ow d =>
      obtain ⟨p', a, hf, t⟩ := q
      exact ⟨p', a, by rw [fset_ne e]; exact hf, t.weak fun a z => (FSub.nil F i).av z⟩
    | dl => exact q
/-- a name is forgotten -/
theorem SR.drop (S : SR K g F σ ρ δ H) (i : Nat) : SR K g F σ (ρ.set i .un) δ H where
  len := by rw [List.length_set, S.len]
  slot := fun j s h => by
    rcases getSet h with ⟨e, e2, hl⟩ | ⟨e, h⟩
    · subst e2
      trivial
    · exact S.slot j s h
  apart := S.apart
  new := S.new
  dom := S.dom
  there := S.there
  mt := S.mt
  deal := S.deal
/-- from one name to another one -/
theorem SR.move (S : SR K g F σ ρ δ H) {j : Nat} (hij : i ≠ j) (e1 : ρ[j]? = some (.ow d)) : ∃ p, σ[j]? = some (some (.ref p)) ∧ SR K g (fset (fset F j []) i (F j)) (σ.set i (some (.ref p))) ((ρ.set j .un).set i (.ow d)) δ H := by
  obtain ⟨p, e3, e2, t⟩ := S.slot j _ e1
  have sub : ∀ a, Av g (fset (fset F j []) i (F j)) a → Av g F a := by
    rintro a (z | z | ⟨k, z⟩)
    · exact .inl z
    · exact .inr (.inl z)
    · by_cases e : k = i
      · rw [e, fset_same] at z
        exact .inr (.inr ⟨j, z⟩)
      · rw [fset_ne e] at z
        exact .inr (.inr ⟨k, FSub.nil F j k a z⟩)
  have wh : ∀ k a, a ∈ fset (fset F j []) i (F j) k → (k = i ∧ a ∈ F j) ∨ (k ≠ i ∧ k ≠ j ∧ a ∈ F k) := fun k a z => by
    by_cases e : k = i
    · rw [e, fset_same] at z
      exact .inl ⟨e, z⟩
    · rw [fset_ne e] at z
      by_cases e' : k = j
      · rw [e', fset_same] at z
        cases z
      · rw [fset_ne e'] at z
        exact .inr ⟨e, e', z⟩
  refine ⟨p, e3, by rw [List.length_set, List.length_set, List.length_set, S.len], fun k s h => ?_, fun k l a h1 h2 => ?_, fun k a h => ?_, S.dom, fun a h => S.there a (sub a h), fun k a h => ?_, S.deal⟩
  · rcases getSet h with ⟨e, e4, hl⟩ | ⟨e, h⟩
    · subst e e4
      rw [List.length_set] at hl
      exact ⟨p, List.getElem?_set_self (by rw [S.len]; exact hl), by rw [fset_same, e2], t.weak sub⟩
    · rw [List.getElem?_set_ne (Ne.symm e)]
      rcases getSet h with ⟨e', e4, hl⟩ | ⟨e', h⟩
      · subst e4
        trivial
      · have q := S.slot k s h
        cases s with
        | un => trivial
        | sh d =>
          obtain ⟨x, a, r⟩ := q
          exact ⟨x, a, r.weak sub⟩
        | ow d =>
          obtain ⟨p', a, hf, t⟩ := q
          exact ⟨p', a, by rw [fset_ne e, fset_ne e']; exact hf, t.weak sub⟩
        | dl => exact q
  · rcases wh k a h1 with ⟨a1, a2⟩ | ⟨a1, a2, a3⟩ <;> rcases wh l a h2 with ⟨b1, b2⟩ | ⟨b1, b2, b3⟩
    · rw [a1, b1]
    · exact absurd (S.apart l j a b3 a2) b2
    · exact absurd (S.apart k j a a3 b2) a2
    · exact S.apart k l a a3 b3
  · rcases wh k a h with ⟨a1, a2⟩ | ⟨a1, a2, a3⟩
    · exact S.new j a a2
    · exact S.new k a a3
  · rcases wh k a h with ⟨a1, a2⟩ | ⟨a1, a2, a3⟩
    · exact S.mt j a a2
    · exact S.mt k a a3
theorem SH.move (S : SH H0 g F H) {j : Nat} : SH H0 g (fset (fset F j []) i (F j)) H where
  new := fun k a z => by
    by_cases e : k = i
    · rw [e, fset_same] at z
      exact S.new j a z
    · rw [fset_ne e] at z
      exact S.new k a (FSub.nil F j k a z)
  dom := S.dom
  pd := S.pd
  keep := S.keep
end

/-! ### the statements' judgement -/
/-- how a statement ends -/
inductive Ou where
  | nx | rt (d : D) (k : Kd) | bk | ct
abbrev HF' := Rho → Dr → Option (Ou × Rho × Dr)
/-- what a def's end must be -/
def Fin (K : PySem.W.Frag) (H0 : Hp) (g : Gh) (δ : Dr) (H : Hp) (k : Kd) (v : V) (d : D) : Prop :=
  Keep g.Pd H0 H ∧ DealR g H δ ∧ match k with
    | .sh => Rep K (fun a => g.A a ∨ g.Pd a) H v d
    | .ow => ∃ p, v = .ref p ∧ H0 p = none ∧ Top K (fun a => (g.A a ∨ g.Pd a) ∨ a = p) H p d
    | .br => False
def Post (K : PySem.W.Frag) (H0 : Hp) (g : Gh) (D' : Ends) (o : Ou) (ρ : Rho) (δ : Dr) : Prop := match o with
  | .nx => ∀ F σ H, SR K g F σ ρ δ H → SH H0 g F H → D'.nx σ H
  | .bk => ∀ F σ H, SR K g F σ ρ δ H → SH H0 g F H → D'.bk σ H
  | .ct => ∀ F σ H, SR K g F σ ρ δ H → SH H0 g F H → D'.ct σ H
  | .rt d k => ∀ v H, Fin K H0 g δ H k v d → D'.rt v H
structure DS (X : Cx) (st : Stmt) (h : HF') : Prop where
  ex : ∃ t : TS, PS X st t ∧ ∀ (H0 : Hp) (g : Gh) (F : Fp) (σ : L2.St) (H : Hp) (ρ : Rho) (δ : Dr) (o : Ou) (ρ' : Rho) (δ' : Dr) (D' : Ends), SR X.K g F σ ρ δ H → SH H0 g F H → h ρ δ = some (o, ρ', δ') → Post X.K H0 g D' o ρ' δ' → t D' σ H
structure DSs (X : Cx) (st : List Stmt) (h : HF') : Prop where
  ex : ∃ t : TS, PSs X st t ∧ ∀ (H0 : Hp) (g : Gh) (F : Fp) (σ : L2.St) (H : Hp) (ρ : Rho) (δ : Dr) (o : Ou) (ρ' : Rho) (δ' : Dr) (D' : Ends), SR X.K g F σ ρ δ H → SH H0 g F H → h ρ δ = some (o, ρ', δ') → Post X.K H0 g D' o ρ' δ' → t D' σ H
section
variable {X : Cx}
def hNil : HF' := fun ρ δ => some (.nx, ρ, δ)
def hSeq (a b : HF') : HF' := fun ρ δ => (a ρ δ).bind fun r => match r.1 with
  | .nx => b r.2.1 r.2.2
  | _ => some r
theorem dss_nil : DSs X [] hNil := ⟨_, pss_nil, fun H0 g F σ H ρ δ o ρ' δ' D' S W hf q => by
  cases hf
  exact q F σ H S W⟩
theorem dss_one {st : Stmt} {h : HF'} (a : DS X st h) : DSs X [st] h := by
  obtain ⟨t, p, x⟩ := a.ex
  exact ⟨t, pss_one p, x⟩
theorem dss_cons {st : Stmt} {rest : List Stmt} {a b : HF'} (ha : DS X st a) (hb : DSs X rest b) : DSs X (st :: rest) (hSeq a b) := by
  obtain ⟨t, p, x⟩ := ha.ex
  obtain ⟨u, p2, x2⟩ := hb.ex
  refine ⟨_, pss_cons p p2, fun H0 g F σ H ρ δ o ρ' δ' D' S W hf q => ?_⟩
  unfold hSeq at hf
  cases e : a ρ δ with
  | none => rw [e] at hf; cases hf
  | some c =>
    obtain ⟨o1, ρ1, δ1⟩ := c
    rw [e] at hf
    simp only [Option.bind_some] at hf
    refine x H0 g F σ H ρ δ o1 ρ1 δ1 _ S W e ?_
    cases o1 with
    | nx => exact fun F' σ' H' S' W' => x2 H0 g F' σ' H' ρ1 δ1 o ρ' δ' D' S' W' hf q
    | rt d k => cases hf; exact q
    | bk => cases hf; exact q
    | ct => cases hf; exact q
/-- whatever is never come to -/
def hNo : HF' := fun _ _ => none
theorem ds_no {st : Stmt} : DS X st hNo := ⟨_, ps_never, fun _ _ _ _ _ _ _ _ _ _ _ _ _ h => by cases h⟩
theorem dss_no {st : List Stmt} : DSs X st hNo := ⟨_, pss_never, fun _ _ _ _ _ _ _ _ _ _ _ _ _ h => by cases h⟩
theorem ds_pass {pos} : DS X (.Pass pos) hNil := ⟨_, ps_pass, fun H0 g F σ H ρ δ o ρ' δ' D' S W hf q => by
  cases hf
  exact q F σ H S W⟩
def hBrk : HF' := fun ρ δ => some (.bk, ρ, δ)
def hCnt : HF' := fun ρ δ => some (.ct, ρ, δ)
theorem ds_break {pos} : DS X (.Break pos) hBrk := ⟨_, ps_break, fun H0 g F σ H ρ δ o ρ' δ' D' S W hf q => by
  cases hf
  exact q F σ H S W⟩
theorem ds_continue {pos} : DS X (.Continue pos) hCnt := ⟨_, ps_continue, fun H0 g F σ H ρ δ o ρ' δ' D' S W hf q => by
  cases hf
  exact q F σ H S W⟩
def hIf (c : TF) (a b : HF') : HF' := fun ρ δ => (c ρ δ).bind fun p => if p.1 = true then a ρ p.2 else b ρ p.2
theorem ds_if {c : Expr} {a b : List Stmt} {tc : TF} {ha hb : HF'} {pos : Pos} (h1 : DT X c tc) (h2 : DSs X a ha) (h3 : DSs X b hb) : DS X (.If c a b pos) (hIf tc ha hb) := by
  obtain ⟨t1, p1, x1⟩ := h1.ex
  obtain ⟨t2, p2, x2⟩ := h2.ex
  obtain ⟨t3, p3, x3⟩ := h3.ex
  refine ⟨_, ps_if p1 p2 p3, fun H0 g F σ H ρ δ o ρ' δ' D' S W hf q => ?_⟩
  unfold hIf at hf
  cases e : tc ρ δ with
  | none => rw [e] at hf; cases hf
  | some c =>
    obtain ⟨c, δ1⟩ := c
    rw [e] at hf
    simp only [Option.bind_some] at hf
    refine x1 g F σ H ρ δ c δ1 _ S e fun H1 k1 S1 => ?_
    cases c with
    | true => exact x2 H0 g F σ H1 ρ δ1 o ρ' δ' D' S1 (W.grow k1) hf q
    | false => exact x3 H0 g F σ H1 ρ δ1 o ρ' δ' D' S1 (W.grow k1) hf q
/-- an expression whose value is dropped -/
def hExpr (f : EF) : HF' := fun ρ δ => (f ρ δ).map fun p => (.nx, ρ, p.2.2)
theorem ds_expr {e : Expr} {f : EF} {pos : Pos} (he : DE X e f) (hs : swapsWith e none pos.line X.env = pure false := by rfl) : DS X (.Expr e pos) (hExpr f) := by
  obtain ⟨t, p, x⟩ := he.ex
  refine ⟨_, ps_expr p hs, fun H0 g F σ H ρ δ o ρ' δ' D' S W hf q => ?_⟩
  unfold hExpr at hf
  cases e1 : f ρ δ with
  | none => rw [e1] at hf; cases hf
  | some c =>
    obtain ⟨d, k, δ1⟩ := c
    rw [e1] at hf
    cases hf
    exact x g F σ H _ δ d k _ _ S e1 fun v H1 k1 S1 r1 => q F σ H1 S1 (W.grow k1)
/-! ### return -/
def hRet (f : EF) : HF' := fun ρ δ => (f ρ δ).bind fun p => if p.2.1 = .br then none else some (.rt p.1 p.2.1, ρ, p.2.2)
theorem fin_of {H0 : Hp} {g : Gh} {F : Fp} {H H' : Hp} {δ : Dr} {k : Kd} {v : V} {d : D} (W : SH H0 g F H) (kp : Keep g.Pd H H') (dl : DealR g H' δ) (hk : k ≠ .br) (r : Res X.K g F H H' k v d) : Fin X.K H0 g δ H' k v d := by
  refine ⟨W.keep.trans kp, dl, ?_⟩
  cases k with
  | sh => exact Rep.weak (fun a z => z.elim .inl fun z => .inr (.inl z)) r
  | ow =>
    obtain ⟨p, e, n, t⟩ := r
    exact ⟨p, e, W.keep.free n, t.weak fun a z => z.imp (fun z => z.elim .inl fun z => .inr (.inl z)) id⟩
  | br => exact absurd rfl hk
theorem ds_ret {e : Expr} {f : EF} {pos : Pos} (he : DE X e f) : DS X (.Return (some e) pos) (hRet f) := by
  obtain ⟨t, p, x⟩ := he.ex
  refine ⟨_, ps_ret p, fun H0 g F σ H ρ δ o ρ' δ' D' S W hf q => ?_⟩
  unfold hRet at hf
  cases e1 : f ρ δ with
  | none => rw [e1] at hf; cases hf
  | some c =>
    obtain ⟨d, k, δ1⟩ := c
    rw [e1] at hf
    simp only [Option.bind_some] at hf
    split at hf
    · cases hf
    · rename_i hk
      cases hf
      exact x g F σ H _ δ d k _ _ S e1 fun v H1 k1 S1 r1 => q v H1 (fin_of W k1 S1.deal hk r1)
def hRetN : HF' := fun ρ δ => some (.rt .non .sh, ρ, δ)
theorem ds_retN {pos} : DS X (.Return none pos) hRetN := ⟨_, ps_retN, fun H0 g F σ H ρ δ o ρ' δ' D' S W hf q => by
  cases hf
  exact q .non H ⟨W.keep, S.deal, .non⟩⟩
/-- return x: one's own thing goes to the caller -/
def hRetV (i : Nat) : HF' := fun ρ δ => match ρ[i]? with
  | some (.sh d) => some (.rt d .sh, ρ, δ)
  | some (.ow d) => some (.rt d .ow, ρ, δ)
  | _ => none
theorem ds_retV {i : Nat} {x : Str} {p pos : Pos} (h : PE X (.Name x p) (tVar i)) : DS X (.Return (some (.Name x p)) pos) (hRetV i) := by
  refine ⟨_, ps_ret h, fun H0 g F σ H ρ δ o ρ' δ' D' S W hf q => ?_⟩
  unfold hRetV at hf
  split at hf
  · rename_i d e
    cases hf
    obtain ⟨v, e1, r⟩ := S.slot i _ e
    exact ⟨v, e1, q v H ⟨W.keep, S.deal, Rep.weak (fun a z => z.elim .inl fun z => .inr (.inl z)) r⟩⟩
  · rename_i d e
    cases hf
    obtain ⟨p, e1, hF, t⟩ := S.slot i _ e
    refine ⟨_, e1, q _ H ⟨W.keep, S.deal, p, rfl, W.new i p (by rw [hF]; simp), t.weak fun a z => ?_⟩⟩
    rcases z with (z | z) | z
    · exact .inl z
    · exact .inr (.inl z)
    · exact .inr (.inr ⟨i, by rw [hF, z]; simp⟩)
  · cases hf
/-! ### name = e -/
def sv (d : D) : Kd → Option SV
  | .sh => some (.sh d)
  | .ow => some (.ow d)
  | .br => none
def hSet (i : Nat) (f : EF) : HF' := fun ρ δ => (f ρ δ).bind fun p => (sv p.1 p.2.1).map fun s => (.nx, ρ.set i s, p.2.2)
/-- the state with the name set, behind an expression -/
theorem put_of {H0 : Hp} {g : Gh} {F : Fp} {σ : L2.St} {ρ : Rho} {δ δ' : Dr} {H H' : Hp} {k : Kd} {v : V} {d : D} {s : SV} (S : SR X.K g F σ ρ δ H) (W : SH H0 g F H) (kp : Keep g.Pd H H') (S' : SR X.K g F σ ρ δ' H') (r : Res X.K g F H H' k v d) (hs : sv d k = some s) (i : Nat) :
    ∃ F', SR X.K g F' (σ.set i (some v)) (ρ.set i s) δ' H' ∧ SH H0 g F' H' ∧ ∀ a, Av g F' a → Av g F a ∨ H a = none := by
  cases k with
  | sh =>
    cases hs
    exact ⟨_, S'.putS r i, (W.grow kp).sub (FSub.nil F i), fun a z => .inl ((FSub.nil F i).av z)⟩
  | ow =>
    cases hs
    obtain ⟨p, e, n, t⟩ := r
    subst e
    exact ⟨_, S.putO kp S'.deal n t i, W.putO kp n i, fun a z => (av_set z).imp id fun z => by rw [z]; exact n⟩
  | br => cases hs
theorem ds_set {i : Nat} {x : Str} {e : Expr} {f : EF} {pos pos' : Pos} (hN : X.N.Nodup) (hi : X.N[i]? = some x) (hx : Loc X.env.scope x) (he : DE X e f) (hs : swapsWith e (some (.Name x pos')) pos.line X.env = pure false := by rfl)
    (hf : X.fn x = true ∨ X.env.scope.names.lookup x = some .local := by first | exact .inl rfl | exact .inr rfl | assumption) : DS X (.Assign [.Name x pos'] e pos) (hSet i f) := by
  obtain ⟨t, p, x'⟩ := he.ex
  refine ⟨_, ps_set hN hi hx p hs hf, fun H0 g F σ H ρ δ o ρ' δ' D' S W hg q => ?_⟩
  unfold hSet at hg
  cases e1 : f ρ δ with
  | none => rw [e1] at hg; cases hg
  | some c =>
    obtain ⟨d, k, δ1⟩ := c
    rw [e1] at hg
    simp only [Option.bind_some] at hg
    cases e2 : sv d k with
    | none => rw [e2] at hg; cases hg
    | some s =>
      rw [e2] at hg
      cases hg
      refine x' g F σ H _ δ d k _ _ S e1 fun v H1 k1 S1 r1 => ?_
      obtain ⟨F', a1, a2, _⟩ := put_of S W k1 S1 r1 e2 i
      exact q F' _ H1 a1 a2
/-- x = y: one's own thing goes over -/
def hMove (i j : Nat) : HF' := fun ρ δ => match ρ[j]? with
  | some (.sh d) => some (.nx, ρ.set i (.sh d), δ)
  | some (.ow d) => some (.nx, (ρ.set j .un).set i (.ow d), δ)
  | _ => none
theorem ds_move {i j : Nat} {x y : Str} {pos pos' py : Pos} (hN : X.N.Nodup) (hi : X.N[i]? = some x) (hx : Loc X.env.scope x) (hij : i ≠ j) (he : PE X (.Name y py) (tVar j)) (hs : swapsWith (.Name y py) (some (.Name x pos')) pos.line X.env = pure false := by rfl)
    (hf : X.fn x = true ∨ X.env.scope.names.lookup x = some .local := by first | exact .inl rfl | exact .inr rfl | assumption) : DS X (.Assign [.Name x pos'] (.Name y py) pos) (hMove i j) := by
  refine ⟨_, ps_set hN hi hx he hs hf, fun H0 g F σ H ρ δ o ρ' δ' D' S W hg q => ?_⟩
  unfold hMove at hg
  split at hg
  · rename_i d e
    cases hg
    obtain ⟨v, e1, r⟩ := S.slot j _ e
    exact ⟨v, e1, q _ _ H (S.putS r i) (W.sub (FSub.nil F i))⟩
  · rename_i d e
    cases hg
    obtain ⟨p, e1, S'⟩ := S.move hij e
    exact ⟨_, e1, q _ _ H S' W.move⟩
  · cases hg
/-! ### name, name = e, e -/
def hPar (i j : Nat) (f1 f2 : EF) : HF' := fun ρ δ => (f1 ρ δ).bind fun p => (f2 ρ p.2.2).bind fun q => (sv p.1 p.2.1).bind fun s => (sv q.1 q.2.1).map fun u => (.nx, (ρ.set i s).set j u, q.2.2)
theorem SR.wide {K : PySem.W.Frag} {g : Gh} {F : Fp} {σ : L2.St} {ρ : Rho} {δ δ' : Dr} {H H' : Hp} {p : Addr} (S : SR K g F σ ρ δ H) (k : Keep g.Pd H H') (dl : DealR g H' δ') (hp : H p = none) (hp' : H' p ≠ none) : SR K ⟨fun a => g.A a ∨ a = p, g.P⟩ F σ ρ δ' H' where
  len := S.len
  slot := fun j s h => by
    have more : ∀ a, Av ⟨fun a => g.A a ∨ a = p, g.P⟩ F a → Av g F a ∨ H a = none := by
      rintro a ((z | z) | z | z)
      · exact .inl (.inl z)
      · exact .inr (by rw [z]; exact hp)
      · exact .inl (.inr (.inl z))
      · exact .inl (.inr (.inr z))
    have q := S.slot j s h
    cases s with
    | un => trivial
    | sh d =>
      obtain ⟨x, a, r⟩ := q
      exact ⟨x, a, (r.more more).keep k fun a z => .inr (.inl z)⟩
    | ow d =>
      obtain ⟨p', a, hf, t⟩ := q
      exact ⟨p', a, hf, (t.more more).keep k (fun a z => .inr (.inl z)) (S.new j p' (by rw [hf]; simp)).2⟩
    | dl => exact q
  apart := S.apart
  new := fun i a h => ⟨fun z => z.elim (S.new i a h).1 fun z => S.fresh hp (.inr (.inr ⟨i, by rw [← z]; exact h⟩)), (S.new i a h).2⟩
  dom := fun a h => h.elim (S.dom a) fun z => by rw [z]; exact fun z => S.fresh hp (.inr (.inl z))
  there := by
    rintro a ((z | z) | z | z)
    · exact k.there (S.there a (.inl z))
    · rw [z]; exact hp'
    · exact k.there (S.there a (.inr (.inl z)))
    · exact k.there (S.there a (.inr (.inr z)))
  mt := fun i a h => by
    obtain ⟨o, ho, m⟩ := S.mt i a h
    exact ⟨o, k.at_ ho (S.new i a h).2, m⟩
  deal := dl
theorem ds_par {i j : Nat} {x y : Str} {a b : Expr} {f1 f2 : EF} {px py pt pos : Pos} {kt k2 pt2} (hc : X.calm = true) (hN : X.N.Nodup) (hi : X.N[i]? = some x) (hj : X.N[j]? = some y) (hij : i ≠ j)
    (hx : X.env.scope.names.lookup x = some .local) (hy : X.env.scope.names.lookup y = some .local) (ha : DE X a f1) (hb : DE X b f2)
    (hw : swappedStores [.Tuple [.Name x px, .Name y py] kt pt] (.Tuple [a, b] k2 pt2) X.env = pure (some [x, y]))
    (hs : swapsWithSole [.Tuple [.Name x px, .Name y py] kt pt] (.Tuple [a, b] k2 pt2) pos.line X.env = pure false := by rfl)
    (s1 : starEach [a, b] X.env = (false, eval a X.env) :: starEach [b] X.env := by rfl) (s2 : starEach [b] X.env = (false, eval b X.env) :: starEach [] X.env := by rfl) :
    DS X (.Assign [.Tuple [.Name x px, .Name y py] kt pt] (.Tuple [a, b] k2 pt2) pos) (hPar i j f1 f2) := by
  obtain ⟨t1, p1, x1⟩ := ha.ex
  obtain ⟨t2, p2, x2⟩ := hb.ex
  refine ⟨_, ps_par hc hN hi hj hij hx hy (pa_cons p1 (pa_cons p2 pa_nil s2) s1) hw hs, fun H0 g F σ H ρ δ o ρ' δ' D' S W hg q => ?_⟩
  unfold hPar at hg
  cases e1 : f1 ρ δ with
  | none => rw [e1] at hg; cases hg
  | some c =>
    obtain ⟨d1, k1, δ1⟩ := c
    rw [e1] at hg
    simp only [Option.bind_some] at hg
    cases e2 : f2 ρ δ1 with
    | none => rw [e2] at hg; cases hg
    | some c =>
      obtain ⟨d2, kd2, δ2⟩ := c
      rw [e2] at hg
      simp only [Option.bind_some] at hg
      cases e3 : sv d1 k1 with
      | none => rw [e3] at hg; cases hg
      | some s =>
        rw [e3] at hg
        simp only [Option.bind_some] at hg
        cases e4 : sv d2 kd2 with
        | none => rw [e4] at hg; cases hg
        | some u =>
          rw [e4] at hg
          cases hg
          refine x1 g F σ H ρ δ d1 k1 δ1 _ S e1 fun v H1 ke1 S1 r1 => ?_
          cases k1 with
          | br => cases e3
          | sh =>
            cases e3
            refine x2 g F σ H1 ρ δ1 d2 kd2 _ _ S1 e2 fun w H2 ke2 S2 r2 => ⟨v, w, rfl, ?_⟩
            -- first the one, then the other
            have T1 := S1.putS r1 i
            have r2' : Res X.K g (fset F i []) H1 H2 kd2 w d2 := by
              cases kd2 with
              | sh => exact Rep.weak (fun a z => (FSub.nil F i).av z) r2
              | ow =>
                obtain ⟨p, e, n, t⟩ := r2
                exact ⟨p, e, n, t.weak fun a z => z.imp (fun z => (FSub.nil F i).av z) id⟩
              | br => cases e4
            obtain ⟨F', a1, a2, _⟩ := put_of T1 ((W.grow ke1).sub (FSub.nil F i)) ke2 (T1.grow ke2 S2.deal) r2' e4 j
            exact q F' _ H2 a1 a2
          | ow =>
            cases e3
            obtain ⟨p, e, n, t⟩ := r1
            subst e
            obtain ⟨op, hop, _⟩ := t.there
            have S1w := S.wide ke1 S1.deal n (by rw [hop]; simp)
            refine x2 ⟨fun a => g.A a ∨ a = p, g.P⟩ F σ H1 ρ δ1 d2 kd2 _ _ S1w e2 fun w H2 ke2 S2 r2 => ⟨_, w, rfl, ?_⟩
            have ke2 : Keep g.Pd H1 H2 := ke2
            have T1 := S.putO ke1 S1.deal n t i
            have sub : ∀ a, Av g (fset F i [p]) a → Av ⟨fun a => g.A a ∨ a = p, g.P⟩ F a := fun a z => by
              rcases av_set z with (z | z | z) | z
              · exact .inl (.inl z)
              · exact .inr (.inl z)
              · exact .inr (.inr z)
              · exact .inl (.inr z)
            have r2' : Res X.K g (fset F i [p]) H1 H2 kd2 w d2 := by
              cases kd2 with
              | sh => exact Rep.weak sub r2
              | ow =>
                obtain ⟨p', e, n', t'⟩ := r2
                exact ⟨p', e, n', t'.weak fun a z => z.imp (sub a) id⟩
              | br => cases e4
            obtain ⟨F', a1, a2, _⟩ := put_of T1 (W.putO ke1 n i) ke2 (T1.grow ke2 S2.deal) r2' e4 j
            exact q F' _ H2 a1 a2
end
end DL
/-! D-layer, part g: lists that change, targets, loops. -/
namespace DL
open PySem PySem.Spec PyProof.Rows L2
section
variable {K : PySem.W.Frag} {g : Gh} {F F' : Fp} {σ σ' : L2.St} {ρ ρ' : Rho} {δ δ' : Dr} {H H' H0 : Hp} {v : V} {d : D}
/-- the heap without one's own things -/
noncomputable def Base (F : Fp) (H : Hp) : Hp := fun a => open Classical in if Ow F a then none else H a
theorem base_some {a : Addr} {o : HO} (h : Base F H a = some o) : H a = some o ∧ ¬ Ow F a := by
  unfold Base at h
  split at h
  · cases h
  · rename_i n
    exact ⟨h, n⟩
theorem base_of {a : Addr} {o : HO} (h : H a = some o) (n : ¬ Ow F a) : Base F H a = some o := by
  unfold Base
  rw [if_neg n]
  exact h
theorem base_ow {a : Addr} (n : Ow F a) : Base F H a = none := by
  unfold Base
  rw [if_pos n]
theorem SH.inner (S : SR K g F σ ρ δ H) : SH (Base F H) g F H where
  new := fun i a h => base_ow ⟨i, h⟩
  dom := fun a h => by
    cases e : H a with
    | none => exact absurd e (S.there a (.inl h))
    | some o =>
      rw [base_of e fun ⟨i, z⟩ => (S.new i a z).1 h]
      simp
  pd := fun a h => by
    cases e : H a with
    | none => exact absurd e (S.there a (.inr (.inl h)))
    | some o =>
      rw [base_of e fun ⟨i, z⟩ => (S.new i a z).2 h]
      simp
  keep := fun a o h => .inl (base_some h).1
theorem SH.outer (W : SH H0 g F H) (W' : SH (Base F H) g F' H') : SH H0 g F' H' where
  new := fun i a h => by
    have z := W'.new i a h
    by_cases n : Ow F a
    · obtain ⟨j, hj⟩ := n
      exact W.new j a hj
    · cases e : H a with
      | none => exact W.keep.free e
      | some o => rw [base_of e n] at z; cases z
  dom := W.dom
  pd := W.pd
  keep := fun a o h => by
    have n : ¬ Ow F a := fun ⟨j, hj⟩ => by rw [W.new j a hj] at h; cases h
    rcases W.keep a o h with h1 | ⟨x, m, o', h1, m1⟩
    · exact W'.keep a o (base_of h1 n)
    · rcases W'.keep a o' (base_of h1 n) with h2 | ⟨_, _, o2, h2, m2⟩
      · exact .inr ⟨x, m, o', h2, m1⟩
      · exact .inr ⟨x, m, o2, h2, m2⟩
theorem stay_at (S : SR K g F σ ρ δ H) (W' : SH (Base F H) g F' H') {a : Addr} {o : HO} (h : H a = some o) (n : ¬ Av g F a) : H' a = some o ∧ ¬ Av g F' a := by
  have b : Base F H a = some o := base_of h fun z => n (.inr (.inr z))
  refine ⟨W'.keep.at_ b fun z => n (.inr (.inl z)), ?_⟩
  rintro (z | z | ⟨i, z⟩)
  · exact n (.inl z)
  · exact n (.inr (.inl z))
  · rw [W'.new i a z] at b
    cases b
theorem stay_R (S : SR K g F σ ρ δ H) (W' : SH (Base F H) g F' H') {a : Addr} {xs : List V} (h : Rd H a (.lst xs)) (n : ¬ Av g F a) : Rd H' a (.lst xs) ∧ ¬ Av g F' a := by
  rcases h with h | ⟨o, h⟩
  · exact ⟨.inl (stay_at S W' h n).1, (stay_at S W' h n).2⟩
  · exact ⟨.inr ⟨o, (stay_at S W' h n).1⟩, (stay_at S W' h n).2⟩
theorem stay_T (S : SR K g F σ ρ δ H) (W' : SH (Base F H) g F' H') {a : Addr} {xs : List V} (h : SqT K H a xs) : SqT K H' a xs := by
  have go : ∀ o, ¬ Mt o → H a = some o → H' a = some o := fun o m h => by
    refine W'.keep.still (base_of h fun ⟨i, z⟩ => ?_) m
    obtain ⟨o', h1, m1⟩ := S.mt i a z
    rw [h] at h1
    cases h1
    exact m m1
  rcases h with (h | ⟨o, h⟩) | h
  · exact .inl (.inl (go _ (by exact id) h))
  · exact .inl (.inr ⟨o, go _ (by exact id) h⟩)
  · exact .inr h
theorem stay_W (S : SR K g F σ ρ δ H) (W' : SH (Base F H) g F' H') {a : Addr} {xs : List V} (h : WL K H a xs) : WL K H' a xs := by
  rcases h with ⟨o, h⟩ | h
  · refine .inl ⟨o, W'.keep.still (base_of h fun ⟨i, z⟩ => ?_) (by exact id)⟩
    obtain ⟨o', h1, m1⟩ := S.mt i a z
    rw [h] at h1
    cases h1
    exact m1
  · exact .inr h
mutual
theorem Rep.stay (S : SR K g F σ ρ δ H) (W' : SH (Base F H) g F' H') : ∀ {v : V} {d : D}, Rep K (Av g F) H v d → Rep K (Av g F') H' v d
  | _, _, .non => .non
  | _, _, .bl b => .bl b
  | _, _, .int i => .int i
  | _, _, .str x => .str x
  | _, _, .tup h r => .tup (stay_T S W' h) (Reps.stay S W' r)
  | _, _, .lst h n r => .lst (stay_at S W' h n).1 (stay_at S W' h n).2 (Reps.stay S W' r)
  | _, _, .ins hc h n e r => .ins hc (stay_at S W' h n).1 (stay_at S W' h n).2 e (Reps.stay S W' r)
  | _, _, .dic h n e r => .dic (stay_at S W' h n).1 (stay_at S W' h n).2 e (Reps.stay S W' r)
  | _, _, .obj a => .obj a
  | _, _, .ty n => .ty n
  | _, _, .wls h r => .wls (stay_W S W' h) (Reps.stay S W' r)
theorem Reps.stay (S : SR K g F σ ρ δ H) (W' : SH (Base F H) g F' H') : ∀ {vs : List V} {ds : List D}, Reps K (Av g F) H vs ds → Reps K (Av g F') H' vs ds
  | _, _, .nil => .nil
  | _, _, .cons h r => .cons (Rep.stay S W' h) (Reps.stay S W' r)
end
end

section
variable {X : Cx}
/-! ### targets -/
abbrev BF := D → Rho → Option Rho
/-- sl: the slots that are stored -/
structure DG (X : Cx) (tg : Expr) (b : BF) (sl : List Nat) : Prop where
  ex : ∃ t : TG, PG X tg t ∧ ∀ (g : Gh) (F : Fp) (σ : L2.St) (H : Hp) (ρ : Rho) (δ : Dr) (v : V) (d : D) (ρ' : Rho) (Q : L2.St → Hp → Prop), SR X.K g F σ ρ δ H → Rep X.K (Av g F) H v d → b d ρ = some ρ' →
    (∀ σ', SR X.K g F σ' ρ' δ H → (∀ own : List Nat, (∀ i, i ∈ sl → i ∈ own) → wipe σ' own = wipe σ own) → Q σ' H) → t v σ H Q
abbrev BFs := List D → Rho → Option Rho
structure DGs (X : Cx) (ts : List Expr) (n : Nat) (b : BFs) (sl : List Nat) : Prop where
  ex : ∃ t : TGs, PGs X ts t ∧ ∀ (g : Gh) (F : Fp) (σ : L2.St) (H : Hp) (ρ : Rho) (δ : Dr) (vs : List V) (ds : List D) (ρ' : Rho) (Q : L2.St → Hp → Prop), SR X.K g F σ ρ δ H → Reps X.K (Av g F) H vs ds → b ds ρ = some ρ' →
    (∀ σ', SR X.K g F σ' ρ' δ H → (∀ own : List Nat, (∀ i, i ∈ sl → i ∈ own) → wipe σ' own = wipe σ own) → Q σ' H) → t vs σ H Q
  len : ∀ ds ρ ρ', b ds ρ = some ρ' → ds.length = n
theorem wipe_set {σ : L2.St} {i : Nat} {x : Option V} : ∀ {own : List Nat}, i ∈ own → wipe (σ.set i x) own = wipe σ own
  | [], h => by cases h
  | v :: vs, h => by
    show (wipe (σ.set i x) vs).set v none = (wipe σ vs).set v none
    by_cases e : i ∈ vs
    · rw [wipe_set e]
    · have e2 : i = v := by
        rcases List.mem_cons.mp h with h | h
        · exact h
        · exact absurd h e
      subst e2
      have go : ∀ (vs : List Nat) (σ : L2.St), i ∉ vs → wipe (σ.set i x) vs = (wipe σ vs).set i x := by
        intro vs
        induction vs with
        | nil => intro σ _; rfl
        | cons w ws ih =>
          intro σ hn
          rw [List.mem_cons, not_or] at hn
          show (wipe (σ.set i x) ws).set w none = ((wipe σ ws).set w none).set i x
          rw [ih σ hn.2, List.set_comm _ _ hn.1]
      rw [go vs σ e, List.set_set]
def bName (i : Nat) : BF := fun d ρ => some (ρ.set i (.sh d))
theorem dg_name {i : Nat} {x : Str} {pos : Pos} (hN : X.N.Nodup) (hi : X.N[i]? = some x) (hx : Loc X.env.scope x) (hf : X.fn x = true ∨ X.env.scope.names.lookup x = some .local := by first | exact .inl rfl | exact .inr rfl | assumption) : DG X (.Name x pos) (bName i) [i] :=
  ⟨_, pg_name hN hi hx hf, fun g F σ H ρ δ v d ρ' Q S r hb q => by
    cases hb
    exact q _ (S.putK r i) fun own h => wipe_set (h i (List.mem_singleton.mpr rfl))⟩
def bNil : BFs := fun ds ρ => match ds with | [] => some ρ | _ => none
def bCons (b : BF) (r : BFs) : BFs := fun ds ρ => match ds with | d :: ds => (b d ρ).bind fun ρ' => r ds ρ' | [] => none
theorem dgs_nil : DGs X [] 0 bNil [] := ⟨⟨_, pgs_nil, fun g F σ H ρ δ vs ds ρ' Q S r hb q => by
  cases r with
  | nil =>
    cases hb
    exact ⟨rfl, q σ S fun _ _ => rfl⟩
  | cons _ _ => cases hb⟩, fun ds ρ ρ' h => by cases ds with | nil => rfl | cons _ _ => cases h⟩
theorem dgs_cons {e : Expr} {es : List Expr} {n : Nat} {b : BF} {r : BFs} {l1 l2 : List Nat} (h1 : DG X e b l1) (h2 : DGs X es n r l2) (hs : (assignEach (e :: es) X.env).map (·.2) = assign e X.env :: (assignEach es X.env).map (·.2) := by rfl) : DGs X (e :: es) (n + 1) (bCons b r) (l1 ++ l2) := by
  obtain ⟨t, p, x⟩ := h1.ex
  obtain ⟨u, p2, x2⟩ := h2.ex
  refine ⟨⟨_, pgs_cons p p2 hs, fun g F σ H ρ δ vs ds ρ' Q S rp hb q => ?_⟩, fun ds ρ ρ' h => ?_⟩
  · cases rp with
    | nil => cases hb
    | cons r1 rr =>
      rename_i v d vs ds
      simp only [bCons] at hb
      cases e1 : b d ρ with
      | none => rw [e1] at hb; cases hb
      | some ρ1 =>
        rw [e1] at hb
        refine ⟨v, vs, rfl, x g F σ H ρ δ v d ρ1 _ S r1 e1 fun σ1 S1 w1 => ?_⟩
        exact x2 g F σ1 H ρ1 δ vs ds ρ' Q S1 rr hb fun σ2 S2 w2 => q σ2 S2 fun own h => (w2 own fun i hi => h i (List.mem_append_right _ hi)).trans (w1 own fun i hi => h i (List.mem_append_left _ hi))
  · cases ds with
    | nil => cases h
    | cons d ds =>
      simp only [bCons] at h
      cases e1 : b d ρ with
      | none => rw [e1] at h; cases h
      | some ρ1 =>
        rw [e1] at h
        rw [List.length_cons, h2.len ds ρ1 ρ' h]
def bTup (r : BFs) : BF := fun d ρ => match d with | .tup ds => r ds ρ | _ => none
theorem dg_tup {es : List Expr} {k n : Nat} {pos : Pos} {r : BFs} {sl : List Nat} (hc : X.calm = true) (h : DGs X es n r sl) (hn : (assignEach es X.env).length = n := by rfl) (hst : (assignEach es X.env).findIdx? (·.1) = none := by rfl) : DG X (.Tuple es k pos) (bTup r) sl := by
  obtain ⟨t, p, x⟩ := h.ex
  refine ⟨_, pg_tup hc p hn hst, fun g F σ H ρ δ v d ρ' Q S rp hb q => ?_⟩
  cases rp with
  | tup h1 r1 =>
    rename_i a xs ds
    exact ⟨a, xs, rfl, h1, by rw [r1.length]; exact h.len ds ρ ρ' hb, x g F σ H ρ δ xs ds ρ' Q S r1 hb q⟩
  | _ => cases hb
/-- target = e -/
def hAsg (b : BF) (f : EF) : HF' := fun ρ δ => (f ρ δ).bind fun p => if p.2.1 = .br then none else (b p.1 ρ).map fun ρ' => (.nx, ρ', p.2.2)
theorem ds_asg {tg e : Expr} {b : BF} {sl : List Nat} {f : EF} {pos : Pos} (he : DE X e f) (hg : DG X tg b sl) (hs : swapsWithSole [tg] e pos.line X.env = pure false := by rfl) (hw : swappedStores [tg] e X.env = pure none := by rfl)
    (h1 : (assignEach [tg] X.env).map (·.2) = [assign tg X.env] := by rfl) : DS X (.Assign [tg] e pos) (hAsg b f) := by
  obtain ⟨t, p, x⟩ := he.ex
  obtain ⟨u, p2, x2⟩ := hg.ex
  refine ⟨_, ps_asg p p2 hs hw h1, fun H0 g F σ H ρ δ o ρ' δ' D' S W hf q => ?_⟩
  unfold hAsg at hf
  cases e1 : f ρ δ with
  | none => rw [e1] at hf; cases hf
  | some c =>
    obtain ⟨d, k, δ1⟩ := c
    rw [e1] at hf
    simp only [Option.bind_some] at hf
    split at hf
    · cases hf
    · rename_i hk
      cases e2 : b d ρ with
      | none => rw [e2] at hf; cases hf
      | some ρ1 =>
        rw [e2] at hf
        cases hf
        refine x g F σ H ρ δ d k _ _ S e1 fun v H1 k1 S1 r1 => ?_
        exact x2 g F σ H1 ρ _ v d _ _ S1 (r1.rep S.good hk) e2 fun σ2 S2 _ => q F σ2 H1 S2 (W.grow k1)
/-! ### one's own lists change -/
theorem own_at {g : Gh} {F : Fp} {σ : L2.St} {ρ : Rho} {δ : Dr} {H : Hp} {i : Nat} {xs : List D} (S : SR X.K g F σ ρ δ H) (e : ρ[i]? = some (.ow (.lst xs))) :
    ∃ p vs, σ[i]? = some (some (.ref p)) ∧ F i = [p] ∧ H p = some (.lst vs) ∧ Reps X.K (Av g F) H vs xs := by
  obtain ⟨p, e3, e2, t⟩ := S.slot i _ e
  obtain ⟨vs, h, r⟩ := t
  exact ⟨p, vs, e3, e2, h, r⟩
/-- the state with the list changed -/
theorem turned {g : Gh} {F : Fp} {σ : L2.St} {ρ : Rho} {δ : Dr} {H H0 : Hp} {i : Nat} {xs ys : List D} {p : Addr} {vs ws : List V} (S : SR X.K g F σ ρ δ H) (W : SH H0 g F H) (e : ρ[i]? = some (.ow (.lst xs))) (e3 : σ[i]? = some (some (.ref p))) (e2 : F i = [p])
    (h : H p = some (.lst vs)) (r : Reps X.K (Av g F) H ws ys) : SR X.K g F σ (ρ.set i (.ow (.lst ys))) δ (upd H p (.lst ws)) ∧ SH H0 g F (upd H p (.lst ws)) := by
  have k : Keep (fun a => a = p) H (upd H p (.lst ws)) := keep_upd h trivial trivial rfl
  exact ⟨S.turn e e2 e3 k ⟨ws, upd_same, r.keep k fun a z => by rw [z]; exact .inr (.inr ⟨i, by rw [e2]; simp⟩)⟩, W.turn e2 k⟩
def hApp (i : Nat) (f : EF) : HF' := fun ρ δ => match ρ[i]? with
  | some (.ow (.lst xs)) => (f ρ δ).bind fun p => if p.2.1 = .br then none else if xs.length < sizeLine then some (.nx, ρ.set i (.ow (.lst (xs ++ [p.1]))), p.2.2) else none
  | _ => none
theorem ds_append {i : Nat} {x : Str} {e : Expr} {f : EF} {px pa pc pos : Pos} (hx : PE X (.Name x px) (tVar i)) (he : DE X e f) (hse : starEach [e] X.env = (false, eval e X.env) :: starEach [] X.env := by rfl)
    (hs : swapsWith (.Call (.Attribute (.Name x px) "append" pa) [e] [] pc) none pos.line X.env = pure false := by rfl)
    (hm : ∀ (ta : TE), PE X (.Name x px) (tVar i) → ∀ t, PA X [e] t → PE X (.Call (.Attribute (.Name x px) "append" pa) [e] [] pc) (tBM X.K "list" rAppend (tVar i) t) := by
      exact fun _ h1 t h2 => pe_bm PySem.F.plainAttrs_list PySem.F.slot_list_append PySem.F.type_list_append mt_append h1 h2) : DS X (.Expr (.Call (.Attribute (.Name x px) "append" pa) [e] [] pc) pos) (hApp i f) := by
  obtain ⟨t, p, x'⟩ := he.ex
  refine ⟨_, ps_expr (hm (tVar i) hx _ (pa_cons p pa_nil hse)) hs, fun H0 g F σ H ρ δ o ρ' δ' D' S W hf q => ?_⟩
  unfold hApp at hf
  split at hf
  · rename_i xs e0
    cases e1 : f ρ δ with
    | none => rw [e1] at hf; cases hf
    | some c =>
      obtain ⟨d, k, δ1⟩ := c
      rw [e1] at hf
      simp only [Option.bind_some] at hf
      split at hf
      · cases hf
      · rename_i hk
        split at hf
        · rename_i hl
          cases hf
          obtain ⟨a, vs, a1, a2, a3, a4⟩ := own_at S e0
          refine ⟨_, a1, .inl ⟨rfl, _, .inl (.inl a3)⟩, x' g F σ H ρ δ d k _ _ S e1 fun v H1 k1 S1 r1 => ?_⟩
          obtain ⟨b, vs', b1, b2, b3, b4⟩ := own_at S1 e0
          rw [a1] at b1
          cases b1
          refine ⟨a, vs', v, rfl, rfl, b3, by rw [b4.length]; exact hl, ?_⟩
          obtain ⟨S2, W2⟩ := turned S1 (W.grow k1) e0 a1 b2 b3 (b4.append (.cons (r1.rep S.good hk) .nil))
          exact q F σ _ S2 W2
        · cases hf
  · cases hf
/-- x.pop() as a statement; x.pop() given to a target -/
def hPop (i : Nat) : HF' := fun ρ δ => match ρ[i]? with
  | some (.ow (.lst xs)) => if xs.length = 0 then none else some (.nx, ρ.set i (.ow (.lst xs.dropLast)), δ)
  | _ => none
theorem pop_run {g : Gh} {F : Fp} {σ : L2.St} {ρ : Rho} {δ : Dr} {H H0 : Hp} {i : Nat} {xs : List D} (S : SR X.K g F σ ρ δ H) (W : SH H0 g F H) (e : ρ[i]? = some (.ow (.lst xs))) (hl : ¬ xs.length = 0) :
    ∃ p vs v d, σ[i]? = some (some (.ref p)) ∧ H p = some (.lst vs) ∧ vs[vs.length - 1]? = some v ∧ xs[xs.length - 1]? = some d ∧ SR X.K g F σ (ρ.set i (.ow (.lst xs.dropLast))) δ (upd H p (.lst vs.dropLast)) ∧ SH H0 g F (upd H p (.lst vs.dropLast)) ∧
      Rep X.K (Av g F) (upd H p (.lst vs.dropLast)) v d := by
  obtain ⟨p, vs, a1, a2, a3, a4⟩ := own_at S e
  obtain ⟨S2, W2⟩ := turned S W e a1 a2 a3 a4.dropLast
  have h1 : xs.length - 1 < xs.length := by omega
  have e1 : xs[xs.length - 1]? = some xs[xs.length - 1] := List.getElem?_eq_getElem h1
  obtain ⟨v, e2, r⟩ := a4.getD e1
  rw [← a4.length] at e2
  refine ⟨p, vs, v, _, a1, a3, e2, e1, S2, W2, r.keep (P := fun a => a = p) (keep_upd (o' := .lst vs.dropLast) a3 trivial trivial rfl) fun a z => by rw [z]; exact .inr (.inr ⟨i, by rw [a2]; simp⟩)⟩
theorem ds_pop {i : Nat} {x : Str} {px pa pc pos : Pos} (hx : PE X (.Name x px) (tVar i))
    (hs : swapsWith (.Call (.Attribute (.Name x px) "pop" pa) [] [] pc) none pos.line X.env = pure false := by rfl)
    (hm : PE X (.Name x px) (tVar i) → PE X (.Call (.Attribute (.Name x px) "pop" pa) [] [] pc) (tBM0 X.K "list" rPop (tVar i)) := by
      exact fun h1 => pe_bm0 PySem.F.plainAttrs_list PySem.F.slot_list_pop PySem.F.type_list_pop mt_pop h1) : DS X (.Expr (.Call (.Attribute (.Name x px) "pop" pa) [] [] pc) pos) (hPop i) := by
  refine ⟨_, ps_expr (hm hx) hs, fun H0 g F σ H ρ δ o ρ' δ' D' S W hf q => ?_⟩
  unfold hPop at hf
  split at hf
  · rename_i xs e0
    split at hf
    · cases hf
    · rename_i hl
      cases hf
      obtain ⟨p, vs, v, d, a1, a2, a3, a4, S2, W2, r⟩ := pop_run S W e0 hl
      exact ⟨_, a1, .inl ⟨rfl, _, .inl (.inl a2)⟩, p, vs, v, rfl, rfl, a2, a3, q F σ _ S2 W2⟩
  · cases hf
def hPopTo (b : BF) (i : Nat) : HF' := fun ρ δ => match ρ[i]? with
  | some (.ow (.lst xs)) => (xs[xs.length - 1]?).bind fun d => (b d (ρ.set i (.ow (.lst xs.dropLast)))).map fun ρ' => (.nx, ρ', δ)
  | _ => none
theorem ds_popTo {i : Nat} {x : Str} {tg : Expr} {b : BF} {sl : List Nat} {px pa pc pos : Pos} (hx : PE X (.Name x px) (tVar i)) (hg : DG X tg b sl)
    (hs : swapsWithSole [tg] (.Call (.Attribute (.Name x px) "pop" pa) [] [] pc) pos.line X.env = pure false := by rfl) (hw : swappedStores [tg] (.Call (.Attribute (.Name x px) "pop" pa) [] [] pc) X.env = pure none := by rfl)
    (h1 : (assignEach [tg] X.env).map (·.2) = [assign tg X.env] := by rfl)
    (hm : PE X (.Name x px) (tVar i) → PE X (.Call (.Attribute (.Name x px) "pop" pa) [] [] pc) (tBM0 X.K "list" rPop (tVar i)) := by
      exact fun h1 => pe_bm0 PySem.F.plainAttrs_list PySem.F.slot_list_pop PySem.F.type_list_pop mt_pop h1) : DS X (.Assign [tg] (.Call (.Attribute (.Name x px) "pop" pa) [] [] pc) pos) (hPopTo b i) := by
  obtain ⟨u, p2, x2⟩ := hg.ex
  refine ⟨_, ps_asg (hm hx) p2 hs hw h1, fun H0 g F σ H ρ δ o ρ' δ' D' S W hf q => ?_⟩
  unfold hPopTo at hf
  split at hf
  · rename_i xs e0
    cases e1 : xs[xs.length - 1]? with
    | none => rw [e1] at hf; cases hf
    | some d =>
      rw [e1] at hf
      simp only [Option.bind_some] at hf
      cases e2 : b d (ρ.set i (.ow (.lst xs.dropLast))) with
      | none => rw [e2] at hf; cases hf
      | some ρ1 =>
        rw [e2] at hf
        cases hf
        have hl : ¬ xs.length = 0 := fun z => by
          rw [List.length_eq_zero_iff.mp z] at e1
          cases e1
        obtain ⟨p, vs, v, d', a1, a2, a3, a4, S2, W2, r⟩ := pop_run S W e0 hl
        rw [e1] at a4
        cases a4
        exact ⟨_, a1, .inl ⟨rfl, _, .inl (.inl a2)⟩, p, vs, v, rfl, rfl, a2, a3, x2 g F σ _ _ _ v d _ _ S2 r e2 fun σ2 S3 _ => q F σ2 _ S3 W2⟩
  · cases hf
/-! ### name op= e, ints -/
def hAug (i : Nat) (o : OF2) (f : EF) : HF' := fun ρ δ => match ρ[i]? with
  | some (.sh x) => (f ρ δ).bind fun p => (o x p.1).bind fun r => (sv r.1 r.2).map fun s => (.nx, ρ.set i s, p.2.2)
  | _ => none
def IpD (X : Cx) (op : Operator) (o : OF2) : Prop := ∃ t : TIp, PIp X op t ∧ Fit2 X.K t o
theorem ds_aug {i : Nat} {x : Str} {e : Expr} {f : EF} {o : OF2} {op : Operator} {pos pos' : Pos} (hN : X.N.Nodup) (hi : X.N[i]? = some x) (hx : Loc X.env.scope x) (he : DE X e f) (ho : IpD X op o)
    (hf : X.fn x = true ∨ X.env.scope.names.lookup x = some .local := by first | exact .inl rfl | exact .inr rfl | assumption) : DS X (.AugAssign (.Name x pos') op e pos) (hAug i o f) := by
  obtain ⟨t, p, x'⟩ := he.ex
  obtain ⟨ti, pi, fit⟩ := ho
  refine ⟨_, ps_aug hN hi hx p pi hf, fun H0 g F σ H ρ δ oo ρ' δ' D' S W hf q => ?_⟩
  unfold hAug at hf
  split at hf
  · rename_i dx e0
    obtain ⟨v, a1, a2⟩ := S.slot i _ e0
    cases e1 : f ρ δ with
    | none => rw [e1] at hf; cases hf
    | some c =>
      obtain ⟨d, k, δ1⟩ := c
      rw [e1] at hf
      simp only [Option.bind_some] at hf
      cases e2 : o dx d with
      | none => rw [e2] at hf; cases hf
      | some c =>
        obtain ⟨d2, k2⟩ := c
        rw [e2] at hf
        simp only [Option.bind_some] at hf
        cases e3 : sv d2 k2 with
        | none => rw [e3] at hf; cases hf
        | some s =>
          rw [e3] at hf
          cases hf
          refine ⟨v, a1, x' g F σ H ρ δ d k _ _ S e1 fun w H1 k1 S1 r1 => ?_⟩
          refine fit g F H1 v w dx d d2 k2 _ S1.good (.inl (a2.keep k1 fun a z => .inr (.inl z))) (r1.rd S.good) e2 fun z H2 s2 r2 => ?_
          obtain ⟨F', b1, b2, _⟩ := put_of S1 (W.grow k1) (Keep.of_same s2) (S1.same s2) r2 e3 i
          exact q F' _ H2 b1 b2
  · cases hf
def oAddI : OF2 := fun x y => match x, y with | .int i, .int j => some (.int (i + j), .sh) | _, _ => none
theorem ip_addI : IpD X .Add oAddI := by
  refine ⟨_, ip_add, fun g F H x y dx dy d k Q G r1 r2 ho q => ?_⟩
  cases dx <;> cases dy <;> dsimp only [oAddI] at ho <;> first
    | cases ho
      done
    | (cases ho
       exact ⟨_, _, r1.int, r2.int, q _ H (Same.refl _) (.int _)⟩)
theorem ip_by {op : Operator} {r : R2} {o : OF2} (h : OpR X (inplaceOp op) r) (f : Fit2 X.K r o) : IpD X op o := ⟨r, fun pins s σ H x y v u Q I r1 r2 q => h pins s σ H x y v u Q I r1 r2 q, f⟩
/-! ### what a loop walks -/
structure Src (K : PySem.W.Frag) (g : Gh) (F : Fp) (H : Hp) (J : It) (ds : List D) (rt : Addr → Prop) : Prop where
  go : ∀ (O : Addr → Prop) (H' : Hp), (∀ a o, rt a → H a = some o → H' a = some o) → (∀ a xs, SqT K H a xs → SqT K H' a xs) → (∀ v d, Rep K (Av g F) H v d → Rep K O H' v d) →
    ∀ i d, ds[i]? = some d → J.go i H' ∧ ∀ x H2, J.yld i H' x H2 → Same H' H2 ∧ Rep K O H2 x d
  stop : ∀ (H' : Hp), (∀ a o, rt a → H a = some o → H' a = some o) → (∀ a xs, SqT K H a xs → SqT K H' a xs) → J.stop ds.length H'
abbrev SF := Rho → Dr → Option (List D × Kd × Dr)
structure DI (X : Cx) (tg it : Expr) (s : SF) : Prop where
  ex : ∃ wi : TI, PI X tg it wi ∧ ∀ (g : Gh) (F : Fp) (σ : L2.St) (H : Hp) (ρ : Rho) (δ : Dr) (ds : List D) (k : Kd) (δ' : Dr) (R : It → Hp → Prop), SR X.K g F σ ρ δ H → s ρ δ = some (ds, k, δ') →
    (∀ J H' rt, Keep g.Pd H H' → SR X.K g F σ ρ δ' H' → Src X.K g F H' J ds rt → (∀ a, rt a → H' a ≠ none ∧ ¬ g.Pd a ∧ (k ≠ .br → ¬ Av g F a)) → R J H') → wi σ H R
theorem pi_or {tg it : Expr} {w1 w2 : TI} (h1 : PI X tg it w1) (h2 : PI X tg it w2) : PI X tg it (fun σ H R => w1 σ H R ∨ w2 σ H R) :=
  ⟨fun pins s σ H R I h => h.elim (h1.run pins s σ H R I) (h2.run pins s σ H R I)⟩
theorem src_list {K : PySem.W.Frag} {g : Gh} {F : Fp} {H : Hp} {p : Addr} {vs : List V} {ds : List D} (h : Rd H p (.lst vs)) (r : Reps K (Av g F) H vs ds) : Src K g F H (Itl K p) ds (fun a => a = p) where
  go := fun O H' hr ht hp i d e => by
    obtain ⟨v, e1, e2⟩ := r.getD e
    have h' : Rd H' p (.lst vs) := h.elim (fun h => .inl (hr p _ rfl h)) fun ⟨o, h⟩ => .inr ⟨o, hr p _ rfl h⟩
    refine ⟨⟨vs, v, .inl h', e1⟩, fun x H2 y => ?_⟩
    obtain ⟨rfl, y⟩ := y
    have z := y vs (.inl h')
    rw [e1] at z
    cases z
    exact ⟨Same.refl _, hp _ _ e2⟩
  stop := fun H' hr ht => ⟨vs, .inl (h.elim (fun h => .inl (hr p _ rfl h)) fun ⟨o, h⟩ => .inr ⟨o, hr p _ rfl h⟩), by rw [r.length]; exact Nat.le_refl _⟩
theorem src_tup {K : PySem.W.Frag} {g : Gh} {F : Fp} {H : Hp} {p : Addr} {vs : List V} {ds : List D} (h : SqT K H p vs) (r : Reps K (Av g F) H vs ds) : Src K g F H (Itt K p) ds (fun _ => False) where
  go := fun O H' hr ht hp i d e => by
    obtain ⟨v, e1, e2⟩ := r.getD e
    have h' := ht p _ h
    refine ⟨⟨vs, v, h', e1⟩, fun x H2 y => ?_⟩
    obtain ⟨rfl, y⟩ := y
    have z := y vs h'
    rw [e1] at z
    cases z
    exact ⟨Same.refl _, hp _ _ e2⟩
  stop := fun H' hr ht => ⟨vs, ht p _ h, by rw [r.length]; exact Nat.le_refl _⟩
/-- the ints lo, lo + 1, .. -/
def rng (lo : Int) (n : Nat) : List D := (List.range n).map fun i => .int (lo + (i : Nat))
theorem src_rng {K : PySem.W.Frag} {g : Gh} {F : Fp} {H : Hp} (lo : Int) (n : Nat) : Src K g F H (Itr lo n) (rng lo n) (fun _ => False) where
  go := fun O H' hr ht hp i d e => by
    unfold rng at e
    rw [List.getElem?_map] at e
    have hi : i < n := by
      by_cases hi : i < n
      · exact hi
      · rw [List.getElem?_eq_none (by simpa using hi)] at e
        cases e
    rw [List.getElem?_range hi] at e
    cases e
    refine ⟨hi, fun x H2 y => ?_⟩
    obtain ⟨rfl, rfl⟩ := y
    exact ⟨Same.refl _, .int _⟩
  stop := fun H' hr ht => by
    show n ≤ (rng lo n).length
    unfold rng
    rw [List.length_map, List.length_range]
    exact Nat.le_refl _
/-- a bound that a range may have (the choice is never reckoned) -/
def cRng (i : Int) : Prop := -(2 ^ 62) ≤ i ∧ i < 2 ^ 62
noncomputable instance (i : Int) : Decidable (cRng i) := Classical.propDecidable _
noncomputable def sRng1 (a : AF) : SF := fun ρ δ => (a ρ δ).bind fun p => match p.1 with
  | [.int j] => if cRng j then some (rng 0 j.toNat, .sh, p.2) else none
  | _ => none
noncomputable def sRng2 (a : AF) : SF := fun ρ δ => (a ρ δ).bind fun p => match p.1 with
  | [.int i, .int j] => if cRng i ∧ cRng j then some (rng i (j - i).toNat, .sh, p.2) else none
  | _ => none
theorem Reps.int1 {K : PySem.W.Frag} {g : Gh} {F : Fp} {H : Hp} {vs : List V} {j : Int} (r : Paired (Rd1 K g F H) vs [.int j]) : vs = [.int j] := by
  cases r with
  | cons r1 rr =>
    cases rr
    rw [r1.int]
theorem Reps.int2 {K : PySem.W.Frag} {g : Gh} {F : Fp} {H : Hp} {vs : List V} {i j : Int} (r : Paired (Rd1 K g F H) vs [.int i, .int j]) : vs = [.int i, .int j] := by
  cases r with
  | cons r1 rr =>
    cases rr with
    | cons r2 rr =>
      cases rr
      rw [r1.int, r2.int]
theorem di_rng1 {tg a : Expr} {fa : AF} {p pos : Pos} (hg : Gl X "range") (hm : X.mg "range" = none) (ha : DR X [a] fa) (hs : starEach [a] X.env = [(false, eval a X.env)] := by rfl) : DI X tg (.Call (.Name "range" p) [a] [] pos) (sRng1 fa) := by
  obtain ⟨t, pa, x⟩ := ha.ex
  refine ⟨_, pi_range1 hg hm pa hs, fun g F σ H ρ δ ds k δ' R S hf q => ?_⟩
  unfold sRng1 at hf
  cases e1 : fa ρ δ with
  | none => rw [e1] at hf; cases hf
  | some c =>
    obtain ⟨es, δ1⟩ := c
    rw [e1] at hf
    simp only [Option.bind_some] at hf
    split at hf
    · rename_i j
      split at hf
      · rename_i hj
        cases hf
        exact x g F σ H ρ δ _ _ _ S e1 fun vs H1 k1 S1 r1 => ⟨j, Reps.int1 r1, hj.1, hj.2, q _ H1 _ k1 S1 (src_rng 0 _) fun a z => z.elim⟩
      · cases hf
    · cases hf
theorem di_rng2 {tg a b : Expr} {fa : AF} {p pos : Pos} (hg : Gl X "range") (hm : X.mg "range" = none) (ha : DR X [a, b] fa) (hs : starEach [a, b] X.env = [(false, eval a X.env), (false, eval b X.env)] := by rfl) (hs2 : starEach [b] X.env = [(false, eval b X.env)] := by rfl) :
    DI X tg (.Call (.Name "range" p) [a, b] [] pos) (sRng2 fa) := by
  obtain ⟨t, pa, x⟩ := ha.ex
  refine ⟨_, pi_range2 hg hm pa hs hs2, fun g F σ H ρ δ ds k δ' R S hf q => ?_⟩
  unfold sRng2 at hf
  cases e1 : fa ρ δ with
  | none => rw [e1] at hf; cases hf
  | some c =>
    obtain ⟨es, δ1⟩ := c
    rw [e1] at hf
    simp only [Option.bind_some] at hf
    split at hf
    · rename_i i j
      split at hf
      · rename_i hj
        cases hf
        exact x g F σ H ρ δ _ _ _ S e1 fun vs H1 k1 S1 r1 => ⟨i, j, Reps.int2 r1, ⟨hj.1.1, hj.1.2, hj.2.1, hj.2.2⟩, q _ H1 _ k1 S1 (src_rng i _) fun a z => z.elim⟩
      · cases hf
    · cases hf
/-- a list, a tuple, the signs of a text -/
def sSeq (f : EF) : SF := fun ρ δ => (f ρ δ).bind fun p => match p.1 with
  | .lst ds => some (ds, p.2.1, p.2.2)
  | .tup ds => some (ds, .sh, p.2.2)
  | .str z => some (z.cps.toList.map fun c => .str ⟨#[c]⟩, .sh, p.2.2)
  | _ => none
theorem src_str {K : PySem.W.Frag} {g : Gh} {F : Fp} {H : Hp} (z : Str) : Src K g F H (Its z) (z.cps.toList.map fun c => .str ⟨#[c]⟩) (fun _ => False) where
  go := fun O H' hr ht hp i d e => by
    rw [List.getElem?_map] at e
    cases e1 : z.cps.toList[i]? with
    | none => rw [e1] at e; cases e
    | some c =>
      rw [e1] at e
      cases e
      have hi : i < z.cps.size := by
        have := (List.getElem?_eq_some_iff.mp e1).1
        simpa using this
      refine ⟨hi, fun x H2 y => ?_⟩
      obtain ⟨rfl, c', h1, rfl⟩ := y
      have e2 : z.cps[i]? = some c := by simpa using e1
      rw [e2] at h1
      cases h1
      exact ⟨Same.refl _, .str _⟩
  stop := fun H' hr ht => by
    show z.cps.size ≤ _
    rw [List.length_map, Array.length_toList]
    exact Nat.le_refl _
theorem di_seq {tg e : Expr} {f : EF} (h : DE X e f) : DI X tg e (sSeq f) := by
  obtain ⟨t, p, x⟩ := h.ex
  refine ⟨_, pi_or (pi_list p) (pi_or (pi_tup p) (pi_str p)), fun g F σ H ρ δ ds k δ' R S hf q => ?_⟩
  unfold sSeq at hf
  cases e1 : f ρ δ with
  | none => rw [e1] at hf; cases hf
  | some c =>
    obtain ⟨d, k0, δ1⟩ := c
    rw [e1] at hf
    simp only [Option.bind_some] at hf
    split at hf
    · rename_i es
      cases hf
      refine .inl (x g F σ H ρ δ _ _ _ _ S e1 fun v H1 k1 S1 r1 => ?_)
      obtain ⟨a, vs, rfl, h1, rs⟩ := (r1.rd S.good).lst
      refine ⟨a, rfl, ⟨vs, .inl h1⟩, q _ H1 _ k1 S1 (src_list h1 rs) fun b hb => ?_⟩
      subst hb
      refine ⟨fun z => rd_there h1 z, ?_, fun hk z => ?_⟩
      · rcases k with _ | _ | _
        · cases r1 with
          | lst _ n _ => exact fun z => n (.inr (.inl z))
        · obtain ⟨p', e', n, t'⟩ := r1
          cases e'
          exact fun z => S.good _ (.inr (.inl z)) n
        · obtain ⟨p', e', n, t'⟩ := r1
          cases e'
          exact n
      · rcases k with _ | _ | _
        · cases r1 with
          | lst _ n _ => exact n z
        · obtain ⟨p', e', n, t'⟩ := r1
          cases e'
          exact S.good _ z n
        · exact absurd rfl hk
    · rename_i es
      cases hf
      refine .inr (.inl (x g F σ H ρ δ _ _ _ _ S e1 fun v H1 k1 S1 r1 => ?_))
      obtain ⟨a, vs, rfl, h1, rs⟩ := (r1.rd S.good).tup
      exact ⟨a, rfl, ⟨vs, h1⟩, q _ H1 _ k1 S1 (src_tup h1 rs) fun b hb => hb.elim⟩
    · rename_i z
      cases hf
      refine .inr (.inr (x g F σ H ρ δ _ _ _ _ S e1 fun v H1 k1 S1 r1 => ?_))
      exact ⟨z, (r1.rd S.good).str, q _ H1 _ k1 S1 (src_str z) fun b hb => hb.elim⟩
    · cases hf
end
end DL
/-! D-layer, part h: for, while, comprehensions, what a def promises, calls of own defs. -/
namespace DL
open PySem PySem.Spec PyProof.Rows L2
section
variable {X : Cx}
/-! ### for -/
/-- the turns of a for -/
def forD (b : BF) (h : HF') : List D → HF'
  | [], ρ, δ => some (.nx, ρ, δ)
  | x :: xs, ρ, δ => (b x ρ).bind fun ρ1 => (h ρ1 δ).bind fun r => match r.1 with
    | .nx => forD b h xs r.2.1 r.2.2
    | .ct => forD b h xs r.2.1 r.2.2
    | .bk => some (.nx, r.2.1, r.2.2)
    | .rt d k => some (.rt d k, r.2.1, r.2.2)
def hFor (s : SF) (b : BF) (h : HF') : HF' := fun ρ δ => (s ρ δ).bind fun p => if p.2.1 = .br then none else forD b h p.1 ρ p.2.2
/-- the loop itself: J yields ds, whose roots nobody of us owns -/
theorem for_run {K : PySem.W.Frag} {H0 : Hp} {g : Gh} {F : Fp} {σ : L2.St} {H : Hp} {ρ ρ' : Rho} {δ δ' : Dr} {ds : List D} {J : It} {rt : Addr → Prop} {o : Ou} {D' : Ends} {b : BF} {h : HF'} {sl : List Nat} {tg : TG} {tb : TS}
    (hb : ∀ (g : Gh) (F : Fp) (σ : L2.St) (H : Hp) (ρ : Rho) (δ : Dr) (v : V) (d : D) (ρ' : Rho) (Q : L2.St → Hp → Prop), SR K g F σ ρ δ H → Rep K (Av g F) H v d → b d ρ = some ρ' → (∀ σ', SR K g F σ' ρ' δ H → (∀ own : List Nat, (∀ i, i ∈ sl → i ∈ own) → wipe σ' own = wipe σ own) → Q σ' H) → tg v σ H Q)
    (ht : ∀ (H0 : Hp) (g : Gh) (F : Fp) (σ : L2.St) (H : Hp) (ρ : Rho) (δ : Dr) (o : Ou) (ρ' : Rho) (δ' : Dr) (D' : Ends), SR K g F σ ρ δ H → SH H0 g F H → h ρ δ = some (o, ρ', δ') → Post K H0 g D' o ρ' δ' → tb D' σ H)
    (S : SR K g F σ ρ δ H) (W : SH H0 g F H) (src : Src K g F H J ds rt) (hr : ∀ a, rt a → H a ≠ none ∧ ¬ Av g F a) (hf : forD b h ds ρ δ = some (o, ρ', δ')) (q : Post K H0 g D' o ρ' δ') :
    ∃ Wv : Nat → Nat → L2.St → Hp → Prop, (∃ m, Wv 0 m σ H) ∧ ∀ i m σ H, Wv i m σ H →
      (J.stop i H ∧ D'.nx σ H) ∨ (J.go i H ∧ ∃ N : L2.St → Hp → Prop, (∀ σ' H', N σ' H' → ∃ m', m' < m ∧ Wv (i + 1) m' σ' H') ∧ ∀ x H', J.yld i H x H' → tg x σ H' fun σ2 H2 => tb { D' with nx := N, ct := N, bk := D'.nx } σ2 H2) := by
  refine ⟨fun i m σ1 H1 => m = ds.length - i ∧ i ≤ ds.length ∧ ∃ F1 ρ1 δ1, SR K g F1 σ1 ρ1 δ1 H1 ∧ SH (Base F H) g F1 H1 ∧ forD b h (ds.drop i) ρ1 δ1 = some (o, ρ', δ'), ⟨ds.length, rfl, Nat.zero_le _, F, ρ, δ, S, SH.inner S, hf⟩, ?_⟩
  rintro i m σ1 H1 ⟨rfl, hi, F1, ρ1, δ1, S1, W1, hf1⟩
  have st1 : ∀ a o, rt a → H a = some o → H1 a = some o := fun a o ha he => (stay_at S W1 he (hr a ha).2).1
  have st2 : ∀ a xs, SqT K H a xs → SqT K H1 a xs := fun a xs he => stay_T S W1 he
  by_cases hlt : i < ds.length
  · have e0 : ds[i]? = some ds[i] := List.getElem?_eq_getElem hlt
    obtain ⟨gg, yy⟩ := src.go (Av g F1) H1 st1 st2 (fun v d r => Rep.stay S W1 r) i _ e0
    refine .inr ⟨gg, fun σ2 H2 => ∃ F2 ρ2 δ2, SR K g F2 σ2 ρ2 δ2 H2 ∧ SH (Base F H) g F2 H2 ∧ forD b h (ds.drop (i + 1)) ρ2 δ2 = some (o, ρ', δ'), fun σ2 H2 ⟨F2, ρ2, δ2, a1, a2, a3⟩ => ⟨ds.length - (i + 1), by omega, rfl, hlt, F2, ρ2, δ2, a1, a2, a3⟩, fun x H2 y => ?_⟩
    obtain ⟨sm, rx⟩ := yy x H2 y
    rw [List.drop_eq_getElem_cons hlt] at hf1
    simp only [forD] at hf1
    cases e1 : b ds[i] ρ1 with
    | none => rw [e1] at hf1; cases hf1
    | some ρ2 =>
      rw [e1] at hf1
      simp only [Option.bind_some] at hf1
      refine hb g F1 σ1 H2 ρ1 δ1 x _ ρ2 _ (S1.same sm) rx e1 fun σ3 S3 _ => ?_
      cases e2 : h ρ2 δ1 with
      | none => rw [e2] at hf1; cases hf1
      | some c =>
        obtain ⟨o3, ρ3, δ3⟩ := c
        rw [e2] at hf1
        simp only [Option.bind_some] at hf1
        have W3 : SH (Base F H) g F1 H2 := W1.grow (Keep.of_same sm)
        cases o3 with
        | nx => exact ht (Base F H) g F1 σ3 H2 ρ2 δ1 .nx ρ3 δ3 _ S3 W3 e2 fun F4 σ4 H4 S4 W4 => ⟨F4, ρ3, δ3, S4, W4, hf1⟩
        | ct => exact ht (Base F H) g F1 σ3 H2 ρ2 δ1 .ct ρ3 δ3 _ S3 W3 e2 fun F4 σ4 H4 S4 W4 => ⟨F4, ρ3, δ3, S4, W4, hf1⟩
        | bk =>
          cases hf1
          exact ht (Base F H) g F1 σ3 H2 ρ2 δ1 .bk _ _ _ S3 W3 e2 fun F4 σ4 H4 S4 W4 => q F4 σ4 H4 S4 (W.outer W4)
        | rt d k =>
          cases hf1
          refine ht H0 g F1 σ3 H2 ρ2 δ1 (.rt d k) _ _ _ S3 ((W.outer W3)) e2 fun v H4 fin => ?_
          exact q v H4 fin
  · have e : i = ds.length := by omega
    subst e
    rw [List.drop_length] at hf1
    cases hf1
    exact .inl ⟨src.stop H1 st1 st2, q F1 σ1 H1 S1 (W.outer W1)⟩
theorem ds_for {tg iter : Expr} {body : List Stmt} {pos : Pos} {s : SF} {b : BF} {h : HF'} {sl : List Nat} (hp : PassesOwn (model X.prog X.w) X.A X.env X.xe) (hc : X.calm = true) (hi : DI X tg iter s) (hg : DG X tg b sl) (hb : DSs X body h)
    (hs : ∀ x, foldedSetIterable iter X.env x = pure x := by intro _; rfl) : DS X (.For tg iter body [] pos) (hFor s b h) := by
  obtain ⟨wi, p1, x1⟩ := hi.ex
  obtain ⟨tg', p2, x2⟩ := hg.ex
  obtain ⟨tb, p3, x3⟩ := hb.ex
  refine ⟨_, ps_for hp hc p1 p2 p3 hs, fun H0 g F σ H ρ δ o ρ' δ' D' S W hf q => ?_⟩
  unfold hFor at hf
  cases e1 : s ρ δ with
  | none => rw [e1] at hf; cases hf
  | some c =>
    obtain ⟨ds, k, δ1⟩ := c
    rw [e1] at hf
    simp only [Option.bind_some] at hf
    split at hf
    · cases hf
    · rename_i hk
      exact x1 g F σ H ρ δ ds k δ1 _ S e1 fun J H1 rt k1 S1 src hr => for_run x2 x3 S1 (W.grow k1) src (fun a z => ⟨(hr a z).1, (hr a z).2.2 hk⟩) hf q
/-- for x in y: y one's own list, out of hand from then on -/
def hForV (j : Nat) (b : BF) (h : HF') : HF' := fun ρ δ => match ρ[j]? with
  | some (.ow (.lst ds)) => forD b h ds (ρ.set j (.sh (.lst ds))) δ
  | some (.sh (.lst ds)) => forD b h ds ρ δ
  | some (.sh (.tup ds)) => forD b h ds ρ δ
  | some (.sh (.str z)) => forD b h (z.cps.toList.map fun c => .str ⟨#[c]⟩) ρ δ
  | _ => none
theorem ds_forV {tg : Expr} {body : List Stmt} {pos py : Pos} {j : Nat} {y : Str} {b : BF} {h : HF'} {sl : List Nat} (hp : PassesOwn (model X.prog X.w) X.A X.env X.xe) (hc : X.calm = true) (hy : PE X (.Name y py) (tVar j)) (hg : DG X tg b sl) (hb : DSs X body h)
    (hs : ∀ x, foldedSetIterable (.Name y py) X.env x = pure x := by intro _; rfl) : DS X (.For tg (.Name y py) body [] pos) (hForV j b h) := by
  obtain ⟨tg', p2, x2⟩ := hg.ex
  obtain ⟨tb, p3, x3⟩ := hb.ex
  refine ⟨_, ps_for hp hc (pi_or (pi_list hy) (pi_or (pi_tup hy) (pi_str hy))) p2 p3 hs, fun H0 g F σ H ρ δ o ρ' δ' D' S W hf q => ?_⟩
  unfold hForV at hf
  split at hf
  · rename_i ds e0
    obtain ⟨p, a1, a2, S2⟩ := S.freeze e0
    cases a2 with
    | lst h1 n r1 =>
      rename_i vs
      exact .inl ⟨_, a1, _, rfl, ⟨_, .inl (.inl h1)⟩, for_run x2 x3 S2 (W.sub (FSub.nil F j)) (src_list (.inl h1) r1) (fun a z => by rw [z]; exact ⟨fun z => rd_there (.inl h1) z, n⟩) hf q⟩
  · rename_i ds e0
    obtain ⟨v, a1, a2⟩ := S.slot j _ e0
    cases a2 with
    | lst h1 n r1 =>
      exact .inl ⟨_, a1, _, rfl, ⟨_, .inl (.inl h1)⟩, for_run x2 x3 S W (src_list (.inl h1) r1) (fun a z => by rw [z]; exact ⟨fun z => rd_there (.inl h1) z, n⟩) hf q⟩
  · rename_i ds e0
    obtain ⟨v, a1, a2⟩ := S.slot j _ e0
    cases a2 with
    | tup h1 r1 => exact .inr (.inl ⟨_, a1, _, rfl, ⟨_, h1⟩, for_run x2 x3 S W (src_tup h1 r1) (fun a z => z.elim) hf q⟩)
  · rename_i z e0
    obtain ⟨v, a1, a2⟩ := S.slot j _ e0
    cases a2
    exact .inr (.inr ⟨_, a1, _, rfl, for_run x2 x3 S W (src_str z) (fun a z => z.elim) hf q⟩)
  · cases hf
/-! ### while -/
/-- so many turns at most -/
def whD (c : TF) (h : HF') : Nat → HF'
  | 0, _, _ => none
  | n + 1, ρ, δ => (c ρ δ).bind fun p => if p.1 = true then (h ρ p.2).bind fun r => match r.1 with
      | .nx => whD c h n r.2.1 r.2.2
      | .ct => whD c h n r.2.1 r.2.2
      | .bk => some (.nx, r.2.1, r.2.2)
      | .rt d k => some (.rt d k, r.2.1, r.2.2)
    else some (.nx, ρ, p.2)
theorem whD_mono {c : TF} {h : HF'} : ∀ {n m : Nat} {ρ : Rho} {δ : Dr} {r : Ou × Rho × Dr}, n ≤ m → whD c h n ρ δ = some r → whD c h m ρ δ = some r
  | 0, _, _, _, _, _, e => by cases e
  | n + 1, 0, _, _, _, hl, _ => absurd hl (by omega)
  | n + 1, m + 1, ρ, δ, r, hl, e => by
    simp only [whD] at e ⊢
    cases e1 : c ρ δ with
    | none => rw [e1] at e; cases e
    | some p =>
      obtain ⟨b, δ1⟩ := p
      rw [e1] at e
      simp only [Option.bind_some] at e ⊢
      cases b with
      | false => exact e
      | true =>
        simp only [if_true] at e ⊢
        cases e2 : h ρ δ1 with
        | none => rw [e2] at e; cases e
        | some q =>
          obtain ⟨o, ρ2, δ2⟩ := q
          rw [e2] at e
          simp only [Option.bind_some] at e ⊢
          cases o with
          | nx => exact whD_mono (by omega) e
          | ct => exact whD_mono (by omega) e
          | bk => exact e
          | rt d k => exact e
/-- more turns than any loop takes -/
def turns : Nat := 1000000000
def hWhile (c : TF) (h : HF') : HF' := fun ρ δ => whD c h turns ρ δ
theorem ds_while {c : Expr} {body : List Stmt} {pos : Pos} {tc : TF} {h : HF'} (hp : PassesOwn (model X.prog X.w) X.A X.env X.xe) (hc : DT X c tc) (hb : DSs X body h) : DS X (.While c body [] pos) (hWhile tc h) := by
  obtain ⟨t1, p1, x1⟩ := hc.ex
  obtain ⟨t2, p2, x2⟩ := hb.ex
  refine ⟨_, ps_while hp p1 p2, fun H0 g F σ H ρ δ o ρ' δ' D' S W hf q => ?_⟩
  refine ⟨fun n σ1 H1 => ∃ F1 ρ1 δ1, SR X.K g F1 σ1 ρ1 δ1 H1 ∧ SH H0 g F1 H1 ∧ whD tc h n ρ1 δ1 = some (o, ρ', δ'), ⟨turns, F, ρ, δ, S, W, hf⟩, ?_⟩
  rintro n σ1 H1 ⟨F1, ρ1, δ1, S1, W1, hf1⟩
  cases n with
  | zero => cases hf1
  | succ n =>
    simp only [whD] at hf1
    cases e1 : tc ρ1 δ1 with
    | none => rw [e1] at hf1; cases hf1
    | some p =>
      obtain ⟨b, δ2⟩ := p
      rw [e1] at hf1
      simp only [Option.bind_some] at hf1
      refine x1 g F1 σ1 H1 ρ1 δ1 b δ2 _ S1 e1 fun H2 k2 S2 => ?_
      cases b with
      | false =>
        rw [if_neg Bool.false_ne_true]
        cases hf1
        exact q F1 σ1 H2 S2 (W1.grow k2)
      | true =>
        rw [if_pos rfl]
        simp only [if_true] at hf1
        cases e2 : h ρ1 δ2 with
        | none => rw [e2] at hf1; cases hf1
        | some c =>
          obtain ⟨o3, ρ3, δ3⟩ := c
          rw [e2] at hf1
          simp only [Option.bind_some] at hf1
          refine ⟨fun σ3 H3 => ∃ F3 ρ3 δ3, SR X.K g F3 σ3 ρ3 δ3 H3 ∧ SH H0 g F3 H3 ∧ whD tc h n ρ3 δ3 = some (o, ρ', δ'), fun σ3 H3 z => ⟨n, Nat.lt_succ_self n, z⟩, ?_⟩
          cases o3 with
          | nx => exact x2 H0 g F1 σ1 H2 ρ1 δ2 .nx ρ3 δ3 _ S2 (W1.grow k2) e2 fun F4 σ4 H4 S4 W4 => ⟨F4, ρ3, δ3, S4, W4, hf1⟩
          | ct => exact x2 H0 g F1 σ1 H2 ρ1 δ2 .ct ρ3 δ3 _ S2 (W1.grow k2) e2 fun F4 σ4 H4 S4 W4 => ⟨F4, ρ3, δ3, S4, W4, hf1⟩
          | bk =>
            cases hf1
            exact x2 H0 g F1 σ1 H2 ρ1 δ2 .bk _ _ _ S2 (W1.grow k2) e2 fun F4 σ4 H4 S4 W4 => q F4 σ4 H4 S4 W4
          | rt d k =>
            cases hf1
            exact x2 H0 g F1 σ1 H2 ρ1 δ2 (.rt d k) _ _ _ S2 (W1.grow k2) e2 fun v H4 fin => q v H4 fin
/-! ### list comprehensions -/
/-- the tests of a comprehension -/
structure DTs (X : Cx) (ifs : List Expr) (f : TF) : Prop where
  ex : ∃ t : TT, PTs X ifs t ∧ ∀ (g : Gh) (F : Fp) (σ : L2.St) (H : Hp) (ρ : Rho) (δ : Dr) (b : Bool) (δ' : Dr) (Q : Bool → Hp → Prop), SR X.K g F σ ρ δ H → f ρ δ = some (b, δ') →
    (∀ H', Keep g.Pd H H' → SR X.K g F σ ρ δ' H' → Q b H') → t σ H Q
def fYes : TF := fun _ δ => some (true, δ)
theorem dts_nil : DTs X [] fYes := ⟨_, pts_nil, fun g F σ H ρ δ b δ' Q S hf q => by
  cases hf
  exact q H (.refl _ _) S⟩
theorem dts_one {c : Expr} {f : TF} (h : DT X c f) : DTs X [c] f := by
  obtain ⟨t, p, x⟩ := h.ex
  exact ⟨t, pts_one p, x⟩
/-- the names of a comprehension's block are forgotten -/
def wip (ρ : Rho) : List Nat → Rho
  | [] => ρ
  | v :: vs => (wip ρ vs).set v .un
def lcD (b : BF) (t : TF) (f : EF) (ρ : Rho) : List D → Dr → Option (List D × Dr)
  | [], δ => some ([], δ)
  | x :: xs, δ => (b x ρ).bind fun ρ1 => (t ρ1 δ).bind fun c => if c.1 = true then (f ρ1 c.2).bind fun p => if p.2.1 = .br then none else (lcD b t f ρ xs p.2.2).map fun q => (p.1 :: q.1, q.2)
    else lcD b t f ρ xs c.2
def fLc (s : SF) (b : BF) (t : TF) (f : EF) (own : List Nat) : EF := fun ρ δ => (s ρ δ).bind fun p => if p.1.length ≤ sizeLine then (lcD b t f (wip ρ own) p.1 p.2.2).map fun q => (.lst q.1, .ow, q.2) else none
theorem SR.wip {K : PySem.W.Frag} {g : Gh} {F : Fp} {σ : L2.St} {ρ : Rho} {δ : Dr} {H : Hp} (S : SR K g F σ ρ δ H) : ∀ own : List Nat, SR K g F (wipe σ own) (wip ρ own) δ H
  | [] => S
  | v :: vs => by
    have T := (S.wip vs).drop v
    refine ⟨by show ((wipe σ vs).set v none).length = ((DL.wip ρ vs).set v .un).length; rw [List.length_set]; exact T.len, fun i s h => ?_, T.apart, T.new, T.dom, T.there, T.mt, T.deal⟩
    have h : ((DL.wip ρ vs).set v .un)[i]? = some s := h
    rcases getSet h with ⟨e, e2, hl⟩ | ⟨e, h'⟩
    · subst e2
      trivial
    · have z := T.slot i s h
      show SlotR K g F H i ((wipe σ vs).set v none)[i]? s
      rw [List.getElem?_set_ne (Ne.symm e)]
      exact z
theorem wipe_none {σ : L2.St} : ∀ {own : List Nat} {i : Nat}, i ∈ own → i < σ.length → (wipe σ own)[i]? = some none
  | v :: vs, i, h, hl => by
    show ((wipe σ vs).set v none)[i]? = some none
    by_cases e : v = i
    · subst e
      exact List.getElem?_set_self (by rw [wipe_length]; exact hl)
    · rw [List.getElem?_set_ne e]
      rcases List.mem_cons.mp h with h | h
      · exact absurd h.symm e
      · exact wipe_none h hl
theorem wipe_same {σ : L2.St} : ∀ {own : List Nat} {i : Nat}, i ∉ own → (wipe σ own)[i]? = σ[i]?
  | [], _, _ => rfl
  | v :: vs, i, h => by
    rw [List.mem_cons, not_or] at h
    show ((wipe σ vs).set v none)[i]? = _
    rw [List.getElem?_set_ne (Ne.symm h.1)]
    exact wipe_same h.2
theorem wipe_wipe (σ : L2.St) (own : List Nat) : wipe (wipe σ own) own = wipe σ own := by
  apply List.ext_getElem?
  intro i
  by_cases h : i ∈ own
  · by_cases hl : i < σ.length
    · rw [wipe_none h (by rw [wipe_length]; exact hl), wipe_none h hl]
    · rw [List.getElem?_eq_none (by rw [wipe_length, wipe_length]; omega), List.getElem?_eq_none (by rw [wipe_length]; omega)]
  · rw [wipe_same h]
theorem lc_run {K : PySem.W.Frag} {g : Gh} {F : Fp} {σ : L2.St} {H : Hp} {ρ : Rho} {δ δ' : Dr} {ds out : List D} {J : It} {rt : Addr → Prop} {b : BF} {t : TF} {f : EF} {own sl : List Nat} {tg : TG} {tt : TT} {te : TE} {Q : VK}
    (hb : ∀ (g : Gh) (F : Fp) (σ : L2.St) (H : Hp) (ρ : Rho) (δ : Dr) (v : V) (d : D) (ρ' : Rho) (Q : L2.St → Hp → Prop), SR K g F σ ρ δ H → Rep K (Av g F) H v d → b d ρ = some ρ' → (∀ σ', SR K g F σ' ρ' δ H → (∀ own : List Nat, (∀ i, i ∈ sl → i ∈ own) → wipe σ' own = wipe σ own) → Q σ' H) → tg v σ H Q)
    (ht : ∀ (g : Gh) (F : Fp) (σ : L2.St) (H : Hp) (ρ : Rho) (δ : Dr) (b : Bool) (δ' : Dr) (Q : Bool → Hp → Prop), SR K g F σ ρ δ H → t ρ δ = some (b, δ') → (∀ H', Keep g.Pd H H' → SR K g F σ ρ δ' H' → Q b H') → tt σ H Q)
    (he : ∀ (g : Gh) (F : Fp) (σ : L2.St) (H : Hp) (ρ : Rho) (δ : Dr) (d : D) (k : Kd) (δ' : Dr) (Q : VK), SR K g F σ ρ δ H → f ρ δ = some (d, k, δ') → (∀ v H', Keep g.Pd H H' → SR K g F σ ρ δ' H' → Res K g F H H' k v d → Q v H') → te σ H Q)
    (S : SR K g F σ ρ δ H) (src : Src K g F H J ds rt) (hr : ∀ a, rt a → H a ≠ none ∧ ¬ g.Pd a) (hl : ds.length ≤ sizeLine) (hf : lcD b t f (wip ρ own) ds δ = some (out, δ'))
    (hw : ∀ i, i ∈ sl → i ∈ own)
    (q : ∀ D H', Keep g.Pd H H' → SR K g F σ ρ δ' H' → Res K g F H H' .ow (.ref D) (.lst out) → Q (.ref D) H') :
    ∀ D, H D = none → ∃ Wv : Nat → Nat → Hp → Prop, (∃ m, Wv 0 m (upd H D (.lst []))) ∧ ∀ i m H, Wv i m H →
      (J.stop i H ∧ Q (.ref D) H) ∨ (J.go i H ∧ ∃ Nx : Hp → Prop, (∀ H', Nx H' → ∃ m', m' < m ∧ Wv (i + 1) m' H') ∧ ∀ x H', J.yld i H x H' → tg x (wipe σ own) H' fun σ2 H2 => wipe σ2 own = wipe σ own ∧ tt σ2 H2 fun b H3 =>
        if b = true then te σ2 H3 fun y H4 => ∃ acc, H4 D = some (.lst acc) ∧ acc.length < sizeLine ∧ Nx (upd H4 D (.lst (acc ++ [y]))) else Nx H3) := by
  intro D hD
  have npd : ¬ g.Pd D := fun z => S.fresh hD (.inr (.inl z))
  -- the new list is nobody's but ours
  let g' : Gh := ⟨fun a => g.A a ∨ a = D, g.P⟩
  refine ⟨fun i m H1 => m = ds.length - i ∧ i ≤ ds.length ∧ ∃ δ1 acc os rest, H1 D = some (.lst acc) ∧ Reps K (Av g' F) H1 acc os ∧ os.length ≤ i ∧ Keep g.Pd H H1 ∧ SR K g' F σ ρ δ1 H1 ∧ lcD b t f (wip ρ own) (ds.drop i) δ1 = some (rest, δ') ∧ os ++ rest = out,
    ⟨ds.length, rfl, Nat.zero_le _, δ, [], [], out, upd_same, .nil, Nat.le_refl _, Keep.of_same (same_upd hD), S.wide (Keep.of_same (same_upd hD)) (S.deal.same (same_upd hD)) hD (by rw [upd_same]; simp), hf, rfl⟩, ?_⟩
  rintro i m H1 ⟨rfl, hi, δ1, acc, os, rest, a1, a2, a3, k1, S1, a4, a5⟩
  have av : ∀ a, Av g' F a → Av g F a ∨ H a = none := by
    rintro a ((z | z) | z | z)
    · exact .inl (.inl z)
    · exact .inr (by rw [z]; exact hD)
    · exact .inl (.inr (.inl z))
    · exact .inl (.inr (.inr z))
  have st1 : ∀ a o, rt a → H a = some o → H1 a = some o := fun a o ha h => k1.at_ h (hr a ha).2
  have st2 : ∀ a xs, SqT K H a xs → SqT K H1 a xs := fun a xs h => SqT.keep k1 h
  have st3 : ∀ v d, Rep K (Av g F) H v d → Rep K (Av g' F) H1 v d := fun v d r => (r.more av).keep k1 fun a z => .inr (.inl z)
  by_cases hlt : i < ds.length
  · have e0 : ds[i]? = some ds[i] := List.getElem?_eq_getElem hlt
    obtain ⟨gg, yy⟩ := src.go (Av g' F) H1 st1 st2 st3 i _ e0
    refine .inr ⟨gg, fun H2 => ∃ δ2 acc2 os2 rest2, H2 D = some (.lst acc2) ∧ Reps K (Av g' F) H2 acc2 os2 ∧ os2.length ≤ i + 1 ∧ Keep g.Pd H H2 ∧ SR K g' F σ ρ δ2 H2 ∧ lcD b t f (wip ρ own) (ds.drop (i + 1)) δ2 = some (rest2, δ') ∧ os2 ++ rest2 = out,
      fun H2 ⟨δ2, acc2, os2, rest2, z⟩ => ⟨ds.length - (i + 1), by omega, rfl, hlt, δ2, acc2, os2, rest2, z⟩, fun x H2 y => ?_⟩
    obtain ⟨sm, rx⟩ := yy x H2 y
    have a4' := a4
    rw [List.drop_eq_getElem_cons hlt] at a4
    simp only [lcD] at a4
    cases e1 : b ds[i] (wip ρ own) with
    | none => rw [e1] at a4; cases a4
    | some ρ2 =>
      rw [e1] at a4
      simp only [Option.bind_some] at a4
      have S2 := S1.same sm
      refine hb g' F (wipe σ own) H2 (wip ρ own) δ1 x _ ρ2 _ (S2.wip own) rx e1 fun σ2 T2 hw3 => ⟨(hw3 own hw).trans (wipe_wipe σ own), ?_⟩
      cases e2 : t ρ2 δ1 with
      | none => rw [e2] at a4; cases a4
      | some c =>
        obtain ⟨c, δ2⟩ := c
        rw [e2] at a4
        simp only [Option.bind_some] at a4
        refine ht g' F σ2 H2 ρ2 δ1 c δ2 _ T2 e2 fun H3 k3 T3 => ?_
        have k13 : Keep g.Pd H1 H3 := (Keep.of_same sm).trans k3
        have S3 : SR K g' F σ ρ δ2 H3 := S1.grow k13 T3.deal
        have b1 : H3 D = some (.lst acc) := k13.at_ a1 npd
        have b2 : Reps K (Av g' F) H3 acc os := a2.keep k13 fun a z => .inr (.inl z)
        cases c with
        | false =>
          rw [if_neg Bool.false_ne_true]
          simp only [Bool.false_eq_true, if_false] at a4
          exact ⟨δ2, acc, os, rest, b1, b2, by omega, k1.trans k13, S3, a4, a5⟩
        | true =>
          rw [if_pos rfl]
          simp only [if_true] at a4
          cases e3 : f ρ2 δ2 with
          | none => rw [e3] at a4; cases a4
          | some c =>
            obtain ⟨d, kd, δ3⟩ := c
            rw [e3] at a4
            simp only [Option.bind_some] at a4
            split at a4
            · cases a4
            · rename_i hk
              cases e4 : lcD b t f (wip ρ own) (ds.drop (i + 1)) δ3 with
              | none => rw [e4] at a4; cases a4
              | some c =>
                obtain ⟨r2, δ4⟩ := c
                rw [e4] at a4
                cases a4
                refine he g' F σ2 H3 ρ2 δ2 d kd δ3 _ T3 e3 fun v H4 k4 T4 r4 => ?_
                have k34 : Keep g.Pd H3 H4 := k4
                have c1 : H4 D = some (.lst acc) := k34.at_ b1 npd
                have rv := r4.rep T3.good hk
                have c2 : Reps K (Av g' F) H4 (acc ++ [v]) (os ++ [d]) := (b2.keep k34 fun a z => .inr (.inl z)).append (.cons rv .nil)
                have kD : Keep (fun a => a = D) H4 (upd H4 D (.lst (acc ++ [v]))) := keep_upd c1 trivial trivial rfl
                have hla := b2.length
                refine ⟨acc, c1, by omega, δ3, acc ++ [v], os ++ [d], r2, upd_same, c2.keep kD fun a z => .inl (.inr z), by rw [List.length_append, List.length_singleton]; omega, ?_, ?_, e4, by rw [← a5]; simp⟩
                · intro a o h
                  have na : a ≠ D := fun z => by rw [z, hD] at h; cases h
                  rcases (k1.trans (k13.trans k34)) a o h with h1 | ⟨p, m, o', h1, m1⟩
                  · exact .inl (by rw [upd_ne na]; exact h1)
                  · exact .inr ⟨p, m, o', by rw [upd_ne na]; exact h1, m1⟩
                · have S4 : SR K g' F σ ρ δ3 H4 := S3.grow k34 T4.deal
                  refine ⟨S4.len, fun j s h => ?_, S4.apart, S4.new, S4.dom, fun a h => kD.there (S4.there a h), fun j a h => ?_, fun p' q' e => ?_⟩
                  · have z := S4.slot j s h
                    cases s with
                    | un => trivial
                    | sh d =>
                      obtain ⟨x, a, r⟩ := z
                      exact ⟨x, a, r.keep kD fun a z => .inl (.inr z)⟩
                    | ow d =>
                      obtain ⟨p', a, hf', tp⟩ := z
                      exact ⟨p', a, hf', tp.keep kD (fun a z => .inl (.inr z)) fun z => (S4.new j p' (by rw [hf']; simp)).1 (.inr z)⟩
                    | dl => exact z
                  · obtain ⟨o, ho, mo⟩ := S4.mt j a h
                    exact ⟨o, kD.at_ ho fun z => (S4.new j a h).1 (.inr z), mo⟩
                  · obtain ⟨h1, h2, h3⟩ := S4.deal p' q' e
                    exact ⟨h1, kD.at_ h2 fun z => npd ⟨p', q', e, .inl z.symm⟩, kD.at_ h3 fun z => npd ⟨p', q', e, .inr z.symm⟩⟩
  · have e : i = ds.length := by omega
    subst e
    rw [List.drop_length] at a4
    cases a4
    rw [List.append_nil] at a5
    subst a5
    refine .inl ⟨src.stop H1 st1 st2, q D H1 k1 ⟨S1.len, fun j s h => ?_, S1.apart, fun j a h => ⟨fun z => (S1.new j a h).1 (.inl z), (S1.new j a h).2⟩, fun a h => S1.dom a (.inl h), fun a h => S1.there a (h.elim (fun z => .inl (.inl z)) .inr), S1.mt, S1.deal⟩ ⟨D, rfl, hD, acc, a1, a2.weak fun a z => ?_⟩⟩
    · have z := S1.slot j s h
      have wk : ∀ a, Av g F a → Av g' F a := fun a z => z.elim (fun z => .inl (.inl z)) .inr
      cases s with
      | un => trivial
      | sh d =>
        obtain ⟨x, a, r⟩ := z
        exact ⟨x, a, r.weak wk⟩
      | ow d =>
        obtain ⟨p', a, hf', tp⟩ := z
        exact ⟨p', a, hf', tp.weak wk⟩
      | dl => exact z
    · rcases z with (z | z) | z
      · exact .inl (.inl z)
      · exact .inr z
      · exact .inl (.inr z)
theorem de_lc {elt tg iter : Expr} {ifs : List Expr} {scope : Scope} {own : List (Str × Nat)} {pos : Pos} {s : SF} {b : BF} {t : TF} {f : EF} {sl : List Nat} (hc : X.calm = true) (hN : X.N.Nodup) (hi : DI X tg iter s) (ok : BlkOk X.N X.env.scope scope own)
    (hg : ∃ g0 : TG, (∀ (s : Shared) (H : Hp) (C : Addr) (cl : List (Str × Addr)) (fp : List Addr), PG (X.blk s H scope (compEnvC scope cl C X.env) fp) tg g0) ∧ ∀ (g : Gh) (F : Fp) (σ : L2.St) (H : Hp) (ρ : Rho) (δ : Dr) (v : V) (d : D) (ρ' : Rho) (Q : L2.St → Hp → Prop), SR X.K g F σ ρ δ H → Rep X.K (Av g F) H v d → b d ρ = some ρ' →
      (∀ σ', SR X.K g F σ' ρ' δ H → (∀ own : List Nat, (∀ i, i ∈ sl → i ∈ own) → wipe σ' own = wipe σ own) → Q σ' H) → g0 v σ H Q)
    (ht : ∃ t0 : TT, (∀ (s : Shared) (H : Hp) (C : Addr) (cl : List (Str × Addr)) (fp : List Addr), PTs (X.blk s H scope (compEnvC scope cl C X.env) fp) ifs t0) ∧ ∀ (g : Gh) (F : Fp) (σ : L2.St) (H : Hp) (ρ : Rho) (δ : Dr) (b : Bool) (δ' : Dr) (Q : Bool → Hp → Prop), SR X.K g F σ ρ δ H → t ρ δ = some (b, δ') →
      (∀ H', Keep g.Pd H H' → SR X.K g F σ ρ δ' H' → Q b H') → t0 σ H Q)
    (he : ∃ e0 : TE, (∀ (s : Shared) (H : Hp) (C : Addr) (cl : List (Str × Addr)) (fp : List Addr), PE (X.blk s H scope (compEnvC scope cl C X.env) fp) elt e0) ∧ ∀ (g : Gh) (F : Fp) (σ : L2.St) (H : Hp) (ρ : Rho) (δ : Dr) (d : D) (k : Kd) (δ' : Dr) (Q : VK), SR X.K g F σ ρ δ H → f ρ δ = some (d, k, δ') →
      (∀ v H', Keep g.Pd H H' → SR X.K g F σ ρ δ' H' → Res X.K g F H H' k v d → Q v H') → e0 σ H Q)
    (hsl : ∀ i, i ∈ sl → i ∈ own.map (·.2)) (hs : ∀ x, foldedSetIterable iter X.env x = pure x := by intro _; rfl) : DE X (.ListComp elt [⟨tg, iter, ifs, 0⟩] scope pos) (fLc s b t f (own.map (·.2))) := by
  obtain ⟨wi, p1, x1⟩ := hi.ex
  obtain ⟨g0, pg, xg⟩ := hg
  obtain ⟨t0, pt, xt⟩ := ht
  obtain ⟨e0, pe, xe⟩ := he
  refine ⟨_, pe_lc hc hN p1 ok pg pt pe hs, fun g F σ H ρ δ d k δ' Q S hf q => ?_⟩
  unfold fLc at hf
  cases e1 : s ρ δ with
  | none => rw [e1] at hf; cases hf
  | some c =>
    obtain ⟨ds, k0, δ1⟩ := c
    rw [e1] at hf
    simp only [Option.bind_some] at hf
    split at hf
    · rename_i hl
      cases e2 : lcD b t f (wip ρ (own.map (·.2))) ds δ1 with
      | none => rw [e2] at hf; cases hf
      | some c =>
        obtain ⟨out, δ2⟩ := c
        rw [e2] at hf
        cases hf
        refine x1 g F σ H ρ δ ds k0 δ1 _ S e1 fun J H1 rt k1 S1 src hr => ?_
        exact lc_run xg xt xe S1 src (fun a z => ⟨(hr a z).1, (hr a z).2.1⟩) hl e2 hsl fun D H2 k2 S2 r2 => q _ H2 (k1.trans k2) S2 (r2.earlier k1)
    · cases hf
/-- the reading that an expression's meaning gives, whatever the context -/
def tD (K : PySem.W.Frag) (f : EF) : TE := fun σ H Q => ∃ (g : Gh) (F : Fp) (ρ : Rho) (δ : Dr) (d : D) (k : Kd) (δ' : Dr), SR K g F σ ρ δ H ∧ f ρ δ = some (d, k, δ') ∧ ∀ v H', Keep g.Pd H H' → SR K g F σ ρ δ' H' → Res K g F H H' k v d → Q v H'
theorem DE.can {e : Expr} {f : EF} (h : DE X e f) : PE X e (tD X.K f) := by
  obtain ⟨t, p, x⟩ := h.ex
  refine ⟨fun pins s σ H Q I ⟨g, F, ρ, δ, d, k, δ', S, hf, q⟩ => p.run pins s σ H Q I ?_⟩
  exact x g F σ H ρ δ d k δ' Q S hf q
def tT (K : PySem.W.Frag) (f : TF) : TT := fun σ H Q => ∃ (g : Gh) (F : Fp) (ρ : Rho) (δ : Dr) (b : Bool) (δ' : Dr), SR K g F σ ρ δ H ∧ f ρ δ = some (b, δ') ∧ ∀ H', Keep g.Pd H H' → SR K g F σ ρ δ' H' → Q b H'
theorem DTs.can {ifs : List Expr} {f : TF} (h : DTs X ifs f) : PTs X ifs (tT X.K f) := by
  obtain ⟨t, p, x⟩ := h.ex
  refine ⟨fun pins s σ H Q I ⟨g, F, ρ, δ, b, δ', S, hf, q⟩ => p.run pins s σ H Q I ?_⟩
  exact x g F σ H ρ δ b δ' Q S hf q
def tGt (K : PySem.W.Frag) (b : BF) (sl : List Nat) : TG := fun v σ H Q => ∃ (g : Gh) (F : Fp) (ρ : Rho) (δ : Dr) (d : D) (ρ' : Rho), SR K g F σ ρ δ H ∧ Rep K (Av g F) H v d ∧ b d ρ = some ρ' ∧ ∀ σ', SR K g F σ' ρ' δ H → (∀ own : List Nat, (∀ i, i ∈ sl → i ∈ own) → wipe σ' own = wipe σ own) → Q σ' H
theorem DG.can {tg : Expr} {b : BF} {sl : List Nat} (h : DG X tg b sl) : PG X tg (tGt X.K b sl) := by
  obtain ⟨t, p, x⟩ := h.ex
  refine ⟨fun pins s σ H v u Q I r ⟨g, F, ρ, δ, d, ρ', S, rp, hb, q⟩ => p.run pins s σ H v u Q I r ?_⟩
  exact x g F σ H ρ δ v d ρ' Q S rp hb q
/-- [elt for tg in iter if ..] -/
theorem de_list {elt tg iter : Expr} {ifs : List Expr} {scope : Scope} {own : List (Str × Nat)} {pos : Pos} {s : SF} {b : BF} {t : TF} {f : EF} {sl : List Nat} (hc : X.calm = true) (hN : X.N.Nodup) (hi : DI X tg iter s) (ok : BlkOk X.N X.env.scope scope own)
    (hg : ∀ (s : Shared) (H : Hp) (C : Addr) (cl : List (Str × Addr)) (fp : List Addr), DG (X.blk s H scope (compEnvC scope cl C X.env) fp) tg b sl) (ht : ∀ (s : Shared) (H : Hp) (C : Addr) (cl : List (Str × Addr)) (fp : List Addr), DTs (X.blk s H scope (compEnvC scope cl C X.env) fp) ifs t)
    (he : ∀ (s : Shared) (H : Hp) (C : Addr) (cl : List (Str × Addr)) (fp : List Addr), DE (X.blk s H scope (compEnvC scope cl C X.env) fp) elt f) (hsl : ∀ i, i ∈ sl → i ∈ own.map (·.2) := by decide) (hs : ∀ x, foldedSetIterable iter X.env x = pure x := by intro _; rfl) :
    DE X (.ListComp elt [⟨tg, iter, ifs, 0⟩] scope pos) (fLc s b t f (own.map (·.2))) :=
  de_lc hc hN hi ok ⟨tGt X.K b sl, fun s H C cl fp => (hg s H C cl fp).can, fun g F σ H ρ δ v d ρ' Q S r hb q => ⟨g, F, ρ, δ, d, ρ', S, r, hb, q⟩⟩
    ⟨tT X.K t, fun s H C cl fp => (ht s H C cl fp).can, fun g F σ H ρ δ b δ' Q S hf q => ⟨g, F, ρ, δ, b, δ', S, hf, q⟩⟩
    ⟨tD X.K f, fun s H C cl fp => (he s H C cl fp).can, fun g F σ H ρ δ d k δ' Q S hf q => ⟨g, F, ρ, δ, d, k, δ', S, hf, q⟩⟩ hsl hs
/-- y = [..] on one line -/
theorem ds_setLc {i : Nat} {y : Str} {py : Pos} {elt tg iter : Expr} {ifs : List Expr} {scope : Scope} {own : List (Str × Nat)} {pos spos : Pos} {s : SF} {b : BF} {t : TF} {f : EF} {sl : List Nat} (hc : X.calm = true) (hN : X.N.Nodup) (hy : X.N[i]? = some y) (hyl : X.env.scope.names.lookup y = some .local)
    (hsw : swapsWith (.ListComp elt [⟨tg, iter, ifs, 0⟩] scope pos) (some (.Name y py)) spos.line X.env = pure true) (hi : DI X tg iter s) (ok : BlkOk X.N X.env.scope scope own)
    (hg : ∀ (s : Shared) (H : Hp) (C : Addr) (cl : List (Str × Addr)) (fp : List Addr), DG (X.blk s H scope (compEnvC scope cl C X.env) fp) tg b sl) (ht : ∀ (s : Shared) (H : Hp) (C : Addr) (cl : List (Str × Addr)) (fp : List Addr), DTs (X.blk s H scope (compEnvC scope cl C X.env) fp) ifs t)
    (he : ∀ (s : Shared) (H : Hp) (C : Addr) (cl : List (Str × Addr)) (fp : List Addr), DE (X.blk s H scope (compEnvC scope cl C X.env) fp) elt f) (hsl : ∀ i, i ∈ sl → i ∈ own.map (·.2) := by decide) (hs : ∀ x, foldedSetIterable iter X.env x = pure x := by intro _; rfl) :
    DS X (.Assign [.Name y py] (.ListComp elt [⟨tg, iter, ifs, 0⟩] scope pos) spos) (hSet i (fLc s b t f (own.map (·.2)))) := by
  obtain ⟨wi, p1, x1⟩ := hi.ex
  refine ⟨_, ps_setLc (g := tGt X.K b sl) (tt := tT X.K t) (te := tD X.K f) hc hN hy hyl hsw p1 ok (fun s H C cl fp => (hg s H C cl fp).can) (fun s H C cl fp => (ht s H C cl fp).can) (fun s H C cl fp => (he s H C cl fp).can) hs, fun H0 g F σ H ρ δ o ρ' δ' D' S W hf q => ?_⟩
  unfold hSet fLc at hf
  cases e1 : s ρ δ with
  | none => rw [e1] at hf; cases hf
  | some c =>
    obtain ⟨ds, k0, δ1⟩ := c
    rw [e1] at hf
    simp only [Option.bind_some] at hf
    split at hf
    · rename_i hl
      cases e2 : lcD b t f (wip ρ (own.map (·.2))) ds δ1 with
      | none => rw [e2] at hf; cases hf
      | some c =>
        obtain ⟨out, δ2⟩ := c
        rw [e2] at hf
        cases hf
        refine x1 g F σ H ρ δ ds k0 δ1 _ S e1 fun J H1 rt k1 S1 src hr => ?_
        exact lc_run (Q := fun x H1 => gName i x σ H1 D'.nx) (K := X.K) (tg := tGt X.K b sl) (tt := tT X.K t) (te := tD X.K f) (fun g F σ H ρ δ v d ρ' Q S r hb q => ⟨g, F, ρ, δ, d, ρ', S, r, hb, q⟩) (fun g F σ H ρ δ b δ' Q S hf q => ⟨g, F, ρ, δ, b, δ', S, hf, q⟩)
          (fun g F σ H ρ δ d k δ' Q S hf q => ⟨g, F, ρ, δ, d, k, δ', S, hf, q⟩) S1 src (fun a z => ⟨(hr a z).1, (hr a z).2.1⟩) hl e2 hsl fun D H2 k2 S2 r2 => by
            obtain ⟨F', a1, a2, _⟩ := put_of (k := .ow) S W (k1.trans k2) S2 (r2.earlier k1) rfl i
            exact q F' _ H2 a1 a2
    · cases hf
/-! ### own defs -/
/-- what comes out of a def -/
def Out (K : PySem.W.Frag) (A : Addr → Prop) (H H' : Hp) : Kd → V → D → Prop
  | .sh, v, d => Rep K A H' v d
  | .ow, v, d => ∃ p, v = .ref p ∧ H p = none ∧ Top K (fun a => A a ∨ a = p) H' p d
  | .br, _, _ => False
/-- a pure def promises: on such data it hands back that, and what stood stands -/
def spP (K : PySem.W.Frag) (n : Nat) (gf : List D → Option (D × Kd)) : Sp := fun vs H Q _ => vs.length = n ∧ ∃ (A : Addr → Prop) (ds : List D) (d : D) (k : Kd), (∀ a, A a → H a ≠ none) ∧ Reps K A H vs ds ∧ gf ds = some (d, k) ∧ ∀ v H', Same H H' → Out K A H H' k v d → Q v H'
/-- a def whose first argument are the draws -/
def spW (K : PySem.W.Frag) (n : Nat) (gf : List D → Dr → Option (D × Kd × Dr)) : Sp := fun vs H Q _ => vs.length = n + 1 ∧ ∃ (A : Addr → Prop) (p q : Addr) (us : List V) (ds : List D) (δ : Dr) (d : D) (k : Kd) (δ' : Dr), vs = .ref p :: us ∧ (∀ a, A a → H a ≠ none ∧ a ≠ p ∧ a ≠ q) ∧ DealR ⟨A, some (p, q)⟩ H δ ∧
  Reps K (fun a => A a ∨ a = p ∨ a = q) H us ds ∧ gf ds δ = some (d, k, δ') ∧ ∀ v H', Keep (fun a => a = p ∨ a = q) H H' → DealR ⟨A, some (p, q)⟩ H' δ' → Out K (fun a => A a ∨ a = p ∨ a = q) H H' k v d → Q v H'
/-- what a body comes to -/
def endD (r : Option (Ou × Rho × Dr)) : Option (D × Kd × Dr) := match r with
  | some (.nx, _, δ) => some (.non, .sh, δ)
  | some (.rt d .sh, _, δ) => some (d, .sh, δ)
  | some (.rt d .ow, _, δ) => some (d, .ow, δ)
  | _ => none
/-- a pure def's meaning, from its body's: n parameters, m slots more -/
def fnP (n m : Nat) (h : HF') : List D → Option (D × Kd) := fun ds => if ds.length = n then (endD (h (ds.map .sh ++ List.replicate m .un) ([], 0))).map fun r => (r.1, r.2.1) else none
def fnW (n m : Nat) (h : HF') : List D → Dr → Option (D × Kd × Dr) := fun ds δ => if ds.length = n then endD (h (.dl :: ds.map .sh ++ List.replicate m .un) δ) else none
end
section
variable {P : Program} {w : World} {K : PySem.W.Frag} {mg : Str → Option Value} {base : Heap}
theorem start_slots {vs : List V} {i m : Nat} {N : List Str} (hN : N.length = vs.length + m) (hi : i < vs.length) : (L2.start N vs)[i]? = (vs[i]?).map some := by
  unfold L2.start
  rw [List.getElem?_append_left (by simpa using hi), List.getElem?_map]
theorem sr_start {A : Addr → Prop} {N : List Str} {vs : List V} {ds : List D} {m : Nat} {H : Hp} {δ : Dr} (hN : N.length = vs.length + m) (hA : ∀ a, A a → H a ≠ none) (r : Reps K A H vs ds) : SR K ⟨A, none⟩ (fun _ => []) (L2.start N vs) (ds.map .sh ++ List.replicate m .un) δ H where
  len := by
    unfold L2.start
    rw [List.length_append, List.length_append, List.length_map, List.length_map, List.length_replicate, List.length_replicate, r.length]
    have := r.length
    omega
  slot := fun i s h => by
    by_cases hi : i < vs.length
    · rw [List.getElem?_append_left (by rw [List.length_map, ← r.length]; exact hi), List.getElem?_map] at h
      cases e : ds[i]? with
      | none => rw [e] at h; cases h
      | some d =>
        rw [e] at h
        cases h
        obtain ⟨v, e1, e2⟩ := r.getD e
        refine ⟨v, by rw [start_slots hN hi, e1]; rfl, e2.weak fun a z => ?_⟩
        rcases z with z | ⟨p, q, z, _⟩ | ⟨j, z⟩
        · exact z
        · cases z
        · cases z
    · rw [List.getElem?_append_right (by rw [List.length_map, ← r.length]; omega)] at h
      have e : s = .un := (List.mem_replicate.mp (List.mem_of_getElem? h)).2
      subst e
      trivial
  apart := fun i j a h => by cases h
  new := fun i a h => by cases h
  dom := fun a _ ⟨p, q, z, _⟩ => by cases z
  there := fun a h => by
    rcases h with z | ⟨p, q, z, _⟩ | ⟨j, z⟩
    · exact hA a z
    · cases z
    · cases z
  mt := fun i a h => by cases h
  deal := fun p q z => by cases z
/-- THE RULE for a pure def -/
theorem fn_pure {x qual : Str} {st : Stmt} {f : Addr} {fd : FuncData} {N ps : List Str} {k n m : Nat} {h : HF'} (Fn : Fun K x qual st f fd) (S : FnScope N ps (defScope st)) (hn : ps.length = n) (hN : N.length = n + m)
    (hb : ∀ (cdv : Value) (A : Around) (outer : List Env) (s : Shared) (H : Hp) (E : XK), Room k (A.deeper (envOfC qual (defScope st) s.heap.objs.size f cdv)) → DSs (cxOf CX0 P w K mg base N qual (defScope st) f cdv A outer s H E).nox (defBody st) h) :
    FnOk P w K mg base CX0 (k + 1) f fd ps (spP K n (fnP n m h)) := by
  refine Fn.ok S (fun vs H Q E z => by rw [z.1, hn]) fun cdv A outer s H vs Q E hr z => ?_
  obtain ⟨hl, Av0, ds, d, kd, hA, r, hg, q⟩ := z
  obtain ⟨t, p, x⟩ := (hb cdv A outer s H E hr).ex
  refine ⟨t, p, ?_⟩
  unfold fnP at hg
  split at hg
  · cases e : h (ds.map .sh ++ List.replicate m .un) ([], 0) with
    | none => rw [e] at hg; cases hg
    | some c =>
      obtain ⟨o, ρ', δ'⟩ := c
      rw [e] at hg
      have S0 : SR K ⟨Av0, none⟩ (fun _ => []) (L2.start N vs) (ds.map .sh ++ List.replicate m .un) ([], 0) H := sr_start (by rw [hN, hl]) hA r
      have nopd : ∀ a, ¬ Gh.Pd ⟨Av0, none⟩ a := fun a ⟨p, q, z, _⟩ => by cases z
      have W0 : SH H ⟨Av0, none⟩ (fun _ => []) H := ⟨fun i a z => (by cases z), hA, fun a z => (nopd a z).elim, Keep.refl _ _⟩
      have same : ∀ {H'}, Keep (Gh.Pd ⟨Av0, none⟩) H H' → Same H H' := fun {H'} kp a o ha => kp.at_ ha (nopd a)
      refine x H ⟨Av0, none⟩ (fun _ => []) (L2.start N vs) H _ _ o ρ' δ' _ S0 W0 e ?_
      cases o with
      | nx =>
        cases hg
        exact fun F σ H' S' W' => q .non H' (same W'.keep) .non
      | rt d' k' =>
        cases k' with
        | sh =>
          cases hg
          exact fun v H' ⟨a, _, b⟩ => q v H' (same a) (b.weak fun a z => .inl z)
        | ow =>
          cases hg
          exact fun v H' ⟨a, _, p, e, n, t⟩ => q v H' (same a) ⟨p, e, n, t.weak fun a z => z.imp .inl id⟩
        | br => cases hg
      | bk => cases hg
      | ct => cases hg
  · cases hg
end
end DL
/-! D-layer, part i: calls of own defs, is, isinstance, globals. -/
namespace DL
open PySem PySem.Spec PyProof.Rows L2
mutual
/-- no list, no instance within -/
def flat : D → Bool
  | .non => true
  | .bl _ => true
  | .int _ => true
  | .str _ => true
  | .obj _ => true
  | .ty _ => true
  | .tup xs => flats xs
  | .wls xs => flats xs
  | .lst _ => false
  | .dic _ => false
  | .set _ => false
  | .ins _ _ => false
def flats : List D → Bool
  | [] => true
  | d :: ds => flat d && flats ds
end
mutual
theorem Rep.flat {K : PySem.W.Frag} {O O' : Addr → Prop} {H : Hp} : ∀ {v : V} {d : D}, DL.flat d = true → Rep K O H v d → Rep K O' H v d
  | _, _, _, .non => .non
  | _, _, _, .bl b => .bl b
  | _, _, _, .int i => .int i
  | _, _, _, .str x => .str x
  | _, _, h, .tup s r => .tup s (Reps.flat (by simpa [DL.flat] using h) r)
  | _, _, h, .lst _ _ _ => by simp [DL.flat] at h
  | _, _, h, .ins _ _ _ _ _ => by simp [DL.flat] at h
  | _, _, h, .dic _ _ _ _ => by simp [DL.flat] at h
  | _, _, _, .obj a => .obj a
  | _, _, _, .ty n => .ty n
  | _, _, h, .wls s r => .wls s (Reps.flat (by simpa [DL.flat] using h) r)
theorem Reps.flat {K : PySem.W.Frag} {O O' : Addr → Prop} {H : Hp} : ∀ {vs : List V} {ds : List D}, DL.flats ds = true → Reps K O H vs ds → Reps K O' H vs ds
  | _, _, _, .nil => .nil
  | _, _, h, .cons a r => .cons (Rep.flat (by simp [DL.flats] at h; exact h.1) a) (Reps.flat (by simp [DL.flats] at h; exact h.2) r)
end
/-- values with their kinds -/
abbrev VF := Rho → Dr → Option (List (D × Kd) × Dr)
structure DV (X : Cx) (es : List Expr) (f : VF) : Prop where
  ex : ∃ t : TA, PA X es t ∧ ∀ (g : Gh) (F : Fp) (σ : L2.St) (H : Hp) (ρ : Rho) (δ : Dr) (cs : List (D × Kd)) (δ' : Dr) (Q : List V → Hp → Prop), SR X.K g F σ ρ δ H → f ρ δ = some (cs, δ') →
    (∀ vs H', Keep g.Pd H H' → SR X.K g F σ ρ δ' H' → Paired (fun v c => Res X.K g F H H' c.2 v c.1) vs cs → Q vs H') → t σ H Q
structure DKw (X : Cx) (es : List Keyword) (f : VF) : Prop where
  ex : ∃ t : TA, PK X es t ∧ ∀ (g : Gh) (F : Fp) (σ : L2.St) (H : Hp) (ρ : Rho) (δ : Dr) (cs : List (D × Kd)) (δ' : Dr) (Q : List V → Hp → Prop), SR X.K g F σ ρ δ H → f ρ δ = some (cs, δ') →
    (∀ vs H', Keep g.Pd H H' → SR X.K g F σ ρ δ' H' → Paired (fun v c => Res X.K g F H H' c.2 v c.1) vs cs → Q vs H') → t σ H Q
def vNil : VF := fun _ δ => some ([], δ)
def vCons (f : EF) (r : VF) : VF := fun ρ δ => (f ρ δ).bind fun p => (r ρ p.2.2).map fun q => ((p.1, p.2.1) :: q.1, q.2)
section
variable {X : Cx}
theorem res_pair_keep {K : PySem.W.Frag} {g : Gh} {F : Fp} {H H1 H' : Hp} (k : Keep g.Pd H1 H') (G : Good g F H) : ∀ {vs : List V} {cs : List (D × Kd)}, Paired (fun v c => Res K g F H H1 c.2 v c.1) vs cs → Paired (fun v c => Res K g F H H' c.2 v c.1) vs cs
  | _, _, .nil => .nil
  | _, _, .cons a r => .cons (a.keep k G) (res_pair_keep k G r)
theorem res_pair_ear {K : PySem.W.Frag} {g : Gh} {F : Fp} {P : Addr → Prop} {H H1 H' : Hp} (k : Keep P H H1) : ∀ {vs : List V} {cs : List (D × Kd)}, Paired (fun v c => Res K g F H1 H' c.2 v c.1) vs cs → Paired (fun v c => Res K g F H H' c.2 v c.1) vs cs
  | _, _, .nil => .nil
  | _, _, .cons a r => .cons (a.earlier k) (res_pair_ear k r)
theorem dv_nil : DV X [] vNil := ⟨tNil, pa_nil, fun g F σ H ρ δ cs δ' Q S hf q => by
  cases hf
  exact q [] H (.refl _ _) S .nil⟩
theorem dw_nil : DKw X [] vNil := ⟨tNil, pk_nil, fun g F σ H ρ δ cs δ' Q S hf q => by
  cases hf
  exact q [] H (.refl _ _) S .nil⟩
theorem vCons_run {K : PySem.W.Frag} {t : TE} {t2 : TA} {f : EF} {r : VF}
    (x : ∀ (g : Gh) (F : Fp) (σ : L2.St) (H : Hp) (ρ : Rho) (δ : Dr) (d : D) (k : Kd) (δ' : Dr) (Q : VK), SR K g F σ ρ δ H → f ρ δ = some (d, k, δ') → (∀ v H', Keep g.Pd H H' → SR K g F σ ρ δ' H' → Res K g F H H' k v d → Q v H') → t σ H Q)
    (x2 : ∀ (g : Gh) (F : Fp) (σ : L2.St) (H : Hp) (ρ : Rho) (δ : Dr) (cs : List (D × Kd)) (δ' : Dr) (Q : List V → Hp → Prop), SR K g F σ ρ δ H → r ρ δ = some (cs, δ') → (∀ vs H', Keep g.Pd H H' → SR K g F σ ρ δ' H' → Paired (fun v c => Res K g F H H' c.2 v c.1) vs cs → Q vs H') → t2 σ H Q) :
    ∀ (g : Gh) (F : Fp) (σ : L2.St) (H : Hp) (ρ : Rho) (δ : Dr) (cs : List (D × Kd)) (δ' : Dr) (Q : List V → Hp → Prop), SR K g F σ ρ δ H → vCons f r ρ δ = some (cs, δ') → (∀ vs H', Keep g.Pd H H' → SR K g F σ ρ δ' H' → Paired (fun v c => Res K g F H H' c.2 v c.1) vs cs → Q vs H') → tCons t t2 σ H Q := by
  intro g F σ H ρ δ cs δ' Q S hf q
  unfold vCons at hf
  cases e1 : f ρ δ with
  | none => rw [e1] at hf; cases hf
  | some c =>
    obtain ⟨d, k, δ1⟩ := c
    rw [e1] at hf
    simp only [Option.bind_some] at hf
    cases e2 : r ρ δ1 with
    | none => rw [e2] at hf; cases hf
    | some c =>
      obtain ⟨ds2, δ2⟩ := c
      rw [e2] at hf
      cases hf
      refine x g F σ H ρ δ d k δ1 _ S e1 fun v H1 k1 S1 r1 => ?_
      refine x2 g F σ H1 ρ δ1 ds2 _ _ S1 e2 fun vs H2 k2 S2 r2 => ?_
      exact q (v :: vs) H2 (k1.trans k2) S2 (.cons (r1.keep k2 S.good) (res_pair_ear k1 r2))
theorem dv_cons {e : Expr} {es : List Expr} {f : EF} {r : VF} (he : DE X e f) (hr : DV X es r) (hs : starEach (e :: es) X.env = (false, eval e X.env) :: starEach es X.env := by rfl) : DV X (e :: es) (vCons f r) := by
  obtain ⟨t, p, x⟩ := he.ex
  obtain ⟨t2, p2, x2⟩ := hr.ex
  exact ⟨_, pa_cons p p2 hs, vCons_run x x2⟩
theorem dw_cons {e : Expr} {nm : Option Str} {kpos : Pos} {es : List Keyword} {f : EF} {r : VF} (he : DE X e f) (hr : DKw X es r) : DKw X (⟨nm, e, kpos⟩ :: es) (vCons f r) := by
  obtain ⟨t, p, x⟩ := he.ex
  obtain ⟨t2, p2, x2⟩ := hr.ex
  exact ⟨_, pk_cons p p2, vCons_run x x2⟩
/-! ### what a call may hand back -/
def flatK (d : D) (k : Kd) : Bool := match k, d with
  | .sh, d => flat d
  | .ow, .lst ds => flats ds
  | .ow, .dic ds => flats (ds.map (·.2))
  | _, _ => false
def okR (cs : List (D × Kd)) (d : D) (k : Kd) : Bool := cs.all (fun c => c.2 != .br) || flatK d k
theorem reps_of {K : PySem.W.Frag} {g : Gh} {F : Fp} {H0 H : Hp} (G : Good g F H0) : ∀ {vs : List V} {cs : List (D × Kd)}, Paired (fun v c => Res K g F H0 H c.2 v c.1) vs cs → cs.all (fun c => c.2 != .br) = true → Reps K (Av g F) H vs (cs.map (·.1))
  | _, _, .nil, _ => .nil
  | _, c :: _, .cons a r, h => by
    simp only [List.all_cons, Bool.and_eq_true, bne_iff_ne, ne_eq] at h
    exact .cons (a.rep G h.1) (reps_of G r h.2)
theorem reps_rd {K : PySem.W.Frag} {g : Gh} {F : Fp} {O : Addr → Prop} {H0 H : Hp} (G : Good g F H0) (hO : ∀ a, O a → g.Pd a) : ∀ {vs : List V} {cs : List (D × Kd)}, Paired (fun v c => Res K g F H0 H c.2 v c.1) vs cs → Reps K O H vs (cs.map (·.1))
  | _, _, .nil => .nil
  | _, c :: _, .cons a r => by
    refine .cons ?_ (reps_rd G hO r)
    rcases a.rd G with z | ⟨p, e, n, t⟩
    · exact z.weak fun a h => .inr (.inl (hO a h))
    · subst e
      exact Top.rep (fun z => n (hO p z)) (t.weak fun a h => .inr (.inl (hO a h)))
theorem paired_len {α β : Type} {R : α → β → Prop} : ∀ {vs : List α} {cs : List β}, Paired R vs cs → vs.length = cs.length
  | _, _, .nil => rfl
  | _, _, .cons _ r => congrArg Nat.succ (paired_len r)
theorem out_res {K : PySem.W.Frag} {g : Gh} {F : Fp} {H H' : Hp} {k : Kd} {v : V} {d : D} (o : Out K (Av g F) H H' k v d) : Res K g F H H' k v d := by
  cases k with
  | sh => exact o
  | ow => exact o
  | br => exact o.elim
theorem out_flat {K : PySem.W.Frag} {g : Gh} {F : Fp} {A : Addr → Prop} {H H' : Hp} {k : Kd} {v : V} {d : D} (h : flatK d k = true) (o : Out K A H H' k v d) : Res K g F H H' k v d := by
  cases k with
  | sh => exact Rep.flat (by simpa [flatK] using h) o
  | ow =>
    obtain ⟨p, e, n, t⟩ := o
    cases d with
    | lst ds =>
      obtain ⟨xs, h1, r⟩ := t
      exact ⟨p, e, n, xs, h1, Reps.flat (by simpa [flatK] using h) r⟩
    | dic ds =>
      obtain ⟨xs, h1, e1, r⟩ := t
      exact ⟨p, e, n, xs, h1, e1, Reps.flat (by simpa [flatK] using h) r⟩
    | _ => exact t.elim
  | br => exact o.elim
def fCallP (gf : List D → Option (D × Kd)) (f : VF) : EF := fun ρ δ => (f ρ δ).bind fun r => (gf (r.1.map (·.1))).bind fun c => if okR r.1 c.1 c.2 = true then some (c.1, c.2, r.2) else none
theorem callP_run {g : Gh} {F : Fp} {n : Nat} {gf : List D → Option (D × Kd)} {H H1 : Hp} {vs : List V} {cs : List (D × Kd)} {d : D} {k : Kd} {Q : VK} {E : XK} {K : PySem.W.Frag} (hn : ∀ ds c, gf ds = some c → ds.length = n)
    (G : Good g F H) (G1 : Good g F H1) (r : Paired (fun v c => Res K g F H H1 c.2 v c.1) vs cs) (hg : gf (cs.map (·.1)) = some (d, k)) (ho : okR cs d k = true) (q : ∀ v H', Same H1 H' → Res K g F H1 H' k v d → Q v H') : spP K n gf vs H1 Q E := by
  refine ⟨by rw [paired_len r, ← hn _ _ hg, List.length_map], ?_⟩
  simp only [okR, Bool.or_eq_true] at ho
  rcases ho with ho | ho
  · exact ⟨Av g F, _, d, k, G1, reps_of G r ho, hg, fun v H' s o => q v H' s (out_res o)⟩
  · exact ⟨fun _ => False, _, d, k, fun a z => z.elim, reps_rd G (fun a z => z.elim) r, hg, fun v H' s o => q v H' s (out_flat ho o)⟩
theorem fCallP_some {gf : List D → Option (D × Kd)} {f : VF} {ρ : Rho} {δ δ' : Dr} {d : D} {k : Kd} (h : fCallP gf f ρ δ = some (d, k, δ')) : ∃ cs, f ρ δ = some (cs, δ') ∧ gf (cs.map (·.1)) = some (d, k) ∧ okR cs d k = true := by
  unfold fCallP at h
  cases e : f ρ δ with
  | none => rw [e] at h; cases h
  | some c =>
    obtain ⟨cs, δ1⟩ := c
    rw [e] at h
    simp only [Option.bind_some] at h
    cases e2 : gf (cs.map (·.1)) with
    | none => rw [e2] at h; cases h
    | some c =>
      rw [e2] at h
      simp only [Option.bind_some] at h
      split at h
      · cases h
        exact ⟨cs, rfl, e2, by assumption⟩
      · cases h
theorem fnP_len {n m : Nat} {h : HF'} : ∀ ds c, fnP n m h ds = some c → ds.length = n := fun ds c e => by
  unfold fnP at e
  split at e
  · assumption
  · cases e
theorem fnW_len {n m : Nat} {h : HF'} : ∀ ds δ c, fnW n m h ds δ = some c → ds.length = n := fun ds δ c e => by
  unfold fnW at e
  split at e
  · assumption
  · cases e
/-! ### own defs that stand behind the top -/
structure OwnF (P : Program) (w : World) (K : PySem.W.Frag) (mg : Str → Option Value) (base : Heap) (k : Nat) (x qual : Str) (st : Stmt) (ps : List Str) (sp : Sp) : Prop where
  ex : ∃ (f : Addr) (fd : FuncData), FnOk P w K mg base CX0 k f fd ps sp ∧ mg x = some (.ref f) ∧ Fun K x qual st f fd ∧ Binds K fd ps []
theorem OwnF.mono {P : Program} {w : World} {K : PySem.W.Frag} {mg : Str → Option Value} {base : Heap} {j k : Nat} {x qual : Str} {st : Stmt} {ps : List Str} {sp : Sp} (F : OwnF P w K mg base j x qual st ps sp) (h : j ≤ k) : OwnF P w K mg base k x qual st ps sp := by
  obtain ⟨f, fd, a, b⟩ := F.ex
  exact ⟨f, fd, a.mono h, b⟩
section
variable {k n m : Nat} {x qual : Str} {st : Stmt} {ps : List Str} {gf : List D → Option (D × Kd)} {gw : List D → Dr → Option (D × Kd × Dr)} {p pos : Pos} {e : Expr} {es : List Expr} {kws : List Keyword} {fv fw : VF}
/-- f(e, ..), f a pure def -/
theorem de_call (C : OwnF X.prog X.w X.K X.mg X.base k x qual st ps (spP X.K n gf)) (hr : Room k X.A) (hg : Gl X x)
    (hn : ∀ ds c, gf ds = some c → ds.length = n) (ha : DV X (e :: es) fv) (hdb : (x == ("__debug__" : Str)) = false := by decide) (he : starEach (e :: es) X.env = (false, eval e X.env) :: starEach es X.env := by rfl) (hpl : (backTo pos (starEach es X.env)).any (·.1) = false := by rfl) :
    DE X (.Call (.Name x p) (e :: es) [] pos) (fCallP gf fv) := by
  obtain ⟨f, fd, Fk, hm, Fn, hb⟩ := C.ex
  obtain ⟨t, pa, xa⟩ := ha.ex
  refine ⟨_, pe_call Fk hr hg hm Fn.kp hb .nil pass0 pa hdb he hpl, fun g F σ H ρ δ d kd δ' Q S hf q => ?_⟩
  obtain ⟨cs, e1, e2, e3⟩ := fCallP_some hf
  refine xa g F σ H ρ δ cs δ' _ S e1 fun vs H1 k1 S1 r1 => ?_
  rw [List.append_nil]
  exact callP_run hn S.good S1.good r1 e2 e3 fun v H' s r => q v H' (k1.trans (Keep.of_same s)) (S1.same s) (r.earlier k1)
theorem de_call0 (C : OwnF X.prog X.w X.K X.mg X.base k x qual st ps (spP X.K n gf)) (hr : Room k X.A) (hg : Gl X x)
    (hn : ∀ ds c, gf ds = some c → ds.length = n) (hdb : (x == ("__debug__" : Str)) = false := by decide) : DE X (.Call (.Name x p) [] [] pos) (fCallP gf vNil) := by
  obtain ⟨f, fd, Fk, hm, Fn, hb⟩ := C.ex
  refine ⟨_, pe_call0 Fk hr hg hm Fn.kp hb .nil pass0 hdb, fun g F σ H ρ δ d kd δ' Q S hf q => ?_⟩
  obtain ⟨cs, e1, e2, e3⟩ := fCallP_some hf
  cases e1
  have h := callP_run (H := H) (Q := Q) (E := E0) hn S.good S.good (cs := []) (vs := []) .nil e2 e3 fun v H' s r => q v H' (Keep.of_same s) (S.same s) r
  exact h
/-- f(deal, e, ..) -/
def fCallW (i : Nat) (gf : List D → Dr → Option (D × Kd × Dr)) (f : VF) : EF := fun ρ δ => match ρ[i]? with
  | some .dl => (f ρ δ).bind fun r => (gf (r.1.map (·.1)) r.2).bind fun c => if okR r.1 c.1 c.2.1 = true then some c else none
  | _ => none
theorem fCallW_some {i : Nat} {f : VF} {ρ : Rho} {δ δ' : Dr} {d : D} {k : Kd} (h : fCallW i gw f ρ δ = some (d, k, δ')) : ρ[i]? = some .dl ∧ ∃ cs δ1, f ρ δ = some (cs, δ1) ∧ gw (cs.map (·.1)) δ1 = some (d, k, δ') ∧ okR cs d k = true := by
  unfold fCallW at h
  split at h
  · rename_i hi
    refine ⟨hi, ?_⟩
    cases e : f ρ δ with
    | none => rw [e] at h; cases h
    | some c =>
      obtain ⟨cs, δ1⟩ := c
      rw [e] at h
      simp only [Option.bind_some] at h
      cases e2 : gw (cs.map (·.1)) δ1 with
      | none => rw [e2] at h; cases h
      | some c =>
        rw [e2] at h
        simp only [Option.bind_some] at h
        split at h
        · cases h
          exact ⟨cs, δ1, rfl, e2, by assumption⟩
        · cases h
  · cases h
theorem SR.free {K : PySem.W.Frag} {g : Gh} {F : Fp} {σ : L2.St} {ρ : Rho} {δ : Dr} {H : Hp} (S : SR K g F σ ρ δ H) : ∀ a, (g.A a ∨ Ow F a) → H a ≠ none ∧ ¬ g.Pd a := fun a z => by
  rcases z with z | ⟨i, z⟩
  · exact ⟨S.there a (.inl z), S.dom a z⟩
  · exact ⟨S.there a (.inr (.inr ⟨i, z⟩)), (S.new i a z).2⟩
theorem callW_run {g : Gh} {F : Fp} {σ : L2.St} {ρ : Rho} {δ δ' : Dr} {H H1 : Hp} {vs : List V} {cs : List (D × Kd)} {d : D} {kd : Kd} {Q : VK} {E : XK} {K : PySem.W.Frag} {a b : Addr} (hn : ∀ ds δ c, gw ds δ = some c → ds.length = n)
    (hP : g.P = some (a, b)) (G : Good g F H) (S : SR K g F σ ρ δ H1) (r : Paired (fun v c => Res K g F H H1 c.2 v c.1) vs cs) (hg : gw (cs.map (·.1)) δ = some (d, kd, δ')) (ho : okR cs d kd = true)
    (q : ∀ v H', Keep g.Pd H1 H' → SR K g F σ ρ δ' H' → Res K g F H1 H' kd v d → Q v H') : spW K n gw (.ref a :: vs) H1 Q E := by
  have pd : ∀ x, g.Pd x ↔ x = a ∨ x = b := fun x => by
    unfold Gh.Pd
    rw [hP]
    constructor
    · rintro ⟨p, q, e, z⟩
      cases e
      exact z
    · exact fun z => ⟨a, b, rfl, z⟩
  have kp : ∀ {H'}, Keep (fun x => x = a ∨ x = b) H1 H' → Keep g.Pd H1 H' := fun k => k.mono fun x z => (pd x).mpr z
  have dl : ∀ {A : Addr → Prop} {H' δ''}, DealR ⟨A, some (a, b)⟩ H' δ'' → DealR g H' δ'' := fun z x y e => z x y (by rw [hP] at e; exact e)
  have dl2 : ∀ {A : Addr → Prop}, DealR ⟨A, some (a, b)⟩ H1 δ := fun {A} x y e => S.deal x y (by rw [hP]; exact e)
  have avE : ∀ x, Av g F x ↔ ((g.A x ∨ Ow F x) ∨ x = a ∨ x = b) := fun x => by
    unfold Av
    rw [pd x]
    constructor
    · rintro (z | z | z)
      · exact .inl (.inl z)
      · exact .inr z
      · exact .inl (.inr z)
    · rintro ((z | z) | z)
      · exact .inl z
      · exact .inr (.inr z)
      · exact .inr (.inl z)
  refine ⟨by rw [List.length_cons, paired_len r, ← hn _ _ _ hg, List.length_map], ?_⟩
  simp only [okR, Bool.or_eq_true] at ho
  have hav : (fun x => (g.A x ∨ Ow F x) ∨ x = a ∨ x = b) = Av g F := by
    funext x
    exact propext (avE x).symm
  rcases ho with ho | ho
  · refine ⟨fun x => g.A x ∨ Ow F x, a, b, vs, _, δ, d, kd, δ', rfl, fun x z => ⟨(S.free x z).1, fun e => (S.free x z).2 ((pd x).mpr (.inl e)), fun e => (S.free x z).2 ((pd x).mpr (.inr e))⟩, dl2, ?_, hg, fun v H' k de o => ?_⟩
    · show Reps K (fun x => (g.A x ∨ Ow F x) ∨ x = a ∨ x = b) H1 vs _
      rw [hav]
      exact reps_of G r ho
    · refine q v H' (kp k) (S.grow (kp k) (dl de)) (out_res ?_)
      have o : Out K (fun x => (g.A x ∨ Ow F x) ∨ x = a ∨ x = b) H1 H' kd v d := o
      rw [hav] at o
      exact o
  · refine ⟨fun _ => False, a, b, vs, _, δ, d, kd, δ', rfl, fun x z => z.elim, dl2, reps_rd G (fun x z => (pd x).mpr (z.elim (fun z => z.elim) id)) r, hg, fun v H' k de o => ?_⟩
    exact q v H' (kp k) (S.grow (kp k) (dl de)) (out_flat ho o)
theorem de_callW {i : Nat} {y : Str} {yp : Pos} (C : OwnF X.prog X.w X.K X.mg X.base k x qual st ps (spW X.K n gw)) (hr : Room k X.A) (hg : Gl X x)
    (hn : ∀ ds δ c, gw ds δ = some c → ds.length = n) (hy : PE X (.Name y yp) (tVar i)) (ha : DV X es fv) (hdb : (x == ("__debug__" : Str)) = false := by decide)
    (he : starEach (.Name y yp :: es) X.env = (false, eval (.Name y yp) X.env) :: starEach es X.env := by rfl) (hpl : (backTo pos (starEach es X.env)).any (·.1) = false := by rfl) :
    DE X (.Call (.Name x p) (.Name y yp :: es) [] pos) (fCallW i gw fv) := by
  obtain ⟨f, fd, Fk, hm, Fn, hb⟩ := C.ex
  obtain ⟨t, pa, xa⟩ := ha.ex
  refine ⟨_, pe_call Fk hr hg hm Fn.kp hb .nil pass0 (pa_cons hy pa he) hdb he hpl, fun g F σ H ρ δ d kd δ' Q S hf q => ?_⟩
  obtain ⟨hi, cs, δ1, e1, e2, e3⟩ := fCallW_some hf
  obtain ⟨a, b, hP, hs⟩ := S.slot i _ hi
  refine ⟨_, hs, xa g F σ H ρ δ cs δ1 _ S e1 fun vs H1 k1 S1 r1 => ?_⟩
  show spW X.K n gw ((V.ref a :: vs) ++ []) H1 Q E0
  rw [List.append_nil]
  exact callW_run hn hP S.good S1 r1 e2 e3 fun v H' s S2 r => q v H' (k1.trans s) S2 (r.earlier k1)
/-! ### keywords -/
/-- l's things in the order ix -/
def perm {α : Type} (ix : List Nat) (l : List α) : List α := ix.filterMap (l[·]?)
theorem paired_get {α β : Type} {R : α → β → Prop} : ∀ {vs : List α} {cs : List β} (i : Nat), Paired R vs cs → (∃ v c, vs[i]? = some v ∧ cs[i]? = some c ∧ R v c) ∨ (vs[i]? = none ∧ cs[i]? = none)
  | _, _, _, .nil => .inr ⟨rfl, rfl⟩
  | _, _, 0, .cons a r => .inl ⟨_, _, rfl, rfl, a⟩
  | _, _, i + 1, .cons a r => by simpa using paired_get i r
theorem paired_perm {α β : Type} {R : α → β → Prop} {vs : List α} {cs : List β} (r : Paired R vs cs) : ∀ ix : List Nat, Paired R (perm ix vs) (perm ix cs)
  | [] => .nil
  | i :: ix => by
    unfold perm
    rcases paired_get i r with ⟨v, c, e1, e2, h⟩ | ⟨e1, e2⟩
    · rw [List.filterMap_cons_some e1, List.filterMap_cons_some e2]
      exact .cons h (paired_perm r ix)
    · rw [List.filterMap_cons_none e1, List.filterMap_cons_none e2]
      exact paired_perm r ix
theorem paired_app {α β : Type} {R : α → β → Prop} : ∀ {vs ws : List α} {cs ds : List β}, Paired R vs cs → Paired R ws ds → Paired R (vs ++ ws) (cs ++ ds)
  | _, _, _, _, .nil, r => r
  | _, _, _, _, .cons a r, s => .cons a (paired_app r s)
theorem fun_kbn {K : PySem.W.Frag} {f : Addr} {fd : FuncData} {ks : List Str} {ix : List Nat} (F : Fun K x qual st f fd)
    (h : ∀ (kV doc pm : Value) (an : Option Addr) (cdv ct : Value) (us ws : List Value), us.length = n → ws.length = ks.length → bindArgs (PySem.W.fnOf x qual (defArgs st) (defBody st) (defScope st) .none kV doc pm an cdv ct) ⟨us, ks.zip ws⟩ = pure (ps.zip (perm ix (us ++ ws)))) :
    KBn K fd ps n ks (fun us ws => perm ix (us ++ ws)) (fun vs zs => perm ix (vs ++ zs)) := by
  obtain ⟨oc, od, kV, doc, pm, an, cdv, ct, osl, rfl, lk, hcd⟩ := F.ex
  exact ⟨fun s us ws _ l1 l2 => .of_eq (h kV doc pm an cdv ct us ws l1 l2), fun r1 r2 => paired_perm (paired_app r1 r2) ix⟩
def vPerm (ix : List Nat) (n m : Nat) (a b : VF) : VF := fun ρ δ => (a ρ δ).bind fun r => (b ρ r.2).bind fun s => if r.1.length = n ∧ s.1.length = m then some (perm ix (r.1 ++ s.1), s.2) else none
theorem vPerm_some {ix : List Nat} {a b : VF} {ρ : Rho} {δ δ' : Dr} {cs : List (D × Kd)} (h : vPerm ix n m a b ρ δ = some (cs, δ')) : ∃ c1 δ1 c2, a ρ δ = some (c1, δ1) ∧ b ρ δ1 = some (c2, δ') ∧ c1.length = n ∧ c2.length = m ∧ cs = perm ix (c1 ++ c2) := by
  unfold vPerm at h
  cases e : a ρ δ with
  | none => rw [e] at h; cases h
  | some c =>
    obtain ⟨c1, δ1⟩ := c
    rw [e] at h
    simp only [Option.bind_some] at h
    cases e2 : b ρ δ1 with
    | none => rw [e2] at h; cases h
    | some c =>
      obtain ⟨c2, δ2⟩ := c
      rw [e2] at h
      simp only [Option.bind_some] at h
      split at h
      · rename_i hl
        cases h
        exact ⟨c1, δ1, c2, rfl, e2, hl.1, hl.2, rfl⟩
      · cases h
abbrev KwB (x qual : Str) (st : Stmt) (ps ks : List Str) (n : Nat) (ix : List Nat) : Prop := ∀ (kV doc pm : Value) (an : Option Addr) (cdv ct : Value) (us ws : List Value), us.length = n → ws.length = ks.length → bindArgs (PySem.W.fnOf x qual (defArgs st) (defBody st) (defScope st) .none kV doc pm an cdv ct) ⟨us, ks.zip ws⟩ = pure (ps.zip (perm ix (us ++ ws)))
/-- f(e, .., k = v, ..) -/
theorem de_callK {ks : List Str} {ix : List Nat} {j : Nat} (C : OwnF X.prog X.w X.K X.mg X.base k x qual st ps (spP X.K n gf)) (hr : Room k X.A) (hg : Gl X x)
    (hn : ∀ ds c, gf ds = some c → ds.length = n) (hb : KwB x qual st ps ks j ix) (ha : DV X (e :: es) fv) (hw : DKw X kws fw)
    (hall : (backToKw pos (keywordEach kws X.env)).all (·.1.isSome) = true := by rfl) (hks : (backToKw pos (keywordEach kws X.env)).filterMap (·.1) = ks := by rfl)
    (hdb : (x == ("__debug__" : Str)) = false := by decide) (he : starEach (e :: es) X.env = (false, eval e X.env) :: starEach es X.env := by rfl)
    (hpl : ((backTo pos (starEach (e :: es) X.env)).any (·.1) || (backToKw pos (keywordEach kws X.env)).any (·.1.isNone)) = false := by rfl) :
    DE X (.Call (.Name x p) (e :: es) kws pos) (fCallP gf (vPerm ix j ks.length fv fw)) := by
  obtain ⟨f, fd, Fk, hm, Fn, _⟩ := C.ex
  obtain ⟨t, pa, xa⟩ := ha.ex
  obtain ⟨tk, pk, xk⟩ := hw.ex
  refine ⟨_, pe_callN Fk hr hg hm Fn.kp (fun_kbn Fn hb) pass0 pa pk hall hks hdb he hpl, fun g F σ H ρ δ d kd δ' Q S hf q => ?_⟩
  obtain ⟨cs, e1, e2, e3⟩ := fCallP_some hf
  obtain ⟨c1, δ1, c2, h1, h2, l1, l2, rfl⟩ := vPerm_some e1
  refine xa g F σ H ρ δ c1 δ1 _ S h1 fun vs H1 k1 S1 r1 => ?_
  refine xk g F σ H1 ρ δ1 c2 _ _ S1 h2 fun zs H2 k2 S2 r2 => ⟨by rw [paired_len r1, l1], by rw [paired_len r2, l2], ?_⟩
  exact callP_run hn S.good S2.good (paired_perm (paired_app (res_pair_keep k2 S.good r1) (res_pair_ear k1 r2)) ix) e2 e3 fun v H' s r => q v H' (k1.trans (k2.trans (Keep.of_same s))) (S2.same s) (r.earlier (k1.trans k2))
theorem pe_callN0 {X : Cx} {CX : CXT} {k : Nat} {f : Addr} {fd : FuncData} {ps ks : List Str} {sp : Sp} {E : XK} {x : Str} {p pos : Pos} {kws : List Keyword} {tk : TA} {g : List Value → List Value → List Value} {gV : List V → List V → List V} (F : FnOk X.prog X.w X.K X.mg X.base CX k f fd ps sp) (hr : Room k X.A) (hg : Gl X x) (hm : X.mg x = some (.ref f)) (hk : PySem.W.keepIn X.K (.ref f) = true) (hb : KBn X.K fd ps 0 ks g gV) (hx : Passes CX X E) (hkw : PK X kws tk)
    (hall : (backToKw pos (keywordEach kws X.env)).all (·.1.isSome) = true := by rfl) (hks : (backToKw pos (keywordEach kws X.env)).filterMap (·.1) = ks := by rfl) (hdb : (x == ("__debug__" : Str)) = false := by decide)
    (hpl : ((backTo pos (starEach [] X.env)).any (·.1) || (backToKw pos (keywordEach kws X.env)).any (·.1.isNone)) = false := by rfl) :
    PE X (.Call (.Name x p) [] kws pos) (tCallN 0 ks.length sp gV E tNil tk) := by
  refine ⟨fun pins s σ H Q I h => ?_⟩
  refine wpAny_Call_Name_kw (ld_glob I hg hm ?_ hdb)
  refine PySem.W.callWith_KW0 (h₀ := X.base) I.ok.mod.kin hk hall ?_ hpl
  refine thn (hkw.run pos pins s σ H _ I h) fun ws s2 ⟨zs, H2, I2, rz, l1, l2, q2⟩ => ⟨I2.kIn, ?_⟩
  rw [hks]
  exact run_fnN (us := []) (vs := []) F hr hb hx I2 .nil rz rfl l2 q2
/-- f(k = v, ..) -/
theorem de_callK0 {ks : List Str} {ix : List Nat} (C : OwnF X.prog X.w X.K X.mg X.base k x qual st ps (spP X.K n gf)) (hr : Room k X.A) (hg : Gl X x)
    (hn : ∀ ds c, gf ds = some c → ds.length = n) (hb : KwB x qual st ps ks 0 ix) (hw : DKw X kws fw)
    (hall : (backToKw pos (keywordEach kws X.env)).all (·.1.isSome) = true := by rfl) (hks : (backToKw pos (keywordEach kws X.env)).filterMap (·.1) = ks := by rfl)
    (hdb : (x == ("__debug__" : Str)) = false := by decide)
    (hpl : ((backTo pos (starEach [] X.env)).any (·.1) || (backToKw pos (keywordEach kws X.env)).any (·.1.isNone)) = false := by rfl) :
    DE X (.Call (.Name x p) [] kws pos) (fCallP gf (vPerm ix 0 ks.length vNil fw)) := by
  obtain ⟨f, fd, Fk, hm, Fn, _⟩ := C.ex
  obtain ⟨tk, pk, xk⟩ := hw.ex
  refine ⟨_, pe_callN0 Fk hr hg hm Fn.kp (fun_kbn Fn hb) pass0 pk hall hks hdb hpl, fun g F σ H ρ δ d kd δ' Q S hf q => ?_⟩
  obtain ⟨cs, e1, e2, e3⟩ := fCallP_some hf
  obtain ⟨c1, δ1, c2, h1, h2, l1, l2, rfl⟩ := vPerm_some e1
  cases h1
  refine xk g F σ H ρ δ c2 _ _ S h2 fun zs H2 k2 S2 r2 => ⟨rfl, by rw [paired_len r2, l2], ?_⟩
  exact callP_run hn S.good S2.good (paired_perm (vs := [] ++ zs) (cs := [] ++ c2) r2 ix) e2 e3 fun v H' s r => q v H' (k2.trans (Keep.of_same s)) (S2.same s) (r.earlier k2)
end
end
end DL
/-! D-layer, part j: is, isinstance, xs[::-1], ranges with a step, the rules for defs with draws and for the law. -/
namespace DL
open PySem PySem.Spec PyProof.Rows L2
section
variable {X : Cx}
/-! ### is, is not -/
def rIsX (neg : Bool) : R2 := fun x y H Q => (y = .non ∨ ∃ b, y = .bl b) ∧ Q (.bl (decide (x = y) != neg)) H
theorem is_x {prog : Program} {w : World} {A : Around} {E : Value → Shared → Prop} {s : Shared} {x y : V} {v u : Value} {R : Bool → Shared → Prop} (rx : RelV x v) (ry : RelV y u) (hy : y = .non ∨ ∃ b, y = .bl b) (q : R (decide (x = y)) s) : wpAny (model prog w) A (isSame v u) R E s := by
  have go : ∀ {b : Bool}, plainIs v u = true → (v == u) = b → decide (x = y) = b → wpAny (model prog w) A (isSame v u) R E s := fun h1 h2 h3 => wpAny_isSame_plain h1 (by rw [h2, ← h3]; exact q)
  rcases hy with rfl | ⟨b, rfl⟩
  · cases ry
    cases x with
    | non => cases rx; exact go rfl rfl (by decide)
    | bl b => cases rx; exact go rfl rfl (by simp)
    | int i => obtain ⟨t, rfl⟩ := rx; exact go rfl rfl (by simp)
    | str i => obtain ⟨t, rfl⟩ := rx; exact go rfl rfl (by simp)
    | byt i => obtain ⟨t, rfl⟩ := rx; exact go rfl rfl (by simp)
    | flt i => obtain ⟨t, rfl⟩ := rx; exact go rfl rfl (by simp)
    | ref a => cases rx; exact go rfl rfl (by simp)
    | ty n => cases rx; exact go rfl rfl (by simp)
  · cases ry
    cases x with
    | non => cases rx; exact go rfl rfl (by simp)
    | bl c =>
      cases rx
      cases b <;> cases c <;> exact go rfl rfl (by simp)
    | int i => obtain ⟨t, rfl⟩ := rx; exact go rfl rfl (by simp)
    | str i => obtain ⟨t, rfl⟩ := rx; exact go rfl rfl (by simp)
    | byt i => obtain ⟨t, rfl⟩ := rx; exact go rfl rfl (by simp)
    | flt i => obtain ⟨t, rfl⟩ := rx; exact go rfl rfl (by simp)
    | ref a => cases rx; exact go rfl rfl (by simp)
    | ty n => cases rx; exact go rfl rfl (by simp)
theorem op_isX : OpR X (compareOp .Is) (rIsX false) := by
  intro pins s σ H x y v u Q I rx ry ⟨hy, q⟩
  show wpAny _ _ ((isSame v u) >>= fun z => pure (Value.bool z)) _ _ s
  exact wpAny_bind (is_x rx ry hy (wpAny_pure (fin_bl I q (by simp))))
theorem op_notX : OpR X (compareOp .IsNot) (rIsX true) := by
  intro pins s σ H x y v u Q I rx ry ⟨hy, q⟩
  show wpAny _ _ ((isSame v u) >>= fun z => pure (Value.bool (!z))) _ _ s
  exact wpAny_bind (is_x rx ry hy (wpAny_pure (fin_bl I q (by simp))))
def isD (x y : D) : Option Bool := match y with
  | .non => match x with | .non => some true | _ => some false
  | .bl b => match x with | .bl c => some (c == b) | _ => some false
  | _ => none
def oIs : OF2 := fun x y => (isD x y).map fun b => (.bl b, .sh)
def oIsNot : OF2 := fun x y => (isD x y).map fun b => (.bl (!b), .sh)
theorem rd1_is {K : PySem.W.Frag} {g : Gh} {F : Fp} {H : Hp} {x y : V} {dx dy : D} {b : Bool} (r1 : Rd1 K g F H x dx) (r2 : Rd1 K g F H y dy) (h : isD dx dy = some b) : (y = .non ∨ ∃ b, y = .bl b) ∧ decide (x = y) = b := by
  cases dy with
  | non =>
    cases r2.non
    refine ⟨.inl rfl, ?_⟩
    rcases r1 with r1 | ⟨p, e, n, t⟩
    · cases r1 <;> (cases h; simp)
    · subst e
      cases dx <;> first | exact t.elim | (cases h; simp)
  | bl c =>
    cases r2.bl
    refine ⟨.inr ⟨c, rfl⟩, ?_⟩
    rcases r1 with r1 | ⟨p, e, n, t⟩
    · cases r1 <;> (cases h; simp)
      rename_i c'
      cases c <;> cases c' <;> simp
    · subst e
      cases dx <;> first | exact t.elim | (cases h; simp)
  | _ => cases h
theorem o_is : Op2 X (compareOp .Is) oIs := by
  refine ⟨_, op_isX, fun g F H x y dx dy d k Q G r1 r2 ho q => ?_⟩
  unfold oIs at ho
  cases e : isD dx dy with
  | none => rw [e] at ho; cases ho
  | some b =>
    rw [e] at ho
    cases ho
    obtain ⟨h1, h2⟩ := rd1_is r1 r2 e
    refine ⟨h1, q _ H (Same.refl _) ?_⟩
    rw [h2]
    cases b <;> exact .bl _
theorem o_isNot : Op2 X (compareOp .IsNot) oIsNot := by
  refine ⟨_, op_notX, fun g F H x y dx dy d k Q G r1 r2 ho q => ?_⟩
  unfold oIsNot at ho
  cases e : isD dx dy with
  | none => rw [e] at ho; cases ho
  | some b =>
    rw [e] at ho
    cases ho
    obtain ⟨h1, h2⟩ := rd1_is r1 r2 e
    refine ⟨h1, q _ H (Same.refl _) ?_⟩
    rw [h2]
    cases b <;> exact .bl _
/-! ### isinstance -/
def tyD : D → Option String
  | .non => some "NoneType"
  | .bl _ => some "bool"
  | .int _ => some "int"
  | .str _ => some "str"
  | .tup _ => some "tuple"
  | .lst _ => some "list"
  | _ => none
theorem rd1_ty {g : Gh} {F : Fp} {H : Hp} {x : V} {d : D} {n : String} (r : Rd1 X.K g F H x d) (h : tyD d = some n) : TyX X.K H x (.type n) := by
  cases d with
  | non => cases h; cases r.non; exact .base .non
  | bl b => cases h; cases r.bl; exact .base (.bl b)
  | int b => cases h; cases r.int; exact .base (.int b)
  | str b => cases h; cases r.str; exact .base (.str b)
  | tup ds =>
    cases h
    obtain ⟨p, xs, rfl, h1, _⟩ := r.tup
    rcases h1 with (h1 | ⟨o, h1⟩) | ⟨o, its, m, h1, h2, _⟩
    · exact .base (.tup h1)
    · exact .fTuple h1
    · exact .kTuple h1 h2
  | lst ds =>
    cases h
    obtain ⟨p, xs, rfl, h1, _⟩ := r.lst
    rcases h1 with h1 | ⟨o, h1⟩
    · exact .base (.lst h1)
    · exact .base (.frz h1)
  | _ => cases h
def oIsa : OFn := fun ds => match ds with
  | [x, .ty n] => (tyD x).bind fun a => (kitB a n).map fun b => (.bl b, .sh)
  | _ => none
theorem c_isa : CallD X (.builtin "isinstance") oIsa := by
  refine ⟨_, call_isi, fun g F H vs ds d k Q G r ho q => ?_⟩
  unfold oIsa at ho
  split at ho
  · rename_i x n
    cases e1 : tyD x with
    | none => rw [e1] at ho; cases ho
    | some a =>
      rw [e1] at ho
      simp only [Option.bind_some] at ho
      cases e2 : kitB a n with
      | none => rw [e2] at ho; cases ho
      | some b =>
        rw [e2] at ho
        cases ho
        cases r with
        | cons r1 r =>
          cases r with
          | cons r2 r =>
            cases r
            rename_i v1 v2
            have e3 : v2 = V.ty n := by
              rcases r2 with r2 | ⟨p, e, n', t⟩
              · cases r2; rfl
              · exact t.elim
            subst e3
            exact ⟨_, _, _, _, b, rfl, .ty n, rd1_ty r1 e1, kit_ty e2, q _ H (Same.refl _) (.bl b)⟩
  · cases ho
/-- isinstance(x, (A, B, ..)) of built-in types -/
def anyTy (a : String) : List String → Option Bool
  | [] => some false
  | n :: ns => (kitB a n).bind fun b => if b then some true else anyTy a ns
theorem anyTy_kit {K : PySem.W.Frag} {a : String} : ∀ {ns : List String} {b : Bool}, anyTy a ns = some b → PySem.W.kitAny K (.type a) (ns.map Value.type) = some b
  | [], b, h => by cases h; exact kitAny_nil
  | n :: ns, b, h => by
    unfold anyTy at h
    cases e : kitB a n with
    | none => rw [e] at h; cases h
    | some c =>
      rw [e] at h
      simp only [Option.bind_some] at h
      cases c with
      | true =>
        rw [if_pos rfl] at h
        cases h
        exact kitAny_cons (kit_ty e) (fun z => by cases z) (fun _ => rfl)
      | false =>
        rw [if_neg (by simp)] at h
        exact kitAny_cons (kit_ty e) (fun _ => anyTy_kit h) (fun z => by cases z)
theorem tys_cls : ∀ ns : List String, Paired ClsV (ns.map V.ty) (ns.map Value.type)
  | [] => .nil
  | n :: ns => .cons (.ty n) (tys_cls ns)
/-- names of built-in types in a row -/
structure TyArgs (X : Cx) (es : List Expr) (ns : List String) : Prop where
  ex : ∃ t : TA, PA X es t ∧ ∀ (σ : L2.St) (H : Hp) (Q : List V → Hp → Prop), Q (ns.map V.ty) H → t σ H Q
theorem ty_nil : TyArgs X [] [] := ⟨_, pa_nil, fun σ H Q q => q⟩
theorem ty_cons {e : Expr} {es : List Expr} {n : String} {ns : List String} (h : PE X e (tC (.ty n))) (r : TyArgs X es ns) (hs : starEach (e :: es) X.env = (false, eval e X.env) :: starEach es X.env := by rfl) : TyArgs X (e :: es) (n :: ns) := by
  obtain ⟨t, p, x⟩ := r.ex
  exact ⟨_, pa_cons h p hs, fun σ H Q q => x σ H _ q⟩
def fIsaT (f : EF) (ns : List String) : EF := fun ρ δ => (f ρ δ).bind fun p => (tyD p.1).bind fun a => (anyTy a ns).map fun b => (.bl b, .sh, p.2.2)
theorem de_isaT {p pos tp : Pos} {x1} {e : Expr} {es : List Expr} {f : EF} {ns : List String} (hg : Gl X "isinstance") (hm : X.mg "isinstance" = none) (he : DE X e f) (ht : TyArgs X es ns) (hl : ns.length ≤ 100 := by decide)
    (h1 : starEach [e, .Tuple es x1 tp] X.env = (false, eval e X.env) :: starEach [.Tuple es x1 tp] X.env := by rfl) (h2 : starEach [.Tuple es x1 tp] X.env = (false, eval (.Tuple es x1 tp) X.env) :: starEach [] X.env := by rfl) (hpl : (backTo pos (starEach [.Tuple es x1 tp] X.env)).any (·.1) = false := by rfl) :
    DE X (.Call (.Name "isinstance" p) [e, .Tuple es x1 tp] [] pos) (fIsaT f ns) := by
  obtain ⟨t, pe, x⟩ := he.ex
  obtain ⟨t2, p2, x2⟩ := ht.ex
  refine ⟨_, pe_callB call_isiT hg hm boot_isinstance (pa_cons pe (pa_cons (pe_tup p2) pa_nil h2) h1) (by decide) (by decide) h1 hpl, fun g F σ H ρ δ d k δ' Q S hf q => ?_⟩
  unfold fIsaT at hf
  cases e1 : f ρ δ with
  | none => rw [e1] at hf; cases hf
  | some c =>
    obtain ⟨d1, k1, δ1⟩ := c
    rw [e1] at hf
    simp only [Option.bind_some] at hf
    cases e2 : tyD d1 with
    | none => rw [e2] at hf; cases hf
    | some a =>
      rw [e2] at hf
      simp only [Option.bind_some] at hf
      cases e3 : anyTy a ns with
      | none => rw [e3] at hf; cases hf
      | some b =>
        rw [e3] at hf
        cases hf
        refine x g F σ H ρ δ d1 k1 _ _ S e1 fun v H1 ke S1 r1 => ?_
        refine x2 σ H1 _ ⟨by rw [List.length_map]; exact Nat.le_trans hl (by decide), fun tp htp => ?_⟩
        have sm := same_upd (o := .tup (ns.map V.ty)) htp
        refine ⟨v, tp, _, .type a, _, b, rfl, upd_same, tys_cls ns, rd1_ty ((r1.rd S.good).same sm) e2, anyTy_kit e3, ?_⟩
        exact q _ _ (ke.trans (Keep.of_same sm)) (S1.same sm) (.bl b)
/-! ### xs[::-1] -/
def fRev (f : EF) : EF := fun ρ δ => (f ρ δ).bind fun p => match p.1 with | .lst a => some (.lst a.reverse, .ow, p.2.2) | _ => none
theorem de_rev {e : Expr} {f : EF} {k : Nat} {p1 p2 p3 pos : Pos} (h : DE X e f) : DE X (.Subscript e (.Slice none none (some (.UnaryOp .USub (.Constant (.int 1) k p1) p2)) p3) pos) (fRev f) := by
  obtain ⟨t, p, x⟩ := h.ex
  refine ⟨_, pe_revL p, fun g F σ H ρ δ d k δ' Q S hf q => ?_⟩
  unfold fRev at hf
  cases e1 : f ρ δ with
  | none => rw [e1] at hf; cases hf
  | some c =>
    obtain ⟨d1, k1, δ1⟩ := c
    rw [e1] at hf
    simp only [Option.bind_some] at hf
    split at hf
    · rename_i a
      cases hf
      refine x g F σ H ρ δ _ _ _ _ S e1 fun v H1 ke S1 r1 => ?_
      obtain ⟨p1, x1, rfl, h1, s1⟩ := (r1.rd S.good).lst
      refine ⟨_, _, rfl, .inl h1, fun b hb => ?_⟩
      have sm := same_upd (o := .lst x1.reverse) hb
      exact q _ _ (ke.trans (Keep.of_same sm)) (S1.same sm) ((res_new hb s1.reverse).earlier ke)
    · cases hf
/-! ### things of the module -/
theorem de_glob {x : Str} {u : Value} {pos : Pos} {v : V} {c : D} (hg : Gl X x) (hm : X.mg x = some u) (rv : RelV v u) (r : ∀ O H, Rep X.K O H v c) (hd : (x == ("__debug__" : Str)) = false := by decide) : DE X (.Name x pos) (fC c) :=
  de_c (pe_glob hg hm rv hd) r
theorem de_ty {x : Str} {n : String} {pos : Pos} (hg : Gl X x) (hm : X.mg x = none) (hv : bootBuiltins x = some (.type n)) (hn : x ≠ "__name__" := by decide) (hd : (x == ("__debug__" : Str)) = false := by decide) : DE X (.Name x pos) (fC (.ty n)) :=
  de_c (pe_bltn (v := .ty n) hg hm hv rfl hn hd) fun _ _ => .ty n
/-! ### a name's own list is one's own no more -/
def hFrz (i : Nat) (h : HF') : HF' := fun ρ δ => match ρ[i]? with
  | some (.ow d) => h (ρ.set i (.sh d)) δ
  | _ => none
theorem dss_frz {i : Nat} {st : List Stmt} {h : HF'} (hs : DSs X st h) : DSs X st (hFrz i h) := by
  obtain ⟨t, p, x⟩ := hs.ex
  refine ⟨t, p, fun H0 g F σ H ρ δ o ρ' δ' D' S W hf q => ?_⟩
  unfold hFrz at hf
  split at hf
  · rename_i d e
    obtain ⟨p, _, _, S1⟩ := S.freeze e
    exact x H0 g _ σ H _ δ o ρ' δ' D' S1 (W.sub (FSub.nil F i)) hf q
  · cases hf
end
/-! ### defs with draws; the law -/
section
variable {P : Program} {w : World} {K : PySem.W.Frag} {mg : Str → Option Value} {base : Heap}
theorem sr_startW {A : Addr → Prop} {N : List Str} {vs : List V} {ds : List D} {m : Nat} {H : Hp} {δ : Dr} {p q : Addr} (hN : N.length = vs.length + 1 + m) (hA : ∀ a, A a → H a ≠ none ∧ a ≠ p ∧ a ≠ q) (dl : DealR ⟨A, some (p, q)⟩ H δ)
    (r : Reps K (fun a => A a ∨ a = p ∨ a = q) H vs ds) : SR K ⟨A, some (p, q)⟩ (fun _ => []) (L2.start N (.ref p :: vs)) (.dl :: ds.map .sh ++ List.replicate m .un) δ H where
  len := by
    unfold L2.start
    simp only [List.length_append, List.length_map, List.length_replicate, List.length_cons, List.cons_append]
    rw [r.length]
    have := r.length
    omega
  slot := fun i s h => by
    cases i with
    | zero =>
      cases h
      exact ⟨p, q, rfl, rfl⟩
    | succ i =>
      have h : (ds.map SV.sh ++ List.replicate m SV.un)[i]? = some s := h
      have e0 : (L2.start N (.ref p :: vs))[i + 1]? = (vs.map some ++ List.replicate (N.length - (vs.length + 1)) none)[i]? := rfl
      by_cases hi : i < vs.length
      · rw [List.getElem?_append_left (by rw [List.length_map, ← r.length]; exact hi), List.getElem?_map] at h
        cases e : ds[i]? with
        | none => rw [e] at h; cases h
        | some d =>
          rw [e] at h
          cases h
          obtain ⟨v, e1, e2⟩ := r.getD e
          refine ⟨v, ?_, e2.weak fun a z => ?_⟩
          · rw [e0, List.getElem?_append_left (by simpa using hi), List.getElem?_map, e1]
            rfl
          · rcases z with z | ⟨p', q', z, z2⟩ | ⟨j, z⟩
            · exact .inl z
            · cases z
              exact .inr z2
            · cases z
      · rw [List.getElem?_append_right (by rw [List.length_map, ← r.length]; omega)] at h
        have e : s = .un := (List.mem_replicate.mp (List.mem_of_getElem? h)).2
        subst e
        trivial
  apart := fun i j a h => by cases h
  new := fun i a h => by cases h
  dom := fun a z ⟨p', q', e, z2⟩ => by
    cases e
    exact z2.elim (hA a z).2.1 (hA a z).2.2
  there := fun a h => by
    rcases h with z | ⟨p', q', z, z2⟩ | ⟨j, z⟩
    · exact (hA a z).1
    · cases z
      obtain ⟨_, d1, d2⟩ := dl p q rfl
      rcases z2 with rfl | rfl
      · rw [d1]; simp
      · rw [d2]; simp
    · cases z
  mt := fun i a h => by cases h
  deal := dl
/-- THE RULE for a def whose first argument are the draws -/
theorem fn_deal {x qual : Str} {st : Stmt} {f : Addr} {fd : FuncData} {N ps : List Str} {k n m : Nat} {h : HF'} (Fn : Fun K x qual st f fd) (S : FnScope N ps (defScope st)) (hn : ps.length = n + 1) (hN : N.length = n + 1 + m)
    (hb : ∀ (cdv : Value) (A : Around) (outer : List Env) (s : Shared) (H : Hp) (E : XK), Room k (A.deeper (envOfC qual (defScope st) s.heap.objs.size f cdv)) → DSs (cxOf CX0 P w K mg base N qual (defScope st) f cdv A outer s H E).nox (defBody st) h) :
    FnOk P w K mg base CX0 (k + 1) f fd ps (spW K n (fnW n m h)) := by
  refine Fn.ok S (fun vs H Q E z => by rw [z.1, hn]) fun cdv A outer s H vs Q E hr z => ?_
  obtain ⟨hl, Av0, p, q, us, ds, δ, d, kd, δ', rfl, hA, dl, r, hg, qq⟩ := z
  obtain ⟨t, pp, x⟩ := (hb cdv A outer s H E hr).ex
  refine ⟨t, pp, ?_⟩
  unfold fnW at hg
  split at hg
  · cases e : h (.dl :: ds.map .sh ++ List.replicate m .un) δ with
    | none => rw [e] at hg; cases hg
    | some c =>
      obtain ⟨o, ρ', δ1⟩ := c
      rw [e] at hg
      have hl' : us.length = n := by simpa using hl
      have S0 := sr_startW (N := N) (m := m) (by rw [hN, hl']) hA dl r
      have pd : ∀ a, Gh.Pd ⟨Av0, some (p, q)⟩ a ↔ a = p ∨ a = q := fun a => ⟨fun ⟨p', q', z, z2⟩ => by cases z; exact z2, fun z => ⟨p, q, rfl, z⟩⟩
      have W0 : SH H ⟨Av0, some (p, q)⟩ (fun _ => []) H := ⟨fun i a z => (by cases z), fun a z => (hA a z).1, fun a z => S0.there a (.inr (.inl z)), Keep.refl _ _⟩
      have kp : ∀ {H'}, Keep (Gh.Pd ⟨Av0, some (p, q)⟩) H H' → Keep (fun a => a = p ∨ a = q) H H' := fun k => k.mono fun a z => (pd a).mp z
      refine x H ⟨Av0, some (p, q)⟩ (fun _ => []) _ H _ _ o ρ' δ1 _ S0 W0 e ?_
      cases o with
      | nx =>
        cases hg
        exact fun F σ H' S' W' => qq .non H' (kp W'.keep) S'.deal .non
      | rt d' k' =>
        cases k' with
        | sh =>
          cases hg
          exact fun v H' ⟨a, b, c⟩ => qq v H' (kp a) b (c.weak fun a z => z.imp id (pd a).mpr)
        | ow =>
          cases hg
          exact fun v H' ⟨a, b, p', e, n, t⟩ => qq v H' (kp a) b ⟨p', e, n, t.weak fun a z => z.imp (fun z => z.imp id (pd a).mpr) id⟩
        | br => cases hg
      | bk => cases hg
      | ct => cases hg
  · cases hg
/-- what the law's own def promises -/
def spL (K : PySem.W.Frag) : Sp := fun vs H Q _ => ∃ (a : Addr) (ns : List Int), vs = [.ref a] ∧ WL K H a (ns.map V.int) ∧ ns.length ≤ 63 ∧ ∀ H', Q (.bl true) H'
theorem wl_of {K : PySem.W.Frag} {H : Hp} {a : Addr} {xs : List V} (o : Only H) (h : SqL K H a xs) : WL K H a xs := by
  rcases h with (h | h) | h
  · rcases o a with z | ⟨o, ys, z⟩
    · rw [h] at z; cases z
    · rw [h] at z; cases z
  · exact .inl h
  · exact .inr h
/-- the draws that a def of the law's makes of the script -/
def dealOf (gf : List D → Option (D × Kd)) (salt : Int) (ns : List Int) : Option Dr := match gf [.wls (ns.map .int), .int salt] with
  | some (.lst [.lst cs, .int m], .ow) => (intsOf cs).map fun c => (c, m)
  | _ => none
theorem dealOf_some {gf : List D → Option (D × Kd)} {salt : Int} {ns : List Int} {δ : Dr} (h : dealOf gf salt ns = some δ) : gf [.wls (ns.map .int), .int salt] = some (.lst [.lst (δ.1.map .int), .int δ.2], .ow) := by
  unfold dealOf at h
  split at h
  · rename_i cs m e
    cases e1 : intsOf cs with
    | none => rw [e1] at h; cases h
    | some c =>
      rw [e1] at h
      cases h
      rw [e, intsOf_some e1]
  · cases h
/-- how the law begins: deal, y = (f(script, salt), []) -/
def tLaw (K : PySem.W.Frag) (gf : List D → Option (D × Kd)) (salt : Int) : TS := tPar 1 2 (tCons (tCall (spP K 2 gf) [] E0 (tCons (tVar 0) (tCons (tC (.int salt)) tNil))) (tCons (tLst tNil) tNil))
/-- THE RULE for the law -/
theorem fn_law {x qual : Str} {st : Stmt} {f : Addr} {fd : FuncData} {N : List Str} {k m : Nat} {s0 : Stmt} {rest : List Stmt} {h : HF'} {ys : Str} {gf : List D → Option (D × Kd)} {salt : Int}
    (Fn : Fun K x qual st f fd) (S : FnScope N [ys] (defScope st)) (hN : N.length = 3 + m) (hbd : defBody st = s0 :: rest)
    (hb : ∀ (cdv : Value) (A : Around) (outer : List Env) (s : Shared) (H : Hp) (E : XK), Room k (A.deeper (envOfC qual (defScope st) s.heap.objs.size f cdv)) →
      PS (cxOf CX0 P w K mg base N qual (defScope st) f cdv A outer s H E).nox s0 (tLaw K gf salt) ∧ DSs (cxOf CX0 P w K mg base N qual (defScope st) f cdv A outer s H E).nox rest h)
    (law : ∀ ns : List Int, ns.length ≤ 63 → ∃ δ ρ' δ', dealOf gf salt ns = some δ ∧ h (.un :: .dl :: .ow (.lst []) :: List.replicate m .un) δ = some (.rt (.bl true) .sh, ρ', δ')) :
    FnOk P w K mg base CX0 (k + 1) f fd [ys] (spL K) := by
  refine Fn.ok S (fun vs H Q E z => by obtain ⟨a, ns, rfl, _⟩ := z; rfl) fun cdv A outer s H vs Q E hr z => ?_
  obtain ⟨a, ns, rfl, hS, hl, q⟩ := z
  obtain ⟨δ, ρ', δ', hd, hlaw⟩ := law ns hl
  obtain ⟨p0, hrest⟩ := hb cdv A outer s H E hr
  obtain ⟨t, pp, xx⟩ := hrest.ex
  rw [hbd]
  refine ⟨_, pss_cons p0 pp, ?_⟩
  have l0 : (L2.start N [V.ref a])[0]? = some (some (.ref a)) := rfl
  refine ⟨_, l0, ?_⟩
  refine ⟨rfl, fun _ => False, [.wls (ns.map .int), .int salt], _, _, fun a z => z.elim, .cons (.wls hS (.of_ints ns)) (.cons (.int salt) .nil), dealOf_some hd, fun v H' sm o => ?_⟩
  obtain ⟨p, rfl, hp, xs, hx, hr2⟩ := o
  cases hr2 with
  | cons r1 r2 =>
    cases r2 with
    | cons r2 r3 =>
      cases r3
      cases r2
      cases r1 with
      | @lst qa ys' _ hq nq rq =>
        have rq := rq.ints
        subst rq
        have ne : p ≠ qa := fun z => nq (.inr z.symm)
        refine ⟨Nat.zero_le _, fun p2 n2 => ⟨_, _, rfl, ?_⟩⟩
        have sm2 := same_upd (o := .lst []) n2
        have n2p : p2 ≠ p := fun z => by rw [z, hx] at n2; cases n2
        have n2q : p2 ≠ qa := fun z => by rw [z, hq] at n2; cases n2
        let g : Gh := ⟨fun _ => False, some (p, qa)⟩
        let F : Fp := fun i => if i = 2 then [p2] else []
        have inF : ∀ {i a}, a ∈ F i → i = 2 ∧ a = p2 := fun {i a} z => by
          by_cases e : i = 2
          · subst e
            exact ⟨rfl, by simpa [F] using z⟩
          · have z' : a ∈ (if i = 2 then [p2] else []) := z
            rw [if_neg e] at z'
            cases z'
        have pdE : ∀ {a}, g.Pd a → a = p ∨ a = qa := fun ⟨x, y, z, z2⟩ => by cases z; exact z2
        have dl : DealR g (upd H' p2 (.lst [])) δ := fun x y z => by
          cases z
          exact ⟨ne, sm2 _ _ hx, sm2 _ _ hq⟩
        have S2 : SR K g F (((L2.start N [V.ref a]).set 1 (some (V.ref p))).set 2 (some (V.ref p2))) (.un :: .dl :: .ow (.lst []) :: List.replicate m .un) δ (upd H' p2 (.lst [])) := {
          len := by
            unfold L2.start
            simp only [List.length_set, List.length_append, List.length_map, List.length_replicate, List.length_cons, List.length_nil]
            omega
          slot := fun i s hi => by
            have hl3 : 3 ≤ (L2.start N [V.ref a]).length := by
              unfold L2.start
              simp only [List.length_append, List.length_map, List.length_replicate, List.length_cons, List.length_nil]
              omega
            rcases i with _ | _ | _ | i
            · cases hi
              trivial
            · cases hi
              refine ⟨p, qa, rfl, ?_⟩
              rw [List.getElem?_set_ne (by decide), List.getElem?_set_self (by omega)]
            · cases hi
              refine ⟨p2, ?_, rfl, [], upd_same, .nil⟩
              rw [List.getElem?_set_self (by rw [List.length_set]; omega)]
            · have e : s = .un := (List.mem_replicate.mp (List.mem_of_getElem? (show (List.replicate m SV.un)[i]? = some s from hi))).2
              subst e
              trivial
          apart := fun i j b h1 h2 => (inF h1).1.trans (inF h2).1.symm
          new := fun i b z => ⟨id, fun pd => by
            have e := (inF z).2
            subst e
            exact (pdE pd).elim n2p n2q⟩
          dom := fun b z => z.elim
          there := fun b z => by
            rcases z with z | z | ⟨i, z⟩
            · exact z.elim
            · rcases pdE z with rfl | rfl
              · rw [sm2 _ _ hx]; simp
              · rw [sm2 _ _ hq]; simp
            · rw [(inF z).2, upd_same]; simp
          mt := fun i b z => by
            rw [(inF z).2]
            exact ⟨_, upd_same, trivial⟩
          deal := dl }
        have W2 : SH H' g F (upd H' p2 (.lst [])) := ⟨fun i b z => by rw [(inF z).2]; exact n2, fun b z => z.elim, fun b z => by
          rcases pdE z with rfl | rfl
          · rw [hx]; simp
          · rw [hq]; simp, Keep.of_same sm2⟩
        refine xx H' g F _ _ _ δ _ ρ' δ' _ S2 W2 hlaw fun v H3 z => ?_
        obtain ⟨_, _, z⟩ := z
        cases z
        exact q H3

end
end DL
/-! D-layer, part k: what a def does with the draws' own list: d[0], d[1]. -/
namespace DL
open PySem PySem.Spec PyProof.Rows L2
section
variable {X : Cx}
/-- the draws' list where a slot holds it -/
theorem dl_at {K : PySem.W.Frag} {g : Gh} {F : Fp} {σ : L2.St} {ρ : Rho} {δ : Dr} {H : Hp} {i : Nat} (S : SR K g F σ ρ δ H) (e : ρ[i]? = some .dl) : ∃ p q, g.P = some (p, q) ∧ σ[i]? = some (some (.ref p)) ∧ p ≠ q ∧ H p = some (.lst [.ref q, .int δ.2]) ∧ H q = some (.lst (δ.1.map .int)) := by
  obtain ⟨p, q, h1, h2⟩ := S.slot i _ e
  obtain ⟨a, b, c⟩ := S.deal p q h1
  exact ⟨p, q, h1, h2, a, b, c⟩
theorem pd_of {g : Gh} {p q : Addr} (h : g.P = some (p, q)) {a : Addr} : g.Pd a ↔ a = p ∨ a = q := by
  unfold Gh.Pd
  rw [h]
  exact ⟨fun ⟨x, y, z, z2⟩ => by cases z; exact z2, fun z => ⟨p, q, rfl, z⟩⟩
/-- one of the two lists is changed -/
theorem dl_turn {K : PySem.W.Frag} {g : Gh} {F : Fp} {σ : L2.St} {ρ : Rho} {δ δ' : Dr} {H : Hp} {p q a : Addr} {xs ys : List V} (S : SR K g F σ ρ δ H) (h : g.P = some (p, q)) (ha : a = p ∨ a = q) (e : H a = some (.lst xs)) (d : DealR g (upd H a (.lst ys)) δ') : Keep g.Pd H (upd H a (.lst ys)) ∧ SR K g F σ ρ δ' (upd H a (.lst ys)) := by
  have k := keep_upd (P := g.Pd) (o' := .lst ys) e trivial trivial ((pd_of h).mpr ha)
  exact ⟨k, S.grow k d⟩
theorem dl_setQ {g : Gh} {δ : Dr} {H : Hp} {p q : Addr} {cs : List Int} (h : g.P = some (p, q)) (n : p ≠ q) (h1 : H p = some (.lst [.ref q, .int δ.2])) : DealR g (upd H q (.lst (cs.map .int))) (cs, δ.2) := fun x y e => by
  rw [h] at e
  cases e
  exact ⟨n, by rw [upd_ne n]; exact h1, upd_same⟩
theorem dl_setP {g : Gh} {δ : Dr} {H : Hp} {p q : Addr} {m : Int} (h : g.P = some (p, q)) (n : p ≠ q) (h2 : H q = some (.lst (δ.1.map .int))) : DealR g (upd H p (.lst [.ref q, .int m])) (δ.1, m) := fun x y e => by
  rw [h] at e
  cases e
  exact ⟨n, upd_same, by rw [upd_ne n.symm]; exact h2⟩
/-- d[0] -/
abbrev tD0 (K : PySem.W.Frag) (i : Nat) : TE := tOp (rIxL K) (tVar i) (tC (.int 0))
theorem pe_d0 {i : Nat} {y : Str} {yp p2 p3 : Pos} {k : Nat} (hy : PE X (.Name y yp) (tVar i)) : PE X (.Subscript (.Name y yp) (.Constant (.int 0) k p2) p3) (tD0 X.K i) := pe_ix ix_list hy pe_int (fun _ _ => rfl)
theorem d0_run {K : PySem.W.Frag} {i : Nat} {σ : L2.St} {H : Hp} {Q : VK} {p q : Addr} {m : Int} (h1 : σ[i]? = some (some (.ref p))) (h2 : H p = some (.lst [.ref q, .int m])) (h : Q (.ref q) H) : tD0 K i σ H Q :=
  ⟨_, h1, p, _, 0, .ref q, rfl, rfl, .inl (.inl h2), rfl, h⟩
/-- len(d[0]) -/
def fDLen (i : Nat) : EF := fun ρ δ => match ρ[i]? with
  | some .dl => some (.int δ.1.length, .sh, δ)
  | _ => none
theorem de_dlen {i : Nat} {y : Str} {yp p2 p3 p pos : Pos} {k : Nat} (hy : PE X (.Name y yp) (tVar i)) (hg : Gl X "len") (hm : X.mg "len" = none)
    (he : starEach [.Subscript (.Name y yp) (.Constant (.int 0) k p2) p3] X.env = (false, eval (.Subscript (.Name y yp) (.Constant (.int 0) k p2) p3) X.env) :: starEach [] X.env := by rfl) : DE X (.Call (.Name "len" p) [.Subscript (.Name y yp) (.Constant (.int 0) k p2) p3] [] pos) (fDLen i) := by
  refine ⟨_, pe_callB call_len_seq hg hm boot_len (pa_cons (pe_d0 hy) pa_nil he) (by decide) (by decide) he, fun g F σ H ρ δ d kd δ' Q S hf q => ?_⟩
  unfold fDLen at hf
  split at hf
  · rename_i e
    cases hf
    obtain ⟨p, qa, h1, h2, n, h3, h4⟩ := dl_at S e
    refine d0_run h2 h3 ⟨_, _, rfl, .inl (.inl (.inl h4)), ?_⟩
    rw [List.length_map]
    exact q _ H (Keep.refl _ _) S (.int _)
  · cases hf
/-- d[0][-1] -/
def fDLast (i : Nat) : EF := fun ρ δ => match ρ[i]? with
  | some .dl => (δ.1[δ.1.length - 1]?).map fun c => (.int c, .sh, δ)
  | _ => none
theorem de_dlast {i : Nat} {y : Str} {yp p2 p3 p4 p5 p6 : Pos} {k k2 : Nat} (hy : PE X (.Name y yp) (tVar i)) : DE X (.Subscript (.Subscript (.Name y yp) (.Constant (.int 0) k p2) p3) (.UnaryOp .USub (.Constant (.int 1) k2 p4) p5) p6) (fDLast i) := by
  refine ⟨_, pe_ix ix_list (pe_d0 hy) (pe_un un_neg pe_int) (fun _ _ => rfl), fun g F σ H ρ δ d kd δ' Q S hf q => ?_⟩
  unfold fDLast at hf
  split at hf
  · rename_i e
    cases e1 : δ.1[δ.1.length - 1]? with
    | none => rw [e1] at hf; cases hf
    | some c =>
      rw [e1] at hf
      cases hf
      obtain ⟨p, qa, h1, h2, n, h3, h4⟩ := dl_at S e
      refine d0_run h2 h3 ⟨1, rfl, qa, _, -1, .int c, rfl, rfl, .inl (.inl h4), ?_, q _ H (Keep.refl _ _) S (.int _)⟩
      have hl : 0 < δ.1.length := by
        cases h : δ.1 with
        | nil => rw [h] at e1; cases e1
        | cons a b => simp
      have e2 : δ.1 = δ.1.dropLast ++ [c] := by
        have := List.dropLast_concat_getLast (l := δ.1) (by intro z; rw [z] at hl; cases hl)
        rw [List.getElem?_eq_getElem (by omega)] at e1
        have e3 := Option.some.inj e1
        rw [← List.getLast_eq_getElem (by intro z; rw [z] at hl; cases hl)] at e3
        rw [← e3]
        exact this.symm
      rw [e2, List.map_append]
      exact atI_last _ _
  · cases hf
/-- d[0].pop() -/
def fDPop (i : Nat) : EF := fun ρ δ => match ρ[i]? with
  | some .dl => (δ.1[δ.1.length - 1]?).map fun c => (.int c, .sh, (δ.1.dropLast, δ.2))
  | _ => none
theorem de_dpop {i : Nat} {y : Str} {yp p2 p3 pa pc : Pos} {k : Nat} (hy : PE X (.Name y yp) (tVar i))
    (hm : PE X (.Subscript (.Name y yp) (.Constant (.int 0) k p2) p3) (tD0 X.K i) → PE X (.Call (.Attribute (.Subscript (.Name y yp) (.Constant (.int 0) k p2) p3) "pop" pa) [] [] pc) (tBM0 X.K "list" rPop (tD0 X.K i)) := by
      exact fun h1 => pe_bm0 PySem.F.plainAttrs_list PySem.F.slot_list_pop PySem.F.type_list_pop mt_pop h1) : DE X (.Call (.Attribute (.Subscript (.Name y yp) (.Constant (.int 0) k p2) p3) "pop" pa) [] [] pc) (fDPop i) := by
  refine ⟨_, hm (pe_d0 hy), fun g F σ H ρ δ d kd δ' Q S hf q => ?_⟩
  unfold fDPop at hf
  split at hf
  · rename_i e
    cases e1 : δ.1[δ.1.length - 1]? with
    | none => rw [e1] at hf; cases hf
    | some c =>
      rw [e1] at hf
      cases hf
      obtain ⟨p, qa, h1, h2, n, h3, h4⟩ := dl_at S e
      refine d0_run h2 h3 ⟨.inl ⟨rfl, _, .inl (.inl h4)⟩, qa, _, .int c, rfl, rfl, h4, ?_, ?_⟩
      · rw [List.length_map, List.getElem?_map, e1]
        rfl
      · have hd : (δ.1.map V.int).dropLast = δ.1.dropLast.map V.int := by rw [List.dropLast_eq_take, List.dropLast_eq_take, List.map_take, List.length_map]
        rw [hd]
        obtain ⟨k1, S1⟩ := dl_turn (δ' := (δ.1.dropLast, δ.2)) S h1 (.inr rfl) h4 (dl_setQ h1 n h3)
        exact q _ _ k1 S1 (.int _)
  · cases hf
/-- d[0].append(e) -/
def hDApp (i : Nat) (f : EF) : HF' := fun ρ δ => match ρ[i]? with
  | some .dl => (f ρ δ).bind fun p => match p.1 with
    | .int z => if p.2.2.1.length < sizeLine then some (.nx, ρ, (p.2.2.1 ++ [z], p.2.2.2)) else none
    | _ => none
  | _ => none
theorem ds_dapp {i : Nat} {y : Str} {e : Expr} {f : EF} {yp p2 p3 pa pc pos : Pos} {k : Nat} (hy : PE X (.Name y yp) (tVar i)) (he : DE X e f)
    (hs : swapsWith (.Call (.Attribute (.Subscript (.Name y yp) (.Constant (.int 0) k p2) p3) "append" pa) [e] [] pc) none pos.line X.env = pure false := by rfl)
    (hm : PE X (.Subscript (.Name y yp) (.Constant (.int 0) k p2) p3) (tD0 X.K i) → ∀ t, PA X [e] t → PE X (.Call (.Attribute (.Subscript (.Name y yp) (.Constant (.int 0) k p2) p3) "append" pa) [e] [] pc) (tBM X.K "list" rAppend (tD0 X.K i) t) := by
      exact fun h1 t h2 => pe_bm PySem.F.plainAttrs_list PySem.F.slot_list_append PySem.F.type_list_append mt_append h1 h2)
    (h1 : starEach [e] X.env = (false, eval e X.env) :: starEach [] X.env := by rfl) : DS X (.Expr (.Call (.Attribute (.Subscript (.Name y yp) (.Constant (.int 0) k p2) p3) "append" pa) [e] [] pc) pos) (hDApp i f) := by
  obtain ⟨t, p, x⟩ := he.ex
  refine ⟨_, ps_expr (hm (pe_d0 hy) _ (pa_cons p pa_nil h1)) hs, fun H0 g F σ H ρ δ o ρ' δ' D' S W hf q => ?_⟩
  unfold hDApp at hf
  split at hf
  · rename_i e0
    cases e1 : f ρ δ with
    | none => rw [e1] at hf; cases hf
    | some c =>
      obtain ⟨d, kd, δ1⟩ := c
      rw [e1] at hf
      simp only [Option.bind_some] at hf
      split at hf
      · rename_i z
        split at hf
        · rename_i hl
          cases hf
          obtain ⟨p, qa, g1, g2, n, g3, g4⟩ := dl_at S e0
          refine d0_run g2 g3 ⟨.inl ⟨rfl, _, .inl (.inl g4)⟩, ?_⟩
          refine x g F σ H ρ δ _ kd δ1 _ S e1 fun v H1 k1 S1 r1 => ?_
          obtain ⟨p', qa', g1', g2', n', g3', g4'⟩ := dl_at S1 e0
          rw [g1] at g1'
          cases g1'
          have ev := (r1.rd S.good).int
          subst ev
          refine ⟨qa, _, .int z, rfl, rfl, g4', by rw [List.length_map]; exact hl, ?_⟩
          rw [show δ1.1.map V.int ++ [V.int z] = (δ1.1 ++ [z]).map V.int by rw [List.map_append]; rfl]
          obtain ⟨k2, S2⟩ := dl_turn (δ' := (δ1.1 ++ [z], δ1.2)) S1 g1 (.inr rfl) g4' (dl_setQ g1 n' g3')
          exact q F σ _ S2 ((W.grow k1).grow k2)
        · cases hf
      · cases hf
  · cases hf
/-- d[1] -/
def fD1 (i : Nat) : EF := fun ρ δ => match ρ[i]? with
  | some .dl => some (.int δ.2, .sh, δ)
  | _ => none
theorem de_d1 {i : Nat} {y : Str} {yp p2 p3 : Pos} {k : Nat} (hy : PE X (.Name y yp) (tVar i)) : DE X (.Subscript (.Name y yp) (.Constant (.int 1) k p2) p3) (fD1 i) := by
  refine ⟨_, pe_ix ix_list hy pe_int (fun _ _ => rfl), fun g F σ H ρ δ d kd δ' Q S hf q => ?_⟩
  unfold fD1 at hf
  split at hf
  · rename_i e
    cases hf
    obtain ⟨p, qa, h1, h2, n, h3, h4⟩ := dl_at S e
    exact ⟨_, h2, p, _, 1, .int δ.2, rfl, rfl, .inl (.inl h3), rfl, q _ H (Keep.refl _ _) S (.int _)⟩
  · cases hf
/-- d[1] = e -/
def hDSet1 (i : Nat) (f : EF) : HF' := fun ρ δ => match ρ[i]? with
  | some .dl => (f ρ δ).bind fun p => match p.1 with
    | .int z => some (.nx, ρ, (p.2.2.1, z))
    | _ => none
  | _ => none
theorem ds_dset1 {i : Nat} {y : Str} {e : Expr} {f : EF} {yp p2 p3 pos : Pos} {k : Nat} (hy : PE X (.Name y yp) (tVar i)) (he : DE X e f)
    (hg : PG X (.Subscript (.Name y yp) (.Constant (.int 1) k p2) p3) (gSub (tVar i) (tC (.int 1)) rSetL))
    (hs : swapsWithSole [.Subscript (.Name y yp) (.Constant (.int 1) k p2) p3] e pos.line X.env = pure false := by rfl) (hw : swappedStores [.Subscript (.Name y yp) (.Constant (.int 1) k p2) p3] e X.env = pure none := by rfl)
    (h1 : (assignEach [.Subscript (.Name y yp) (.Constant (.int 1) k p2) p3] X.env).map (·.2) = [assign (.Subscript (.Name y yp) (.Constant (.int 1) k p2) p3) X.env] := by rfl) : DS X (.Assign [.Subscript (.Name y yp) (.Constant (.int 1) k p2) p3] e pos) (hDSet1 i f) := by
  obtain ⟨t, p, x⟩ := he.ex
  refine ⟨_, ps_asg p hg hs hw h1, fun H0 g F σ H ρ δ o ρ' δ' D' S W hf q => ?_⟩
  unfold hDSet1 at hf
  split at hf
  · rename_i e0
    cases e1 : f ρ δ with
    | none => rw [e1] at hf; cases hf
    | some c =>
      obtain ⟨d, kd, δ1⟩ := c
      rw [e1] at hf
      simp only [Option.bind_some] at hf
      split at hf
      · rename_i z
        cases hf
        refine x g F σ H ρ δ _ kd δ1 _ S e1 fun v H1 k1 S1 r1 => ?_
        obtain ⟨p, qa, g1, g2, n, g3, g4⟩ := dl_at S1 e0
        have ev := (r1.rd S.good).int
        subst ev
        refine ⟨_, g2, ?_⟩
        obtain ⟨k2, S2⟩ := dl_turn (δ' := (δ1.1, z)) S1 g1 (.inl rfl) g3 (dl_setP g1 n g4)
        have fin := q F σ _ S2 ((W.grow k1).grow k2)
        exact ⟨p, _, 1, _, rfl, rfl, g3, rfl, fin⟩
      · cases hf
  · cases hf
end
end DL
/-! D-layer, part z: list(zip(a, b)) of two tuples. -/
namespace DLZ
open PySem PySem.Spec PyProof.Rows L2 RZ
section
variable {prog : Program} {w : World} {A : Around} {E : Value → Shared → Prop} {s : Shared} {z TI TO T i1 i2 l1 l2 : Addr} {f : Bool} {oT : Obj} {n m : Nat} {us vs : Array Value} {u v : Value}
theorem held_item {Q : Value → Shared → Prop} (D : ZipApart z TI TO i1 i2 l1 l2) (gz : IsZipHeld s.heap z TI TO T f) (gT : s.heap.get? T = some oT) (gI : IsPair s.heap TI (.ref i1) (.ref i2))
    (a1 : s.heap.IsTupleIter i1 l1 n) (a2 : s.heap.IsTupleIter i2 l2 m) (b1 : s.heap.IsTuple l1 us) (b2 : s.heap.IsTuple l2 vs) (eu : us[n]? = some u) (ev : vs[m]? = some v)
    (q : ∀ g, IsZipHeld g z TI TO T true → g.IsTupleIter i1 l1 (n + 1) → g.IsTupleIter i2 l2 (m + 1) → IsPair g s.heap.objs.size u v → g.objs.size = s.heap.objs.size + 1 → (∀ c o, c ≠ z → c ≠ i1 → c ≠ i2 → s.heap.get? c = some o → g.get? c = some o) → Q (.ref s.heap.objs.size) { s with heap := g }) :
    wpAny (model prog w) A (Builtin.«zip.__next__» ⟨[.ref z], []⟩) (fun r s' => ∃ y, r = .done (.ret y) ∧ Q y s') E s := by
  show wpAny _ _ (field (.ref z) 2 >>= _) _ E s
  refine wpAny_bind (wpAny_field gz rfl (x := .bool false) rfl ?_)
  show wpAny _ _ (field (.ref z) 3 >>= _) _ E s
  refine wpAny_bind (wpAny_field gz rfl (x := .ref TI) rfl ?_)
  refine wpAny_bind (wpAny_seqItems gI rfl ?_)
  show wpAny _ _ (Builtin.SmallTypes.ownedTupleIsFree (.ref z) >>= _) _ E s
  refine wpAny_bind (wpAny_tupleHeld_zip gz gT fun g1 gz1 c1 => ?_)
  simp only [Bool.false_eq_true, if_false]
  refine wpAny_bind ?_
  rw [← Array.forIn_toList]
  simp only [List.forIn_cons, List.forIn_nil]
  refine wpAny_bind (wpAny_bind (wpAny_holding ?_))
  show wpAny _ _ (Builtin.SmallTypes.nextOf (.ref i1) >>= _) _ E _
  refine wpAny_bind (nextOf_tuple_item (s := { s with heap := g1 }) (a1.extBut c1.extBut D.i1z) (b1.extBut c1.extBut D.l1z) eu fun g2 a12 c2 => wpAny_pure ?_)
  refine wpAny_pure ?_
  refine wpAny_bind (wpAny_bind (wpAny_holding ?_))
  show wpAny _ _ (Builtin.SmallTypes.nextOf (.ref i2) >>= _) _ E _
  refine wpAny_bind (nextOf_tuple_item (s := { s with heap := g2 }) ((a2.extBut c1.extBut D.i2z).extBut c2.extBut D.i12.symm) ((b2.extBut c1.extBut D.l2z).extBut c2.extBut D.l2i1) ev fun g3 a23 c3 => wpAny_pure ?_)
  refine wpAny_pure (wpAny_pure ?_)
  show wpAny _ _ (newTuple [u, v] >>= _) _ E _
  refine wpAny_bind (wpAny_newTuple ?_)
  have e3 : g3.objs.size = s.heap.objs.size := by rw [c3.1, c2.1, c1.1]
  have gz3 : IsZipHeld g3 z TI TO T true := c3.extBut _ _ D.i2z.symm (c2.extBut _ _ D.i1z.symm gz1)
  have kp : ∀ c o, c ≠ z → c ≠ i1 → c ≠ i2 → s.heap.get? c = some o → g3.get? c = some o := fun c o n1 n2 n3 e => c3.extBut _ _ n3 (c2.extBut _ _ n2 (c1.extBut _ _ n1 e))
  have a13 : g3.IsTupleIter i1 l1 (n + 1) := a12.extBut c3.extBut D.i12
  refine wpAny_pure ⟨_, rfl, ?_⟩
  show Q (.ref g3.objs.size) _
  have pr : IsPair (g3.push { cls := .type "tuple", data := .seq #[u, v] }) g3.objs.size u v := Heap.get?_push_size _ rfl
  have e4 : (g3.push { cls := .type "tuple", data := .seq #[u, v] }).objs.size = g3.objs.size + 1 := Heap.size_push ..
  rw [e3] at pr e4 ⊢
  exact q _ (Heap.get?_push_of_some _ gz3) (a13.at fun o e => Heap.get?_push_of_some _ e) (a23.at fun o e => Heap.get?_push_of_some _ e) pr e4 fun c o n1 n2 n3 e => Heap.get?_push_of_some _ (kp c o n1 n2 n3 e)
theorem held_end {Q : Fin → Shared → Prop} (hA : A.handled = none) (D : ZipApart z TI TO i1 i2 l1 l2) (gz : IsZipHeld s.heap z TI TO T f) (gT : s.heap.get? T = some oT) (gI : IsPair s.heap TI (.ref i1) (.ref i2))
    (a1 : s.heap.IsTupleIter i1 l1 n) (a2 : s.heap.IsTupleIter i2 l2 m) (b1 : s.heap.IsTuple l1 us) (b2 : s.heap.IsTuple l2 vs) (he : us[n]? = none ∨ vs[m]? = none)
    (q : ∀ g e, (∀ c o, c ≠ z → c ≠ i1 → c ≠ i2 → s.heap.get? c = some o → g.get? c = some o) → (∃ o, g.get? e = some o ∧ o.cls = .type "StopIteration") → E (.ref e) { s with heap := g }) :
    wpAny (model prog w) A (Builtin.«zip.__next__» ⟨[.ref z], []⟩) Q E s := by
  show wpAny _ _ (field (.ref z) 2 >>= _) Q _ s
  refine wpAny_bind (wpAny_field gz rfl (x := .bool false) rfl ?_)
  show wpAny _ _ (field (.ref z) 3 >>= _) Q _ s
  refine wpAny_bind (wpAny_field gz rfl (x := .ref TI) rfl ?_)
  refine wpAny_bind (wpAny_seqItems gI rfl ?_)
  show wpAny _ _ (Builtin.SmallTypes.ownedTupleIsFree (.ref z) >>= _) Q _ s
  refine wpAny_bind (wpAny_tupleHeld_zip gz gT fun g1 gz1 c1 => ?_)
  simp only [Bool.false_eq_true, if_false]
  refine wpAny_bind ?_
  rw [← Array.forIn_toList]
  simp only [List.forIn_cons, List.forIn_nil]
  refine wpAny_bind (wpAny_bind (wpAny_holding ?_))
  show wpAny _ _ (Builtin.SmallTypes.nextOf (.ref i1) >>= _) _ _ _
  cases hu : us[n]? with
  | none =>
    refine wpAny_bind (nextOf_tuple_end (s := { s with heap := g1 }) hA (a1.extBut c1.extBut D.i1z) (b1.extBut c1.extBut D.l1z) hu fun g2 e c2 h => ?_)
    exact q g2 e (fun c o n1 n2 _ x => c2 _ _ n2 (c1.extBut _ _ n1 x)) h
  | some x =>
    have hv : vs[m]? = none := by
      rcases he with h | h
      · rw [hu] at h; cases h
      · exact h
    refine wpAny_bind (nextOf_tuple_item (s := { s with heap := g1 }) (a1.extBut c1.extBut D.i1z) (b1.extBut c1.extBut D.l1z) hu fun g2 a12 c2 => wpAny_pure ?_)
    refine wpAny_pure ?_
    refine wpAny_bind (wpAny_bind (wpAny_holding ?_))
    show wpAny _ _ (Builtin.SmallTypes.nextOf (.ref i2) >>= _) _ _ _
    refine wpAny_bind (nextOf_tuple_end (s := { s with heap := g2 }) hA ((a2.extBut c1.extBut D.i2z).extBut c2.extBut D.i12.symm) ((b2.extBut c1.extBut D.l2z).extBut c2.extBut D.l2i1) hv fun g3 e c3 h => ?_)
    exact q g3 e (fun c o n1 n2 n3 x => c3 _ _ n3 (c2.extBut _ _ n2 (c1.extBut _ _ n1 x))) h
theorem next_item {Q : Option Value → Shared → Prop} (D : ZipApart z TI TO i1 i2 l1 l2) (gz : IsZipHeld s.heap z TI TO T f) (gT : s.heap.get? T = some oT) (gI : IsPair s.heap TI (.ref i1) (.ref i2))
    (a1 : s.heap.IsTupleIter i1 l1 n) (a2 : s.heap.IsTupleIter i2 l2 m) (b1 : s.heap.IsTuple l1 us) (b2 : s.heap.IsTuple l2 vs) (eu : us[n]? = some u) (ev : vs[m]? = some v)
    (q : ∀ g, IsZipHeld g z TI TO T true → g.IsTupleIter i1 l1 (n + 1) → g.IsTupleIter i2 l2 (m + 1) → IsPair g s.heap.objs.size u v → g.objs.size = s.heap.objs.size + 1 → (∀ c o, c ≠ z → c ≠ i1 → c ≠ i2 → s.heap.get? c = some o → g.get? c = some o) → Q (some (.ref s.heap.objs.size)) { s with heap := g }) :
    wpAny (model prog w) A (pyNext (.ref z)) Q E s := by
  have ty : s.TypeIs (.ref z) "zip" := ⟨_, gz, rfl⟩
  unfold pyNext
  exact wpAny_bind (wpAny_attempt (wpAny_callSpecial?_slot (name := Str.ofString "__next__") ty F.slot_zip_next (wpAny_call_entry F.slot_zip_next ty F.entry_zip_next
      (held_item D gz gT gI a1 a2 b1 b2 eu ev fun g x1 x2 x3 x4 x5 x6 => wpAny_pure (q g x1 x2 x3 x4 x5 x6)) (F.args_zip_next_1 _))))
theorem next_end {Q : Option Value → Shared → Prop} (hA : A.handled = none) (D : ZipApart z TI TO i1 i2 l1 l2) (gz : IsZipHeld s.heap z TI TO T f) (gT : s.heap.get? T = some oT) (gI : IsPair s.heap TI (.ref i1) (.ref i2))
    (a1 : s.heap.IsTupleIter i1 l1 n) (a2 : s.heap.IsTupleIter i2 l2 m) (b1 : s.heap.IsTuple l1 us) (b2 : s.heap.IsTuple l2 vs) (he : us[n]? = none ∨ vs[m]? = none)
    (q : ∀ g, (∀ c o, c ≠ z → c ≠ i1 → c ≠ i2 → s.heap.get? c = some o → g.get? c = some o) → Q none { s with heap := g }) : wpAny (model prog w) A (pyNext (.ref z)) Q E s := by
  have ty : s.TypeIs (.ref z) "zip" := ⟨_, gz, rfl⟩
  unfold pyNext
  refine wpAny_bind (wpAny_attempt (wpAny_callSpecial?_slot (name := Str.ofString "__next__") ty F.slot_zip_next (wpAny_call_entry F.slot_zip_next ty F.entry_zip_next
    (held_end hA D gz gT gI a1 a2 b1 b2 he fun g e k h => ?_) (F.args_zip_next_1 _))))
  obtain ⟨o, ho, hc⟩ := h
  refine wpAny_bind (wpAny_isInstance (T := "StopIteration") (b := true) ⟨o, ho, hc⟩ isSubtype_stop ?_)
  exact wpAny_pure (q _ k)
/-- a zip at its i-th turn -/
def ZS (z TI TO i1 i2 l1 l2 : Addr) (i : Nat) (h : Heap) : Prop :=
  IsPair h TI (.ref i1) (.ref i2) ∧ h.IsTupleIter i1 l1 i ∧ h.IsTupleIter i2 l2 i ∧ ((IsZip h z TI TO .none ∧ ∃ a b, IsPair h TO a b) ∨ ∃ T f o, IsZipHeld h z TI TO T f ∧ h.get? T = some o)
theorem ZS.keep {i : Nat} {h h' : Heap} (x : ZS z TI TO i1 i2 l1 l2 i h) (k : ∀ c o, h.get? c = some o → h'.get? c = some o) : ZS z TI TO i1 i2 l1 l2 i h' := by
  obtain ⟨a, b, c, d⟩ := x
  refine ⟨k _ _ a, b.at fun o e => k _ o e, c.at fun o e => k _ o e, ?_⟩
  rcases d with ⟨d, x, y, e⟩ | ⟨T, f, o, d, e⟩
  · exact .inl ⟨k _ _ d, x, y, k _ _ e⟩
  · exact .inr ⟨T, f, o, k _ _ d, k _ _ e⟩
theorem zs_next {i : Nat} {Q : Option Value → Shared → Prop} (D : ZipApart z TI TO i1 i2 l1 l2) (x : ZS z TI TO i1 i2 l1 l2 i s.heap) (b1 : s.heap.IsTuple l1 us) (b2 : s.heap.IsTuple l2 vs) (eu : us[i]? = some u) (ev : vs[i]? = some v)
    (q : ∀ g, ZS z TI TO i1 i2 l1 l2 (i + 1) g → IsPair g s.heap.objs.size u v → (∀ c o, c ∉ [z, TI, TO, i1, i2] → s.heap.get? c = some o → g.get? c = some o) → Q (some (.ref s.heap.objs.size)) { s with heap := g }) :
    wpAny (model prog w) A (pyNext (.ref z)) Q E s := by
  obtain ⟨gI, a1, a2, d⟩ := x
  rcases d with ⟨d, x, y, e⟩ | ⟨T, f, o, d, e⟩
  · refine pyNext_zipT_item D d gI e a1 a2 b1 b2 eu ev fun g y1 y2 y3 y4 y5 y6 k => q g ⟨?_, y3, y4, .inr ⟨_, false, _, y1, y5⟩⟩ y5 fun c o nc h => ?_
    · exact k _ _ D.TIz D.TITO D.TIi1 D.TIi2 gI
    · simp only [List.mem_cons, List.not_mem_nil, or_false, not_or] at nc
      exact k c o nc.1 nc.2.2.1 nc.2.2.2.1 nc.2.2.2.2 h
  · by_cases hT : T = z ∨ T = i1 ∨ T = i2
    · refine next_item D d e gI a1 a2 b1 b2 eu ev fun g y1 y2 y3 y4 y5 k => q g ⟨k _ _ D.TIz D.TIi1 D.TIi2 gI, y2, y3, .inr ?_⟩ y4 fun c o nc h => ?_
      · rcases hT with rfl | rfl | rfl
        · exact ⟨_, _, _, y1, y1⟩
        · obtain ⟨o', e', _⟩ := y2
          exact ⟨_, _, _, y1, e'⟩
        · obtain ⟨o', e', _⟩ := y3
          exact ⟨_, _, _, y1, e'⟩
      · simp only [List.mem_cons, List.not_mem_nil, or_false, not_or] at nc
        exact k c o nc.1 nc.2.2.2.1 nc.2.2.2.2 h
    · simp only [not_or] at hT
      refine next_item D d e gI a1 a2 b1 b2 eu ev fun g y1 y2 y3 y4 y5 k => q g ⟨k _ _ D.TIz D.TIi1 D.TIi2 gI, y2, y3, .inr ⟨_, _, _, y1, k _ _ hT.1 hT.2.1 hT.2.2 e⟩⟩ y4 fun c o nc h => ?_
      simp only [List.mem_cons, List.not_mem_nil, or_false, not_or] at nc
      exact k c o nc.1 nc.2.2.2.1 nc.2.2.2.2 h
theorem zs_end {i : Nat} {Q : Option Value → Shared → Prop} (hA : A.handled = none) (D : ZipApart z TI TO i1 i2 l1 l2) (x : ZS z TI TO i1 i2 l1 l2 i s.heap) (b1 : s.heap.IsTuple l1 us) (b2 : s.heap.IsTuple l2 vs) (he : us[i]? = none ∨ vs[i]? = none)
    (q : ∀ g, (∀ c o, c ∉ [z, TI, TO, i1, i2] → s.heap.get? c = some o → g.get? c = some o) → Q none { s with heap := g }) : wpAny (model prog w) A (pyNext (.ref z)) Q E s := by
  obtain ⟨gI, a1, a2, d⟩ := x
  rcases d with ⟨d, x, y, e⟩ | ⟨T, f, o, d, e⟩
  · refine pyNext_zipT_end hA D d gI e a1 a2 b1 b2 he fun g k => q g fun c o nc h => ?_
    simp only [List.mem_cons, List.not_mem_nil, or_false, not_or] at nc
    exact k c o nc.1 nc.2.2.1 nc.2.2.2.1 nc.2.2.2.2 h
  · refine next_end hA D d e gI a1 a2 b1 b2 he fun g k => q g fun c o nc h => ?_
    simp only [List.mem_cons, List.not_mem_nil, or_false, not_or] at nc
    exact k c o nc.1 nc.2.2.2.1 nc.2.2.2.2 h
end

section
variable {X : Cx} {pins : List (Addr × Obj)} {σ : L2.St} {A : Around} {z TI TO i1 i2 l1 l2 S : Addr} {xs ys : List V}
theorem ZS.other {i : Nat} {h h' : Heap} {S : Addr} (x : ZS z TI TO i1 i2 l1 l2 i h) (hSf : S ∉ [z, TI, TO, i1, i2]) (k : ∀ c o, c ≠ S → h.get? c = some o → h'.get? c = some o) (ex : ∃ o, h'.get? S = some o) : ZS z TI TO i1 i2 l1 l2 i h' := by
  simp only [List.mem_cons, List.not_mem_nil, or_false, not_or] at hSf
  obtain ⟨n1, n2, n3, n4, n5⟩ := hSf
  obtain ⟨a, b, c, d⟩ := x
  refine ⟨k _ _ (Ne.symm n2) a, b.at fun o e => k _ o (Ne.symm n4) e, c.at fun o e => k _ o (Ne.symm n5) e, ?_⟩
  rcases d with ⟨d, x, y, e⟩ | ⟨T, f, o, d, e⟩
  · exact .inl ⟨k _ _ (Ne.symm n1) d, x, y, k _ _ (Ne.symm n3) e⟩
  · by_cases hT : T = S
    · subst hT
      obtain ⟨o', e'⟩ := ex
      exact .inr ⟨T, f, o', k _ _ (Ne.symm n1) d, e'⟩
    · exact .inr ⟨T, f, o, k _ _ (Ne.symm n1) d, k _ _ hT e⟩
/-- acc: the first i pairs -/
def ZP (H : Hp) (xs ys acc : List V) (i : Nat) : Prop := acc.length = i ∧ ∀ j, j < i → ∃ T x y, acc[j]? = some (.ref T) ∧ xs[j]? = some x ∧ ys[j]? = some y ∧ H T = some (.tup [x, y])
theorem ZP.keep {H H' : Hp} {acc : List V} {i : Nat} (k : DL.Keep (fun a => a = S) H H') (h : ZP H xs ys acc i) : ZP H' xs ys acc i := by
  refine ⟨h.1, fun j hj => ?_⟩
  obtain ⟨T, x, y, e1, e2, e3, e4⟩ := h.2 j hj
  exact ⟨T, x, y, e1, e2, e3, k.still e4 (by exact id)⟩
theorem ext_loop {R : Result → Shared → Prop} {res : Value} {N0 : Nat} (hlow : ∀ c ∈ [z, TI, TO, i1, i2], c < N0) (hA : A.in1.handled = none) (D : ZipApart z TI TO i1 i2 l1 l2) (hSf : S ∉ [z, TI, TO, i1, i2]) (hz : xs.length ≤ sizeLine) :
    ∀ (k i : Nat) (s : Shared) (H : Hp) (acc : List V), min xs.length ys.length - i = k → i ≤ min xs.length ys.length → Inv X pins σ H s → SqT X.K H l1 xs → SqT X.K H l2 ys → H S = some (.lst acc) → ZP H xs ys acc i → ZS z TI TO i1 i2 l1 l2 i s.heap → N0 ≤ s.heap.objs.size →
      (∀ c ∈ [z, TI, TO, i1, i2], FpOk X pins H c) → (∀ s' H' acc', Inv X pins σ H' s' → DL.Keep (fun a => a = S) H H' → H' S = some (.lst acc') → ZP H' xs ys acc' (min xs.length ys.length) → R (.ok (.ret res)) s') →
      codeAny (model X.prog X.w) A (.builtin "list.extend.loop" ⟨[.ref S, .ref z, res], []⟩) R s := by
  intro k
  induction k with
  | zero =>
    intro i s H acc hk hi I q1 q2 hS hp hzs hN0 hf hR
    have hin : i = min xs.length ys.length := by omega
    obtain ⟨t1, v1, p1, _⟩ := I.tuple q1
    obtain ⟨t2, v2, p2, _⟩ := I.tuple q2
    have e1 := v1.length
    have e2 := v2.length
    refine codeAny_builtin F.entry_extend_loop ?_
    rw [Around.under_plainId F.plain_extend_loop _]
    show wpAny (model X.prog X.w) A.in1 (pyNext (.ref z) >>= _) _ _ s
    refine wpAny_bind (zs_end hA D hzs p1 p2 ?_ fun g kp => ?_)
    · by_cases h : xs.length ≤ i
      · exact .inl (by simp; omega)
      · exact .inr (by simp; omega)
    · have I1 : Inv X pins σ H { s with heap := g } := I.turnedL (t' := s.toks) (ch := [z, TI, TO, i1, i2]) kp hf
      exact wpAny_pure (hR _ H acc I1 (DL.Keep.refl _ _) hS (by rw [← hin]; exact hp))
  | succ k ih =>
    intro i s H acc hk hi I q1 q2 hS hp hzs hN0 hf hR
    have hlt : i < min xs.length ys.length := by omega
    obtain ⟨t1, v1, p1, _⟩ := I.tuple q1
    obtain ⟨t2, v2, p2, _⟩ := I.tuple q2
    have e1 := v1.length
    have e2 := v2.length
    have hx : xs[i]? = some xs[i] := List.getElem?_eq_getElem (by omega)
    have hy : ys[i]? = some ys[i] := List.getElem?_eq_getElem (by omega)
    obtain ⟨u, hu, ru⟩ := v1.get hx
    obtain ⟨v, hv, rv⟩ := v2.get hy
    refine codeAny_builtin F.entry_extend_loop ?_
    rw [Around.under_plainId F.plain_extend_loop _]
    show wpAny (model X.prog X.w) A.in1 (pyNext (.ref z) >>= _) _ _ s
    refine wpAny_bind (zs_next (u := u) (v := v) D hzs p1 p2 (by simpa using hu) (by simpa using hv) fun g hzs' hT kp => ?_)
    have hn : H s.heap.objs.size = none := I.hok.fresh (Nat.le_refl _)
    have new : ObjOk X.prog X.w (upd H s.heap.objs.size (.tup [xs[i], ys[i]])) g s.heap.objs.size (.tup [xs[i], ys[i]]) := ⟨by show 2 ≤ sizeLine; decide, [u, v], .cons ru (.cons rv .nil), ⟨_, hT, rfl, _, rfl⟩⟩
    have I1 : Inv X pins σ (upd H s.heap.objs.size (.tup [xs[i], ys[i]])) { s with heap := g } := I.turnedNew (t' := s.toks) (ch := [z, TI, TO, i1, i2]) kp hf (Nat.le_refl _) new
    have hTS : S ≠ s.heap.objs.size := ne_of_none hS hn
    have hS1 : (upd H s.heap.objs.size (.tup [xs[i], ys[i]])) S = some (.lst acc) := by rw [upd_ne hTS]; exact hS
    obtain ⟨lz, its, m, ri, rl, gS⟩ := I1.lstM hS1
    have I2 := I1.lset (t' := s.toks) (f := (·.push (.ref s.heap.objs.size))) (its' := its ++ [.ref s.heap.objs.size]) (ys := acc ++ [.ref s.heap.objs.size]) hS1 gS (by simp) (ri.append (.cons (show RelV (.ref s.heap.objs.size) (.ref s.heap.objs.size) from rfl) .nil)) (by rw [List.length_append, hp.1]; show i + 1 ≤ sizeLine; omega)
    show wpAny (model X.prog X.w) A.in1 (updateSeq S (·.push (.ref s.heap.objs.size)) >>= _) _ _ _
    have sm1 : Same H (upd H s.heap.objs.size (.tup [xs[i], ys[i]])) := DL.same_upd hn
    have k2 : DL.Keep (fun a => a = S) (upd H s.heap.objs.size (.tup [xs[i], ys[i]])) (upd (upd H s.heap.objs.size (.tup [xs[i], ys[i]])) S (.lst (acc ++ [.ref s.heap.objs.size]))) := DL.keep_upd (P := fun a => a = S) (o' := .lst (acc ++ [.ref s.heap.objs.size])) hS1 trivial trivial rfl
    have k1 : DL.Keep (fun a => a = S) H (upd (upd H s.heap.objs.size (.tup [xs[i], ys[i]])) S (.lst (acc ++ [.ref s.heap.objs.size]))) := (DL.Keep.of_same sm1).trans k2
    refine wpAny_bind ?_
    refine wpAny_updateSeq gS rfl (wpAny_pure ⟨plainId_quiet F.plain_extend_loop _, ih (i + 1) _ _ _ (by omega) hlt I2 (DL.SqT.keep k1 q1) (DL.SqT.keep k1 q2) upd_same ?_ ?_ ?_ ?_ fun s' H' acc' I' kk hS' hp' => hR s' H' acc' I' (k1.trans kk) hS' hp'⟩) ?_ ?_
    · refine ⟨by rw [List.length_append, hp.1]; rfl, fun j hj => ?_⟩
      by_cases h : j < i
      · obtain ⟨T, x, y, a1, a2, a3, a4⟩ := hp.2 j h
        exact ⟨T, x, y, by rw [List.getElem?_append_left (by rw [hp.1]; exact h)]; exact a1, a2, a3, k1.still a4 (by exact id)⟩
      · have : j = i := by omega
        subst this
        refine ⟨s.heap.objs.size, _, _, ?_, hx, hy, ?_⟩
        · rw [List.getElem?_append_right (by rw [hp.1]; exact Nat.le_refl _), hp.1, Nat.sub_self]
          rfl
        · rw [upd_ne hTS.symm, upd_same]
    · exact hzs'.other hSf (fun c o n e => (Heap.get?_update_other _ _ (Ne.symm n)).trans e) ⟨_, Heap.get?_update_self _ gS rfl⟩
    · have lt : s.heap.objs.size < (g.update S (Obj.mapSeq (·.push (.ref s.heap.objs.size)))).objs.size := Heap.lt_size ((Heap.get?_update_other _ _ hTS).trans hT)
      exact Nat.le_of_lt (Nat.lt_of_le_of_lt hN0 lt)
    · intro c hc
      obtain ⟨f0, f1, f2, f3, f4, f5⟩ := hf c hc
      have c1 : c ≠ S := fun e => hSf (e ▸ hc)
      have c2 : c ≠ s.heap.objs.size := Nat.ne_of_lt (Nat.lt_of_lt_of_le (hlow c hc) hN0)
      exact ⟨by rw [upd_ne c1, upd_ne c2]; exact f0, f1, f2, f3, f4, f5⟩
    · rw [List.size_toArray, ← rl, hp.1]
      omega
    · show (its.toArray.push (.ref s.heap.objs.size)).size ≤ sizeLine + 1
      rw [Array.size_push, List.size_toArray, ← rl, hp.1]
      omega
end

theorem zip_no_len : typeLookup (.type "zip") "__len__" = pure none := am_miss_of_fast (by decide +kernel)
theorem zip_no_hint : typeLookup (.type "zip") "__length_hint__" = pure none := am_miss_of_fast (by decide +kernel)
section
variable {X : Cx} {pins : List (Addr × Obj)} {σ : L2.St} {A : Around} {z TI TO i1 i2 l1 l2 S : Addr} {xs ys : List V} {s : Shared} {H : Hp}
theorem zs_ty {i : Nat} {h : Heap} (x : ZS z TI TO i1 i2 l1 l2 i h) : ∃ o, h.get? z = some o ∧ o.cls = .type "zip" := by
  obtain ⟨_, _, _, d⟩ := x
  rcases d with ⟨d, _⟩ | ⟨_, _, _, d, _⟩ <;> exact ⟨_, d, rfl⟩
theorem extend_zip {R : Result → Shared → Prop} {res : Value} (hlow : ∀ c ∈ [z, TI, TO, i1, i2], c < s.heap.objs.size) (hA : A.in1.handled = none) (D : ZipApart z TI TO i1 i2 l1 l2) (hSf : S ∉ [z, TI, TO, i1, i2]) (hz : xs.length ≤ sizeLine)
    (I : Inv X pins σ H s) (q1 : SqT X.K H l1 xs) (q2 : SqT X.K H l2 ys) (hS : H S = some (.lst [])) (hiz : IsZip s.heap z TI TO .none) (hzs : ZS z TI TO i1 i2 l1 l2 0 s.heap) (hf : ∀ c ∈ [z, TI, TO, i1, i2], FpOk X pins H c)
    (hR : ∀ s' H' acc', Inv X pins σ H' s' → DL.Keep (fun a => a = S) H H' → H' S = some (.lst acc') → ZP H' xs ys acc' (min xs.length ys.length) → R (.ok (.ret res)) s') :
    wpAny (model X.prog X.w) A.in1 (Builtin.List.listExtendWith (.ref S) (.ref z) res)
      (fun fin s' => match fin with | .done f => R (.ok f) s' | .again c' => c'.quiet = true ∧ codeAny (model X.prog X.w) A c' R s') (fun e s' => R (.error e) s') s := by
  have ne : S ≠ z := fun e => hSf (by rw [e]; simp)
  have ty : s.TypeIs (.ref z) "zip" := zs_ty hzs
  unfold Builtin.List.listExtendWith
  refine wpAny_bind (wpAny_typeOf ty ?_)
  have t1 : Builtin.List.listSameRef (.ref S) (.ref z) = false := by simp [Builtin.List.listSameRef, ne]
  have t2 : (Value.type "zip" == Value.type "list") = false := by decide
  have t3 : (Value.type "zip" == Value.type "tuple") = false := by decide
  simp only [t1, t2, t3, Bool.or_false, Bool.false_eq_true, if_false]
  refine wpAny_bind (wpAny_pyIter_zip hiz ?_)
  refine wpAny_bind (wpAny_holding ?_)
  unfold Builtin.List.listLengthHint
  refine wpAny_bind (wpAny_specialOf ty zip_no_len ?_)
  show wpAny _ A.in1 (specialOf (Value.ref z) (Str.ofString "__length_hint__") >>= _) _ _ _
  refine wpAny_bind (wpAny_specialOf ty zip_no_hint ?_)
  refine wpAny_pure ?_
  show wpAny _ A.in1 (rule "list.extend.makes-room" >>= fun _ => Builtin.List.listTouch (.ref S) >>= fun _ => again (.builtin "list.extend.loop" ⟨[.ref S, .ref z, res], []⟩)) _ _ _
  refine wpAny_bind (wpAny_rule ?_)
  refine wpAny_bind ?_
  show wpAny _ A.in1 (updateSeq S (·.push .none) >>= fun _ => updateSeq S (·.pop)) _ _ _
  obtain ⟨lz, its, m, ri, rl, gS⟩ := I.lstM hS
  cases ri
  refine wpAny_bind (wpAny_updateSeq gS rfl ?_)
  have I1 := I.lset (t' := s.toks) (f := (·.push Value.none)) (its' := [Value.none]) (ys := [V.non]) hS gS rfl (.cons (show RelV .non Value.none from rfl) .nil) (by show 1 ≤ sizeLine; decide)
  have g2 := Heap.get?_update_self (Obj.mapSeq (·.push Value.none)) gS rfl
  refine wpAny_updateSeq (hz := by seq_fits) g2 rfl ?_
  obtain ⟨lz2, its2, m2, ri2, rl2, gS2⟩ := I1.lstM upd_same
  have I2 := I1.lset (t' := s.toks) (f := (·.pop)) (its' := []) (ys := []) upd_same gS2 (by
    cases ri2 with
    | cons a b => cases b; rfl) .nil (Nat.zero_le _)
  rw [upd_upd] at I2
  have eH : upd H S (.lst []) = H := by
    funext b
    by_cases h : b = S
    · rw [h, upd_same, hS]
    · rw [upd_ne h]
  rw [eH] at I2
  have oth : ∀ b o, b ≠ S → s.heap.get? b = some o → ((s.heap.update S (Obj.mapSeq (·.push Value.none))).update S (Obj.mapSeq (·.pop))).get? b = some o := fun b o hb e => (Heap.get?_update_other _ _ (Ne.symm hb)).trans ((Heap.get?_update_other _ _ (Ne.symm hb)).trans e)
  refine wpAny_pure ⟨plainId_quiet F.plain_extend_loop _, ?_⟩
  refine ext_loop (N0 := s.heap.objs.size) hlow hA D hSf hz _ 0 _ H [] rfl (Nat.zero_le _) I2 q1 q2 hS ⟨rfl, fun j hj => absurd hj (Nat.not_lt_zero _)⟩ (hzs.other hSf (fun c o n e => oth c o n e) ?_) ?_ hf hR
  · obtain ⟨_, _, m3, _, _, gS3⟩ := I2.lstM hS
    exact ⟨_, gS3⟩
  · show s.heap.objs.size ≤ ((s.heap.update S (Obj.mapSeq (·.push Value.none))).update S (Obj.mapSeq (·.pop))).objs.size
    rw [Heap.size_update, Heap.size_update]
    exact Nat.le_refl _
theorem init_zip {R : Result → Shared → Prop} (hlow : ∀ c ∈ [z, TI, TO, i1, i2], c < s.heap.objs.size) (hA : A.in1.handled = none) (D : ZipApart z TI TO i1 i2 l1 l2) (hSf : S ∉ [z, TI, TO, i1, i2]) (hz : xs.length ≤ sizeLine)
    (I : Inv X pins σ H s) (q1 : SqT X.K H l1 xs) (q2 : SqT X.K H l2 ys) (hS : H S = some (.lst [])) (hiz : IsZip s.heap z TI TO .none) (hzs : ZS z TI TO i1 i2 l1 l2 0 s.heap) (hf : ∀ c ∈ [z, TI, TO, i1, i2], FpOk X pins H c)
    (hR : ∀ s' H' acc', Inv X pins σ H' s' → DL.Keep (fun a => a = S) H H' → H' S = some (.lst acc') → ZP H' xs ys acc' (min xs.length ys.length) → R (.ok (.ret .none)) s') :
    wpAny (model X.prog X.w) A.in1 (Builtin.«list.__init__» ⟨[.ref S, .ref z], []⟩)
      (fun fin s' => match fin with | .done f => R (.ok f) s' | .again c' => c'.quiet = true ∧ codeAny (model X.prog X.w) A c' R s') (fun e s' => R (.error e) s') s := by
  obtain ⟨lz, its, m, ri, rl, gS⟩ := I.lstM hS
  cases ri
  show wpAny _ A.in1 (do let old ← Builtin.List.listItems (.ref S); Builtin.List.listUpdate (.ref S) (fun _ => #[]); letGo old.toList.reverse; Builtin.List.listExtendWith (.ref S) (.ref z) .none) _ _ s
  refine wpAny_bind ?_
  unfold Builtin.List.listItems
  refine wpAny_bind (wpAny_seqItems gS rfl (wpAny_pure ?_))
  show wpAny _ A.in1 (updateSeq S (fun _ => #[]) >>= fun _ => letGo (#[] : Array Value).toList.reverse >>= fun _ => Builtin.List.listExtendWith (.ref S) (.ref z) .none) _ _ s
  refine wpAny_bind (wpAny_updateSeq gS rfl ?_)
  have I1 := I.lset (t' := s.toks) (f := fun _ => (#[] : Array Value)) (its' := []) (ys := []) hS gS rfl .nil (Nat.zero_le _)
  have eH : upd H S (.lst []) = H := by
    funext b
    by_cases h : b = S
    · rw [h, upd_same, hS]
    · rw [upd_ne h]
  rw [eH] at I1
  have oth : ∀ b o, b ≠ S → s.heap.get? b = some o → (s.heap.update S (Obj.mapSeq (fun _ => (#[] : Array Value)))).get? b = some o := fun b o hb e => (Heap.get?_update_other _ _ (Ne.symm hb)).trans e
  have nz : z ≠ S := fun e => hSf (by rw [e]; simp)
  refine wpAny_bind (wpAny_letGo ?_)
  refine extend_zip (s := { s with heap := s.heap.update S (Obj.mapSeq (fun _ => (#[] : Array Value))) }) (fun c hc => ?_) hA D hSf hz I1 q1 q2 hS (oth _ _ nz hiz) (hzs.other hSf (fun c o n e => oth c o n e) ?_) hf hR
  · show c < (s.heap.update S (Obj.mapSeq (fun _ => (#[] : Array Value)))).objs.size
    rw [Heap.size_update]
    exact hlow c hc
  · obtain ⟨_, _, m3, _, _, gS3⟩ := I1.lstM hS
    exact ⟨_, gS3⟩
end
section
variable {X : Cx} {pins : List (Addr × Obj)} {σ : L2.St} {A : Around} {z TI TO i1 i2 l1 l2 : Addr} {xs ys : List V} {s : Shared} {H : Hp} {E : Value → Shared → Prop}
theorem call_zip_list {Q : Value → Shared → Prop} (hlow : ∀ c ∈ [z, TI, TO, i1, i2], c < s.heap.objs.size) (hA : A.handled = none) (D : ZipApart z TI TO i1 i2 l1 l2) (hz : xs.length ≤ sizeLine)
    (I : Inv X pins σ H s) (q1 : SqT X.K H l1 xs) (q2 : SqT X.K H l2 ys) (hiz : IsZip s.heap z TI TO .none) (hzs : ZS z TI TO i1 i2 l1 l2 0 s.heap) (hf : ∀ c ∈ [z, TI, TO, i1, i2], FpOk X pins H c)
    (hR : ∀ s' H' S acc', Inv X pins σ H' s' → H S = none → Same H H' → H' S = some (.lst acc') → ZP H' xs ys acc' (min xs.length ys.length) → Q (.ref S) s') : wpAny (model X.prog X.w) A (call (.type "list") [.ref z]) Q E s := by
  have hn : H s.heap.objs.size = none := I.hok.fresh (Nat.le_refl _)
  refine callType_codes (Q₁ := fun obj s₁ => obj = .ref s.heap.objs.size ∧ s₁ = { s with heap := s.heap.push { cls := .type "list", data := .seq #[] } }) F.called_list (F.typeCall_list_1 _) F.entry_list_init (code_list_new _ ⟨rfl, rfl⟩) fun obj s₁ h₁ => ?_
  obtain ⟨rfl, rfl⟩ := h₁
  have gS : (s.heap.push { cls := .type "list", data := .seq #[] }).get? s.heap.objs.size = some { cls := .type "list", data := .seq #[] } := Heap.get?_push_size _ rfl
  have I1 : Inv X pins σ (upd H s.heap.objs.size (.lst [])) { s with heap := s.heap.push { cls := .type "list", data := .seq #[] } } := I.laid (t' := s.toks) (fun b o e => Heap.get?_push_of_some _ e) (Nat.le_refl _) ⟨Nat.zero_le _, [], 0, .nil, gS⟩
  have sm : Same H (upd H s.heap.objs.size (.lst [])) := DL.same_upd hn
  have ks := DL.Keep.of_same (P := fun a => a = s.heap.objs.size) sm
  have nf : ∀ c ∈ [z, TI, TO, i1, i2], c ≠ s.heap.objs.size := fun c hc => Nat.ne_of_lt (hlow c hc)
  refine ⟨⟨_, gS, rfl⟩, F.args_list_init_2 _ _, init_zip (A := A.in1) (S := s.heap.objs.size) (fun c hc => ?_) hA D (fun h => nf _ h rfl) hz I1 (DL.SqT.keep ks q1) (DL.SqT.keep ks q2) upd_same (Heap.get?_push_of_some _ hiz) (hzs.keep fun c o e => Heap.get?_push_of_some _ e) (fun c hc => ?_) fun s' H' acc' I' k hS hp => ?_⟩
  · show c < (s.heap.push { cls := .type "list", data := .seq #[] }).objs.size
    rw [Heap.size_push]
    exact Nat.lt_succ_of_lt (hlow c hc)
  · obtain ⟨f0, f1, f2, f3, f4, f5⟩ := hf c hc
    exact ⟨by rw [upd_ne (nf c hc)]; exact f0, f1, f2, f3, f4, f5⟩
  · refine ⟨rfl, hR s' H' _ acc' I' hn (fun b o e => ?_) hS hp⟩
    rcases k b o (sm b o e) with h | ⟨h, _⟩
    · exact h
    · subst h
      rw [hn] at e
      cases e
end
/-- list(zip(a, b)), tuples -/
def tLZip (K : PySem.W.Frag) (ta : TA) : TE := fun σ H Q => ta σ H fun vs H1 => ∃ a b xs ys, vs = [.ref a, .ref b] ∧ SqT K H1 a xs ∧ SqT K H1 b ys ∧ ∀ p acc H2, H1 p = none → Same H1 H2 → H2 p = some (.lst acc) → ZP H2 xs ys acc (min xs.length ys.length) → Q (.ref p) H2
theorem pe_listZip {X : Cx} {e e2 : Expr} {ta : TA} {p p2 pos pos2 : Pos} (hc : X.calm = true) (hg : Gl X "list") (hm : X.mg "list" = none) (hg2 : Gl X "zip") (hm2 : X.mg "zip" = none) (ha : PA X [e, e2] ta)
    (hs : starEach [e, e2] X.env = (false, eval e X.env) :: starEach [e2] X.env := by rfl) (hpl : (backTo pos2 (starEach [e2] X.env)).any (·.1) = false := by rfl)
    (hs2 : starEach [.Call (.Name "zip" p2) [e, e2] [] pos2] X.env = (false, eval (.Call (.Name "zip" p2) [e, e2] [] pos2) X.env) :: starEach [] X.env := by rfl) :
    PE X (.Call (.Name "list" p) [.Call (.Name "zip" p2) [e, e2] [] pos2] [] pos) (tLZip X.K ta) := by
  refine ⟨fun pins s σ H Q I h => ?_⟩
  refine Call_ (ld_blt I hg hm boot_list (PyProof.Rows.callWith_type1 (args_cons (Call_ (ld_blt I hg2 hm2 PyProof.Rows.boot_zip (PyProof.Rows.callWith_type1 (thn (ha.run pos2 pins s σ H _ I h) fun us s1 ⟨vs, H1, I1, r1, q1⟩ => ?_) hs hpl))) hs2) hs2 rfl))
  obtain ⟨a, b, xs, ys, rfl, hx, hy, q⟩ := q1
  cases r1 with
  | cons r rr =>
    cases rr with
    | cons r' rr =>
      cases rr
      cases r
      cases r'
      obtain ⟨its, rv, p1, lx⟩ := I1.tuple hx
      obtain ⟨its2, rv2, p2', ly⟩ := I1.tuple hy
      obtain ⟨o1, ho1, _⟩ := id p1
      obtain ⟨o2, ho2, _⟩ := id p2'
      refine call_zipT (show s1.heap.IsTuple a its.toArray from p1) (show s1.heap.IsTuple b its2.toArray from p2') fun g gz gI gO g1 g2 sz hk => ?_
      have I2 : Inv X pins σ H1 { s1 with heap := g } := I1.kept (t' := s1.toks) hk
      have fresh : ∀ c, c ∈ [s1.heap.objs.size + 4, s1.heap.objs.size + 2, s1.heap.objs.size + 3, s1.heap.objs.size, s1.heap.objs.size + 1] → s1.heap.objs.size ≤ c ∧ c < g.objs.size := fun c hcm => by
        rw [sz]
        simp only [List.mem_cons, List.not_mem_nil, or_false] at hcm
        omega
      refine args_nil ?_
      refine call_zip_list (s := { s1 with heap := g }) (fun c hc => (fresh c hc).2) (I1.ok.hd hc) (PySem.W.ktu_apart s1.heap.objs.size a b (Heap.lt_size ho1) (Heap.lt_size ho2)) lx I2 hx hy gz ⟨gI, g1, g2, .inl ⟨gz, _, _, gO⟩⟩
        (fun c hc => I1.fpOk (fresh c hc).1 (I1.hok.fresh (fresh c hc).1)) fun s' H' S acc' I' hn sm hS hp => ?_
      exact ⟨.ref S, H', I', rfl, q S acc' H' hn sm hS hp⟩
end DLZ

namespace DL
open PySem PySem.Spec PyProof.Rows L2 DLZ
section
variable {X : Cx}
def zipD (a b : List D) : List D := List.zipWith (fun x y => D.tup [x, y]) a b
theorem reps_get {K : PySem.W.Frag} {O : Addr → Prop} {H : Hp} : ∀ {vs : List V} {ds : List D}, vs.length = ds.length → (∀ (i : Nat) (v : V) (d : D), vs[i]? = some v → ds[i]? = some d → Rep K O H v d) → Reps K O H vs ds
  | [], [], _, _ => .nil
  | [], _ :: _, h, _ => by simp at h
  | _ :: _, [], h, _ => by simp at h
  | v :: vs, d :: ds, h, r => .cons (r 0 v d rfl rfl) (reps_get (by simpa using h) fun i v' d' e1 e2 => r (i + 1) v' d' (by simpa using e1) (by simpa using e2))
def fLZip (a : AF) : EF := fun ρ δ => (a ρ δ).bind fun p => match p.1 with
  | [.tup x, .tup y] => some (.lst (zipD x y), .ow, p.2)
  | _ => none
theorem de_listZip {e e2 : Expr} {a : AF} {p p2 pos pos2 : Pos} (hc : X.calm = true) (hg : Gl X "list") (hm : X.mg "list" = none) (hg2 : Gl X "zip") (hm2 : X.mg "zip" = none) (ha : DR X [e, e2] a)
    (hs : starEach [e, e2] X.env = (false, eval e X.env) :: starEach [e2] X.env := by rfl) (hpl : (backTo pos2 (starEach [e2] X.env)).any (·.1) = false := by rfl)
    (hs2 : starEach [.Call (.Name "zip" p2) [e, e2] [] pos2] X.env = (false, eval (.Call (.Name "zip" p2) [e, e2] [] pos2) X.env) :: starEach [] X.env := by rfl) :
    DE X (.Call (.Name "list" p) [.Call (.Name "zip" p2) [e, e2] [] pos2] [] pos) (fLZip a) := by
  obtain ⟨t, pp, x⟩ := ha.ex
  refine ⟨_, pe_listZip hc hg hm hg2 hm2 pp hs hpl hs2, fun g F σ H ρ δ d k δ' Q S hf q => ?_⟩
  unfold fLZip at hf
  cases e1 : a ρ δ with
  | none => rw [e1] at hf; cases hf
  | some c =>
    obtain ⟨ds, δ1⟩ := c
    rw [e1] at hf
    simp only [Option.bind_some] at hf
    split at hf
    · rename_i dx dy
      cases hf
      refine x g F σ H ρ δ _ _ _ S e1 fun vs H1 k1 S1 r => ?_
      cases r with
      | cons r1 r =>
        cases r with
        | cons r2 r =>
          cases r
          obtain ⟨pa, xs, rfl, h1, s1⟩ := r1.tup
          obtain ⟨pb, ys, rfl, h2, s2⟩ := r2.tup
          refine ⟨pa, pb, xs, ys, rfl, h1, h2, fun p acc H2 hn sm hS hp => ?_⟩
          refine q _ H2 (k1.trans (Keep.of_same sm)) (S1.same sm) ⟨p, rfl, k1.free hn, acc, hS, ?_⟩
          refine reps_get ?_ fun i v d a1 a2 => ?_
          · unfold zipD
            rw [hp.1, List.length_zipWith, s1.length, s2.length]
          · have hi : i < min xs.length ys.length := by
              rw [← hp.1]
              exact (List.getElem?_eq_some_iff.mp a1).1
            obtain ⟨T, u, w, b1, b2, b3, b4⟩ := hp.2 i hi
            rw [a1] at b1
            cases b1
            obtain ⟨d1, c1, c2⟩ := s1.get b2
            obtain ⟨d2, c3, c4⟩ := s2.get b3
            have : d = .tup [d1, d2] := by
              unfold zipD at a2
              rw [List.getElem?_zipWith, c1, c3] at a2
              exact (Option.some.inj a2).symm
            subst this
            have np : ∀ b, (Av g F b ∨ b = p) → Av g F b ∨ H1 b = none := fun b z => z.imp id fun z => by rw [z]; exact hn
            exact .tup (.inl (.inl b4)) (.cons ((c2.more np).same sm) (.cons ((c4.more np).same sm) .nil))
    · cases hf
end
end DL
/-! D-layer, part l: more to walk: ranges with a step. -/
namespace DL
open PySem PySem.Spec PyProof.Rows L2
section
variable {X : Cx}
/-- the ints lo, lo + c, .. -/
def rngC (lo c : Int) (n : Nat) : List D := (List.range n).map fun i => .int (lo + (i : Nat) * c)
theorem src_rngC {K : PySem.W.Frag} {g : Gh} {F : Fp} {H : Hp} (lo c : Int) (n : Nat) : Src K g F H (Itc lo c n) (rngC lo c n) (fun _ => False) where
  go := fun O H' hr ht hp i d e => by
    unfold rngC at e
    rw [List.getElem?_map] at e
    have hi : i < n := by
      by_cases hi : i < n
      · exact hi
      · rw [List.getElem?_eq_none (by simpa using hi)] at e
        cases e
    rw [List.getElem?_range hi] at e
    cases e
    refine ⟨hi, fun x H2 y => ?_⟩
    obtain ⟨rfl, rfl⟩ := y
    exact ⟨Same.refl _, .int _⟩
  stop := fun H' hr ht => by
    unfold rngC
    show n ≤ _
    simp
def sRng3 (a : AF) : SF := fun ρ δ => (a ρ δ).bind fun p => match p.1 with
  | [.int i, .int j, .int c] => if c ≠ 0 ∧ c.natAbs < 1073741824 ∧ Builtin.Range.small i j c = true ∧ 0 ≤ Builtin.Range.rangeSize i j c then some (rngC i c (Builtin.Range.rangeSize i j c).toNat, .sh, p.2) else none
  | _ => none
theorem Reps.int3 {K : PySem.W.Frag} {g : Gh} {F : Fp} {H : Hp} {vs : List V} {i j c : Int} (r : Paired (Rd1 K g F H) vs [.int i, .int j, .int c]) : vs = [.int i, .int j, .int c] := by
  cases r with
  | cons a r =>
    cases r with
    | cons b r =>
      cases r with
      | cons c r =>
        cases r
        rw [a.int, b.int, c.int]
theorem di_rng3 {tg a b c : Expr} {fa : AF} {p pos : Pos} (hg : Gl X "range") (hm : X.mg "range" = none) (ha : DR X [a, b, c] fa) (hs : starEach [a, b, c] X.env = (false, eval a X.env) :: starEach [b, c] X.env := by rfl) (hpl : (backTo pos (starEach [b, c] X.env)).any (·.1) = false := by rfl) :
    DI X tg (.Call (.Name "range" p) [a, b, c] [] pos) (sRng3 fa) := by
  obtain ⟨t, pa, x⟩ := ha.ex
  refine ⟨_, pi_range3 hg hm pa hs hpl, fun g F σ H ρ δ ds k δ' R S hf q => ?_⟩
  unfold sRng3 at hf
  cases e1 : fa ρ δ with
  | none => rw [e1] at hf; cases hf
  | some c =>
    obtain ⟨es, δ1⟩ := c
    rw [e1] at hf
    simp only [Option.bind_some] at hf
    split at hf
    · rename_i i j c
      split at hf
      · rename_i hj
        cases hf
        exact x g F σ H ρ δ _ _ _ S e1 fun vs H1 k1 S1 r1 => ⟨i, j, c, _, Reps.int3 r1, ⟨hj.1, hj.2.1, hj.2.2.1, (Int.toNat_of_nonneg hj.2.2.2).symm⟩, q _ H1 _ k1 S1 (src_rngC i c _) fun a z => z.elim⟩
      · cases hf
    · cases hf
end
end DL
namespace DL
open PySem PySem.Spec PyProof.Rows L2
section
variable {X : Cx}
theorem de_globI {x : Str} {i : Int} {pos : Pos} (hg : Gl X x) (h : ∃ t, X.mg x = some (.int i t)) (hd : (x == ("__debug__" : Str)) = false := by decide) : DE X (.Name x pos) (fC (.int i)) := by
  obtain ⟨t, h⟩ := h
  exact de_glob (v := .int i) hg h ⟨t, rfl⟩ (fun _ _ => .int i) hd
theorem de_globS {x z : Str} {pos : Pos} (hg : Gl X x) (h : ∃ t, X.mg x = some (.str z t)) (hd : (x == ("__debug__" : Str)) = false := by decide) : DE X (.Name x pos) (fC (.str z)) := by
  obtain ⟨t, h⟩ := h
  exact de_glob (v := .str z) hg h ⟨t, rfl⟩ (fun _ _ => .str z) hd
end
theorem hu64 {A : Around} {k : Nat} (hr : Room k A) : A.units + 64 < cLine := hr.units
end DL
/-! ### a, b, c = x, y, z -/
namespace DL
open PySem PySem.Spec PyProof.Rows L2
section
variable {K : PySem.W.Frag} {g g' : Gh} {F F' : Fp} {σ σ' : L2.St} {ρ ρ' : Rho} {δ δ1 : Dr} {H0 H H1 : Hp}
theorem pd_eq (h : g'.P = g.P) : g'.Pd = g.Pd := by
  funext a
  unfold Gh.Pd
  rw [h]
theorem deal_eq (h : g'.P = g.P) (d : DealR g' H δ) : DealR g H δ := fun p q e => d p q (h.trans e)
/-- some of the values are stored already, the expressions are still read as ahead of it -/
structure Pn (K : PySem.W.Frag) (H0 : Hp) (g g' : Gh) (F F' : Fp) (σ σ' : L2.St) (ρ ρ' : Rho) (δ : Dr) (H : Hp) : Prop where
  S : SR K g' F σ ρ δ H
  T : SR K g F' σ' ρ' δ H
  W : SH H0 g F' H
  sub : ∀ a, Av g F' a → Av g' F a
  P : g'.P = g.P
theorem Pn.base (S : SR K g F σ ρ δ H) (W : SH H0 g F H) : Pn K H0 g g F F σ σ ρ ρ δ H := ⟨S, S, W, fun _ z => z, rfl⟩
theorem Pn.step {kd : Kd} {w : V} {d : D} {s : SV} (N : Pn K H0 g g' F F' σ σ' ρ ρ' δ H) (k : Keep g'.Pd H H1) (S1 : SR K g' F σ ρ δ1 H1) (r : Res K g' F H H1 kd w d) (hs : sv d kd = some s) (j : Nat) :
    ∃ g2 F2, Pn K H0 g g2 F F2 σ (σ'.set j (some w)) ρ (ρ'.set j s) δ1 H1 := by
  have k' : Keep g.Pd H H1 := by rw [← pd_eq N.P]; exact k
  have T1 : SR K g F' σ' ρ' δ1 H1 := N.T.grow k' (deal_eq N.P S1.deal)
  have W1 := N.W.grow k'
  cases kd with
  | br => cases hs
  | sh =>
    cases hs
    have r' : Rep K (Av g F') H1 w d := Rep.weak N.sub r
    exact ⟨g', _, S1, T1.putS r' j, W1.sub (FSub.nil F' j), fun a z => N.sub a ((FSub.nil F' j).av z), N.P⟩
  | ow =>
    cases hs
    obtain ⟨p, e, n, t⟩ := r
    subst e
    obtain ⟨op, hop, _⟩ := t.there
    have S1w := N.S.wide k S1.deal n (by rw [hop]; simp)
    have t' : Top K (fun a => Av g F' a ∨ a = p) H1 p d := t.weak fun a z => z.imp (N.sub a) id
    refine ⟨⟨fun a => g'.A a ∨ a = p, g'.P⟩, _, S1w, N.T.putO k' (deal_eq N.P S1.deal) n t' j, N.W.putO k' n j, fun a z => ?_, N.P⟩
    rcases av_set z with z | z
    · rcases N.sub a z with z | z | z
      · exact .inl (.inl z)
      · exact .inr (.inl z)
      · exact .inr (.inr z)
    · exact .inl (.inr z)
end
section
variable {X : Cx}
def hPar3 (i j l : Nat) (f1 f2 f3 : EF) : HF' := fun ρ δ => (f1 ρ δ).bind fun p => (sv p.1 p.2.1).bind fun s => (f2 ρ p.2.2).bind fun q => (sv q.1 q.2.1).bind fun u => (f3 ρ q.2.2).bind fun r => (sv r.1 r.2.1).map fun v => (.nx, ((ρ.set i s).set j u).set l v, r.2.2)
theorem ds_par3 {i j l : Nat} {x y z : Str} {a b c : Expr} {f1 f2 f3 : EF} {px py pz pt pos : Pos} {kt k2 pt2} (hc : X.calm = true) (hN : X.N.Nodup) (hi : X.N[i]? = some x) (hj : X.N[j]? = some y) (hl : X.N[l]? = some z) (hij : i ≠ j) (hil : i ≠ l) (hjl : j ≠ l)
    (hx : X.env.scope.names.lookup x = some .local) (hy : X.env.scope.names.lookup y = some .local) (hz : X.env.scope.names.lookup z = some .local) (ha : DE X a f1) (hb : DE X b f2) (hc3 : DE X c f3)
    (hw : swappedStores [.Tuple [.Name x px, .Name y py, .Name z pz] kt pt] (.Tuple [a, b, c] k2 pt2) X.env = pure (some [x, y, z]))
    (hs : swapsWithSole [.Tuple [.Name x px, .Name y py, .Name z pz] kt pt] (.Tuple [a, b, c] k2 pt2) pos.line X.env = pure false := by rfl)
    (s1 : starEach [a, b, c] X.env = (false, eval a X.env) :: starEach [b, c] X.env := by rfl) (s2 : starEach [b, c] X.env = (false, eval b X.env) :: starEach [c] X.env := by rfl) (s3 : starEach [c] X.env = (false, eval c X.env) :: starEach [] X.env := by rfl) :
    DS X (.Assign [.Tuple [.Name x px, .Name y py, .Name z pz] kt pt] (.Tuple [a, b, c] k2 pt2) pos) (hPar3 i j l f1 f2 f3) := by
  obtain ⟨t1, p1, x1⟩ := ha.ex
  obtain ⟨t2, p2, x2⟩ := hb.ex
  obtain ⟨t3, p3, x3⟩ := hc3.ex
  refine ⟨_, ps_par3 hc hN hi hj hl hij hil hjl hx hy hz (pa_cons p1 (pa_cons p2 (pa_cons p3 pa_nil s3) s2) s1) hw hs, fun H0 g F σ H ρ δ o ρ' δ' D' S W hg q => ?_⟩
  unfold hPar3 at hg
  cases e1 : f1 ρ δ with
  | none => rw [e1] at hg; cases hg
  | some c =>
  obtain ⟨d1, k1, δ1⟩ := c
  rw [e1] at hg
  simp only [Option.bind_some] at hg
  cases v1 : sv d1 k1 with
  | none => rw [v1] at hg; cases hg
  | some s =>
  rw [v1] at hg
  simp only [Option.bind_some] at hg
  cases e2 : f2 ρ δ1 with
  | none => rw [e2] at hg; cases hg
  | some c =>
  obtain ⟨d2, k2', δ2⟩ := c
  rw [e2] at hg
  simp only [Option.bind_some] at hg
  cases v2 : sv d2 k2' with
  | none => rw [v2] at hg; cases hg
  | some u =>
  rw [v2] at hg
  simp only [Option.bind_some] at hg
  cases e3 : f3 ρ δ2 with
  | none => rw [e3] at hg; cases hg
  | some c =>
  obtain ⟨d3, k3, δ3⟩ := c
  rw [e3] at hg
  simp only [Option.bind_some] at hg
  cases v3 : sv d3 k3 with
  | none => rw [v3] at hg; cases hg
  | some r =>
  rw [v3] at hg
  cases hg
  refine x1 g F σ H ρ δ d1 k1 δ1 _ S e1 fun a1 H1 ke1 S1 r1 => ?_
  obtain ⟨g1, F1, N1⟩ := (Pn.base S W).step ke1 S1 r1 v1 i
  refine x2 g1 F σ H1 ρ δ1 d2 k2' δ2 _ N1.S e2 fun a2 H2 ke2 S2 r2 => ?_
  obtain ⟨g2, F2, N2⟩ := N1.step ke2 S2 r2 v2 j
  refine x3 g2 F σ H2 ρ δ2 d3 k3 _ _ N2.S e3 fun a3 H3 ke3 S3 r3 => ⟨a1, a2, a3, rfl, ?_⟩
  obtain ⟨g3, F3, N3⟩ := N2.step ke3 S3 r3 v3 l
  exact q F3 _ H3 N3.T N3.W
end
end DL
/-! D-layer, part m: how the meanings are reckoned (rules for simp); loops by an invariant. -/
namespace DL
open PySem PySem.Spec PyProof.Rows L2
section
variable {ρ : Rho} {δ δ' : Dr} {d e : D} {k : Kd} {f fa fb fc : EF} {a b : HF'} {t u : TF} {o : OF2} {r : AF} {i j l : Nat}
/-! ### slots -/
def fVarK (δ : Dr) : Option SV → Option (D × Kd × Dr)
  | some (.sh d) => some (d, .sh, δ)
  | some (.ow d) => some (d, .br, δ)
  | _ => none
@[simp] theorem fVar_e : fVar i ρ δ = fVarK δ ρ[i]? := by unfold fVar fVarK; cases ρ[i]? with | none => rfl | some s => cases s <;> rfl
@[simp] theorem fVarK_sh : fVarK δ (some (.sh d)) = some (d, .sh, δ) := id rfl
@[simp] theorem fVarK_ow : fVarK δ (some (.ow d)) = some (d, .br, δ) := id rfl
@[simp] theorem fC_e : fC d ρ δ = some (d, .sh, δ) := id rfl
@[simp] theorem sv_sh : sv d .sh = some (.sh d) := id rfl
@[simp] theorem sv_ow : sv d .ow = some (.ow d) := id rfl
/-! ### expressions -/
def fBin2 (o : OF2) (d : D) : D × Kd × Dr → Option (D × Kd × Dr) := fun q => (o d q.1).map fun r => (r.1, r.2, q.2.2)
def fBin1 (o : OF2) (fb : EF) (ρ : Rho) : D × Kd × Dr → Option (D × Kd × Dr) := fun p => (fb ρ p.2.2).bind (fBin2 o p.1)
@[simp] theorem fBin_e : fBin o fa fb ρ δ = (fa ρ δ).bind (fBin1 o fb ρ) := id rfl
@[simp] theorem fBin1_e : fBin1 o fb ρ (d, k, δ) = (fb ρ δ).bind (fBin2 o d) := id rfl
@[simp] theorem fBin2_e : fBin2 o d (e, k, δ) = (o d e).map fun r => (r.1, r.2, δ) := id rfl
def asB1 : D × Kd × Dr → Option (Bool × Dr) := fun p => match p.1 with | .bl b => some (b, p.2.2) | _ => none
@[simp] theorem asB_e : asB f ρ δ = (f ρ δ).bind asB1 := id rfl
@[simp] theorem asB1_e {b : Bool} : asB1 (.bl b, k, δ) = some (b, δ) := id rfl
@[simp] theorem ofT_e : ofT t ρ δ = (t ρ δ).map fun p => (.bl p.1, .sh, p.2) := id rfl
@[simp] theorem fNot_e : fNot t ρ δ = (t ρ δ).map fun p => (!p.1, p.2) := id rfl
def fAnd1 (u : TF) (ρ : Rho) : Bool × Dr → Option (Bool × Dr) := fun p => if p.1 = true then u ρ p.2 else some (false, p.2)
@[simp] theorem fAnd_e : fAnd t u ρ δ = (t ρ δ).bind (fAnd1 u ρ) := id rfl
@[simp] theorem fAnd1_t : fAnd1 u ρ (true, δ) = u ρ δ := id rfl
@[simp] theorem fAnd1_f : fAnd1 u ρ (false, δ) = some (false, δ) := id rfl
def fOr1 (u : TF) (ρ : Rho) : Bool × Dr → Option (Bool × Dr) := fun p => if p.1 = true then some (true, p.2) else u ρ p.2
@[simp] theorem fOr_e : fOr t u ρ δ = (t ρ δ).bind (fOr1 u ρ) := id rfl
@[simp] theorem fOr1_t : fOr1 u ρ (true, δ) = some (true, δ) := id rfl
@[simp] theorem fOr1_f : fOr1 u ρ (false, δ) = u ρ δ := id rfl
def fAndV1 (g : EF) (ρ : Rho) : Bool × Dr → Option (D × Kd × Dr) := fun p => if p.1 = true then g ρ p.2 else some (.bl false, .sh, p.2)
@[simp] theorem fAndV_e : fAndV t f ρ δ = (t ρ δ).bind (fAndV1 f ρ) := id rfl
@[simp] theorem fAndV1_t : fAndV1 f ρ (true, δ) = f ρ δ := id rfl
@[simp] theorem fAndV1_f : fAndV1 f ρ (false, δ) = some (.bl false, .sh, δ) := id rfl
def fOrV1 (g : EF) (ρ : Rho) : Bool × Dr → Option (D × Kd × Dr) := fun p => if p.1 = true then some (.bl true, .sh, p.2) else g ρ p.2
@[simp] theorem fOrV_e : fOrV t f ρ δ = (t ρ δ).bind (fOrV1 f ρ) := id rfl
@[simp] theorem fOrV1_t : fOrV1 f ρ (true, δ) = some (.bl true, .sh, δ) := id rfl
@[simp] theorem fOrV1_f : fOrV1 f ρ (false, δ) = f ρ δ := id rfl
def fIf1 (f g : EF) (ρ : Rho) : Bool × Dr → Option (D × Kd × Dr) := fun p => if p.1 = true then f ρ p.2 else g ρ p.2
@[simp] theorem fIf_e : fIf t fa fb ρ δ = (t ρ δ).bind (fIf1 fa fb ρ) := id rfl
@[simp] theorem fIf1_t : fIf1 fa fb ρ (true, δ) = fa ρ δ := id rfl
@[simp] theorem fIf1_f : fIf1 fa fb ρ (false, δ) = fb ρ δ := id rfl
@[simp] theorem aNil_e : aNil ρ δ = some ([], δ) := id rfl
@[simp] theorem rNil_e : rNil ρ δ = some ([], δ) := id rfl
@[simp] theorem vNil_e : vNil ρ δ = some ([], δ) := id rfl
def aCons1 (r : AF) (ρ : Rho) : D × Kd × Dr → Option (List D × Dr) := fun p => if p.2.1 = .br then none else (r ρ p.2.2).map fun q => (p.1 :: q.1, q.2)
@[simp] theorem aCons_e : aCons f r ρ δ = (f ρ δ).bind (aCons1 r ρ) := id rfl
@[simp] theorem aCons1_sh : aCons1 r ρ (d, .sh, δ) = (r ρ δ).map fun q => (d :: q.1, q.2) := id rfl
@[simp] theorem aCons1_ow : aCons1 r ρ (d, .ow, δ) = (r ρ δ).map fun q => (d :: q.1, q.2) := id rfl
def rCons1 (r : AF) (ρ : Rho) : D × Kd × Dr → Option (List D × Dr) := fun p => (r ρ p.2.2).map fun q => (p.1 :: q.1, q.2)
@[simp] theorem rCons_e : rCons f r ρ δ = (f ρ δ).bind (rCons1 r ρ) := id rfl
@[simp] theorem rCons1_e : rCons1 r ρ (d, k, δ) = (r ρ δ).map fun q => (d :: q.1, q.2) := id rfl
def vCons1 (r : VF) (ρ : Rho) : D × Kd × Dr → Option (List (D × Kd) × Dr) := fun p => (r ρ p.2.2).map fun q => ((p.1, p.2.1) :: q.1, q.2)
@[simp] theorem vCons_e {r : VF} : vCons f r ρ δ = (f ρ δ).bind (vCons1 r ρ) := id rfl
@[simp] theorem vCons1_e {r : VF} : vCons1 r ρ (d, k, δ) = (r ρ δ).map fun q => ((d, k) :: q.1, q.2) := id rfl
def vPerm1 (ix : List Nat) (n m : Nat) (b : VF) (ρ : Rho) : List (D × Kd) × Dr → Option (List (D × Kd) × Dr) := fun r => (b ρ r.2).bind fun s => if r.1.length = n ∧ s.1.length = m then some (perm ix (r.1 ++ s.1), s.2) else none
@[simp] theorem vPerm_e {ix : List Nat} {n m : Nat} {a b : VF} : vPerm ix n m a b ρ δ = (a ρ δ).bind (vPerm1 ix n m b ρ) := id rfl
@[simp] theorem vPerm1_e {ix : List Nat} {n m : Nat} {b : VF} {cs : List (D × Kd)} : vPerm1 ix n m b ρ (cs, δ) = (b ρ δ).bind fun s => if cs.length = n ∧ s.1.length = m then some (perm ix (cs ++ s.1), s.2) else none := id rfl
def fTup1 : List D × Dr → Option (D × Kd × Dr) := fun p => if p.1.length ≤ 1000 then some (.tup p.1, .sh, p.2) else none
@[simp] theorem fTup_e : fTup r ρ δ = (r ρ δ).bind fTup1 := id rfl
@[simp] theorem fTup1_e {ds : List D} : fTup1 (ds, δ) = if ds.length ≤ 1000 then some (.tup ds, .sh, δ) else none := id rfl
def fLst1 : List D × Dr → Option (D × Kd × Dr) := fun p => if p.1.length ≤ 1000 then some (.lst p.1, .ow, p.2) else none
@[simp] theorem fLst_e : fLst r ρ δ = (r ρ δ).bind fLst1 := id rfl
@[simp] theorem fLst1_e {ds : List D} : fLst1 (ds, δ) = if ds.length ≤ 1000 then some (.lst ds, .ow, δ) else none := id rfl
def fCall1 (o : OFn) : List D × Dr → Option (D × Kd × Dr) := fun p => (o p.1).map fun r => (r.1, r.2, p.2)
@[simp] theorem fCall_e {o : OFn} : fCall o r ρ δ = (r ρ δ).bind (fCall1 o) := id rfl
@[simp] theorem fCall1_e {o : OFn} {ds : List D} : fCall1 o (ds, δ) = (o ds).map fun r => (r.1, r.2, δ) := id rfl
def fCallP2 (cs : List (D × Kd)) (δ : Dr) : D × Kd → Option (D × Kd × Dr) := fun c => if okR cs c.1 c.2 = true then some (c.1, c.2, δ) else none
def fCallP1 (gf : List D → Option (D × Kd)) : List (D × Kd) × Dr → Option (D × Kd × Dr) := fun r => (gf (r.1.map (·.1))).bind (fCallP2 r.1 r.2)
@[simp] theorem fCallP_e {gf : List D → Option (D × Kd)} {f : VF} : fCallP gf f ρ δ = (f ρ δ).bind (fCallP1 gf) := id rfl
@[simp] theorem fCallP1_e {gf : List D → Option (D × Kd)} {cs : List (D × Kd)} : fCallP1 gf (cs, δ) = (gf (cs.map (·.1))).bind (fCallP2 cs δ) := id rfl
@[simp] theorem fCallP2_e {cs : List (D × Kd)} : fCallP2 cs δ (d, k) = if okR cs d k = true then some (d, k, δ) else none := id rfl
def fCallW2 (cs : List (D × Kd)) : D × Kd × Dr → Option (D × Kd × Dr) := fun c => if okR cs c.1 c.2.1 = true then some c else none
def fCallW1 (gf : List D → Dr → Option (D × Kd × Dr)) : List (D × Kd) × Dr → Option (D × Kd × Dr) := fun r => (gf (r.1.map (·.1)) r.2).bind (fCallW2 r.1)
def fCallW0 (gf : List D → Dr → Option (D × Kd × Dr)) (f : VF) (ρ : Rho) (δ : Dr) : Option SV → Option (D × Kd × Dr)
  | some .dl => (f ρ δ).bind (fCallW1 gf)
  | _ => none
@[simp] theorem fCallW_e {gf : List D → Dr → Option (D × Kd × Dr)} {f : VF} : fCallW i gf f ρ δ = fCallW0 gf f ρ δ ρ[i]? := by
  unfold fCallW fCallW0
  cases ρ[i]? with | none => rfl | some s => cases s <;> rfl
@[simp] theorem fCallW0_e {gf : List D → Dr → Option (D × Kd × Dr)} {f : VF} : fCallW0 gf f ρ δ (some .dl) = (f ρ δ).bind (fCallW1 gf) := id rfl
@[simp] theorem fCallW1_e {gf : List D → Dr → Option (D × Kd × Dr)} {cs : List (D × Kd)} : fCallW1 gf (cs, δ) = (gf (cs.map (·.1)) δ).bind (fCallW2 cs) := id rfl
@[simp] theorem fCallW2_e {cs : List (D × Kd)} : fCallW2 cs (d, k, δ) = if okR cs d k = true then some (d, k, δ) else none := id rfl
@[simp] theorem okR_nil : okR [] d k = true := id rfl
@[simp] theorem okR_sh {cs : List (D × Kd)} : okR ((e, .sh) :: cs) d k = okR cs d k := id rfl
@[simp] theorem okR_ow {cs : List (D × Kd)} : okR ((e, .ow) :: cs) d k = okR cs d k := id rfl
def fCut2 (d : D) (h : OF) (ρ : Rho) : Option Int × Dr → Option (D × Kd × Dr) := fun q => (h ρ q.2).bind fun r => (cutR d q.1 r.1).map fun z => (z.1, z.2, r.2)
def fCut1 (l h : OF) (ρ : Rho) : D × Kd × Dr → Option (D × Kd × Dr) := fun p => (l ρ p.2.2).bind (fCut2 p.1 h ρ)
@[simp] theorem fCut_e {lo hi : OF} : fCut f lo hi ρ δ = (f ρ δ).bind (fCut1 lo hi ρ) := id rfl
@[simp] theorem fCut1_e {lo hi : OF} : fCut1 lo hi ρ (d, k, δ) = (lo ρ δ).bind (fCut2 d hi ρ) := id rfl
@[simp] theorem fCut2_e {hi : OF} {x : Option Int} : fCut2 d hi ρ (x, δ) = (hi ρ δ).bind fun r => (cutR d x r.1).map fun z => (z.1, z.2, r.2) := id rfl
def bOf1 : D × Kd × Dr → Option (Option Int × Dr) := fun p => match p.1 with | .int i => some (some i, p.2.2) | _ => none
@[simp] theorem bOf_e : bOf f ρ δ = (f ρ δ).bind bOf1 := id rfl
@[simp] theorem bOf1_e {x : Int} : bOf1 (.int x, k, δ) = some (some x, δ) := id rfl
@[simp] theorem bNo_e : bNo ρ δ = some (none, δ) := id rfl
def fNeg1 : D × Kd × Dr → Option (D × Kd × Dr) := fun p => match p.1 with | .int i => some (.int (-i), .sh, p.2.2) | _ => none
@[simp] theorem fNeg_e : fNeg f ρ δ = (f ρ δ).bind fNeg1 := id rfl
@[simp] theorem fNeg1_e {x : Int} : fNeg1 (.int x, k, δ) = some (.int (-x), .sh, δ) := id rfl
def fRev1 : D × Kd × Dr → Option (D × Kd × Dr) := fun p => match p.1 with | .lst a => some (.lst a.reverse, .ow, p.2.2) | _ => none
@[simp] theorem fRev_e : fRev f ρ δ = (f ρ δ).bind fRev1 := id rfl
@[simp] theorem fRev1_e {x : List D} : fRev1 (.lst x, k, δ) = some (.lst x.reverse, .ow, δ) := id rfl
def fIsaT1 (ns : List String) : D × Kd × Dr → Option (D × Kd × Dr) := fun p => (tyD p.1).bind fun a => (anyTy a ns).map fun b => (.bl b, .sh, p.2.2)
@[simp] theorem fIsaT_e {ns : List String} : fIsaT f ns ρ δ = (f ρ δ).bind (fIsaT1 ns) := id rfl
@[simp] theorem fIsaT1_e {ns : List String} : fIsaT1 ns (d, k, δ) = (tyD d).bind fun a => (anyTy a ns).map fun b => (.bl b, .sh, δ) := id rfl
def fLZip1 : List D × Dr → Option (D × Kd × Dr) := fun p => match p.1 with | [.tup x, .tup y] => some (.lst (zipD x y), .ow, p.2) | _ => none
@[simp] theorem fLZip_e : fLZip r ρ δ = (r ρ δ).bind fLZip1 := id rfl
@[simp] theorem fLZip1_e {x y : List D} : fLZip1 ([.tup x, .tup y], δ) = some (.lst (zipD x y), .ow, δ) := id rfl
/-! ### what loops walk -/
noncomputable def sRng1k : List D × Dr → Option (List D × Kd × Dr) := fun p => match p.1 with
  | [.int j] => if cRng j then some (rng 0 j.toNat, .sh, p.2) else none
  | _ => none
@[simp] theorem sRng1_e : sRng1 r ρ δ = (r ρ δ).bind sRng1k := id rfl
@[simp] theorem sRng1k_e {j : Int} : sRng1k ([.int j], δ) = if cRng j then some (rng 0 j.toNat, .sh, δ) else none := id rfl
noncomputable def sRng2k : List D × Dr → Option (List D × Kd × Dr) := fun p => match p.1 with
  | [.int i, .int j] => if cRng i ∧ cRng j then some (rng i (j - i).toNat, .sh, p.2) else none
  | _ => none
@[simp] theorem sRng2_e : sRng2 r ρ δ = (r ρ δ).bind sRng2k := id rfl
@[simp] theorem sRng2k_e {i j : Int} : sRng2k ([.int i, .int j], δ) = if cRng i ∧ cRng j then some (rng i (j - i).toNat, .sh, δ) else none := id rfl
theorem sRng1k_ok {n : Nat} (h : (n : Int) < 2 ^ 62) : sRng1k ([.int (n : Int)], δ) = some (rng 0 n, .sh, δ) := by
  rw [sRng1k_e, if_pos (show cRng (n : Int) from ⟨by omega, h⟩), Int.toNat_natCast]
theorem sRng2k_ok {i j : Int} {n : Nat} (h : j = i + n) (h1 : -(2 ^ 62) ≤ i) (h2 : i < 2 ^ 62) (h3 : -(2 ^ 62) ≤ j) (h4 : j < 2 ^ 62) : sRng2k ([.int i, .int j], δ) = some (rng i n, .sh, δ) := by
  have e : (j - i).toNat = n := by omega
  rw [sRng2k_e, if_pos (show cRng i ∧ cRng j from ⟨⟨h1, h2⟩, h3, h4⟩), e]
@[simp] theorem cRng_e {i : Int} : cRng i = (-(2 ^ 62) ≤ i ∧ i < 2 ^ 62) := rfl
def sRng3k : List D × Dr → Option (List D × Kd × Dr) := fun p => match p.1 with
  | [.int i, .int j, .int c] => if c ≠ 0 ∧ c.natAbs < 1073741824 ∧ Builtin.Range.small i j c = true ∧ 0 ≤ Builtin.Range.rangeSize i j c then some (rngC i c (Builtin.Range.rangeSize i j c).toNat, .sh, p.2) else none
  | _ => none
@[simp] theorem sRng3_e : sRng3 r ρ δ = (r ρ δ).bind sRng3k := id rfl
theorem sRng3k_e {i j c : Int} : sRng3k ([.int i, .int j, .int c], δ) = if c ≠ 0 ∧ c.natAbs < 1073741824 ∧ Builtin.Range.small i j c = true ∧ 0 ≤ Builtin.Range.rangeSize i j c then some (rngC i c (Builtin.Range.rangeSize i j c).toNat, .sh, δ) else none := id rfl
def sSeq1 : D × Kd × Dr → Option (List D × Kd × Dr) := fun p => match p.1 with
  | .lst ds => some (ds, p.2.1, p.2.2)
  | .tup ds => some (ds, .sh, p.2.2)
  | .str z => some (z.cps.toList.map fun c => .str ⟨#[c]⟩, .sh, p.2.2)
  | _ => none
@[simp] theorem sSeq_e : sSeq f ρ δ = (f ρ δ).bind sSeq1 := id rfl
@[simp] theorem sSeq1_l {ds : List D} : sSeq1 (.lst ds, k, δ) = some (ds, k, δ) := id rfl
@[simp] theorem sSeq1_t {ds : List D} : sSeq1 (.tup ds, k, δ) = some (ds, .sh, δ) := id rfl
def fLc1 (b : BF) (t : TF) (f : EF) (own : List Nat) (ρ : Rho) : List D × Kd × Dr → Option (D × Kd × Dr) := fun p => if p.1.length ≤ sizeLine then (lcD b t f (wip ρ own) p.1 p.2.2).map fun q => (.lst q.1, .ow, q.2) else none
@[simp] theorem fLc_e {s : SF} {b : BF} {own : List Nat} : fLc s b t f own ρ δ = (s ρ δ).bind (fLc1 b t f own ρ) := id rfl
@[simp] theorem fLc1_e {b : BF} {own : List Nat} {ds : List D} : fLc1 b t f own ρ (ds, k, δ) = if ds.length ≤ sizeLine then (lcD b t f (wip ρ own) ds δ).map fun q => (.lst q.1, .ow, q.2) else none := id rfl
/-! ### statements -/
def hSeq1 (b : HF') : Ou × Rho × Dr → Option (Ou × Rho × Dr) := fun r => match r.1 with | .nx => b r.2.1 r.2.2 | _ => some r
@[simp] theorem hSeq_e : hSeq a b ρ δ = (a ρ δ).bind (hSeq1 b) := id rfl
@[simp] theorem hSeq1_nx : hSeq1 b (.nx, ρ, δ) = b ρ δ := id rfl
@[simp] theorem hSeq1_rt : hSeq1 b (.rt d k, ρ, δ) = some (.rt d k, ρ, δ) := id rfl
@[simp] theorem hSeq1_bk : hSeq1 b (.bk, ρ, δ) = some (.bk, ρ, δ) := id rfl
@[simp] theorem hSeq1_ct : hSeq1 b (.ct, ρ, δ) = some (.ct, ρ, δ) := id rfl
@[simp] theorem hNil_e : hNil ρ δ = some (.nx, ρ, δ) := id rfl
@[simp] theorem hBrk_e : hBrk ρ δ = some (.bk, ρ, δ) := id rfl
@[simp] theorem hCnt_e : hCnt ρ δ = some (.ct, ρ, δ) := id rfl
def hIf1 (a b : HF') (ρ : Rho) : Bool × Dr → Option (Ou × Rho × Dr) := fun p => if p.1 = true then a ρ p.2 else b ρ p.2
@[simp] theorem hIf_e : hIf t a b ρ δ = (t ρ δ).bind (hIf1 a b ρ) := id rfl
@[simp] theorem hIf1_t : hIf1 a b ρ (true, δ) = a ρ δ := id rfl
@[simp] theorem hIf1_f : hIf1 a b ρ (false, δ) = b ρ δ := id rfl
@[simp] theorem hExpr_e : hExpr f ρ δ = (f ρ δ).map fun p => (.nx, ρ, p.2.2) := id rfl
def hRet1 (ρ : Rho) : D × Kd × Dr → Option (Ou × Rho × Dr) := fun p => if p.2.1 = .br then none else some (.rt p.1 p.2.1, ρ, p.2.2)
@[simp] theorem hRet_e : hRet f ρ δ = (f ρ δ).bind (hRet1 ρ) := id rfl
@[simp] theorem hRet1_sh : hRet1 ρ (d, .sh, δ) = some (.rt d .sh, ρ, δ) := id rfl
@[simp] theorem hRet1_ow : hRet1 ρ (d, .ow, δ) = some (.rt d .ow, ρ, δ) := id rfl
@[simp] theorem hRetN_e : hRetN ρ δ = some (.rt .non .sh, ρ, δ) := id rfl
def hRetV1 (ρ : Rho) (δ : Dr) : Option SV → Option (Ou × Rho × Dr)
  | some (.sh d) => some (.rt d .sh, ρ, δ)
  | some (.ow d) => some (.rt d .ow, ρ, δ)
  | _ => none
@[simp] theorem hRetV_e : hRetV i ρ δ = hRetV1 ρ δ ρ[i]? := by unfold hRetV hRetV1; cases ρ[i]? with | none => rfl | some s => cases s <;> rfl
@[simp] theorem hRetV1_sh : hRetV1 ρ δ (some (.sh d)) = some (.rt d .sh, ρ, δ) := id rfl
@[simp] theorem hRetV1_ow : hRetV1 ρ δ (some (.ow d)) = some (.rt d .ow, ρ, δ) := id rfl
def hSet1 (i : Nat) (ρ : Rho) : D × Kd × Dr → Option (Ou × Rho × Dr) := fun p => (sv p.1 p.2.1).map fun s => (.nx, ρ.set i s, p.2.2)
@[simp] theorem hSet_e : hSet i f ρ δ = (f ρ δ).bind (hSet1 i ρ) := id rfl
@[simp] theorem hSet1_sh : hSet1 i ρ (d, .sh, δ) = some (.nx, ρ.set i (.sh d), δ) := id rfl
@[simp] theorem hSet1_ow : hSet1 i ρ (d, .ow, δ) = some (.nx, ρ.set i (.ow d), δ) := id rfl
def hMove1 (i j : Nat) (ρ : Rho) (δ : Dr) : Option SV → Option (Ou × Rho × Dr)
  | some (.sh d) => some (.nx, ρ.set i (.sh d), δ)
  | some (.ow d) => some (.nx, (ρ.set j .un).set i (.ow d), δ)
  | _ => none
@[simp] theorem hMove_e : hMove i j ρ δ = hMove1 i j ρ δ ρ[j]? := by unfold hMove hMove1; cases ρ[j]? with | none => rfl | some s => cases s <;> rfl
@[simp] theorem hMove1_sh : hMove1 i j ρ δ (some (.sh d)) = some (.nx, ρ.set i (.sh d), δ) := id rfl
@[simp] theorem hMove1_ow : hMove1 i j ρ δ (some (.ow d)) = some (.nx, (ρ.set j .un).set i (.ow d), δ) := id rfl
def hPar2 (i j : Nat) (p : D × Kd × Dr) (ρ : Rho) : D × Kd × Dr → Option (Ou × Rho × Dr) := fun q => (sv p.1 p.2.1).bind fun s => (sv q.1 q.2.1).map fun u => (.nx, (ρ.set i s).set j u, q.2.2)
def hPar1 (i j : Nat) (f2 : EF) (ρ : Rho) : D × Kd × Dr → Option (Ou × Rho × Dr) := fun p => (f2 ρ p.2.2).bind (hPar2 i j p ρ)
@[simp] theorem hPar_e : hPar i j fa fb ρ δ = (fa ρ δ).bind (hPar1 i j fb ρ) := id rfl
@[simp] theorem hPar1_e : hPar1 i j fb ρ (d, k, δ) = (fb ρ δ).bind (hPar2 i j (d, k, δ) ρ) := id rfl
@[simp] theorem hPar2_e {k2 : Kd} : hPar2 i j (d, k, δ) ρ (e, k2, δ') = (sv d k).bind fun s => (sv e k2).map fun u => (.nx, (ρ.set i s).set j u, δ') := id rfl
def hPar3c (i j l : Nat) (s u : SV) (ρ : Rho) : D × Kd × Dr → Option (Ou × Rho × Dr) := fun r => (sv r.1 r.2.1).map fun v => (.nx, ((ρ.set i s).set j u).set l v, r.2.2)
def hPar3b (i j l : Nat) (s : SV) (f3 : EF) (ρ : Rho) : D × Kd × Dr → Option (Ou × Rho × Dr) := fun q => (sv q.1 q.2.1).bind fun u => (f3 ρ q.2.2).bind (hPar3c i j l s u ρ)
def hPar3a (i j l : Nat) (f2 f3 : EF) (ρ : Rho) : D × Kd × Dr → Option (Ou × Rho × Dr) := fun p => (sv p.1 p.2.1).bind fun s => (f2 ρ p.2.2).bind (hPar3b i j l s f3 ρ)
@[simp] theorem hPar3_e : hPar3 i j l fa fb fc ρ δ = (fa ρ δ).bind (hPar3a i j l fb fc ρ) := id rfl
@[simp] theorem hPar3a_e : hPar3a i j l fb fc ρ (d, k, δ) = (sv d k).bind fun s => (fb ρ δ).bind (hPar3b i j l s fc ρ) := id rfl
@[simp] theorem hPar3b_e {s : SV} : hPar3b i j l s fc ρ (d, k, δ) = (sv d k).bind fun u => (fc ρ δ).bind (hPar3c i j l s u ρ) := id rfl
@[simp] theorem hPar3c_e {s u : SV} : hPar3c i j l s u ρ (d, k, δ) = (sv d k).map fun v => (.nx, ((ρ.set i s).set j u).set l v, δ) := id rfl
@[simp] theorem bName_e : bName i d ρ = some (ρ.set i (.sh d)) := id rfl
@[simp] theorem bTup_e {r : BFs} {ds : List D} : bTup r (.tup ds) ρ = r ds ρ := id rfl
@[simp] theorem bCons_e {b : BF} {r : BFs} {ds : List D} : bCons b r (d :: ds) ρ = (b d ρ).bind fun ρ' => r ds ρ' := id rfl
@[simp] theorem bNil_e : bNil [] ρ = some ρ := id rfl
def hAsg1 (b : BF) (ρ : Rho) : D × Kd × Dr → Option (Ou × Rho × Dr) := fun p => if p.2.1 = .br then none else (b p.1 ρ).map fun ρ' => (.nx, ρ', p.2.2)
@[simp] theorem hAsg_e {b : BF} : hAsg b f ρ δ = (f ρ δ).bind (hAsg1 b ρ) := id rfl
@[simp] theorem hAsg1_sh {b : BF} : hAsg1 b ρ (d, .sh, δ) = (b d ρ).map fun ρ' => (.nx, ρ', δ) := id rfl
@[simp] theorem hAsg1_ow {b : BF} : hAsg1 b ρ (d, .ow, δ) = (b d ρ).map fun ρ' => (.nx, ρ', δ) := id rfl
def hApp2 (i : Nat) (xs : List D) (ρ : Rho) : D × Kd × Dr → Option (Ou × Rho × Dr) := fun p => if p.2.1 = .br then none else if xs.length < sizeLine then some (.nx, ρ.set i (.ow (.lst (xs ++ [p.1]))), p.2.2) else none
def hApp1 (i : Nat) (f : EF) (ρ : Rho) (δ : Dr) : Option SV → Option (Ou × Rho × Dr)
  | some (.ow (.lst xs)) => (f ρ δ).bind (hApp2 i xs ρ)
  | _ => none
@[simp] theorem hApp_e : hApp i f ρ δ = hApp1 i f ρ δ ρ[i]? := by
  unfold hApp hApp1
  cases ρ[i]? with
  | none => rfl
  | some s =>
    cases s with
    | ow d => cases d <;> rfl
    | _ => rfl
@[simp] theorem hApp1_e {xs : List D} : hApp1 i f ρ δ (some (.ow (.lst xs))) = (f ρ δ).bind (hApp2 i xs ρ) := id rfl
@[simp] theorem hApp2_sh {xs : List D} : hApp2 i xs ρ (d, .sh, δ) = if xs.length < sizeLine then some (.nx, ρ.set i (.ow (.lst (xs ++ [d]))), δ) else none := id rfl
@[simp] theorem hApp2_ow {xs : List D} : hApp2 i xs ρ (d, .ow, δ) = if xs.length < sizeLine then some (.nx, ρ.set i (.ow (.lst (xs ++ [d]))), δ) else none := id rfl
def hPop1 (i : Nat) (ρ : Rho) (δ : Dr) : Option SV → Option (Ou × Rho × Dr)
  | some (.ow (.lst xs)) => if xs.length = 0 then none else some (.nx, ρ.set i (.ow (.lst xs.dropLast)), δ)
  | _ => none
@[simp] theorem hPop_e : hPop i ρ δ = hPop1 i ρ δ ρ[i]? := by
  unfold hPop hPop1
  cases ρ[i]? with
  | none => rfl
  | some s =>
    cases s with
    | ow d => cases d <;> rfl
    | _ => rfl
@[simp] theorem hPop1_e {xs : List D} : hPop1 i ρ δ (some (.ow (.lst xs))) = if xs.length = 0 then none else some (.nx, ρ.set i (.ow (.lst xs.dropLast)), δ) := id rfl
def hPopTo1 (b : BF) (i : Nat) (ρ : Rho) (δ : Dr) : Option SV → Option (Ou × Rho × Dr)
  | some (.ow (.lst xs)) => (xs[xs.length - 1]?).bind fun d => (b d (ρ.set i (.ow (.lst xs.dropLast)))).map fun ρ' => (.nx, ρ', δ)
  | _ => none
@[simp] theorem hPopTo_e {b : BF} : hPopTo b i ρ δ = hPopTo1 b i ρ δ ρ[i]? := by
  unfold hPopTo hPopTo1
  cases ρ[i]? with
  | none => rfl
  | some s =>
    cases s with
    | ow d => cases d <;> rfl
    | _ => rfl
@[simp] theorem hPopTo1_e {b : BF} {xs : List D} : hPopTo1 b i ρ δ (some (.ow (.lst (xs ++ [d])))) = (b d (ρ.set i (.ow (.lst xs)))).map fun ρ' => (.nx, ρ', δ) := by
  unfold hPopTo1
  simp
def hFor1 (b : BF) (h : HF') (ρ : Rho) : List D × Kd × Dr → Option (Ou × Rho × Dr) := fun p => if p.2.1 = .br then none else forD b h p.1 ρ p.2.2
@[simp] theorem hFor_e {s : SF} {b : BF} {h : HF'} : hFor s b h ρ δ = (s ρ δ).bind (hFor1 b h ρ) := id rfl
@[simp] theorem hFor1_sh {b : BF} {h : HF'} {ds : List D} : hFor1 b h ρ (ds, .sh, δ) = forD b h ds ρ δ := id rfl
@[simp] theorem hFor1_ow {b : BF} {h : HF'} {ds : List D} : hFor1 b h ρ (ds, .ow, δ) = forD b h ds ρ δ := id rfl
def hForV1 (j : Nat) (b : BF) (h : HF') (ρ : Rho) (δ : Dr) : Option SV → Option (Ou × Rho × Dr)
  | some (.ow (.lst ds)) => forD b h ds (ρ.set j (.sh (.lst ds))) δ
  | some (.sh (.lst ds)) => forD b h ds ρ δ
  | some (.sh (.tup ds)) => forD b h ds ρ δ
  | some (.sh (.str z)) => forD b h (z.cps.toList.map fun c => .str ⟨#[c]⟩) ρ δ
  | _ => none
@[simp] theorem hForV_e {b : BF} {h : HF'} : hForV j b h ρ δ = hForV1 j b h ρ δ ρ[j]? := by
  unfold hForV hForV1
  cases ρ[j]? with
  | none => rfl
  | some s =>
    cases s with
    | ow d => cases d <;> rfl
    | sh d => cases d <;> rfl
    | _ => rfl
@[simp] theorem hForV1_ow {b : BF} {h : HF'} {ds : List D} : hForV1 j b h ρ δ (some (.ow (.lst ds))) = forD b h ds (ρ.set j (.sh (.lst ds))) δ := id rfl
@[simp] theorem hForV1_l {b : BF} {h : HF'} {ds : List D} : hForV1 j b h ρ δ (some (.sh (.lst ds))) = forD b h ds ρ δ := id rfl
@[simp] theorem hForV1_t {b : BF} {h : HF'} {ds : List D} : hForV1 j b h ρ δ (some (.sh (.tup ds))) = forD b h ds ρ δ := id rfl
@[simp] theorem fYes_e : fYes ρ δ = some (true, δ) := id rfl
/-! ### the draws -/
def dlK {α : Type} (x : Option α) : Option SV → Option α
  | some .dl => x
  | _ => none
@[simp] theorem dlK_e {α : Type} (x : Option α) : dlK x (some .dl) = x := id rfl
@[simp] theorem fDLen_e : fDLen i ρ δ = dlK (some (.int δ.1.length, .sh, δ)) ρ[i]? := by unfold fDLen dlK; cases ρ[i]? with | none => rfl | some s => cases s <;> rfl
@[simp] theorem fDLast_e : fDLast i ρ δ = dlK ((δ.1[δ.1.length - 1]?).map fun c => (.int c, .sh, δ)) ρ[i]? := by unfold fDLast dlK; cases ρ[i]? with | none => rfl | some s => cases s <;> rfl
@[simp] theorem fDPop_e : fDPop i ρ δ = dlK ((δ.1[δ.1.length - 1]?).map fun c => (.int c, .sh, (δ.1.dropLast, δ.2))) ρ[i]? := by unfold fDPop dlK; cases ρ[i]? with | none => rfl | some s => cases s <;> rfl
@[simp] theorem fD1_e : fD1 i ρ δ = dlK (some (.int δ.2, .sh, δ)) ρ[i]? := by unfold fD1 dlK; cases ρ[i]? with | none => rfl | some s => cases s <;> rfl
def hDApp1 (ρ : Rho) : D × Kd × Dr → Option (Ou × Rho × Dr) := fun p => match p.1 with
  | .int z => if p.2.2.1.length < sizeLine then some (.nx, ρ, (p.2.2.1 ++ [z], p.2.2.2)) else none
  | _ => none
@[simp] theorem hDApp_e : hDApp i f ρ δ = dlK ((f ρ δ).bind (hDApp1 ρ)) ρ[i]? := by unfold hDApp dlK; cases ρ[i]? with | none => rfl | some s => cases s <;> rfl
@[simp] theorem hDApp1_e {z : Int} : hDApp1 ρ (.int z, k, δ) = if δ.1.length < sizeLine then some (.nx, ρ, (δ.1 ++ [z], δ.2)) else none := id rfl
def hDSet1k (ρ : Rho) : D × Kd × Dr → Option (Ou × Rho × Dr) := fun p => match p.1 with
  | .int z => some (.nx, ρ, (p.2.2.1, z))
  | _ => none
@[simp] theorem hDSet1_e : hDSet1 i f ρ δ = dlK ((f ρ δ).bind (hDSet1k ρ)) ρ[i]? := by unfold hDSet1 dlK; cases ρ[i]? with | none => rfl | some s => cases s <;> rfl
@[simp] theorem hDSet1k_e {z : Int} : hDSet1k ρ (.int z, k, δ) = some (.nx, ρ, (δ.1, z)) := id rfl
/-! ### operators -/
@[simp] theorem oAdd_i {x y : Int} : oAdd (.int x) (.int y) = some (.int (x + y), .sh) := id rfl
@[simp] theorem oAdd_l {x y : List D} : oAdd (.lst x) (.lst y) = if x.length + y.length ≤ sizeLine then some (.lst (x ++ y), .ow) else none := id rfl
@[simp] theorem oAdd_t {x y : List D} : oAdd (.tup x) (.tup y) = if x.length + y.length ≤ sizeLine then some (.tup (x ++ y), .sh) else none := id rfl
@[simp] theorem oSub_i {x y : Int} : oSub (.int x) (.int y) = some (.int (x - y), .sh) := id rfl
@[simp] theorem oMul_i {x y : Int} : oMul (.int x) (.int y) = if cMul x y then some (.int (x * y), .sh) else none := id rfl
@[simp] theorem oDiv_i {x y : Int} : oDiv (.int x) (.int y) = if cDiv x y then some (.int (x / y), .sh) else none := id rfl
@[simp] theorem oMod_i {x y : Int} : oMod (.int x) (.int y) = if cMod x y then some (.int (x % y), .sh) else none := id rfl
@[simp] theorem oPow_i {x y : Int} : oPow (.int x) (.int y) = if cPow x y then some (.int (x ^ y.toNat), .sh) else none := id rfl
theorem pl_int (x : Int) : pl 40 (.int x) = true := rfl
theorem ltD_i (x y : Int) : ltD (.int x) (.int y) = decide (x < y) := by
  unfold ltD toP
  exact PySem.W.dataLt_int x y
theorem al2_i (x y : Int) : al2 (.int x) (.int y) = true := rfl
@[simp] theorem oLt_i {x y : Int} : oLt (.int x) (.int y) = some (.bl (decide (x < y)), .sh) := by
  rw [oLt, if_pos (al2_i x y), ltD_i]
@[simp] theorem oGt_i {x y : Int} : oGt (.int x) (.int y) = some (.bl (decide (y < x)), .sh) := by
  rw [oGt, if_pos (al2_i x y), ltD_i]
theorem not_lt_le (x y : Int) : (!decide (x < y)) = decide (y ≤ x) := by
  by_cases h : x < y
  · have : ¬ y ≤ x := by omega
    simp [h, this]
  · have : y ≤ x := by omega
    simp [h, this]
@[simp] theorem oLe_i {x y : Int} : oLe (.int x) (.int y) = some (.bl (decide (x ≤ y)), .sh) := by
  rw [← not_lt_le y x, oLe, if_pos (al2_i x y), ltD_i]
@[simp] theorem oGe_i {x y : Int} : oGe (.int x) (.int y) = some (.bl (decide (y ≤ x)), .sh) := by
  rw [← not_lt_le x y, oGe, if_pos (al2_i x y), ltD_i]
@[simp] theorem oEq_i {x y : Int} : oEq (.int x) (.int y) = some (.bl (decide (x = y)), .sh) := by
  have : (x == y) = decide (x = y) := rfl
  rw [← this]
  rfl
@[simp] theorem oNe_i {x y : Int} : oNe (.int x) (.int y) = some (.bl (!decide (x = y)), .sh) := by
  have : (x == y) = decide (x = y) := rfl
  rw [← this]
  rfl
@[simp] theorem oIs_nn : oIs .non .non = some (.bl true, .sh) := id rfl
@[simp] theorem oIs_in {x : Int} : oIs (.int x) .non = some (.bl false, .sh) := id rfl
@[simp] theorem oIs_bn {x : Bool} : oIs (.bl x) .non = some (.bl false, .sh) := id rfl
@[simp] theorem oIs_sn {x : Str} : oIs (.str x) .non = some (.bl false, .sh) := id rfl
@[simp] theorem oIs_tn {x : List D} : oIs (.tup x) .non = some (.bl false, .sh) := id rfl
@[simp] theorem oIs_ln {x : List D} : oIs (.lst x) .non = some (.bl false, .sh) := id rfl
@[simp] theorem oIs_bb {x y : Bool} : oIs (.bl x) (.bl y) = some (.bl (x == y), .sh) := id rfl
@[simp] theorem oIs_nb {y : Bool} : oIs .non (.bl y) = some (.bl false, .sh) := id rfl
@[simp] theorem oIs_ib {x : Int} {y : Bool} : oIs (.int x) (.bl y) = some (.bl false, .sh) := id rfl
@[simp] theorem oIs_sb {x : Str} {y : Bool} : oIs (.str x) (.bl y) = some (.bl false, .sh) := id rfl
@[simp] theorem oIs_tb {x : List D} {y : Bool} : oIs (.tup x) (.bl y) = some (.bl false, .sh) := id rfl
@[simp] theorem oLen_l {x : List D} : oLen [.lst x] = some (.int x.length, .sh) := id rfl
@[simp] theorem oLen_t {x : List D} : oLen [.tup x] = some (.int x.length, .sh) := id rfl
@[simp] theorem oInt_i {x : Int} : oInt [.int x] = some (.int x, .sh) := id rfl
@[simp] theorem oAbs_i {x : Int} : oAbs [.int x] = some (.int (if x < 0 then -x else x), .sh) := id rfl
@[simp] theorem oList_l {x : List D} : oList [.lst x] = some (.lst x, .ow) := id rfl
@[simp] theorem oList_t {x : List D} : oList [.tup x] = some (.lst x, .ow) := id rfl
@[simp] theorem oTuple_l {x : List D} : oTuple [.lst x] = some (.tup x, .sh) := id rfl
@[simp] theorem oTuple_t {x : List D} : oTuple [.tup x] = some (.tup x, .sh) := id rfl
@[simp] theorem oMax2_i {x y : Int} : oMax2 [.int x, .int y] = some (.int (if y > x then y else x), .sh) := id rfl
@[simp] theorem oMin2_i {x y : Int} : oMin2 [.int x, .int y] = some (.int (if y < x then y else x), .sh) := id rfl
@[simp] theorem oSum_l {x : List D} : oSum [.lst x] = (intsOf x).map fun l => (.int l.sum, .sh) := id rfl
@[simp] theorem intsOf_map (x : List Int) : intsOf (x.map D.int) = some x := by
  induction x with
  | nil => rfl
  | cons a x ih => rw [List.map_cons, intsOf, ih]; rfl
@[simp] theorem oIx_l {x : List D} {y : Int} : oIx (.lst x) (.int y) = (atD x y).map fun d => (d, .sh) := id rfl
@[simp] theorem oIx_t {x : List D} {y : Int} : oIx (.tup x) (.int y) = (atD x y).map fun d => (d, .sh) := id rfl
@[simp] theorem cutR_l {x : List D} {lo hi : Option Int} : cutR (.lst x) lo hi = some (.lst (cutD x lo hi), .ow) := id rfl
@[simp] theorem cutR_w {x : List D} {lo hi : Option Int} : cutR (.wls x) lo hi = some (.lst (cutD x lo hi), .ow) := id rfl
@[simp] theorem cutR_t {x : List D} {lo hi : Option Int} : cutR (.tup x) lo hi = some (.tup (cutD x lo hi), .sh) := id rfl
theorem atD_nat (x : List D) (n : Nat) : atD x (n : Int) = x[n]? := by
  unfold atD ixN
  by_cases h : n < x.length
  · rw [if_pos (by omega), if_pos (by omega)]
    simp
  · rw [if_pos (by omega), if_neg (by omega), List.getElem?_eq_none (by omega)]
    rfl
theorem atD_last (x : List D) : atD (x ++ [d]) (-1) = some d := by
  unfold atD ixN
  rw [if_neg (by decide), if_pos (by simp; omega)]
  have : ((-1 : Int) + ((x ++ [d]).length : Nat)).toNat = x.length := by
    rw [List.length_append, List.length_singleton]
    omega
  rw [this]
  simp
theorem atD_pos {x : List D} {y : Int} (h : 0 ≤ y) : atD x y = x[y.toNat]? := by
  rw [← atD_nat, Int.toNat_of_nonneg h]

@[simp] theorem endD_nx : endD (some (.nx, ρ, δ)) = some (.non, .sh, δ) := id rfl
@[simp] theorem endD_sh : endD (some (.rt d .sh, ρ, δ)) = some (d, .sh, δ) := id rfl
@[simp] theorem endD_ow : endD (some (.rt d .ow, ρ, δ)) = some (d, .ow, δ) := id rfl
theorem log_small {i : Int} {n : Nat} (h : i.natAbs < 2 ^ n) (hn : 0 < n) : i.natAbs.log2 < n := by
  by_cases h0 : i.natAbs = 0
  · rw [h0]
    exact hn
  · exact (Nat.log2_lt h0).mpr h
theorem cDiv_of {x y : Int} (h : 0 < y) (h2 : y.natAbs < 2 ^ 8000) : cDiv x y := ⟨h, Nat.lt_of_lt_of_le (log_small h2 (by decide)) (by decide)⟩
@[simp] theorem cDiv_lit {x y : Int} (h : 0 < y) (h2 : y < 18446744073709551616) : cDiv x y := cDiv_of h (Nat.lt_of_lt_of_le (show y.natAbs < 2 ^ 64 by omega) (Nat.pow_le_pow_right (by decide) (by decide)))
@[simp] theorem cMod_e {x y : Int} : cMod x y = (0 < y) := id rfl
theorem cMul_of {x y : Int} (h : x.natAbs < 2 ^ 400000) (h2 : y.natAbs < 2 ^ 400000) : cMul x y := by
  have a := log_small h (by decide)
  have b := log_small h2 (by decide)
  show _ + _ < _
  omega
@[simp] theorem fnP_e {n m : Nat} {h : HF'} {ds : List D} : fnP n m h ds = if ds.length = n then (endD (h (ds.map .sh ++ List.replicate m .un) ([], 0))).map fun r => (r.1, r.2.1) else none := id rfl
@[simp] theorem fnW_e {n m : Nat} {h : HF'} {ds : List D} : fnW n m h ds δ = if ds.length = n then endD (h (.dl :: ds.map .sh ++ List.replicate m .un) δ) else none := id rfl
@[simp] theorem hWhile_e {c : TF} {h : HF'} : hWhile c h ρ δ = whD c h turns ρ δ := id rfl
/-! ### loops -/
/-- a for loop that never leaves -/
theorem forD_inv {b : BF} {h : HF'} (I : List D → Rho → Dr → Prop) (st : ∀ x xs ρ δ, I (x :: xs) ρ δ → ∃ ρ1 ρ2 δ2, b x ρ = some ρ1 ∧ h ρ1 δ = some (.nx, ρ2, δ2) ∧ I xs ρ2 δ2) :
    ∀ {ds : List D} {ρ : Rho} {δ : Dr}, I ds ρ δ → ∃ ρ' δ', forD b h ds ρ δ = some (.nx, ρ', δ') ∧ I [] ρ' δ'
  | [], ρ, δ, i => ⟨ρ, δ, rfl, i⟩
  | x :: xs, ρ, δ, i => by
    obtain ⟨ρ1, ρ2, δ2, e1, e2, i2⟩ := st x xs ρ δ i
    obtain ⟨ρ', δ', e3, i3⟩ := forD_inv I st i2
    refine ⟨ρ', δ', ?_, i3⟩
    rw [forD, e1]
    simp only [Option.bind_some]
    rw [e2]
    exact e3
/-- a for loop that may leave -/
theorem forD_out {b : BF} {h : HF'} (I : List D → Rho → Dr → Prop) (Q : Ou → Rho → Dr → Prop)
    (st : ∀ x xs ρ δ, I (x :: xs) ρ δ → ∃ ρ1 o ρ2 δ2, b x ρ = some ρ1 ∧ h ρ1 δ = some (o, ρ2, δ2) ∧ match o with | .nx => I xs ρ2 δ2 | .ct => I xs ρ2 δ2 | .bk => Q .nx ρ2 δ2 | .rt d k => Q (.rt d k) ρ2 δ2) (en : ∀ ρ δ, I [] ρ δ → Q .nx ρ δ) :
    ∀ {ds : List D} {ρ : Rho} {δ : Dr}, I ds ρ δ → ∃ o ρ' δ', forD b h ds ρ δ = some (o, ρ', δ') ∧ Q o ρ' δ'
  | [], ρ, δ, i => ⟨.nx, ρ, δ, rfl, en ρ δ i⟩
  | x :: xs, ρ, δ, i => by
    obtain ⟨ρ1, o, ρ2, δ2, e1, e2, i2⟩ := st x xs ρ δ i
    rw [forD, e1]
    simp only [Option.bind_some]
    rw [e2]
    cases o with
    | nx => exact forD_out I Q st en i2
    | ct => exact forD_out I Q st en i2
    | bk => exact ⟨_, _, _, rfl, i2⟩
    | rt d k => exact ⟨_, _, _, rfl, i2⟩
/-- a while loop that never leaves: a measure below the turns -/
theorem whD_inv {c : TF} {h : HF'} (I : Rho → Dr → Prop) (μ : Rho → Dr → Nat) (Q : Rho → Dr → Prop)
    (st : ∀ ρ δ, I ρ δ → (∃ δ1, c ρ δ = some (false, δ1) ∧ Q ρ δ1) ∨ ∃ δ1 ρ2 δ2, c ρ δ = some (true, δ1) ∧ h ρ δ1 = some (.nx, ρ2, δ2) ∧ I ρ2 δ2 ∧ μ ρ2 δ2 < μ ρ δ) :
    ∀ {n : Nat} {ρ : Rho} {δ : Dr}, I ρ δ → μ ρ δ < n → ∃ ρ' δ', whD c h n ρ δ = some (.nx, ρ', δ') ∧ Q ρ' δ'
  | 0, ρ, δ, i, hn => absurd hn (Nat.not_lt_zero _)
  | n + 1, ρ, δ, i, hn => by
    rcases st ρ δ i with ⟨δ1, e1, q⟩ | ⟨δ1, ρ2, δ2, e1, e2, i2, m⟩
    · refine ⟨ρ, δ1, ?_, q⟩
      rw [whD, e1]
      rfl
    · obtain ⟨ρ', δ', e3, q⟩ := whD_inv I μ Q st (n := n) i2 (by omega)
      refine ⟨ρ', δ', ?_, q⟩
      rw [whD, e1]
      simp only [Option.bind_some, if_true]
      rw [e2]
      exact e3
/-- a while loop that may leave -/
theorem whD_out {c : TF} {h : HF'} (I : Rho → Dr → Prop) (μ : Rho → Dr → Nat) (Q : Ou → Rho → Dr → Prop)
    (st : ∀ ρ δ, I ρ δ → (∃ δ1, c ρ δ = some (false, δ1) ∧ Q .nx ρ δ1) ∨ ∃ δ1 o ρ2 δ2, c ρ δ = some (true, δ1) ∧ h ρ δ1 = some (o, ρ2, δ2) ∧ match o with | .nx => I ρ2 δ2 ∧ μ ρ2 δ2 < μ ρ δ | .ct => I ρ2 δ2 ∧ μ ρ2 δ2 < μ ρ δ | .bk => Q .nx ρ2 δ2 | .rt d k => Q (.rt d k) ρ2 δ2) :
    ∀ {n : Nat} {ρ : Rho} {δ : Dr}, I ρ δ → μ ρ δ < n → ∃ o ρ' δ', whD c h n ρ δ = some (o, ρ', δ') ∧ Q o ρ' δ'
  | 0, ρ, δ, i, hn => absurd hn (Nat.not_lt_zero _)
  | n + 1, ρ, δ, i, hn => by
    rcases st ρ δ i with ⟨δ1, e1, q⟩ | ⟨δ1, o, ρ2, δ2, e1, e2, i2⟩
    · refine ⟨.nx, ρ, δ1, ?_, q⟩
      rw [whD, e1]
      rfl
    · rw [whD, e1]
      simp only [Option.bind_some, if_true]
      rw [e2]
      cases o with
      | nx => exact whD_out I μ Q st (n := n) i2.1 (by have z := i2.2; show μ ρ2 δ2 < n; omega)
      | ct => exact whD_out I μ Q st (n := n) i2.1 (by have z := i2.2; show μ ρ2 δ2 < n; omega)
      | bk => exact ⟨_, _, _, rfl, i2⟩
      | rt d k => exact ⟨_, _, _, rfl, i2⟩
/-- a comprehension that takes all, each by itself, without draws -/
theorem lcD_map {b : BF} {f : EF} {g : D → D} : ∀ {ds : List D} {ρ : Rho} {δ : Dr}, (∀ x ∈ ds, ∃ ρ1 k, b x ρ = some ρ1 ∧ f ρ1 δ = some (g x, k, δ) ∧ k ≠ .br) → lcD b fYes f ρ ds δ = some (ds.map g, δ)
  | [], _, _, _ => rfl
  | x :: xs, ρ, δ, h => by
    obtain ⟨ρ1, k, e1, e2, e3⟩ := h x (by simp)
    rw [lcD, e1]
    simp only [Option.bind_some, fYes_e, if_true]
    rw [e2]
    simp only [Option.bind_some]
    rw [if_neg e3, lcD_map fun y hy => h y (by simp [hy])]
    rfl
/-- .. that takes those of p -/
theorem lcD_filter {b : BF} {t : TF} {f : EF} {p : D → Bool} {g : D → D} : ∀ {ds : List D} {ρ : Rho} {δ : Dr}, (∀ x ∈ ds, ∃ ρ1, b x ρ = some ρ1 ∧ t ρ1 δ = some (p x, δ) ∧ (p x = true → ∃ k, f ρ1 δ = some (g x, k, δ) ∧ k ≠ .br)) → lcD b t f ρ ds δ = some ((ds.filter p).map g, δ)
  | [], _, _, _ => rfl
  | x :: xs, ρ, δ, h => by
    obtain ⟨ρ1, e1, e2, e3⟩ := h x (by simp)
    have ih := lcD_filter (b := b) (t := t) (f := f) (p := p) (g := g) (ds := xs) (ρ := ρ) (δ := δ) fun y hy => h y (by simp [hy])
    rw [lcD, e1]
    simp only [Option.bind_some]
    rw [e2]
    simp only [Option.bind_some]
    cases hp : p x with
    | true =>
      obtain ⟨k, e4, e5⟩ := e3 hp
      rw [if_pos rfl, e4]
      simp only [Option.bind_some]
      rw [if_neg e5, ih, List.filter_cons_of_pos hp]
      rfl
    | false =>
      rw [if_neg (by simp), ih, List.filter_cons_of_neg (by simp [hp])]
end
end DL
/-! D-layer, part n: what the laws' own helpers reckon: the draws, what is alike. The defs here are as gen.py prints them. -/
namespace LH
open PySem PySem.Spec PyProof.Rows L2 DL
def wt__law_any_1 : TF := (fAnd (asB (fBin oGt (fDLen 0) (fC (.int 0)))) (asB (fBin oEq (fDLast 0) (fC (.int 0)))))
def wb__law_any_1 : HF' := (hExpr (fDPop 0))
def h__law_any : HF' := (hSeq (hWhile wt__law_any_1 wb__law_any_1)
  (hSeq (hIf (asB (fBin oGt (fDLen 0) (fC (.int 0)))) (hSeq (hSet 2 (fCall oInt (rCons (fDPop 0) rNil)))
  (hSeq (hDApp 0 (fBin oDiv (fVar 2) (fVar 1)))
  (hRet (fBin oMod (fVar 2) (fVar 1))))) hNil)
  (hSeq (hDSet1 0 (fBin oMod (fCall oInt (rCons (fBin oAdd (fBin oMul (fD1 0) (fC (.int 48271))) (fC (.int 31))) rNil)) (fC (.int 2147483647))))
  (hRet (fBin oMod (fCall oInt (rCons (fBin oDiv (fD1 0) (fC (.int 64))) rNil)) (fVar 1))))))
def g__law_any := fnW 1 1 h__law_any
def h__law_of : HF' := (hRet (fBin oIx (fVar 1) (fCallW 0 g__law_any (vCons (fCall oLen (rCons (fVar 1) rNil)) vNil))))
def g__law_of := fnW 1 0 h__law_of
def h__law_is_kind : HF' := (hSeq (hIf (asB (fBin oIs (fVar 1) (fC .non))) (hRet (fBin oIs (fVar 0) (fC .non))) hNil)
  (hSeq (hIf (fOr (asB (fBin oIs (fVar 1) (fC (.bl true)))) (asB (fBin oIs (fVar 1) (fC (.bl false))))) (hRet (fIf (asB (fVar 1)) (fBin oIs (fVar 0) (fC (.bl true))) (fBin oIs (fVar 0) (fC (.bl false))))) hNil)
  (hSeq (hIf (asB (fCall oIsa (rCons (fVar 1) (rCons (fC (.ty "str")) rNil)))) (hRet (fAndV (asB (fCall oIsa (rCons (fVar 0) (rCons (fC (.ty "str")) rNil)))) (fBin oEq (fVar 0) (fVar 1)))) hNil)
  (hRet (fAndV (asB (fCall oIsa (rCons (fVar 0) (rCons (fC (.ty "int")) rNil)))) (fAndV (asB (ofT (fNot (asB (fCall oIsa (rCons (fVar 0) (rCons (fC (.ty "bool")) rNil))))))) (fBin oEq (fVar 0) (fVar 1))))))))
def g__law_is_kind := fnP 2 0 h__law_is_kind
def wt__law_same_1 : TF := (asB (fBin oGt (fCall oLen (rCons (fVar 2) rNil)) (fC (.int 0))))
def wb__law_same_1 : HF' := (hSeq (hPopTo (bTup (bCons (bName 3) (bCons (bName 4) bNil))) 2)
  (hIf (asB (fCall oIsa (rCons (fVar 4) (rCons (fC (.ty "tuple")) rNil)))) (hSeq (hIf (fOr (fNot (asB (fCall oIsa (rCons (fVar 3) (rCons (fC (.ty "tuple")) rNil))))) (asB (fBin oNe (fCall oLen (rCons (fVar 3) rNil)) (fCall oLen (rCons (fVar 4) rNil))))) (hRet (fC (.bl false))) hNil)
  (hSet 2 (fBin oAdd (fVar 2) (fLZip (rCons (fVar 3) (rCons (fVar 4) rNil)))))) (hIf (fOr (asB (fIsaT (fVar 3) ["tuple", "list", "dict"])) (fNot (asB (fCallP g__law_is_kind (vCons (fVar 3) (vCons (fVar 4) vNil)))))) (hRet (fC (.bl false))) hNil)))
def h__law_same : HF' := (hSeq (hSet 2 (fLst (aCons (fTup (aCons (fVar 0) (aCons (fVar 1) aNil))) aNil)))
  (hSeq (hWhile wt__law_same_1 wb__law_same_1)
  (hRet (fC (.bl true)))))
def g__law_same := fnP 2 3 h__law_same
def ct__law_all_1 : TF := (fNot (asB (fCallP g__law_same (vCons (fVar 1) (vCons (fVar 2) vNil)))))
def h__law_all : HF' := (hRet (fBin oEq (fCall oLen (rCons (fLc (sSeq (fVar 0)) (bTup (bCons (bName 1) (bCons (bName 2) bNil))) ct__law_all_1 (fVar 1) [1, 2]) rNil)) (fC (.int 0))))
def g__law_all := fnP 1 2 h__law_all
def h__law_tuple : HF' := (hRet (fIf (asB (fCall oIsa (rCons (fVar 0) (rCons (fC (.ty "tuple")) rNil)))) (fVar 0) (fTup aNil)))
def g__law_tuple := fnP 1 0 h__law_tuple
/-! ### draws -/
/-- draws as they may be -/
def VD (δ : Dr) : Prop := δ.1.length ≤ 63 ∧ δ.2.natAbs < 2 ^ 64
theorem any_ok {δ : Dr} {b : Int} (v : VD δ) (hb : 0 < b) (hs : b.natAbs < 2 ^ 8000) : ∃ r δ', g__law_any [.int b] δ = some (.int r, .sh, δ') ∧ 0 ≤ r ∧ r < b ∧ VD δ' := by
  have hdiv : ∀ x : Int, cDiv x b := fun x => cDiv_of hb hs
  have hmul : cMul δ.2 48271 := cMul_of (Nat.lt_of_lt_of_le v.2 (Nat.pow_le_pow_right (by decide) (by decide))) (Nat.lt_of_lt_of_le (show (48271 : Int).natAbs < 2 ^ 64 by decide) (Nat.pow_le_pow_right (by decide) (by decide)))
  have w := whD_inv (c := wt__law_any_1) (h := wb__law_any_1) (n := turns) (ρ := [.dl, .sh (.int b), .un]) (δ := δ) (fun ρ' δ' => ρ' = [.dl, .sh (.int b), .un] ∧ δ'.1.length ≤ 63 ∧ δ'.2 = δ.2) (fun _ δ' => δ'.1.length)
    (fun ρ' δ' => ρ' = [.dl, .sh (.int b), .un] ∧ δ'.1.length ≤ 63 ∧ δ'.2 = δ.2) ?_ ⟨rfl, v.1, rfl⟩ (Nat.lt_of_le_of_lt v.1 (by decide))
  · obtain ⟨ρ', ⟨cs, m⟩, e, rfl, hl, hm⟩ := w
    cases hm
    rcases List.eq_nil_or_concat cs with rfl | ⟨init, c, rfl⟩
    · refine ⟨((δ.2 * 48271 + 31) % 2147483647) / 64 % b, ([], (δ.2 * 48271 + 31) % 2147483647), ?_, Int.emod_nonneg _ (by omega), Int.emod_lt_of_pos _ hb, ⟨by simp, ?_⟩⟩
      · simp [g__law_any, h__law_any, e, hmul, hb]
      · show ((δ.2 * 48271 + 31) % 2147483647).natAbs < 2 ^ 64
        omega
    · have hl' : init.length + 1 ≤ 63 := by simpa using hl
      have hz : init.length < sizeLine := Nat.lt_of_lt_of_le (show init.length < 63 by omega) (by decide)
      refine ⟨c % b, (init ++ [c / b], δ.2), ?_, Int.emod_nonneg _ (by omega), Int.emod_lt_of_pos _ hb, ⟨by simpa using hl', v.2⟩⟩
      have hp : (0 : Int) < (init.length : Int) + 1 := by omega
      simp [g__law_any, h__law_any, e, hdiv, hb, hz, hp]
  · rintro ρ' ⟨cs, m⟩ ⟨rfl, hl, hm⟩
    cases hm
    rcases List.eq_nil_or_concat cs with rfl | ⟨init, c, rfl⟩
    · exact .inl ⟨([], δ.2), by simp [wt__law_any_1], rfl, hl, rfl⟩
    · have hp : (0 : Int) < (init.length : Int) + 1 := by omega
      by_cases h0 : c = 0
      · refine .inr ⟨(init ++ [c], δ.2), [.dl, .sh (.int b), .un], (init, δ.2), by simp [wt__law_any_1, hp, h0], by simp [wb__law_any_1], ⟨rfl, ?_, rfl⟩, by simp⟩
        have : (init ++ [c]).length ≤ 63 := by simpa using hl
        show init.length ≤ 63
        simp at this
        omega
      · exact .inl ⟨(init ++ [c], δ.2), by simp [wt__law_any_1, hp, h0], rfl, by simpa using hl, rfl⟩
theorem of_ok {δ : Dr} {ds : List D} (v : VD δ) (hn : ds ≠ []) (hl : ds.length < 2 ^ 64) : ∃ d δ', g__law_of [.lst ds] δ = some (d, .sh, δ') ∧ d ∈ ds ∧ VD δ' := by
  have h0 : 0 < ds.length := List.length_pos_iff.mpr hn
  obtain ⟨r, δ', e, r0, r1, v'⟩ := any_ok (b := (ds.length : Int)) v (by omega) (Nat.lt_of_lt_of_le (show (ds.length : Int).natAbs < 2 ^ 64 by simpa using hl) (Nat.pow_le_pow_right (by decide) (by decide)))
  have hr : r.toNat < ds.length := by omega
  refine ⟨ds[r.toNat], δ', ?_, List.getElem_mem hr, v'⟩
  have hx : ds[r.toNat]? = some ds[r.toNat] := List.getElem?_eq_getElem hr
  simp [g__law_of, h__law_of, e, atD_pos r0, hx]
theorem of_okT {δ : Dr} {ds : List D} (v : VD δ) (hn : ds ≠ []) (hl : ds.length < 2 ^ 64) : ∃ d δ', g__law_of [.tup ds] δ = some (d, .sh, δ') ∧ d ∈ ds ∧ VD δ' := by
  have h0 : 0 < ds.length := List.length_pos_iff.mpr hn
  obtain ⟨r, δ', e, r0, r1, v'⟩ := any_ok (b := (ds.length : Int)) v (by omega) (Nat.lt_of_lt_of_le (show (ds.length : Int).natAbs < 2 ^ 64 by simpa using hl) (Nat.pow_le_pow_right (by decide) (by decide)))
  have hr : r.toNat < ds.length := by omega
  refine ⟨ds[r.toNat], δ', ?_, List.getElem_mem hr, v'⟩
  have hx : ds[r.toNat]? = some ds[r.toNat] := List.getElem?_eq_getElem hr
  simp [g__law_of, h__law_of, e, atD_pos r0, hx]
/-! ### what is alike -/
mutual
/-- data of numbers, truths, texts, None, tuples -/
def lf : D → Bool
  | .non => true
  | .bl _ => true
  | .int _ => true
  | .str _ => true
  | .tup xs => lfs xs
  | _ => false
def lfs : List D → Bool
  | [] => true
  | d :: ds => lf d && lfs ds
end
mutual
def nodes : D → Nat
  | .tup xs => nodess xs + 1
  | _ => 1
def nodess : List D → Nat
  | [] => 0
  | d :: ds => nodes d + nodess ds
end
theorem nodess_app (a b : List D) : nodess (a ++ b) = nodess a + nodess b := by
  induction a with
  | nil => simp [nodess]
  | cons x a ih =>
    rw [List.cons_append, nodess, nodess, ih]
    omega
theorem nodes_pos (d : D) : 0 < nodes d := by
  cases d <;> simp [nodes]
theorem len_nodess (a : List D) : a.length ≤ nodess a := by
  induction a with
  | nil => simp
  | cons x a ih =>
    rw [List.length_cons, nodess]
    have := nodes_pos x
    omega
theorem lfs_mem : ∀ {a : List D}, lfs a = true → ∀ x ∈ a, lf x = true
  | [], _, x, h => by cases h
  | y :: a, h, x, hx => by
    rw [lfs, Bool.and_eq_true] at h
    rcases List.mem_cons.mp hx with rfl | hx
    · exact h.1
    · exact lfs_mem h.2 x hx
theorem lfs_of : ∀ {a : List D}, (∀ x ∈ a, lf x = true) → lfs a = true
  | [], _ => rfl
  | y :: a, h => by
    rw [lfs, Bool.and_eq_true]
    exact ⟨h y (by simp), lfs_of fun x hx => h x (by simp [hx])⟩
theorem k_tt : kitB "tuple" "tuple" = some true := by decide +kernel
theorem k_it : kitB "int" "tuple" = some false := by decide +kernel
theorem k_bt : kitB "bool" "tuple" = some false := by decide +kernel
theorem k_st : kitB "str" "tuple" = some false := by decide +kernel
theorem k_nt : kitB "NoneType" "tuple" = some false := by decide +kernel
theorem k_lt : kitB "list" "tuple" = some false := by decide +kernel
theorem k_il : kitB "int" "list" = some false := by decide +kernel
theorem k_bl : kitB "bool" "list" = some false := by decide +kernel
theorem k_sl : kitB "str" "list" = some false := by decide +kernel
theorem k_nl : kitB "NoneType" "list" = some false := by decide +kernel
theorem k_id : kitB "int" "dict" = some false := by decide +kernel
theorem k_bd : kitB "bool" "dict" = some false := by decide +kernel
theorem k_sd : kitB "str" "dict" = some false := by decide +kernel
theorem k_nd : kitB "NoneType" "dict" = some false := by decide +kernel
theorem k_is : kitB "int" "str" = some false := by decide +kernel
theorem k_ss : kitB "str" "str" = some true := by decide +kernel
theorem k_ii : kitB "int" "int" = some true := by decide +kernel
theorem k_ib : kitB "int" "bool" = some false := by decide +kernel
theorem kind_non : g__law_is_kind [.non, .non] = some (.bl true, .sh) := by simp [g__law_is_kind, h__law_is_kind]
theorem kind_bl (b : Bool) : g__law_is_kind [.bl b, .bl b] = some (.bl true, .sh) := by cases b <;> simp [g__law_is_kind, h__law_is_kind]
theorem kind_int (i : Int) : g__law_is_kind [.int i, .int i] = some (.bl true, .sh) := by simp [g__law_is_kind, h__law_is_kind, oIsa, tyD, k_is, k_ii, k_ib]
theorem kind_str (z : Str) : g__law_is_kind [.str z, .str z] = some (.bl true, .sh) := by
  have h : oEq (.str z) (.str z) = some (.bl true, .sh) := by
    have hp : pl2 (.str z) (.str z) = true := rfl
    rw [oEq, if_pos hp, eqD]
    simp
  simp [g__law_is_kind, h__law_is_kind, oIsa, tyD, k_ss, h]
theorem zip_self (xs : List D) : zipD xs xs = xs.map fun x => .tup [x, x] := by
  unfold zipD
  induction xs with
  | nil => rfl
  | cons x xs ih => rw [List.zipWith_cons_cons, List.map_cons, ih]
/-- the first things of pairs -/
def fsts (ts : List D) : List D := ts.map fun t => match t with | .tup (a :: _) => a | d => d
theorem fsts_pairs (es : List D) : fsts (es.map fun x => .tup [x, x]) = es := by
  unfold fsts
  rw [List.map_map]
  exact (List.map_congr_left (fun x _ => rfl)).trans (List.map_id es)
def todoOf (ρ : Rho) : List D := match (ρ[2]? : Option SV) with | some (SV.ow (D.lst ts)) => fsts ts | _ => []
theorem same_ok {d : D} (h : lf d = true) (hn : nodes d ≤ 1000000) : g__law_same [d, d] = some (.bl true, .sh) := by
  have w := whD_inv (c := wt__law_same_1) (h := wb__law_same_1) (n := turns) (ρ := [.sh d, .sh d, .ow (.lst ([d].map fun x => .tup [x, x])), .un, .un]) (δ := ([], 0))
    (fun ρ _ => ∃ (es : List D) (x y : SV), ρ = [.sh d, .sh d, .ow (.lst (es.map fun x => .tup [x, x])), x, y] ∧ lfs es = true ∧ nodess es ≤ 1000000) (fun ρ _ => nodess (todoOf ρ)) (fun ρ _ => ∃ a b c, ρ = [.sh d, .sh d, a, b, c]) ?_
    ⟨[d], .un, .un, rfl, by rw [lfs, lfs, h]; rfl, by rw [nodess, nodess]; omega⟩ ?_
  · obtain ⟨ρ', δ', e, a, b, c, rfl⟩ := w
    simp only [List.map_cons, List.map_nil] at e
    simp [g__law_same, h__law_same, e]
  · rintro ρ' δ' ⟨es, x, y, rfl, hl, hs⟩
    rcases List.eq_nil_or_concat es with rfl | ⟨init, e, rfl⟩
    · exact .inl ⟨δ', by simp [wt__law_same_1], _, _, _, rfl⟩
    · right
      rw [List.concat_eq_append] at hl hs
      have hp : (0 : Int) < (init.length : Int) + 1 := by omega
      have hle : lf e = true := lfs_mem hl e (by simp)
      have hli : lfs init = true := lfs_of fun x hx => lfs_mem hl x (by simp [hx])
      rw [nodess_app, nodess, nodess] at hs
      have t2 : todoOf [.sh d, .sh d, .ow (.lst ((init.concat e).map fun x => .tup [x, x])), x, y] = init ++ [e] := by
        show fsts _ = _
        rw [fsts_pairs, List.concat_eq_append]
      cases e with
      | tup xs =>
        have hn' : ((init.length : Nat) : Nat) + xs.length ≤ sizeLine := by
          have h1 := len_nodess init
          have h2 := len_nodess xs
          rw [nodes] at hs
          have : (1000000 : Nat) ≤ sizeLine := by decide
          omega
        refine ⟨δ', [.sh d, .sh d, .ow (.lst ((init ++ xs).map fun x => .tup [x, x])), .sh (.tup xs), .sh (.tup xs)], δ', by simp [wt__law_same_1, hp], ?_, ⟨_, _, _, rfl, ?_, ?_⟩, ?_⟩
        · simp [wb__law_same_1, oIsa, tyD, k_tt, zip_self, hn']
        · exact lfs_of fun x hx => by
            rcases List.mem_append.mp hx with hx | hx
            · exact lfs_mem hli x hx
            · exact lfs_mem hle x hx
        · rw [nodess_app]
          rw [nodes] at hs
          omega
        · rw [t2]
          show nodess (fsts _) < _
          rw [fsts_pairs, nodess_app, nodess_app, nodess, nodess, nodes]
          omega
      | non =>
        refine ⟨δ', [.sh d, .sh d, .ow (.lst (init.map fun x => .tup [x, x])), .sh .non, .sh .non], δ', by simp [wt__law_same_1, hp], ?_, ⟨_, _, _, rfl, hli, by omega⟩, ?_⟩
        · simp [wb__law_same_1, oIsa, tyD, anyTy, k_nt, k_nl, k_nd, kind_non]
        · rw [t2]
          show nodess (fsts _) < _
          rw [fsts_pairs, nodess_app, nodess, nodess, nodes]
          all_goals first | omega | simp
      | bl b =>
        refine ⟨δ', [.sh d, .sh d, .ow (.lst (init.map fun x => .tup [x, x])), .sh (.bl b), .sh (.bl b)], δ', by simp [wt__law_same_1, hp], ?_, ⟨_, _, _, rfl, hli, by omega⟩, ?_⟩
        · simp [wb__law_same_1, oIsa, tyD, anyTy, k_bt, k_bl, k_bd, kind_bl]
        · rw [t2]
          show nodess (fsts _) < _
          rw [fsts_pairs, nodess_app, nodess, nodess, nodes]
          all_goals first | omega | simp
      | int b =>
        refine ⟨δ', [.sh d, .sh d, .ow (.lst (init.map fun x => .tup [x, x])), .sh (.int b), .sh (.int b)], δ', by simp [wt__law_same_1, hp], ?_, ⟨_, _, _, rfl, hli, by omega⟩, ?_⟩
        · simp [wb__law_same_1, oIsa, tyD, anyTy, k_it, k_il, k_id, kind_int]
        · rw [t2]
          show nodess (fsts _) < _
          rw [fsts_pairs, nodess_app, nodess, nodess, nodes]
          all_goals first | omega | simp
      | str b =>
        refine ⟨δ', [.sh d, .sh d, .ow (.lst (init.map fun x => .tup [x, x])), .sh (.str b), .sh (.str b)], δ', by simp [wt__law_same_1, hp], ?_, ⟨_, _, _, rfl, hli, by omega⟩, ?_⟩
        · simp [wb__law_same_1, oIsa, tyD, anyTy, k_st, k_sl, k_sd, kind_str]
        · rw [t2]
          show nodess (fsts _) < _
          rw [fsts_pairs, nodess_app, nodess, nodess, nodes]
          all_goals first | omega | simp
      | _ => cases hle
  · show nodess (fsts _) < turns
    rw [fsts_pairs, nodess, nodess]
    have : (1000000 : Nat) < turns := by decide
    omega
/-- a pair of what was told and what was due, alike -/
def Goo (t : D) : Prop := ∃ d, t = .tup [d, d] ∧ lf d = true ∧ nodes d ≤ 1000000
theorem all_ok {ts : List D} (h : ∀ t ∈ ts, Goo t) (hl : ts.length ≤ sizeLine) : g__law_all [.lst ts] = some (.bl true, .sh) := by
  have e := lcD_filter (b := bTup (bCons (bName 1) (bCons (bName 2) bNil))) (t := ct__law_all_1) (f := fVar 1) (p := fun _ => false) (g := id) (ds := ts) (ρ := [.sh (.lst ts), .un, .un]) (δ := ([], 0)) fun t ht => by
    obtain ⟨d, rfl, h1, h2⟩ := h t ht
    exact ⟨[.sh (.lst ts), .sh d, .sh d], by simp, by simp [ct__law_all_1, same_ok h1 h2], fun z => by cases z⟩
  simp [g__law_all, h__law_all, hl, wip, e]
end LH
/-! D-layer, part o: how the draws are made of the script. -/
namespace LH
open PySem PySem.Spec PyProof.Rows L2 DL
def ce__law_deal_1 : EF := (fBin oMod (fCall oInt (rCons (fCall oAbs (rCons (fCall oInt (rCons (fVar 5) rNil)) rNil)) rNil)) (fVar 2))
def fb__law_deal_1 : HF' := (hSet 4 (fBin oMod (fCall oInt (rCons (fBin oAdd (fBin oAdd (fBin oMul (fVar 4) (fC (.int 69621))) (fBin oMod (fCall oInt (rCons (fVar 5) rNil)) (fC (.int 2147483563)))) (fC (.int 23))) rNil)) (fC (.int 2147483647))))
def ct__law_deal_1 : TF := (asB (fBin oGe (fVar 5) (fBin oPow (fC (.int 10)) (fC (.int 18)))))
def f_most : EF := (fBin oMul (fBin oMul (fBin oMul (fBin oMul (fBin oMul (fBin oPow (fC (.int 10)) (fC (.int 64))) (fBin oPow (fC (.int 10)) (fC (.int 64)))) (fBin oPow (fC (.int 10)) (fC (.int 64)))) (fBin oPow (fC (.int 10)) (fC (.int 64)))) (fBin oPow (fC (.int 10)) (fC (.int 64)))) (fBin oPow (fC (.int 10)) (fC (.int 64))))
def h_deal (a b : Int) : HF' := (hSeq (hSet 2 f_most)
  (hSeq (hPar 3 4 (fLc (sSeq (fCut (fVar 0) bNo (bOf (fC (.int 63))))) (bName 5) fYes ce__law_deal_1 [5]) (fBin oAdd (fC (.int a)) (fBin oMul (fC (.int b)) (fVar 1))))
  (hSeq (hForV 3 (bName 5) fb__law_deal_1)
  (hRet (fLst (aCons (fRev (fLc (sSeq (fVar 3)) (bName 5) ct__law_deal_1 (fVar 5) [5])) (aCons (fVar 4) aNil)))))))
def g_deal (a b : Int) := fnP 2 4 (h_deal a b)
def most : Int := 10 ^ 384
theorem most_e (ρ : Rho) (δ : Dr) : f_most ρ δ = some (.int most, .sh, δ) := by kernel_rfl
theorem cut63 {xs : List D} (h : xs.length ≤ 63) : DL.cutD xs none (some 63) = xs := by
  unfold DL.cutD sI
  have e : HT.sIx xs.length xs.length (some ((63 : Nat) : Int)) = min 63 xs.length := HT.sIx_nat _ _ _
  have e0 : HT.sIx xs.length 0 none = 0 := rfl
  have e' : HT.sIx xs.length xs.length (some 63) = min 63 xs.length := e
  rw [e', e0, Nat.min_eq_right h]
  simp
theorem deal_ok {a b salt : Int} (hs : salt.natAbs < 2 ^ 40) (ha : a.natAbs < 2 ^ 20) (hb : b.natAbs < 2 ^ 20) {ns : List Int} (hn : ns.length ≤ 63) : ∃ δ, dealOf (g_deal a b) salt ns = some δ ∧ VD δ := by
  have hmp : 0 < most := by unfold most; decide
  let cell : Int → Int := fun n => (if n < 0 then -n else n) % most
  have hnl : ns.length ≤ sizeLine := Nat.le_trans hn (by decide)
  have hmb : cMul b salt := cMul_of (Nat.lt_of_lt_of_le hb (Nat.pow_le_pow_right (by decide) (by decide))) (Nat.lt_of_lt_of_le hs (Nat.pow_le_pow_right (by decide) (by decide)))
  have e1 : lcD (bName 5) fYes ce__law_deal_1 [.sh (.wls (ns.map .int)), .sh (.int salt), .sh (.int most), .un, .un, .un] (ns.map .int) ([], 0) = some ((ns.map cell).map .int, ([], 0)) := by
    have z := lcD_map (b := bName 5) (f := ce__law_deal_1) (g := fun d => match d with | .int n => .int (cell n) | d => d) (ds := ns.map .int) (ρ := [.sh (.wls (ns.map .int)), .sh (.int salt), .sh (.int most), .un, .un, .un]) (δ := ([], 0)) fun x hx => by
      obtain ⟨n, _, rfl⟩ := List.mem_map.mp hx
      refine ⟨_, .sh, bName_e, ?_, by simp⟩
      simp [ce__law_deal_1, hmp, cell]
    rw [z, List.map_map, List.map_map]
    rfl
  have e2 : ∃ mix : Int, mix.natAbs < 2 ^ 64 ∧ ∃ x, forD (bName 5) fb__law_deal_1 ((ns.map cell).map .int) [.sh (.wls (ns.map .int)), .sh (.int salt), .sh (.int most), .sh (.lst ((ns.map cell).map .int)), .sh (.int (a + b * salt)), .un] ([], 0) =
      some (.nx, [.sh (.wls (ns.map .int)), .sh (.int salt), .sh (.int most), .sh (.lst ((ns.map cell).map .int)), .sh (.int mix), x], ([], 0)) := by
    have z := forD_inv (b := bName 5) (h := fb__law_deal_1) (ds := (ns.map cell).map .int) (ρ := [.sh (.wls (ns.map .int)), .sh (.int salt), .sh (.int most), .sh (.lst ((ns.map cell).map .int)), .sh (.int (a + b * salt)), .un]) (δ := ([], 0))
      (fun ds ρ δ => (∀ d ∈ ds, ∃ n : Int, d = .int n) ∧ δ = ([], 0) ∧ ∃ mix : Int, mix.natAbs < 2 ^ 64 ∧ ∃ x, ρ = [.sh (.wls (ns.map .int)), .sh (.int salt), .sh (.int most), .sh (.lst ((ns.map cell).map .int)), .sh (.int mix), x]) ?_
      ⟨fun d hd => by obtain ⟨n, _, rfl⟩ := List.mem_map.mp hd; exact ⟨n, rfl⟩, rfl, a + b * salt, ?_, .un, rfl⟩
    · obtain ⟨ρ', δ', e, _, rfl, mix, hm, x, rfl⟩ := z
      exact ⟨mix, hm, x, e⟩
    · rintro x xs ρ δ ⟨hd, rfl, mix, hm, y, rfl⟩
      obtain ⟨n, rfl⟩ := hd x (by simp)
      have hmul : cMul mix 69621 := cMul_of (Nat.lt_of_lt_of_le hm (Nat.pow_le_pow_right (by decide) (by decide))) (Nat.lt_of_lt_of_le (show (69621 : Int).natAbs < 2 ^ 64 by decide) (Nat.pow_le_pow_right (by decide) (by decide)))
      refine ⟨_, [.sh (.wls (ns.map .int)), .sh (.int salt), .sh (.int most), .sh (.lst ((ns.map cell).map .int)), .sh (.int ((mix * 69621 + n % 2147483563 + 23) % 2147483647)), .sh (.int n)], _, bName_e, ?_, fun d hd' => hd d (by simp [hd']), rfl, _, ?_, _, rfl⟩
      · simp [fb__law_deal_1, hmul]
      · omega
    · have h1 : (b * salt).natAbs < 2 ^ 60 := by
        rw [Int.natAbs_mul]
        exact Nat.lt_of_le_of_lt (Nat.mul_le_mul (Nat.le_of_lt_succ (Nat.lt_succ_of_lt hb)) (Nat.le_refl _)) (by
          have := Nat.mul_lt_mul_of_pos_left hs (show 0 < 2 ^ 20 by decide)
          exact Nat.lt_of_lt_of_le this (by decide))
      have := Int.natAbs_add_le a (b * salt)
      omega
  obtain ⟨mix, hm, x, e2⟩ := e2
  let big : D → Bool := fun d => match d with | .int n => decide (1000000000000000000 ≤ n) | _ => false
  have e3 : lcD (bName 5) ct__law_deal_1 (fVar 5) [.sh (.wls (ns.map .int)), .sh (.int salt), .sh (.int most), .sh (.lst ((ns.map cell).map .int)), .sh (.int mix), .un] ((ns.map cell).map .int) ([], 0) = some (((((ns.map cell).map .int).filter big).map id), ([], 0)) :=
    lcD_filter fun d hd => by
      obtain ⟨n, _, rfl⟩ := List.mem_map.mp hd
      refine ⟨_, bName_e, ?_, fun _ => ⟨.sh, by simp, by simp⟩⟩
      simp [ct__law_deal_1, big, cPow]
  have e4 : (((ns.map cell).map D.int).filter big) = ((ns.map cell).filter fun n => decide (1000000000000000000 ≤ n)).map .int := by
    rw [List.filter_map]
    rfl
  refine ⟨(((ns.map cell).filter fun n => decide (1000000000000000000 ≤ n)).reverse, mix), ?_, ?_, hm⟩
  · have z : g_deal a b [.wls (ns.map .int), .int salt] = some (.lst [.lst ((((ns.map cell).filter fun n => decide (1000000000000000000 ≤ n)).reverse).map .int), .int mix], .ow) := by
      simp only [List.map_id, e4] at e3
      have hl2 : (ns.map .int : List D).length ≤ 63 := by simpa using hn
      simp only [List.map_map] at e1 e2 e3 ⊢
      simp [g_deal, h_deal, most_e, cut63 hl2, wip, hnl, e1, hmb, e2, e3]
    unfold dealOf
    rw [z]
    simp only
    rw [intsOf_map]
    rfl
  · show (((ns.map cell).filter _).reverse).length ≤ 63
    rw [List.length_reverse]
    exact Nat.le_trans (List.length_filter_le _ _) (by rw [List.length_map]; exact hn)
end LH
/-! D-layer, part p: enumerate of lists, tuples, texts. -/
namespace DLZ
open PySem PySem.Spec PyProof.Rows L2
theorem enum_new1 {v : Value} {o : Obj} {G : Heap → Prop} (B : Begins v o G) :
    Meets (Builtin.«enumerate.__new__» ⟨[.type "enumerate", v], []⟩) (fun _ R s => G s.heap ∧
      R (.ok (.ret (.ref (s.heap.push o).objs.size))) { s with heap := (s.heap.push o).push { cls := .type "enumerate", data := .fields #[.none, .bool false, .ref s.heap.objs.size, rawInt 0, .none, .none] } }) :=
  .of_wp fun prog w A R s h => by
    obtain ⟨hp, g, d, tk, os⟩ := s; obtain ⟨h1, h⟩ := h
    have hsub := sub_enumerate
    have q1 : ∀ {A' : Around} {E : Value → Shared → Prop} {Q : Value → Shared → Prop}, Q (.ref hp.objs.size) ⟨hp.push o, g, d, tk, os⟩ → wpAny (model prog w) A' (pyIter v) Q E ⟨hp, g, d, tk, os⟩ := fun q => B.iter prog w _ _ ⟨hp, g, d, tk, os⟩ _ h1 q
    wp_walk using q1
    refine wpAny_stack_any fun st => wpAny_pure ?_
    split
    · rename_i c _ _ _ _ _
      by_cases hce : (c == Value.type "enumerate") = true
      · rw [hce]
        wp_walk using q1
        exact ⟨_, rfl, h⟩
      · rw [Bool.not_eq_true] at hce
        rw [hce]
        wp_walk using q1
        exact ⟨_, rfl, h⟩
    · wp_walk using q1
      exact ⟨_, rfl, h⟩
section
variable {prog : Program} {w : World} {A : Around} {E : Value → Shared → Prop} {s : Shared}
theorem call_enum1 {v : Value} {o : Obj} {G : Heap → Prop} {Q : Value → Shared → Prop} (B : Begins v o G) (h1 : G s.heap)
    (h : ∀ g, IsEnum g (s.heap.objs.size + 1) s.heap.objs.size 0 .none → g.get? s.heap.objs.size = some o → g.objs.size = s.heap.objs.size + 2 → (∀ b o, s.heap.get? b = some o → g.get? b = some o) → Q (.ref (s.heap.objs.size + 1)) { s with heap := g }) :
    wpAny (model prog w) A (call (.type "enumerate") [v]) Q E s := by
  refine callType_new F.called_enumerate (by decide) (F.typeCall_enumerate_1 _) (F.newCall_enumerate_1 _) (fun obj => F.args_object_init_2 obj _) F.entry_enumerate_new (enum_new1 B) ⟨h1, ?_⟩
  have z1 : (s.heap.push o).objs.size = s.heap.objs.size + 1 := Heap.size_push ..
  show _ ∧ _
  rw [z1]
  have he : IsEnum ((s.heap.push o).push { cls := .type "enumerate", data := .fields #[.none, .bool false, .ref s.heap.objs.size, rawInt 0, .none, .none] }) (s.heap.objs.size + 1) s.heap.objs.size 0 .none := by
    have z := Heap.get?_push_size (s.heap.push o) (o := { cls := .type "enumerate", data := .fields #[.none, .bool false, .ref s.heap.objs.size, rawInt 0, .none, .none] }) rfl
    rw [z1] at z
    exact z
  exact ⟨⟨_, he, rfl⟩, h _ he (Heap.get?_push_of_some _ (Heap.get?_push_size _ B.free)) (by rw [Heap.size_push, z1]) fun b o x => Heap.get?_push_of_some _ (Heap.get?_push_of_some _ x)⟩
end
/-- enumerate of the tuple at a -/
def ItET (K : PySem.W.Frag) (a : Addr) : It :=
  ⟨fun i H => ∃ (xs : List V) (x : V), SqT K H a xs ∧ xs[i]? = some x,
    fun i H v H' => ∃ T x, v = .ref T ∧ H T = none ∧ H' = upd H T (.tup [.int (i : Nat), x]) ∧ ∀ xs, SqT K H a xs → xs[i]? = some x,
    fun i H => ∃ xs : List V, SqT K H a xs ∧ xs.length = i⟩
theorem turn_et {P : Program} {w : World} {K : PySem.W.Frag} {elts : List Expr} {kk : Nat} {tpos : Pos} {a e it : Addr} (n1 : e ≠ it) (n2 : e ≠ a) (n3 : a ≠ it) :
    Turn P w K (.Tuple elts kk tpos) (ItET K a) [e, it] e (fun i h => (∃ old, IsEnum h e it (i : Nat) old) ∧ h.IsTupleIter it a i) where
  mem := by simp
  obj := fun i h st b hb => by
    obtain ⟨⟨old, h1⟩, o, h2, _, h3⟩ := st
    rcases List.mem_cons.mp hb with q | q
    · rw [q]; exact ⟨_, h1, fun v q => nomatch q⟩
    · rw [List.mem_singleton.mp q]; exact ⟨o, h2, fun v q => by rw [h3] at q; cases q⟩
  keep := fun i h h' st k => by
    obtain ⟨⟨old, h1⟩, h2⟩ := st
    exact ⟨⟨old, k e (by simp) _ h1⟩, h2.at fun o q => k it (by simp) o q⟩
  item := by
    intro X hP hw hK hc i pins s σ H E I hf st hg
    subst hP hw hK
    obtain ⟨⟨old, h1⟩, h2⟩ := st
    obtain ⟨xs, x, hq, hx⟩ := hg
    obtain ⟨its, rv, p, _⟩ := I.tuple hq
    obtain ⟨u, hu, ru⟩ := rv.get hx
    have hil : i < its.toArray.size := by
      rw [List.size_toArray]
      exact (List.getElem?_eq_some_iff.mp hu).1
    have Dw := Draws.tuple (prog := X.prog) (w := X.w) (A := X.A.in1) (I.ok.hd hc) it a n3 its.toArray
    have W := WalksT.enumFrom 0 Dw e n1 (by simp [n1, n2]) (by simp)
    have z0 : (0 : Int) + (i : Nat) = (i : Nat) := Int.zero_add _
    refine W.item i s _ E hil ⟨⟨old, by rw [z0]; exact h1⟩, h2, p⟩ fun T vals h' tk hP hnew hT hm hk => ?_
    refine ⟨_, rfl, W.go elts kk tpos i T { s with heap := h', toks := tk } _ _ hm fun h'' st'' hk'' => ?_⟩
    obtain ⟨t, y, hy, rfl⟩ := hP
    have hyu : y = u := by
      have e1 : its.toArray[i]? = some u := by simpa using hu
      rw [hy] at e1
      exact Option.some.inj e1
    subst hyu
    have hT2 : h''.IsTuple T #[.int (0 + (i : Nat)) t, y] := hT.at fun o q => hk'' T o (fun hb => W.apart i T h' hm hb) q
    rw [z0] at hT2
    have kk2 : ∀ b o, b ∉ [e, it] → s.heap.get? b = some o → h''.get? b = some o := fun b o hb q => hk'' b o hb (hk b o hb q)
    have new : ObjOk X.prog X.w (upd H T (.tup [.int (i : Nat), x])) h'' T (.tup [.int (i : Nat), x]) := ⟨by show 2 ≤ sizeLine; decide, [.int (i : Nat) t, y], .cons ⟨t, rfl⟩ (.cons ru .nil), hT2⟩
    have I1 : Inv X pins σ (upd H T (.tup [.int (i : Nat), x])) { s with heap := h'', toks := tk } := I.turnedNew (t' := tk) (ch := [e, it]) kk2 hf hnew new
    obtain ⟨⟨old', he'⟩, h2', _⟩ := st''
    refine ⟨.ref T, _, I1, rfl, ⟨T, x, rfl, I.hok.fresh hnew, rfl, fun ys hy => by rw [I.tuple_inj hy hq]; exact hx⟩, ⟨⟨old', by rw [← Int.zero_add (((i + 1 : Nat)) : Int)]; exact he'⟩, h2'⟩, fun b hb => ?_⟩
    have hlt : b < s.heap.objs.size := by
      rcases List.mem_cons.mp hb with q | q
      · rw [q]; exact Heap.lt_size h1
      · rw [List.mem_singleton.mp q]
        obtain ⟨o, ho, _⟩ := h2
        exact Heap.lt_size ho
    rw [upd_ne (Nat.ne_of_lt (Nat.lt_of_lt_of_le hlt hnew))]
    exact (hf b hb).1
  done := by
    intro X hP hw hK hc i pins s σ H E I hf st hg
    subst hP hw hK
    obtain ⟨⟨old, h1⟩, h2⟩ := st
    obtain ⟨xs, hq, hx⟩ := hg
    obtain ⟨its, rv, p, _⟩ := I.tuple hq
    have Dw := Draws.tuple (prog := X.prog) (w := X.w) (A := X.A.in1) (I.ok.hd hc) it a n3 its.toArray
    have W := WalksT.enumFrom 0 Dw e n1 (by simp [n1, n2]) (by simp)
    have hi : i = its.toArray.size := by rw [List.size_toArray, ← rv.length, hx]
    subst hi
    exact W.done s _ E ⟨⟨old, by rw [Int.zero_add]; exact h1⟩, h2, p⟩ fun h' tk hk => ⟨rfl, I.turnedL (t' := tk) (ch := [e, it]) hk hf⟩
  self := fun A i s Q E st h => by
    obtain ⟨⟨old, h1⟩, h2⟩ := st
    exact wpAny_pyIter_enum h1 h
/-- enumerate of a text -/
def ItES (z : Str) : It :=
  ⟨fun i _ => i < z.cps.size, fun i H v H' => ∃ T c, v = .ref T ∧ H T = none ∧ H' = upd H T (.tup [.int (i : Nat), .str ⟨#[c]⟩]) ∧ z.cps[i]? = some c, fun i _ => z.cps.size = i⟩
theorem turn_es {P : Program} {w : World} {K : PySem.W.Frag} {elts : List Expr} {kk : Nat} {tpos : Pos} {z : Str} {tz : Tok} {e it : Addr} (n1 : e ≠ it) :
    Turn P w K (.Tuple elts kk tpos) (ItES z) [e, it] e (fun i h => (∃ old, IsEnum h e it (i : Nat) old) ∧ h.IsStrIter it (strIterType z) z tz i) where
  mem := by simp
  obj := fun i h st b hb => by
    obtain ⟨⟨old, h1⟩, h2⟩ := st
    rcases List.mem_cons.mp hb with q | q
    · rw [q]; exact ⟨_, h1, fun v q => nomatch q⟩
    · rw [List.mem_singleton.mp q]
      obtain ⟨o, ho, h3, h4⟩ := h2
      exact ⟨o, ho, fun v q => by rw [h4] at q; cases q⟩
  keep := fun i h h' st k => by
    obtain ⟨⟨old, h1⟩, h2⟩ := st
    obtain ⟨o, ho, h3⟩ := h2
    exact ⟨⟨old, k e (by simp) _ h1⟩, o, k it (by simp) _ ho, h3⟩
  item := by
    intro X hP hw hK hc i pins s σ H E I hf st hg
    subst hP hw hK
    obtain ⟨⟨old, h1⟩, h2⟩ := st
    have Dw := Draws.text (prog := X.prog) (w := X.w) (A := X.A.in1) (I.ok.hd hc) it z tz
    have W := WalksT.enumFrom 0 Dw e n1 (by simp [n1]) (by simp)
    have z0 : (0 : Int) + (i : Nat) = (i : Nat) := Int.zero_add _
    refine W.item i s _ E hg ⟨⟨old, by rw [z0]; exact h1⟩, h2⟩ fun T vals h' tk hP hnew hT hm hk => ?_
    refine ⟨_, rfl, W.go elts kk tpos i T { s with heap := h', toks := tk } _ _ hm fun h'' st'' hk'' => ?_⟩
    obtain ⟨t, y, ⟨c, u, hcc, rfl⟩, rfl⟩ := hP
    have hT2 : h''.IsTuple T #[.int (0 + (i : Nat)) t, .str ⟨#[c]⟩ u] := hT.at fun o q => hk'' T o (fun hb => W.apart i T h' hm hb) q
    rw [z0] at hT2
    have kk2 : ∀ b o, b ∉ [e, it] → s.heap.get? b = some o → h''.get? b = some o := fun b o hb q => hk'' b o hb (hk b o hb q)
    have new : ObjOk X.prog X.w (upd H T (.tup [.int (i : Nat), .str ⟨#[c]⟩])) h'' T (.tup [.int (i : Nat), .str ⟨#[c]⟩]) := ⟨by show 2 ≤ sizeLine; decide, [.int (i : Nat) t, .str ⟨#[c]⟩ u], .cons ⟨t, rfl⟩ (.cons ⟨u, rfl⟩ .nil), hT2⟩
    have I1 : Inv X pins σ (upd H T (.tup [.int (i : Nat), .str ⟨#[c]⟩])) { s with heap := h'', toks := tk } := I.turnedNew (t' := tk) (ch := [e, it]) kk2 hf hnew new
    obtain ⟨⟨old', he'⟩, h2'⟩ := st''
    refine ⟨.ref T, _, I1, rfl, ⟨T, c, rfl, I.hok.fresh hnew, rfl, hcc⟩, ⟨⟨old', by rw [← Int.zero_add (((i + 1 : Nat)) : Int)]; exact he'⟩, h2'⟩, fun b hb => ?_⟩
    have hlt : b < s.heap.objs.size := by
      rcases List.mem_cons.mp hb with q | q
      · rw [q]; exact Heap.lt_size h1
      · rw [List.mem_singleton.mp q]
        obtain ⟨o, ho, _⟩ := h2
        exact Heap.lt_size ho
    rw [upd_ne (Nat.ne_of_lt (Nat.lt_of_lt_of_le hlt hnew))]
    exact (hf b hb).1
  done := by
    intro X hP hw hK hc i pins s σ H E I hf st hg
    subst hP hw hK
    obtain ⟨⟨old, h1⟩, h2⟩ := st
    have Dw := Draws.text (prog := X.prog) (w := X.w) (A := X.A.in1) (I.ok.hd hc) it z tz
    have W := WalksT.enumFrom 0 Dw e n1 (by simp [n1]) (by simp)
    have hi : z.cps.size = i := hg
    subst hi
    exact W.done s _ E ⟨⟨old, by rw [Int.zero_add]; exact h1⟩, h2⟩ fun h' tk hk => ⟨rfl, I.turnedL (t' := tk) (ch := [e, it]) hk hf⟩
  self := fun A i s Q E st h => by
    obtain ⟨⟨old, h1⟩, h2⟩ := st
    exact wpAny_pyIter_enum h1 h
/-- enumerate of a list, a tuple, a text -/
def iEnumA (K : PySem.W.Frag) (ta : TA) : TI := fun σ H R => ta σ H fun vs H1 => (∃ a xs, vs = [.ref a] ∧ SqL K H1 a xs ∧ R (Ite K a) H1) ∨ (∃ a xs, vs = [.ref a] ∧ SqT K H1 a xs ∧ R (ItET K a) H1) ∨ ∃ z, vs = [.str z] ∧ R (ItES z) H1
theorem pi_enumA {X : Cx} {e : Expr} {ta : TA} {p pos tpos : Pos} {elts : List Expr} {kk : Nat} (hg : Gl X "enumerate") (hm : X.mg "enumerate" = none) (ha : PA X [e] ta) (hs : starEach [e] X.env = [(false, eval e X.env)] := by rfl) :
    PI X (.Tuple elts kk tpos) (.Call (.Name "enumerate" p) [e] [] pos) (iEnumA X.K ta) := by
  refine ⟨fun pins s σ H R I h => ?_⟩
  refine Call_ (ld_blt I hg hm boot_enumerate (PyProof.Rows.callWith_type1 (thn (ha.run pos pins s σ H _ I h) fun us s1 ⟨vs, H1, I1, r1, q1⟩ => ?_) hs rfl))
  have fresh : ∀ c, c ∈ [s1.heap.objs.size + 1, s1.heap.objs.size] → FpOk X pins H1 c := fun c hcm => by
    have hle : s1.heap.objs.size ≤ c := by
      simp only [List.mem_cons, List.not_mem_nil, or_false] at hcm
      omega
    exact I1.fpOk hle (I1.hok.fresh hle)
  rcases q1 with ⟨a, xs, ex, hq, q⟩ | ⟨a, xs, ex, hq, q⟩ | ⟨z, ex, q⟩
  · subst ex
    cases r1 with
    | cons r rr =>
      cases rr
      cases r
      obtain ⟨its, rv, p', hz⟩ := I1.list hq
      refine call_enumerate_list p'.isList fun h' he hit hsz hk => wpAny_pyIter_enum he ?_
      exact ⟨s1.heap.objs.size + 1, [s1.heap.objs.size + 1, s1.heap.objs.size], _, _, H1, rfl, I1.kept (t' := s1.toks) hk, turn_enum a (s1.heap.objs.size + 1) s1.heap.objs.size, ⟨⟨.none, he⟩, hit, Nat.succ_ne_self _⟩, fresh, q⟩
  · subst ex
    cases r1 with
    | cons r rr =>
      cases rr
      cases r
      obtain ⟨its, rv, p', hz⟩ := I1.tuple hq
      have hlt : a < s1.heap.objs.size := by
        obtain ⟨o, ho, _⟩ := id p'
        exact Heap.lt_size ho
      refine call_enum1 (begins_tuple a its.toArray) (show s1.heap.IsTuple a its.toArray from p') fun h' he hit hsz hk => wpAny_pyIter_enum he ?_
      exact ⟨s1.heap.objs.size + 1, [s1.heap.objs.size + 1, s1.heap.objs.size], _, _, H1, rfl, I1.kept (t' := s1.toks) hk, turn_et (Nat.succ_ne_self _) (Nat.ne_of_gt (Nat.lt_succ_of_lt hlt)) (Nat.ne_of_lt hlt), ⟨⟨.none, he⟩, _, hit, rfl, rfl⟩, fresh, q⟩
  · subst ex
    cases r1 with
    | cons r rr =>
      cases rr
      obtain ⟨tz, rfl⟩ := r
      refine call_enum1 (begins_text z tz) trivial fun h' he hit hsz hk => wpAny_pyIter_enum he ?_
      exact ⟨s1.heap.objs.size + 1, [s1.heap.objs.size + 1, s1.heap.objs.size], _, _, H1, rfl, I1.kept (t' := s1.toks) hk, turn_es (tz := tz) (Nat.succ_ne_self _), ⟨⟨.none, he⟩, _, hit, rfl, rfl⟩, fresh, q⟩
end DLZ

namespace DL
open PySem PySem.Spec PyProof.Rows L2 DLZ
section
variable {X : Cx}
/-- the pairs of enumerate -/
def enD : Nat → List D → List D
  | _, [] => []
  | k, d :: ds => .tup [.int (k : Nat), d] :: enD (k + 1) ds
theorem enD_len (k : Nat) (ds : List D) : (enD k ds).length = ds.length := by
  induction ds generalizing k with
  | nil => rfl
  | cons d ds ih => rw [enD, List.length_cons, ih, List.length_cons]
theorem enD_get {k i : Nat} {ds : List D} {e : D} (h : (enD k ds)[i]? = some e) : ∃ d, ds[i]? = some d ∧ e = .tup [.int ((k + i : Nat) : Int), d] := by
  induction ds generalizing k i with
  | nil => cases h
  | cons d ds ih =>
    cases i with
    | zero =>
      cases h
      exact ⟨d, rfl, rfl⟩
    | succ i =>
      obtain ⟨d', e1, e2⟩ := ih (k := k + 1) (i := i) (by simpa [enD] using h)
      exact ⟨d', by simpa using e1, by rw [e2, show k + 1 + i = k + (i + 1) by omega]⟩
theorem src_pair {K : PySem.W.Frag} {O : Addr → Prop} {H H2 : Hp} {i : Nat} {x y : V} {d : D} (r : Rep K O H y d) (h : ∃ T, x = .ref T ∧ H T = none ∧ H2 = upd H T (.tup [.int (i : Nat), y])) : Same H H2 ∧ Rep K O H2 x (.tup [.int ((0 + i : Nat) : Int), d]) := by
  obtain ⟨T, rfl, hn, rfl⟩ := h
  have sm := same_upd (o := .tup [.int (i : Nat), y]) hn
  refine ⟨sm, .tup (.inl (.inl upd_same)) (.cons ?_ (.cons (r.same sm) .nil))⟩
  rw [Nat.zero_add]
  exact .int _
theorem src_enL {K : PySem.W.Frag} {g : Gh} {F : Fp} {H : Hp} {p : Addr} {vs : List V} {ds : List D} (h : Rd H p (.lst vs)) (r : Reps K (Av g F) H vs ds) : Src K g F H (Ite K p) (enD 0 ds) (fun a => a = p) where
  go := fun O H' hr ht hp i e he => by
    obtain ⟨d, e1, rfl⟩ := enD_get he
    obtain ⟨v, e2, e3⟩ := r.getD e1
    have h' : Rd H' p (.lst vs) := h.elim (fun h => .inl (hr p _ rfl h)) fun ⟨o, h⟩ => .inr ⟨o, hr p _ rfl h⟩
    refine ⟨⟨vs, v, .inl h', e2⟩, fun x H2 y => ?_⟩
    obtain ⟨T, w, rfl, hn, rfl, y⟩ := y
    have z := y vs (.inl h')
    rw [e2] at z
    cases z
    exact src_pair (hp _ _ e3) ⟨T, rfl, hn, rfl⟩
  stop := fun H' hr ht => ⟨vs, .inl (h.elim (fun h => .inl (hr p _ rfl h)) fun ⟨o, h⟩ => .inr ⟨o, hr p _ rfl h⟩), by rw [r.length, enD_len]; exact Nat.le_refl _⟩
theorem src_enT {K : PySem.W.Frag} {g : Gh} {F : Fp} {H : Hp} {p : Addr} {vs : List V} {ds : List D} (h : SqT K H p vs) (r : Reps K (Av g F) H vs ds) : Src K g F H (ItET K p) (enD 0 ds) (fun _ => False) where
  go := fun O H' hr ht hp i e he => by
    obtain ⟨d, e1, rfl⟩ := enD_get he
    obtain ⟨v, e2, e3⟩ := r.getD e1
    have h' := ht p _ h
    refine ⟨⟨vs, v, h', e2⟩, fun x H2 y => ?_⟩
    obtain ⟨T, w, rfl, hn, rfl, y⟩ := y
    have z := y vs h'
    rw [e2] at z
    cases z
    exact src_pair (hp _ _ e3) ⟨T, rfl, hn, rfl⟩
  stop := fun H' hr ht => ⟨vs, ht p _ h, by rw [r.length, enD_len]⟩
def signs (z : Str) : List D := z.cps.toList.map fun c => .str ⟨#[c]⟩
theorem src_enS {K : PySem.W.Frag} {g : Gh} {F : Fp} {H : Hp} (z : Str) : Src K g F H (ItES z) (enD 0 (signs z)) (fun _ => False) where
  go := fun O H' hr ht hp i e he => by
    obtain ⟨d, e1, rfl⟩ := enD_get he
    unfold signs at e1
    rw [List.getElem?_map] at e1
    cases e2 : z.cps.toList[i]? with
    | none => rw [e2] at e1; cases e1
    | some c =>
      rw [e2] at e1
      cases e1
      have e3 : z.cps[i]? = some c := by rw [← Array.getElem?_toList]; exact e2
      have hi : i < z.cps.size := by
        have := (List.getElem?_eq_some_iff.mp e2).1
        simpa using this
      refine ⟨hi, fun x H2 y => ?_⟩
      obtain ⟨T, c', rfl, hn, rfl, hc⟩ := y
      rw [e3] at hc
      cases hc
      exact src_pair (.str _) ⟨T, rfl, hn, rfl⟩
  stop := fun H' hr ht => by
    show z.cps.size = _
    rw [enD_len]
    unfold signs
    simp
def sEnum (f : EF) : SF := fun ρ δ => (f ρ δ).bind fun p => match p.1 with
  | .lst ds => some (enD 0 ds, p.2.1, p.2.2)
  | .tup ds => some (enD 0 ds, .sh, p.2.2)
  | .str z => some (enD 0 (signs z), .sh, p.2.2)
  | _ => none
theorem di_enum {elts : List Expr} {kk : Nat} {tpos : Pos} {e : Expr} {f : EF} {p pos : Pos} (hg : Gl X "enumerate") (hm : X.mg "enumerate" = none) (h : DE X e f) (hs : starEach [e] X.env = [(false, eval e X.env)] := by rfl) : DI X (.Tuple elts kk tpos) (.Call (.Name "enumerate" p) [e] [] pos) (sEnum f) := by
  obtain ⟨t, pp, x⟩ := h.ex
  refine ⟨_, pi_enumA hg hm (pa_cons pp pa_nil hs) hs, fun g F σ H ρ δ ds k δ' R S hf q => ?_⟩
  unfold sEnum at hf
  cases e1 : f ρ δ with
  | none => rw [e1] at hf; cases hf
  | some c =>
    obtain ⟨d, k0, δ1⟩ := c
    rw [e1] at hf
    simp only [Option.bind_some] at hf
    refine x g F σ H ρ δ _ _ _ _ S e1 fun v H1 k1 S1 r1 => ?_
    split at hf
    · rename_i es
      cases hf
      obtain ⟨a, vs, rfl, h1, rs⟩ := (r1.rd S.good).lst
      refine .inl ⟨a, vs, rfl, .inl h1, q _ H1 _ k1 S1 (src_enL h1 rs) fun b hb => ?_⟩
      subst hb
      refine ⟨fun z => rd_there h1 z, ?_, fun hk z => ?_⟩
      · rcases k with _ | _ | _
        · cases r1 with
          | lst _ n _ => exact fun z => n (.inr (.inl z))
        · obtain ⟨p', e', n, t'⟩ := r1
          cases e'
          exact fun z => S.good _ (.inr (.inl z)) n
        · obtain ⟨p', e', n, t'⟩ := r1
          cases e'
          exact n
      · rcases k with _ | _ | _
        · cases r1 with
          | lst _ n _ => exact n z
        · obtain ⟨p', e', n, t'⟩ := r1
          cases e'
          exact S.good _ z n
        · exact absurd rfl hk
    · rename_i es
      cases hf
      obtain ⟨a, vs, rfl, h1, rs⟩ := (r1.rd S.good).tup
      exact .inr (.inl ⟨a, vs, rfl, h1, q _ H1 _ k1 S1 (src_enT h1 rs) fun b hb => hb.elim⟩)
    · rename_i z
      cases hf
      exact .inr (.inr ⟨z, by rw [(r1.rd S.good).str], q _ H1 _ k1 S1 (src_enS z) fun b hb => hb.elim⟩)
    · cases hf
end
end DL
/-! D-layer, part q: ord, join, tuples turned and repeated, sums of tuples. -/
namespace DLZ
open PySem PySem.Spec PyProof.Rows L2
theorem back_places (n : Nat) : Builtin.Slice.slicePlaces ((n : Int) - 1) (-1) (-1) = n := by
  unfold Builtin.Slice.slicePlaces
  have h1 : ¬ ((-1 : Int) > 0) := by decide
  simp only [h1, if_false]
  split
  · have e : (- (-1 : Int)) = 1 := by decide
    rw [e, Int.ediv_one]
    omega
  · omega
theorem fm_congr {α β : Type} {f h : α → Option β} : ∀ (l : List α), (∀ a, a ∈ l → f a = h a) → l.filterMap f = l.filterMap h
  | [], _ => rfl
  | a :: r, e => by rw [List.filterMap_cons, List.filterMap_cons, e a (.head _), fm_congr r fun b hb => e b (.tail _ hb)]
theorem back_pick (xs : Array Value) (n : Nat) (hn : xs.size = n) : ((List.range n).filterMap fun (k : Nat) => xs[((n : Int) - 1 + (k : Int) * (-1)).toNat]?).toArray = xs.toList.reverse.toArray := by
  congr 1
  have e1 : xs.toList.reverse = (List.range n).map fun k => xs.getD (n - 1 - k) .none := by
    apply List.ext_getElem
    · rw [List.length_reverse, Array.length_toList, List.length_map, List.length_range, hn]
    · intro i h1 h2
      rw [List.length_map, List.length_range] at h2
      have hb : n - 1 - i < xs.size := by omega
      rw [List.getElem_reverse, List.getElem_map, List.getElem_range, Array.getElem_toList]
      simp only [Array.length_toList, hn]
      rw [Array.getD_eq_getD_getElem?, Array.getElem?_eq_getElem hb]
      rfl
  rw [e1, ← List.filterMap_eq_map]
  refine fm_congr _ fun k hk => ?_
  have := List.mem_range.mp hk
  have e2 : ((n : Int) - 1 + (k : Int) * (-1)).toNat = n - 1 - k := by omega
  have hb : n - 1 - k < xs.size := by omega
  show _ = some (xs.getD (n - 1 - k) .none)
  rw [e2, Array.getD_eq_getD_getElem?, Array.getElem?_eq_getElem hb]
  rfl
theorem tuple_back {prog : Program} {w : World} {A : Around} {E : Value → Shared → Prop} {s : Shared} {t sl : Addr} {its : Array Value} {vs : Value} {Q : Value → Shared → Prop}
    (p1 : IsTup s.heap t its) (p2 : s.heap.IsSliceOf sl .none .none vs) (p3 : IsPart vs (some (-1))) (hz : its.size ≤ sizeLine)
    (h : Q (.ref s.heap.objs.size) { s with heap := s.heap.push { cls := .type "tuple", data := .seq its.toList.reverse.toArray } }) :
    wpAny (model prog w) A (getItem (.ref t) (.ref sl)) Q E s := by
  obtain ⟨os, hos, hcs, hds⟩ := id p2
  have q2 : s.TypeIs (.ref sl) "slice" := ⟨os, hos, hcs⟩
  have hsz : sizeOk (.seq its.toList.reverse.toArray) := by
    show its.toList.reverse.toArray.size ≤ sizeLine
    rw [List.size_toArray, List.length_reverse, Array.length_toList]
    exact hz
  unfold getItem
  refine wpAny_holding (wpAny_bind (wpAny_sequenceKey p1.typeIs (by decide) (wpAny_bind (wpAny_callSpecial?_slot (name := Str.ofString "__getitem__") p1.typeIs PyProof.Rows.slot_tuple_getitem (wpAny_call_entry PyProof.Rows.slot_tuple_getitem p1.typeIs entry_tuple_getitem ?_ (args_tuple_getitem _ _))))))
  show wpAny (model prog w) _ (Builtin.Tuple.tupleItemsOf (.ref t) >>= _) _ _ s
  refine wpAny_bind (tupleItemsOf_ p1 (wpAny_bind (wpAny_typeOf q2 ?_)))
  rw [if_pos (by decide)]
  refine wpAny_bind ?_
  have step : ∀ {R : Int × Int × Nat → Shared → Prop} {A' : Around} {E' : Value → Shared → Prop}, R ((its.size : Int) - 1, -1, its.size) s → wpAny (model prog w) A' (Builtin.Slice.sliceApplied (.ref sl) (pure (its.size : Int))) R E' s := by
    intro R A' E' hR
    unfold Builtin.Slice.sliceApplied Builtin.Slice.sliceFields
    refine wpAny_bind (wpAny_bind (wpAny_field hos hds (x := .none) rfl (wpAny_bind (wpAny_field hos hds (x := .none) rfl (wpAny_bind (wpAny_field hos hds (x := vs) rfl (wpAny_pure ?_)))))))
    refine wpAny_bind (HT.slicePart_ p3 ?_)
    show wpAny (model prog w) _ (if ((-1 : Int) == 0) = true then _ else _) _ _ s
    rw [if_neg (by decide)]
    refine wpAny_bind (HT.slicePart_ .none (wpAny_bind (HT.slicePart_ .none (wpAny_bind (wpAny_pure ?_)))))
    show wpAny (model prog w) _ (pure (((its.size : Int) - 1), (-1 : Int), Builtin.Slice.slicePlaces ((its.size : Int) - 1) (-1) (-1))) _ _ s
    rw [back_places]
    exact wpAny_pure hR
  refine step ?_
  show wpAny (model prog w) _ (if ((((its.size : Int) - 1) == 0 && (-1 : Int) == 1 && its.size == its.size) = true) then _ else _) _ _ s
  have no : ¬ ((((its.size : Int) - 1) == 0 && (-1 : Int) == 1 && its.size == its.size) = true) := by
    rw [show ((-1 : Int) == 1) = false by decide, Bool.and_false, Bool.false_and]
    exact Bool.false_ne_true
  rw [if_neg no, back_pick its its.size rfl]
  first
    | exact wpAny_bind (m := Builtin.Tuple.tupleExact _) (wpAny_newObj_type (wpAny_pure ⟨_, rfl, wpAny_pure h⟩) hsz)
    | exact wpAny_bind (m := Builtin.Tuple.tupleExact _) (wpAny_newObj_type (wpAny_bind (wpAny_pure (wpAny_pure ⟨_, rfl, wpAny_pure h⟩))) hsz)
    | exact wpAny_bind (wpAny_bind (m := Builtin.Tuple.tupleExact _) (wpAny_newObj_type (wpAny_pure (wpAny_pure ⟨_, rfl, wpAny_pure h⟩)) hsz))
section
variable {X : Cx}
/-- e[::-1] of a list or a tuple -/
def tBack (K : PySem.W.Frag) (te : TE) : TE := fun σ H Q => te σ H fun x H1 => (∃ a xs, x = .ref a ∧ SqL K H1 a xs ∧ ∀ p, H1 p = none → Q (.ref p) (upd H1 p (.lst xs.reverse))) ∨ ∃ a xs, x = .ref a ∧ SqT K H1 a xs ∧ ∀ p, H1 p = none → Q (.ref p) (upd H1 p (.tup xs.reverse))
theorem pe_back {e : Expr} {te : TE} {k : Nat} {p1 p2 p3 pos : Pos} (he : PE X e te) : PE X (.Subscript e (.Slice none none (some (.UnaryOp .USub (.Constant (.int 1) k p1) p2)) p3) pos) (tBack X.K te) := by
  refine ⟨fun pins s σ H Q I h => ?_⟩
  refine Subscript_ (thn (he.run pins s σ H _ I h) fun v s1 ⟨x, H1, I1, r1, q1⟩ => ?_)
  have hst : PO X (some (.UnaryOp .USub (.Constant (.int 1) k p1) p2)) (tPart (tUn (rU fun i => .int (-i)) (tC (.int 1)))) := po_some (pe_un un_neg pe_int)
  refine wpAny_Slice (thn (po_none.run pins s1 σ H1 (fun o H2 => o = none ∧ H2 = H1) I1 ⟨rfl, rfl⟩) fun vl s2 ⟨l, H2, I2, pl, el, e2⟩ => ?_)
  subst el e2
  refine thn (po_none.run pins s2 σ H2 (fun o H3 => o = none ∧ H3 = H2) I2 ⟨rfl, rfl⟩) fun vu s3 ⟨u, H3, I3, pu, eu, e3⟩ => ?_
  subst eu e3
  refine thn (hst.run pins s3 σ H3 (fun o H4 => o = some (-1) ∧ H4 = H3) I3 ⟨1, rfl, -1, rfl, rfl, rfl⟩) fun vs s4 ⟨o, H4, I4, ps, eo, e4⟩ => ?_
  subst eo e4
  have I5 : Inv X pins σ H4 { s4 with heap := s4.heap.push { cls := .type "slice", data := .fields #[vl, vu, vs] } } := I4.kept (t' := s4.toks) fun b ob q => Heap.get?_push_of_some _ q
  rcases q1 with ⟨a, xs, ex, hx, q⟩ | ⟨a, xs, ex, hx, q⟩ <;> subst ex <;> cases r1
  · obtain ⟨its, r, ht, hz⟩ := I5.list hx
    have hlen := r.length
    show wpAny (model X.prog X.w) X.A (subscriptTail e (.Slice none none (some (.UnaryOp .USub (.Constant (.int 1) k p1) p2)) p3) (.ref a) (.ref s4.heap.objs.size)) (EP X pins σ Q) X.xe { s4 with heap := s4.heap.push { cls := .type "slice", data := .fields #[vl, vu, vs] } }
    refine tail_any (ops := [.ref a, .ref s4.heap.objs.size]) ht.isList.typeIs (PySem.slot_list_getitem.lookup) ?_ (by with_unfolding_all rfl)
    refine wpAny_getItem_list_slice ht.isList (Heap.IsSliceOf.new _ vl vu vs) pl pu ps (by decide) ?_ (by rw [List.size_toArray]; omega)
    rw [PySem.W.krv_pick]
    refine ⟨.ref _, _, I5.laid (t' := s4.toks) (o := .lst xs.reverse) (fun b ob q => Heap.get?_push_of_some _ q) (Nat.le_refl _) ?_, rfl, q _ (I5.hok.fresh (Nat.le_refl _))⟩
    exact ⟨by rw [List.length_reverse]; exact hz, _, 0, r.reverse, Heap.get?_push_size _ rfl⟩
  · cases pl
    cases pu
    obtain ⟨its, r, ht, hz⟩ := I5.tuple hx
    have hlen := r.length
    show wpAny (model X.prog X.w) X.A (subscriptTail e (.Slice none none (some (.UnaryOp .USub (.Constant (.int 1) k p1) p2)) p3) (.ref a) (.ref s4.heap.objs.size)) (EP X pins σ Q) X.xe { s4 with heap := s4.heap.push { cls := .type "slice", data := .fields #[.none, .none, vs] } }
    refine tail_any (ops := [.ref a, .ref s4.heap.objs.size]) ht.typeIs (PyProof.Rows.slot_tuple_getitem.lookup) ?_ (by with_unfolding_all rfl)
    refine tuple_back ht (Heap.IsSliceOf.new _ .none .none vs) ps (by rw [List.size_toArray]; omega) ?_
    refine ⟨.ref _, _, I5.laid (t' := s4.toks) (o := .tup xs.reverse) (fun b ob q => Heap.get?_push_of_some _ q) (Nat.le_refl _) ?_, rfl, q _ (I5.hok.fresh (Nat.le_refl _))⟩
    refine ⟨by rw [List.length_reverse]; exact hz, its.reverse, r.reverse, ?_⟩
    have z := Heap.get?_push_size (s4.heap.push { cls := .type "slice", data := .fields #[.none, .none, vs] }) (o := { cls := .type "tuple", data := .seq its.toArray.toList.reverse.toArray }) rfl
    exact ⟨_, z, rfl, 0, rfl⟩
/-- sum of a list or a tuple of ints -/
def rSumT (K : PySem.W.Frag) : List V → Hp → VK → Prop := fun vs H Q => ∃ (a : Addr) (ns : List Int), vs = [V.ref a] ∧ SqT K H a (ns.map V.int) ∧ Q (.int ns.sum) H
theorem cr_sumT (hc : X.calm = true) : CallR X (.builtin "sum") (rSumT X.K) := by
  intro pins s σ H vs us Q I r h
  obtain ⟨a, ns, rfl, hs, q⟩ := h
  obtain ⟨its, rv, hl, _⟩ := I.tuple hs
  rw [Vals.ref1 r]
  have hi := rv.ints
  obtain ⟨xs, hx⟩ := hi.allInts.items
  have hn : numsOf its.toArray.toList = ns := by rw [show its.toArray.toList = its from rfl, hi.numsOf]
  rw [hx] at hl hn
  rw [nums_intItems] at hn
  refine PySem.W.ktm_sumG (I.ok.hd hc) hl fun h' tk t' hk => ?_
  rw [preSum_eq, List.take_of_length_le (by simp), hn]
  exact ⟨.int _, H, I.kept hk, ⟨_, rfl⟩, q⟩
end
end DLZ

namespace DL
open PySem PySem.Spec PyProof.Rows L2 DLZ
section
variable {X : Cx}
def fBack (f : EF) : EF := fun ρ δ => (f ρ δ).bind fun p => match p.1 with
  | .lst a => some (.lst a.reverse, .ow, p.2.2)
  | .tup a => some (.tup a.reverse, .sh, p.2.2)
  | _ => none
theorem de_back {e : Expr} {f : EF} {k : Nat} {p1 p2 p3 pos : Pos} (h : DE X e f) : DE X (.Subscript e (.Slice none none (some (.UnaryOp .USub (.Constant (.int 1) k p1) p2)) p3) pos) (fBack f) := by
  obtain ⟨t, p, x⟩ := h.ex
  refine ⟨_, pe_back p, fun g F σ H ρ δ d k δ' Q S hf q => ?_⟩
  unfold fBack at hf
  cases e1 : f ρ δ with
  | none => rw [e1] at hf; cases hf
  | some c =>
    obtain ⟨d1, k1, δ1⟩ := c
    rw [e1] at hf
    simp only [Option.bind_some] at hf
    split at hf
    · rename_i a
      cases hf
      refine x g F σ H ρ δ _ _ _ _ S e1 fun v H1 ke S1 r1 => ?_
      obtain ⟨p1, x1, rfl, h1, s1⟩ := (r1.rd S.good).lst
      refine .inl ⟨_, _, rfl, .inl h1, fun b hb => ?_⟩
      have sm := same_upd (o := .lst x1.reverse) hb
      exact q _ _ (ke.trans (Keep.of_same sm)) (S1.same sm) ((res_new hb s1.reverse).earlier ke)
    · rename_i a
      cases hf
      refine x g F σ H ρ δ _ _ _ _ S e1 fun v H1 ke S1 r1 => ?_
      obtain ⟨p1, x1, rfl, h1, s1⟩ := (r1.rd S.good).tup
      refine .inr ⟨_, _, rfl, h1, fun b hb => ?_⟩
      have sm := same_upd (o := .tup x1.reverse) hb
      exact q _ _ (ke.trans (Keep.of_same sm)) (S1.same sm) (rep_newT hb s1.reverse)
    · cases hf
/-- sum of a list or a tuple of ints -/
def oSumA : OFn := fun ds => match ds with
  | [.lst a] => (intsOf a).map fun l => (.int l.sum, .sh)
  | [.tup a] => (intsOf a).map fun l => (.int l.sum, .sh)
  | _ => none
theorem c_sumA (hc : X.calm = true) : CallD X (.builtin "sum") oSumA := by
  refine ⟨_, (cr_sum hc).or (cr_sumT hc), fun g F H vs ds d k Q G r ho q => ?_⟩
  unfold oSumA at ho
  split at ho
  · rename_i a
    cases e : intsOf a with
    | none => rw [e] at ho; cases ho
    | some l =>
      rw [e] at ho
      cases ho
      cases r with
      | cons r1 rr =>
        cases rr
        obtain ⟨p1, x1, rfl, h1, s1⟩ := r1.lst
        have e2 := intsOf_some e
        subst e2
        have e3 := s1.ints
        subst e3
        exact .inl ⟨_, _, rfl, .inl h1, q _ H (Same.refl _) (.int _)⟩
  · rename_i a
    cases e : intsOf a with
    | none => rw [e] at ho; cases ho
    | some l =>
      rw [e] at ho
      cases ho
      cases r with
      | cons r1 rr =>
        cases rr
        obtain ⟨p1, x1, rfl, h1, s1⟩ := r1.tup
        have e2 := intsOf_some e
        subst e2
        have e3 := s1.ints
        subst e3
        exact .inr ⟨_, _, rfl, h1, q _ H (Same.refl _) (.int _)⟩
  · cases ho
/-- ord(c) -/
def oOrd : OFn := fun ds => match ds with
  | [.str z] => if z.length = 1 then some (.int (z.cps.getD 0 0 : Nat), .sh) else none
  | _ => none
theorem c_ord : CallD X (.builtin "ord") oOrd := by
  refine ⟨_, call_ord, fun g F H vs ds d k Q G r ho q => ?_⟩
  unfold oOrd at ho
  split at ho
  · split at ho
    · rename_i hz
      cases ho
      cases r with
      | cons r1 rr =>
        cases rr
        exact ⟨_, by rw [r1.str], hz, q _ H (Same.refl _) (.int _)⟩
    · cases ho
  · cases ho
/-- the texts of a list -/
def strsOf : List D → Option (List Str)
  | [] => some []
  | .str z :: r => (strsOf r).map fun l => z :: l
  | _ => none
theorem strsOf_some : ∀ {ds : List D} {zs : List Str}, strsOf ds = some zs → ds = zs.map D.str
  | [], zs, h => by cases h; rfl
  | d :: r, zs, h => by
    cases d <;> simp only [strsOf] at h <;> first
      | cases h
        done
      | (cases e : strsOf r with
         | none => rw [e] at h; cases h
         | some l =>
           rw [e] at h
           cases h
           rw [List.map_cons, strsOf_some e])
theorem Reps.strs {K : PySem.W.Frag} {O : Addr → Prop} {H : Hp} : ∀ {vs : List V} {zs : List Str}, Reps K O H vs (zs.map D.str) → vs = zs.map V.str
  | [], [], _ => rfl
  | _ :: _, [], h => by cases h
  | [], _ :: _, h => by cases h
  | _ :: _, _ :: _, .cons h r => by
    cases h
    rw [List.map_cons, Reps.strs r]
/-- a.join(b) -/
def joinR (x y : D) : Option D := match x, y with
  | .str a, .lst b => (strsOf b).bind fun ys => if (ys.map (·.length)).sum + ys.length * a.length ≤ 16777216 then some (.str (Txt.join a ys)) else none
  | .str a, .tup b => (strsOf b).bind fun ys => if (ys.map (·.length)).sum + ys.length * a.length ≤ 16777216 then some (.str (Txt.join a ys)) else none
  | _, _ => none
def fJoin (f h : EF) : EF := fun ρ δ => (f ρ δ).bind fun p => (h ρ p.2.2).bind fun q => (joinR p.1 q.1).map fun z => (z, .sh, q.2.2)
theorem de_join {o e : Expr} {f h : EF} {apos pos : Pos} (ho : DE X o f) (he : DE X e h) (hs : starEach [e] X.env = [(false, eval e X.env)] := by rfl) (hbase : attributeBase o "join" X.env (eval o X.env) = eval o X.env := by rfl) (hline : (apos.endLine == pos.line) = true := by rfl) : DE X (.Call (.Attribute o "join" apos) [e] [] pos) (fJoin f h) := by
  obtain ⟨t, p, x⟩ := ho.ex
  obtain ⟨t2, p2, x2⟩ := he.ex
  refine ⟨_, pe_join p p2 hs hbase hline, fun g F σ H ρ δ d k δ' Q S hf q => ?_⟩
  unfold fJoin at hf
  cases e1 : f ρ δ with
  | none => rw [e1] at hf; cases hf
  | some c =>
    obtain ⟨d1, k1, δ1⟩ := c
    rw [e1] at hf
    simp only [Option.bind_some] at hf
    cases e2 : h ρ δ1 with
    | none => rw [e2] at hf; cases hf
    | some c =>
      obtain ⟨d2, k2, δ2⟩ := c
      rw [e2] at hf
      simp only [Option.bind_some] at hf
      cases e3 : joinR d1 d2 with
      | none => rw [e3] at hf; cases hf
      | some z =>
        rw [e3] at hf
        cases hf
        refine x g F σ H ρ δ _ _ _ _ S e1 fun v H1 ke S1 r1 => ?_
        have rd1 := r1.rd S.good
        unfold joinR at e3
        split at e3
        · rename_i a b
          cases e4 : strsOf b with
          | none => rw [e4] at e3; cases e3
          | some ys =>
            rw [e4] at e3
            simp only [Option.bind_some] at e3
            split at e3
            · rename_i hz
              cases e3
              refine ⟨⟨a, rd1.str⟩, x2 g F σ H1 ρ δ1 _ _ _ _ S1 e2 fun u H2 k2 S2 r2 => ?_⟩
              obtain ⟨p1, x1, rfl, h1, s1⟩ := (r2.rd S1.good).lst
              have e5 := strsOf_some e4
              subst e5
              have e6 := s1.strs
              subst e6
              exact ⟨_, _, _, rd1.str, rfl, .inl (.inl h1), hz, q _ H2 (ke.trans k2) S2 (.str _)⟩
            · cases e3
        · rename_i a b
          cases e4 : strsOf b with
          | none => rw [e4] at e3; cases e3
          | some ys =>
            rw [e4] at e3
            simp only [Option.bind_some] at e3
            split at e3
            · rename_i hz
              cases e3
              refine ⟨⟨a, rd1.str⟩, x2 g F σ H1 ρ δ1 _ _ _ _ S1 e2 fun u H2 k2 S2 r2 => ?_⟩
              obtain ⟨p1, x1, rfl, h1, s1⟩ := (r2.rd S1.good).tup
              have e5 := strsOf_some e4
              subst e5
              have e6 := s1.strs
              subst e6
              exact ⟨_, _, _, rd1.str, rfl, .inr h1, hz, q _ H2 (ke.trans k2) S2 (.str _)⟩
            · cases e3
        · cases e3
end
end DL
/-! D-layer, part r: dicts by ints or texts: dict(pairs), d[k], d.get(k), k in d. -/
namespace DL
open PySem PySem.Spec PyProof.Rows L2
section
variable {X : Cx}
def keyOf : D → Option Key
  | .int i => some (.inl i)
  | .str x => some (.inr x)
  | _ => none
theorem keyOf_rd {K : PySem.W.Frag} {g : Gh} {F : Fp} {H : Hp} {v : V} {d : D} {k : Key} (h : keyOf d = some k) (r : Rd1 K g F H v d) : v = kV k := by
  cases d <;> simp only [keyOf] at h <;> first
    | cases h
      done
    | (cases h
       first
         | exact r.int
         | exact r.str)
theorem keyOf_rep {K : PySem.W.Frag} {O : Addr → Prop} {H : Hp} {v : V} {d : D} {k : Key} (h : keyOf d = some k) (r : Rep K O H v d) : v = kV k := by
  cases d <;> simp only [keyOf] at h <;> first
    | cases h
      done
    | (cases h
       cases r
       rfl)
def getD' (ds : List (Key × D)) (k : Key) : Option D := (ds.find? fun kv => decide (kv.1 = k)).map (·.2)
theorem getD_neg {p : Key × D} {r : List (Key × D)} {k : Key} (e : ¬ p.1 = k) : getD' (p :: r) k = getD' r k := by simp [getD', List.find?_cons, e]
theorem getD_pos {p : Key × D} {r : List (Key × D)} {k : Key} (e : p.1 = k) : getD' (p :: r) k = some p.2 := by simp [getD', List.find?_cons, e]
theorem kvs_get {K : PySem.W.Frag} {O : Addr → Prop} {H : Hp} (k : Key) : ∀ {kvs : List (Key × V)} {ds : List (Key × D)}, kvs.map (·.1) = ds.map (·.1) → Reps K O H (kvs.map (·.2)) (ds.map (·.2)) →
    (getD' ds k = none ∧ valV kvs k = none) ∨ ∃ d v, getD' ds k = some d ∧ valV kvs k = some v ∧ Rep K O H v d
  | [], [], _, _ => .inl ⟨rfl, rfl⟩
  | [], _ :: _, e, _ => by simp at e
  | _ :: _, [], e, _ => by simp at e
  | p :: ps, q :: qs, e, r => by
    simp only [List.map_cons, List.cons.injEq] at e
    rw [List.map_cons, List.map_cons] at r
    cases r with
    | cons r1 r2 =>
      by_cases h : q.1 = k
      · exact .inr ⟨_, _, getD_pos h, valV_pos (e.1.trans h), r1⟩
      · rw [getD_neg h, valV_neg (fun z => h (e.1.symm.trans z))]
        exact kvs_get k e.2 r2
def putD (ds : List (Key × D)) (k : Key) (v : D) : List (Key × D) :=
  if (ds.any fun kv => decide (kv.1 = k)) = true then ds.map (fun kv => if kv.1 = k then (kv.1, v) else kv) else ds ++ [(k, v)]
theorem put_keys {kvs : List (Key × V)} {ds : List (Key × D)} {k : Key} {v : V} {d : D} (e : kvs.map (·.1) = ds.map (·.1)) : (putK kvs k v).map (·.1) = (putD ds k d).map (·.1) := by
  have any : (kvs.any fun kv => decide (kv.1 = k)) = (ds.any fun kv => decide (kv.1 = k)) := by
    have h1 : (kvs.any fun kv => decide (kv.1 = k)) = (kvs.map (·.1)).any fun x => decide (x = k) := by rw [List.any_map]; rfl
    have h2 : (ds.any fun kv => decide (kv.1 = k)) = (ds.map (·.1)).any fun x => decide (x = k) := by rw [List.any_map]; rfl
    rw [h1, h2, e]
  unfold putK putD
  rw [any]
  split
  · rw [List.map_map, List.map_map]
    have f1 : ((fun x : Key × V => x.1) ∘ fun kv => if kv.1 = k then (kv.1, v) else kv) = fun x => x.1 := by funext x; simp only [Function.comp]; split <;> rfl
    have f2 : ((fun x : Key × D => x.1) ∘ fun kv => if kv.1 = k then (kv.1, d) else kv) = fun x => x.1 := by funext x; simp only [Function.comp]; split <;> rfl
    rw [f1, f2, e]
  · rw [List.map_append, List.map_append, e]
    rfl
theorem map_vals {K : PySem.W.Frag} {O : Addr → Prop} {H : Hp} {k : Key} {v : V} {d : D} (r0 : Rep K O H v d) : ∀ {kvs : List (Key × V)} {ds : List (Key × D)}, kvs.map (·.1) = ds.map (·.1) → Reps K O H (kvs.map (·.2)) (ds.map (·.2)) →
    Reps K O H ((kvs.map fun kv => if kv.1 = k then (kv.1, v) else kv).map (·.2)) ((ds.map fun kv => if kv.1 = k then (kv.1, d) else kv).map (·.2))
  | [], [], _, _ => .nil
  | [], _ :: _, e, _ => by simp at e
  | _ :: _, [], e, _ => by simp at e
  | p :: ps, q :: qs, e, r => by
    simp only [List.map_cons, List.cons.injEq] at e
    rw [List.map_cons, List.map_cons] at r
    cases r with
    | cons r1 r2 =>
      simp only [List.map_cons]
      refine .cons ?_ (map_vals r0 e.2 r2)
      rw [e.1]
      by_cases h : q.1 = k
      · rw [if_pos h, if_pos h]
        exact r0
      · rw [if_neg h, if_neg h]
        exact r1
theorem put_vals {K : PySem.W.Frag} {O : Addr → Prop} {H : Hp} {k : Key} {v : V} {d : D} {kvs : List (Key × V)} {ds : List (Key × D)} (r0 : Rep K O H v d) (e : kvs.map (·.1) = ds.map (·.1)) (r : Reps K O H (kvs.map (·.2)) (ds.map (·.2))) : Reps K O H ((putK kvs k v).map (·.2)) ((putD ds k d).map (·.2)) := by
  have any : (kvs.any fun kv => decide (kv.1 = k)) = (ds.any fun kv => decide (kv.1 = k)) := by
    have h1 : (kvs.any fun kv => decide (kv.1 = k)) = (kvs.map (·.1)).any fun x => decide (x = k) := by rw [List.any_map]; rfl
    have h2 : (ds.any fun kv => decide (kv.1 = k)) = (ds.map (·.1)).any fun x => decide (x = k) := by rw [List.any_map]; rfl
    rw [h1, h2, e]
  unfold putK putD
  rw [any]
  split
  · exact map_vals r0 e r
  · rw [List.map_append, List.map_append]
    exact r.append (.cons r0 .nil)
def mergeD (ds more : List (Key × D)) : List (Key × D) := more.foldl (fun acc kv => putD acc kv.1 kv.2) ds
theorem merge_both {K : PySem.W.Frag} {O : Addr → Prop} {H : Hp} : ∀ {ms : List (Key × V)} {es : List (Key × D)} {kvs : List (Key × V)} {ds : List (Key × D)}, ms.map (·.1) = es.map (·.1) → Reps K O H (ms.map (·.2)) (es.map (·.2)) →
    kvs.map (·.1) = ds.map (·.1) → Reps K O H (kvs.map (·.2)) (ds.map (·.2)) → (mergeK kvs ms).map (·.1) = (mergeD ds es).map (·.1) ∧ Reps K O H ((mergeK kvs ms).map (·.2)) ((mergeD ds es).map (·.2))
  | [], [], _, _, _, _, e, r => ⟨e, r⟩
  | [], _ :: _, _, _, e, _, _, _ => by simp at e
  | _ :: _, [], _, _, e, _, _, _ => by simp at e
  | p :: ps, q :: qs, kvs, ds, e, r, e2, r2 => by
    simp only [List.map_cons, List.cons.injEq] at e
    rw [List.map_cons, List.map_cons] at r
    cases r with
    | cons r1 rr =>
      have z := merge_both e.2 rr (put_keys (k := p.1) (v := p.2) (d := q.2) e2) (put_vals (k := p.1) r1 e2 r2)
      show (mergeK (putK kvs p.1 p.2) ps).map (·.1) = (mergeD (putD ds q.1 q.2) qs).map (·.1) ∧ Reps K O H ((mergeK (putK kvs p.1 p.2) ps).map (·.2)) ((mergeD (putD ds q.1 q.2) qs).map (·.2))
      rw [← e.1]
      exact z
/-- a new dict -/
theorem res_newD {K : PySem.W.Frag} {g : Gh} {F : Fp} {H : Hp} {p : Addr} {kvs : List (Key × V)} {ds : List (Key × D)} (hp : H p = none) (e : kvs.map (·.1) = ds.map (·.1)) (r : Reps K (Av g F) H (kvs.map (·.2)) (ds.map (·.2))) : Res K g F H (upd H p (.dK kvs)) .ow (.ref p) (.dic ds) :=
  ⟨p, rfl, hp, kvs, upd_same, e, (r.more (O' := fun b => Av g F b ∨ b = p) fun b z => z.imp id fun z => by rw [z]; exact hp).same (same_upd hp)⟩
/-- dict(pairs) -/
def pairsOf : List D → Option (List (Key × D))
  | [] => some []
  | d :: r => match d with
    | .tup [k, v] => (keyOf k).bind fun k => (pairsOf r).map fun l => (k, v) :: l
    | _ => none
theorem pairs_rep {K : PySem.W.Frag} {O : Addr → Prop} {H : Hp} : ∀ {vs : List V} {ds : List D} {l : List (Key × D)}, pairsOf ds = some l → Reps K O H vs ds →
    ∃ (ps : List Addr) (kvs : List (Key × V)), vs = ps.map V.ref ∧ Paired (fun p kv => SqT K H p [kV kv.1, kv.2]) ps kvs ∧ kvs.map (·.1) = l.map (·.1) ∧ Reps K O H (kvs.map (·.2)) (l.map (·.2))
  | [], [], l, h, _ => by
    cases h
    exact ⟨[], [], rfl, .nil, rfl, .nil⟩
  | v :: vs, d :: ds, l, h, .cons r rs => by
    unfold pairsOf at h
    split at h
    · rename_i k x
      cases e1 : keyOf k with
      | none => rw [e1] at h; cases h
      | some kk =>
        rw [e1] at h
        simp only [Option.bind_some] at h
        cases e2 : pairsOf ds with
        | none => rw [e2] at h; cases h
        | some l' =>
          rw [e2] at h
          cases h
          obtain ⟨ps, kvs, h1, h2, h3, h4⟩ := pairs_rep e2 rs
          cases r with
          | tup hs r' =>
            cases r' with
            | cons ra rb =>
              cases rb with
              | cons rb rc =>
                cases rc
                have e3 := keyOf_rep e1 ra
                subst e3
                rename_i vb _ _
                exact ⟨_ :: ps, (kk, _) :: kvs, by rw [h1]; rfl, .cons hs h2, by simp [h3], .cons rb h4⟩
    · cases h
def oDict : OFn := fun ds => match ds with
  | [.lst ps] => (pairsOf ps).map fun l => (.dic (mergeD [] l), .ow)
  | _ => none
theorem c_dict (hc : X.calm = true) : CallD X (.type "dict") oDict := by
  refine ⟨_, call_dictP hc, fun g F H vs ds d k Q G r ho q => ?_⟩
  unfold oDict at ho
  split at ho
  · rename_i ps
    cases e : pairsOf ps with
    | none => rw [e] at ho; cases ho
    | some l =>
      rw [e] at ho
      cases ho
      cases r with
      | cons r1 rr =>
        cases rr
        obtain ⟨p1, x1, rfl, h1, s1⟩ := r1.lst
        obtain ⟨as, kvs, h2, h3, h4, h5⟩ := pairs_rep e s1
        subst h2
        refine ⟨_, as, kvs, rfl, .inl h1, h3, fun b hb => ?_⟩
        obtain ⟨z1, z2⟩ := merge_both (kvs := []) (ds := []) h4 h5 rfl .nil
        exact q _ _ (same_upd hb) (res_newD hb z1 z2)
  · cases ho
/-- x[y]: of a list, a tuple, a text, a dict -/
def rIxK : R2 := fun x y H Q => ∃ a kvs k v, x = .ref a ∧ y = kV k ∧ H a = some (.dK kvs) ∧ valV kvs k = some v ∧ Q v H
theorem ix_dic (hu : X.A.units + 64 < cLine) : IxR X rIxK := by
  intro value slice pins s σ H x y v u Q I rx ry h hs
  obtain ⟨a, kvs, k, z, rfl, rfl, e, l, q⟩ := h
  cases rx
  have g : DGet H a (kV k) (some z) := by rw [← l]; exact .k e
  refine tail_any (ops := [.ref a, u]) (dict_typeIs I g) PySem.F.slot_dict_getitem.lookup ?_ hs
  exact d_getItem (by omega) I g ry fun w' s' I' rw' => ⟨z, H, I', rw', q⟩
def oIxA : OF2 := fun x y => match x with
  | .dic ds => (keyOf y).bind fun k => (getD' ds k).map fun d => (d, .sh)
  | _ => oIx x y
theorem fit_ixA : Fit2 X.K (fun x y H Q => rIx X.K x y H Q ∨ rIxK x y H Q) oIxA := by
  intro g F H x y dx dy d k Q G r1 r2 ho q
  unfold oIxA at ho
  split at ho
  · rename_i ds
    cases e1 : keyOf dy with
    | none => rw [e1] at ho; cases ho
    | some kk =>
      rw [e1] at ho
      simp only [Option.bind_some] at ho
      obtain ⟨a, kvs, rfl, h1, h2, h3⟩ := r1.dic
      rcases kvs_get kk h2 h3 with ⟨z, _⟩ | ⟨d', v, z1, z2, z3⟩
      · rw [z] at ho; cases ho
      · rw [z1] at ho
        cases ho
        exact .inr ⟨_, _, kk, _, rfl, keyOf_rd e1 r2, h1, z2, q _ H (Same.refl _) z3⟩
  · exact .inl (fit_ix g F H x y dx dy d k Q G r1 r2 ho q)
theorem de_ixA {a b : Expr} {fa fb : EF} {pos : Pos} (hu : X.A.units + 64 < cLine) (ha : DE X a fa) (hb : DE X b fb) (hs : PlainIx b := by exact fun _ _ => rfl) : DE X (.Subscript a b pos) (fBin oIxA fa fb) := by
  obtain ⟨ta, tb, pa, pb, h⟩ := bin_run fit_ixA ha hb
  exact ⟨_, pe_ix (ix_seq.or (ix_dic hu)) pa pb hs, h⟩
/-- x * y, tuples too -/
def oMulA : OF2 := fun x y => match x, y with
  | .tup a, .int k => if a ≠ [] ∧ 2 ≤ k ∧ k ≤ 1000 ∧ a.length ≤ 1000 then some (.tup (List.replicate k.toNat a).flatten, .sh) else none
  | _, _ => oMul x y
theorem o_mulA : Op2 X (binaryOp .Mult) oMulA := by
  obtain ⟨r0, hr0, hf0⟩ := (o_mul : Op2 X (binaryOp .Mult) oMul)
  refine ⟨_, hr0.or op_repT, fun g F H x y dx dy d k Q G r1 r2 ho q => ?_⟩
  unfold oMulA at ho
  split at ho
  · rename_i a kk
    split at ho
    · rename_i c
      cases ho
      obtain ⟨p1, x1, rfl, h1, s1⟩ := r1.tup
      refine .inr ⟨_, _, _, rfl, r2.int, h1, fun z => c.1 (List.eq_nil_of_length_eq_zero (by rw [← s1.length, z]; rfl)), c.2.1, c.2.2.1, by rw [s1.length]; exact c.2.2.2, fun p hp => ?_⟩
      exact q _ _ (same_upd hp) (rep_newT hp (s1.rep _))
    · cases ho
  · exact .inl (hf0 g F H x y dx dy d k Q G r1 r2 ho q)
end
end DL
/-! D-layer, part s: rules for simp about enumerate, dicts, texts; comprehensions with draws. -/
namespace DL
open PySem PySem.Spec PyProof.Rows L2 LH
section
variable {ρ : Rho} {δ δ' : Dr} {d e : D} {k : Kd} {f fa fb fc : EF} {a b : HF'} {t u : TF} {o : OF2} {r : AF} {i j l : Nat}
def sEnum1 : D × Kd × Dr → Option (List D × Kd × Dr) := fun p => match p.1 with
  | .lst ds => some (enD 0 ds, p.2.1, p.2.2)
  | .tup ds => some (enD 0 ds, .sh, p.2.2)
  | .str z => some (enD 0 (signs z), .sh, p.2.2)
  | _ => none
@[simp] theorem sEnum_e : sEnum f ρ δ = (f ρ δ).bind sEnum1 := id rfl
@[simp] theorem sEnum1_l {ds : List D} : sEnum1 (.lst ds, k, δ) = some (enD 0 ds, k, δ) := id rfl
@[simp] theorem sEnum1_t {ds : List D} : sEnum1 (.tup ds, k, δ) = some (enD 0 ds, .sh, δ) := id rfl
@[simp] theorem sEnum1_s {z : Str} : sEnum1 (.str z, k, δ) = some (enD 0 (signs z), .sh, δ) := id rfl
@[simp] theorem sSeq1_s {z : Str} : sSeq1 (.str z, k, δ) = some (signs z, .sh, δ) := id rfl
def fBack1 : D × Kd × Dr → Option (D × Kd × Dr) := fun p => match p.1 with
  | .lst a => some (.lst a.reverse, .ow, p.2.2)
  | .tup a => some (.tup a.reverse, .sh, p.2.2)
  | _ => none
@[simp] theorem fBack_e : fBack f ρ δ = (f ρ δ).bind fBack1 := id rfl
@[simp] theorem fBack1_l {x : List D} : fBack1 (.lst x, k, δ) = some (.lst x.reverse, .ow, δ) := id rfl
@[simp] theorem fBack1_t {x : List D} : fBack1 (.tup x, k, δ) = some (.tup x.reverse, .sh, δ) := id rfl
def fJoin2 (d : D) : D × Kd × Dr → Option (D × Kd × Dr) := fun q => (joinR d q.1).map fun z => (z, .sh, q.2.2)
def fJoin1 (h : EF) (ρ : Rho) : D × Kd × Dr → Option (D × Kd × Dr) := fun p => (h ρ p.2.2).bind (fJoin2 p.1)
@[simp] theorem fJoin_e : fJoin fa fb ρ δ = (fa ρ δ).bind (fJoin1 fb ρ) := id rfl
@[simp] theorem fJoin1_e : fJoin1 fb ρ (d, k, δ) = (fb ρ δ).bind (fJoin2 d) := id rfl
@[simp] theorem fJoin2_e : fJoin2 d (e, k, δ) = (joinR d e).map fun z => (z, .sh, δ) := id rfl
theorem joinR_l {x : Str} {y : List D} : joinR (.str x) (.lst y) = (strsOf y).bind fun ys => if (ys.map (·.length)).sum + ys.length * x.length ≤ 16777216 then some (.str (Txt.join x ys)) else none := id rfl
@[simp] theorem strsOf_map (x : List Str) : strsOf (x.map D.str) = some x := by
  induction x with
  | nil => rfl
  | cons a x ih => rw [List.map_cons, strsOf, ih]; rfl
@[simp] theorem oOrd_s {z : Str} : oOrd [.str z] = if z.length = 1 then some (.int (z.cps.getD 0 0 : Nat), .sh) else none := id rfl
theorem oOrd_1 (c : Nat) : oOrd [.str ⟨#[c]⟩] = some (.int (c : Nat), .sh) := id rfl
@[simp] theorem oSumA_l {x : List D} : oSumA [.lst x] = (intsOf x).map fun l => (.int l.sum, .sh) := id rfl
@[simp] theorem oSumA_t {x : List D} : oSumA [.tup x] = (intsOf x).map fun l => (.int l.sum, .sh) := id rfl
@[simp] theorem oDict_l {x : List D} : oDict [.lst x] = (pairsOf x).map fun l => (.dic (mergeD [] l), .ow) := id rfl
@[simp] theorem oIxA_d {ds : List (Key × D)} : oIxA (.dic ds) d = (keyOf d).bind fun k => (getD' ds k).map fun d => (d, .sh) := id rfl
@[simp] theorem keyOf_s {z : Str} : keyOf (.str z) = some (.inr z) := id rfl
@[simp] theorem keyOf_i {z : Int} : keyOf (.int z) = some (.inl z) := id rfl
@[simp] theorem oMulA_i {x y : Int} : oMulA (.int x) (.int y) = if cMul x y then some (.int (x * y), .sh) else none := id rfl
@[simp] theorem oMulA_t {x : List D} {y : Int} : oMulA (.tup x) (.int y) = if x ≠ [] ∧ 2 ≤ y ∧ y ≤ 1000 ∧ x.length ≤ 1000 then some (.tup (List.replicate y.toNat x).flatten, .sh) else none := id rfl
@[simp] theorem oAddI_i {x y : Int} : oAddI (.int x) (.int y) = some (.int (x + y), .sh) := id rfl
theorem oLen_s {z : Str} : oLen [.str z] = if z.length ≤ sizeLine then some (.int z.length, .sh) else none := id rfl
theorem oIx_s {z : Str} {y : Int} : oIx (.str z) (.int y) = if z.length ≤ sizeLine then (atI z.cps.toList y).map fun c => (.str ⟨#[c]⟩, .sh) else none := id rfl
def hAug2 (i : Nat) (o : OF2) (d : D) (ρ : Rho) : D × Kd × Dr → Option (Ou × Rho × Dr) := fun p => (o d p.1).bind fun r => (sv r.1 r.2).map fun s => (.nx, ρ.set i s, p.2.2)
def hAug1 (i : Nat) (o : OF2) (f : EF) (ρ : Rho) (δ : Dr) : Option SV → Option (Ou × Rho × Dr)
  | some (.sh d) => (f ρ δ).bind (hAug2 i o d ρ)
  | _ => none
@[simp] theorem hAug_e : hAug i o f ρ δ = hAug1 i o f ρ δ ρ[i]? := by unfold hAug hAug1; cases ρ[i]? with | none => rfl | some s => cases s <;> rfl
@[simp] theorem hAug1_e : hAug1 i o f ρ δ (some (.sh d)) = (f ρ δ).bind (hAug2 i o d ρ) := id rfl
@[simp] theorem hAug2_e : hAug2 i o d ρ (e, k, δ) = (o d e).bind fun r => (sv r.1 r.2).map fun s => (.nx, ρ.set i s, δ) := id rfl
/-! ### comprehensions with draws -/
theorem lcD_draw {b : BF} {f : EF} {Z : Dr → Prop} {Pd : D → Prop} : ∀ {ds : List D} {ρ : Rho} {δ : Dr}, (∀ x ∈ ds, ∀ δ, Z δ → ∃ ρ1 d k δ', b x ρ = some ρ1 ∧ f ρ1 δ = some (d, k, δ') ∧ k ≠ .br ∧ Pd d ∧ Z δ') → Z δ →
    ∃ es δ', lcD b fYes f ρ ds δ = some (es, δ') ∧ es.length = ds.length ∧ (∀ e ∈ es, Pd e) ∧ Z δ'
  | [], _, δ, _, z => ⟨[], δ, rfl, rfl, (fun e he => absurd he (by simp)), z⟩
  | x :: xs, ρ, δ, h, z => by
    obtain ⟨ρ1, d, k, δ1, e1, e2, e3, p, z1⟩ := h x (by simp) δ z
    obtain ⟨es, δ2, e4, e5, e6, z2⟩ := lcD_draw (b := b) (f := f) (Z := Z) (Pd := Pd) (ds := xs) (ρ := ρ) (δ := δ1) (fun y hy => h y (List.mem_cons_of_mem _ hy)) z1
    refine ⟨d :: es, δ2, ?_, by simp [e5], fun e he => ?_, z2⟩
    · rw [lcD, e1]
      simp only [Option.bind_some, fYes_e, if_true]
      rw [e2]
      simp only [Option.bind_some]
      rw [if_neg e3, e4]
      rfl
    · rcases List.mem_cons.mp he with rfl | he
      · exact p
      · exact e6 e he
/-- a sign of a text -/
theorem of_okS {δ : Dr} {z : Str} (v : VD δ) (hn : 0 < z.length) (hl : z.length ≤ sizeLine) : ∃ c δ', g__law_of [.str z] δ = some (.str ⟨#[c]⟩, .sh, δ') ∧ c ∈ z.cps.toList ∧ VD δ' := by
  have hl2 : z.length < 2 ^ 64 := Nat.lt_of_le_of_lt hl (by decide)
  obtain ⟨r, δ', e, r0, r1, v'⟩ := any_ok (b := (z.length : Int)) v (by omega) (Nat.lt_of_lt_of_le (show (z.length : Int).natAbs < 2 ^ 64 by simpa using hl2) (Nat.pow_le_pow_right (by decide) (by decide)))
  have hlen : z.cps.toList.length = z.length := by rw [Array.length_toList]; rfl
  have hr : r.toNat < z.cps.toList.length := by omega
  refine ⟨z.cps.toList[r.toNat], δ', ?_, List.getElem_mem hr, v'⟩
  have hx : atI z.cps.toList r = some z.cps.toList[r.toNat] := by
    unfold atI ixN
    rw [if_pos r0, if_pos (by omega)]
    simp [List.getElem?_eq_getElem hr]
  simp [g__law_of, h__law_of, oLen_s, oIx_s, hl, e, hx]
end
end DL
/-! D-layer, part t: a law's statements one behind the other: what is gathered in pairs (slot 2) stays good. -/
namespace LT
open PySem PySem.Spec PyProof.Rows L2 DL LH
def Wp {α : Type} (x : Option α) (Q : α → Prop) : Prop := ∃ a, x = some a ∧ Q a
section
variable {ρ ρ' : Rho} {δ δ' : Dr} {d e : D} {k : Kd} {f g : EF} {a b : HF'} {t : TF} {i j m n : Nat} {Q R : Ou × Rho × Dr → Prop} {u v : SV} {r : Rho} {ps ds : List D}
theorem Wp.mono {α : Type} {x : Option α} {Q R : α → Prop} (w : Wp x Q) (h : ∀ a, Q a → R a) : Wp x R := by
  obtain ⟨a, e, q⟩ := w
  exact ⟨a, e, h a q⟩
theorem wp_of {α : Type} {x : Option α} {Q : α → Prop} {a : α} (e : x = some a) (q : Q a) : Wp x Q := ⟨a, e, q⟩
theorem wp_nx (e : a ρ δ = some (.nx, ρ', δ')) (k : Wp (b ρ' δ') Q) : Wp (hSeq a b ρ δ) Q := by
  obtain ⟨z, e2, q⟩ := k
  exact ⟨z, by rw [hSeq_e, e]; exact e2, q⟩
theorem wp_seq (w : Wp (a ρ δ) fun z => Wp (hSeq1 b z) Q) : Wp (hSeq a b ρ δ) Q := by
  obtain ⟨z, e, z2, e2, q⟩ := w
  exact ⟨z2, by rw [hSeq_e, e]; exact e2, q⟩
theorem wp_ret (e : f ρ δ = some (d, .sh, δ')) (q : Q (.rt d .sh, ρ, δ')) : Wp (hRet f ρ δ) Q := ⟨_, by rw [hRet_e, e]; rfl, q⟩
theorem says_of {h : HF'} (w : Wp (h ρ δ) fun z => z.1 = .rt (.bl true) .sh) : ∃ ρ' δ', h ρ δ = some (.rt (.bl true) .sh, ρ', δ') := by
  obtain ⟨⟨o, ρ', δ'⟩, e, rfl⟩ := w
  exact ⟨ρ', δ', e⟩
/-- pairs are good, and there are at most n of them -/
structure PG (ps : List D) (n : Nat) : Prop where
  g : ∀ t ∈ ps, Goo t
  n : ps.length ≤ n
theorem PG.nil : PG [] 0 := ⟨(fun t h => by cases h), Nat.le_refl _⟩
theorem PG.app (h : PG ps n) (hd : ∀ t ∈ ds, Goo t) (hl : ds.length ≤ m) : PG (ps ++ ds) (n + m) := ⟨fun t ht => (List.mem_append.mp ht).elim (h.g t) (hd t), by rw [List.length_append]; have := h.n; omega⟩
theorem PG.mono (h : PG ps n) (hm : n ≤ m) : PG ps m := ⟨h.g, Nat.le_trans h.n hm⟩
/-- a statement that gathers pairs -/
theorem wp_pairs (hg : PG ps n) (e : a (u :: v :: .ow (.lst ps) :: r) δ = some (.nx, u :: v :: .ow (.lst (ps ++ ds)) :: r, δ)) (hd : ∀ t ∈ ds, Goo t) (hl : ds.length ≤ m) (hm : n + m ≤ 100000)
    (k : ∀ qs, PG qs (n + m) → qs.length ≤ 100000 → Wp (b (u :: v :: .ow (.lst qs) :: r) δ) Q) : Wp (hSeq a b (u :: v :: .ow (.lst ps) :: r) δ) Q :=
  wp_nx e (k _ (hg.app hd hl) (Nat.le_trans (hg.app hd hl).n hm))
theorem goos_nil : ∀ t ∈ ([] : List D), Goo t := fun t h => by cases h
theorem goos_cons {t : D} {ts : List D} (h : Goo t) (hs : ∀ t ∈ ts, Goo t) : ∀ x ∈ t :: ts, Goo x := fun x hx => by
  rcases List.mem_cons.mp hx with rfl | hx
  · exact h
  · exact hs x hx
theorem goo_int (i : Int) : Goo (.tup [.int i, .int i]) := ⟨_, rfl, rfl, by simp [nodes]⟩
theorem goo_non : Goo (.tup [.non, .non]) := ⟨_, rfl, rfl, by simp [nodes]⟩
theorem goo_bl (i : Bool) : Goo (.tup [.bl i, .bl i]) := ⟨_, rfl, rfl, by simp [nodes]⟩
theorem goo_str (i : Str) : Goo (.tup [.str i, .str i]) := ⟨_, rfl, rfl, by simp [nodes]⟩
/-! ### sizes by what is known -/
theorem z_line {n : Nat} (h : n ≤ 1000000) : n ≤ sizeLine := Nat.le_trans h (by decide)
theorem oAdd_lz {x y : List D} (hx : x.length ≤ 100000) (hy : y.length ≤ 1000) : oAdd (.lst x) (.lst y) = some (.lst (x ++ y), .ow) := by
  rw [oAdd_l, if_pos (z_line (by omega))]
theorem hApp2_z {xs : List D} (hx : xs.length ≤ 100000) : hApp2 i xs ρ (d, .sh, δ) = some (.nx, ρ.set i (.ow (.lst (xs ++ [d]))), δ) := by
  rw [hApp2_sh, if_pos (Nat.lt_of_le_of_lt hx (by decide))]
theorem fTup1_z {ds : List D} (h : ds.length ≤ 1000) : fTup1 (ds, δ) = some (.tup ds, .sh, δ) := by rw [fTup1_e, if_pos h]
theorem fLst1_z {ds : List D} (h : ds.length ≤ 1000) : fLst1 (ds, δ) = some (.lst ds, .ow, δ) := by rw [fLst1_e, if_pos h]
/-! ### cuts -/
theorem cutD_lo (xs : List D) {i : Nat} (h : i ≤ xs.length) : DL.cutD xs none (some (i : Int)) = xs.take i := by
  unfold DL.cutD sI
  have e0 : HT.sIx xs.length 0 none = 0 := rfl
  rw [HT.sIx_nat, e0, Nat.min_eq_left h, Nat.sub_zero, List.drop_zero]
theorem cutD_hi (xs : List D) {i : Nat} (h : i ≤ xs.length) : DL.cutD xs (some (i : Int)) none = xs.drop i := by
  unfold DL.cutD sI
  have e0 : HT.sIx xs.length xs.length none = xs.length := rfl
  rw [HT.sIx_nat, e0, Nat.min_eq_left h, List.take_of_length_le (by simp)]
/-! ### by keywords the same -/
theorem vPerm1_id : vPerm [0] 0 1 vNil (vCons f vNil) = vCons f vNil := by
  funext ρ δ
  rw [vPerm_e, vNil_e]
  simp only [Option.bind_some, vPerm1_e, vCons_e]
  cases e : f ρ δ with
  | none => rfl
  | some p =>
    obtain ⟨d, k, δ'⟩ := p
    simp only [Option.bind_some, vCons1_e, vNil_e, Option.map_some]
    rfl
theorem fIf_same : fIf t f f ρ δ = (t ρ δ).bind fun p => f ρ p.2 := by
  rw [fIf_e]
  cases e : t ρ δ with
  | none => rfl
  | some p =>
    obtain ⟨b, δ'⟩ := p
    cases b <;> rfl
end
end LT
/-! D-layer, part Ca: own classes whose instances stay as they are made: making one, reading a field. -/
namespace DL
open PySem PySem.Spec PyProof.Rows L2
/-- what the written part says of a class with fields fs -/
structure ClsF (K : PySem.W.Frag) (mg : Str → Option Value) (n : Str) (C : Addr) (fs : List Str) : Prop where
  ad : caddr K n = some C
  gC : mg n = some (.ref C)
  cl : Cls K C
  nA : ∀ f ∈ fs, NoAttr K C f
/-- __init__ that stores its parameters under their own names -/
def spInit (C : Addr) (fs : List Str) : Sp := fun vs H Q _ => ∃ (x dx : Addr) (ws : List V), vs = .ref x :: ws ∧ ws.length = fs.length ∧ H x = some (.ins C dx []) ∧ Q .non (upd H x (.ins C dx (fs.zip ws)))
/-- a class that is made by that -/
structure MkF (P : Program) (w : World) (K : PySem.W.Frag) (mg : Str → Option Value) (base : Heap) (k : Nat) (n : Str) (fs : List Str) : Prop where
  ex : ∃ (C f : Addr) (fd : FuncData), ClsF K mg n C fs ∧ Mk K C f ∧ FnOk P w K mg base CX0 k f fd ("self" :: fs) (spInit C fs) ∧ Binds K fd ("self" :: fs) []
theorem MkF.mono {P : Program} {w : World} {K : PySem.W.Frag} {mg : Str → Option Value} {base : Heap} {j k : Nat} {n : Str} {fs : List Str} (M : MkF P w K mg base j n fs) (h : j ≤ k) : MkF P w K mg base k n fs := by
  obtain ⟨C, f, fd, a, b, c, d⟩ := M.ex
  exact ⟨C, f, fd, a, b, c.mono h, d⟩
theorem lookup_rep {K : PySem.W.Frag} {O : Addr → Prop} {H : Hp} {f : Str} : ∀ {fs : List (Str × V)} {ds : List (Str × D)} {d : D}, fs.map (·.1) = ds.map (·.1) → Reps K O H (fs.map (·.2)) (ds.map (·.2)) → ds.lookup f = some d → ∃ v, fs.lookup f = some v ∧ Rep K O H v d
  | [], [], _, _, _, h => by cases h
  | [], _ :: _, _, e, _, _ => by cases e
  | _ :: _, [], _, e, _, _ => by cases e
  | (a, v) :: fs, (b, d0) :: ds, d, e, .cons r rs, h => by
    simp only [List.map_cons, List.cons.injEq] at e
    obtain ⟨e1, e2⟩ := e
    subst e1
    rw [List.lookup_cons] at h ⊢
    cases hb : f == a with
    | true =>
      rw [hb] at h
      cases h
      exact ⟨v, rfl, r⟩
    | false =>
      rw [hb] at h
      obtain ⟨v2, h1, h2⟩ := lookup_rep e2 rs h
      exact ⟨v2, h1, h2⟩
section
variable {X : Cx} {k : Nat} {n : Str} {fs : List Str} {p pos apos : Pos} {e : Expr} {es : List Expr} {f : Str}
/-- e.f, of an instance of one of the classes ns -/
def fFld (ns : List Str) (f : Str) (e : EF) : EF := fun ρ δ => (e ρ δ).bind fun p => match p.1 with
  | .ins n fs => if ns.contains n = true then (fs.lookup f).map fun d => (d, .sh, p.2.2) else none
  | _ => none
theorem de_fld {ns : List Str} {fe : EF} (hn : ∀ n ∈ ns, ∃ C, caddr X.K n = some C ∧ Cls X.K C ∧ NoAttr X.K C f) (he : DE X e fe) (hb : attributeBase e f X.env (eval e X.env) = eval e X.env := by rfl) : DE X (.Attribute e f pos) (fFld ns f fe) := by
  obtain ⟨t, p, x⟩ := he.ex
  refine ⟨_, pe_fld p hb, fun g F σ H ρ δ d k δ' Q S hf q => ?_⟩
  unfold fFld at hf
  cases e1 : fe ρ δ with
  | none => rw [e1] at hf; cases hf
  | some c =>
    obtain ⟨d0, k0, δ1⟩ := c
    rw [e1] at hf
    simp only [Option.bind_some] at hf
    cases d0 with
    | ins n ds =>
      dsimp only at hf
      split at hf
      · rename_i hc
        cases e2 : ds.lookup f with
        | none => rw [e2] at hf; cases hf
        | some d2 =>
          rw [e2] at hf
          cases hf
          refine x g F σ H ρ δ _ k0 _ _ S e1 fun v H1 k1 S1 r1 => ?_
          obtain ⟨C, a, dx, fs, hC, rfl, ha, hm, rr⟩ := (r1.rd S.good).ins
          obtain ⟨C', hC', cl, nA⟩ := hn n (by simpa using hc)
          rw [hC] at hC'
          cases hC'
          obtain ⟨v2, l2, r2⟩ := lookup_rep hm rr e2
          exact ⟨a, C, dx, fs, v2, rfl, ha, cl, nA, l2, q v2 H1 k1 S1 r2⟩
      · cases hf
    | _ => cases hf
/-- C(e, ..) -/
def fMk (n : Str) (fs : List Str) (a : AF) : EF := fun ρ δ => (a ρ δ).bind fun p => if p.1.length = fs.length then some (.ins n (fs.zip p.1), .sh, p.2) else none
theorem zip_fst {α β : Type} : ∀ {l : List α} {m : List β}, m.length = l.length → (l.zip m).map (·.1) = l
  | [], _, _ => by simp
  | a :: l, [], h => by cases h
  | a :: l, b :: m, h => by
    rw [List.zip_cons_cons, List.map_cons, zip_fst (by simpa using h)]
theorem zip_snd {α β : Type} : ∀ {l : List α} {m : List β}, m.length = l.length → (l.zip m).map (·.2) = m
  | [], [], _ => rfl
  | [], _ :: _, h => by cases h
  | a :: l, [], h => by cases h
  | a :: l, b :: m, h => by
    rw [List.zip_cons_cons, List.map_cons, zip_snd (by simpa using h)]
theorem de_mk {a : AF} (M : MkF X.prog X.w X.K X.mg X.base k n fs) (hr : Room (k + 1) X.A) (hg : Gl X n) (ha : DA X (e :: es) a) (hdb : (n == ("__debug__" : Str)) = false := by decide)
    (he : starEach (e :: es) X.env = (false, eval e X.env) :: starEach es X.env := by rfl) (hpl : (backTo pos (starEach es X.env)).any (·.1) = false := by rfl) : DE X (.Call (.Name n p) (e :: es) [] pos) (fMk n fs a) := by
  obtain ⟨C, f, fd, cf, mk, fn, bd⟩ := M.ex
  obtain ⟨t, pa, x⟩ := ha.ex
  refine ⟨_, pe_make mk fn hr hg cf.gC bd .nil pass0 pa hdb he hpl, fun g F σ H ρ δ d kd δ' Q S hf q => ?_⟩
  unfold fMk at hf
  cases e1 : a ρ δ with
  | none => rw [e1] at hf; cases hf
  | some c =>
    obtain ⟨ds, δ1⟩ := c
    rw [e1] at hf
    simp only [Option.bind_some] at hf
    split at hf
    · rename_i hl
      cases hf
      refine x g F σ H ρ δ ds _ _ S e1 fun vs H1 k1 S1 r1 => fun y dy hy hdy hne => ?_
      have hlen : vs.length = fs.length := by rw [r1.length, hl]
      refine ⟨y, dy, vs, by rw [List.append_nil], hlen, upd_same, rfl, ?_⟩
      rw [upd_upd]
      have s1 : Same H1 (upd H1 dy (.own y)) := same_upd hdy
      have s2 : Same (upd H1 dy (.own y)) (upd (upd H1 dy (.own y)) y (.ins C dy (fs.zip vs))) := same_upd (by rw [upd_ne (Ne.symm hne)]; exact hy)
      have s3 : Same H1 (upd (upd H1 dy (.own y)) y (.ins C dy (fs.zip vs))) := fun b o z => s2 b o (s1 b o z)
      refine q _ _ (k1.trans (Keep.of_same s3)) (S1.same s3) ?_
      refine .ins cf.ad upd_same (fun z => S1.there y z hy) (by rw [zip_fst hlen, zip_fst hl]) ?_
      rw [zip_snd hlen, zip_snd hl]
      exact r1.same s3
    · cases hf
end
end DL
/-! D-layer, part Cb: sorted of plain data, of a list or a tuple. -/
namespace DL
open PySem PySem.Spec PyProof.Rows L2 PySem.W PySem.Calls
section
variable {prog : Program} {w : World} {A : Around} {E : Value → Shared → Prop} {s : Shared}
/-- a tuple's items gathered in a new list -/
theorem gather_tup {t : Addr} {vs : List Value} {Q : List Value → Shared → Prop} (ht : s.heap.IsTuple t vs.toArray) (hsz : vs.length ≤ sizeLine)
    (h : Q vs { s with heap := (s.heap.push (seqObj "list" #[] 0)).update s.heap.objs.size (Obj.mapSeq (· ++ vs.toArray)) }) : wpAny (model prog w) A (collect (.ref t)) Q E s := by
  obtain ⟨o, ho, hc, n, hd⟩ := id ht
  have hnew : (s.heap.push (seqObj "list" #[] 0)).get? s.heap.objs.size = some (seqObj "list" #[] 0) := Heap.get?_push_size _ rfl
  have hold : (s.heap.push (seqObj "list" #[] 0)).get? t = some o := Heap.get?_push_of_some _ ho
  have hcls : (Value.type "tuple" == Value.type "tuple") = true := by rfl
  unfold collect
  refine wpAny_bind (wpAny_runValue (codeAny_builtin entry_proto_collect' ?_))
  refine wpAny_bind (wpAny_newList (wpAny_pure ⟨Code.quiet_builtin _ (by decide +kernel), codeAny_builtin entry_list_iadd' ?_⟩))
  show wpAny _ _ (Builtin.List.listExtendWith (.ref s.heap.objs.size) (.ref t) (.ref s.heap.objs.size)) _ _ { s with heap := s.heap.push (seqObj "list" #[] 0) }
  unfold Builtin.List.listExtendWith
  refine wpAny_bind (wpAny_typeOf (T := "tuple") ⟨o, hold, hc⟩ ?_)
  rw [if_pos (by rw [hcls]; simp)]
  refine wpAny_bind (listItems_at hold hd (wpAny_bind (listItems_at (xs := #[]) (n := 0) hnew rfl ?_)))
  rw [if_neg (by simp)]
  refine wpAny_bind (listUpdate_at (xs := #[]) (n := 0) hnew rfl ?_ (Nat.zero_le _) (by show (#[] ++ vs.toArray).size ≤ sizeLine + 1; simp only [Array.size_append, List.size_toArray, List.length_nil]; omega))
  refine wpAny_pure (wpAny_bind (wpAny_load (get?_update_seq hnew _) ?_))
  have e : ((#[] : Array Value) ++ vs.toArray).toList = vs := by simp
  show wpAny _ _ (pure ((#[] : Array Value) ++ vs.toArray).toList) Q E _
  rw [e]
  exact wpAny_pure h
/-- sorted(t), t a tuple -/
theorem sorted_tup {β : Type} {R : Value → β → Prop} {enc : β → PyData} {vs : List Value} {bs : List β} {t : Addr} {Q : Value → Shared → Prop} (ht : s.heap.IsTuple t vs.toArray) (e : EachIs R vs bs) (er : EachIs (fun v b => ∃ as, Reads s.heap v (enc b) as) vs bs) (hal : AllAlike (bs.map enc)) (hk : Sortable (bs.map enc)) (hL : bs.length ≤ sizeLine)
    (hu : ∀ b, b ∈ bs → A.units + 2 + (enc b).depth < cLine) (h : ∀ out, out.length = bs.length → EachIs R out (bs.mergeSort (dataLe false enc)) → Q (.ref (s.heap.objs.size + 1)) { s with heap := sortedAll s.heap vs (List.toArray out) }) :
    wpAny (model prog w) A (call (.builtin "sorted") [.ref t]) Q E s := by
  have er' : EachIs (fun v b => ∃ as, Reads (sortingHeap (copyHeap s.heap vs) (s.heap.objs.size + 1) vs) v (enc b) as) vs bs := er.mono fun _ _ ⟨as, r⟩ => ⟨as, PyProof.Rows.Reads.keeps (fun _ _ => sorting_copy_old) r⟩
  have hlen : vs.length ≤ sizeLine := by rw [e.length]; exact hL
  have S : SortsAt prog w A.in1.in1 { s with heap := sortingHeap (copyHeap s.heap vs) (s.heap.objs.size + 1) vs } (dataKind (sortingHeap (copyHeap s.heap vs) (s.heap.objs.size + 1) vs) (bs.map enc)) vs :=
    SortsAt.data (s := { s with heap := sortingHeap (copyHeap s.heap vs) (s.heap.objs.size + 1) vs }) (each_map (R := fun v d => ∃ as, Reads (sortingHeap (copyHeap s.heap vs) (s.heap.objs.size + 1) vs) v d as) enc er') hal hk (bound_map hu)
  have hsz : ((s.heap.push (seqObj "list" #[] 0)).update s.heap.objs.size (Obj.mapSeq (· ++ vs.toArray))).objs.size = s.heap.objs.size + 1 := by
    rw [Heap.size_update, size_push']
  refine call_function_entry_kw kind_sorted plain_sorted entry_sorted (args_sorted1 _) ?_
  unfold Builtin.«sorted»
  refine wpAny_bind (m := checkCount "sorted" 1 1 _) (wpAny_pure (wpAny_bind (gather_tup ht hlen (wpAny_bind (wpAny_newList ?_ hlen)))))
  show wpAny _ _ _ _ _ { s with heap := copyHeap s.heap vs }
  rw [hsz]
  refine wpAny_bind (wpAny_holding (wpAny_call_entry_kw slot_list_sort ⟨_, copyHeap_at s.heap vs, rfl⟩ entry_list_sort ?_ (args_list_sort _)))
  refine wpAny_mono (list_sort_vals (P := fun f s' => f = .done (.ret .none) ∧ Q (.ref (s.heap.objs.size + 1)) s') (s := { s with heap := copyHeap s.heap vs }) (copyHeap_at s.heap vs) S hlen ⟨rfl, h _ ?_ ?_⟩) (fun f s' hf => ?_) fun _ _ e => e
  · rw [sortVals_length false rfl]; exact e.length
  · exact sortVals_data false e er' hal
  · obtain ⟨rfl, hq⟩ := hf
    exact ⟨_, rfl, wpAny_pure ⟨_, rfl, hq⟩⟩
theorem sortedAll_old {h : Heap} {vs : List Value} {out : Array Value} {b : Addr} {o : Obj} (e : h.get? b = some o) : (sortedAll h vs out).get? b = some o := by
  have hlt := Heap.lt_size e
  have c : (copyHeap h vs).get? b = some o := copyHeap_old e
  show (sortedHeap (copyHeap h vs) (h.objs.size + 1) vs out).get? b = some o
  rw [sortedHeap_old (Nat.ne_of_lt (Nat.lt_succ_of_lt hlt)) (Heap.lt_size c), c]
theorem sortedAll_at (h : Heap) (vs : List Value) (out : Array Value) : ∃ n, (sortedAll h vs out).get? (h.objs.size + 1) = some (seqObj "list" out n) := sortedHeap_at (copyHeap_at h vs)
end
/-- the order of plain data -/
def sortD (a : List D) : List D := a.mergeSort fun x y => !ltD y x
def alikeD (x y : D) : Bool := alike (toP x) (toP y)
/-- may be sorted: plain, alike two by two, no None, no empty tuple -/
def srtC (a : List D) : Bool := decide (a.length ≤ sizeLine) && a.all (pl 40) && (a.all fun x => a.all fun y => alikeD x y) && ((a.all fun x => match x with | .tup (_ :: _) => true | _ => false) || (a.all fun x => match x with | .non => false | .tup _ => false | _ => true))
theorem srtC_of {a : List D} (h : srtC a = true) : a.length ≤ sizeLine ∧ (∀ x ∈ a, pl 40 x = true) ∧ AllAlike (a.map toP) ∧ Sortable (a.map toP) := by
  unfold srtC at h
  simp only [Bool.and_eq_true, decide_eq_true_eq, List.all_eq_true, Bool.or_eq_true] at h
  obtain ⟨⟨⟨h1, h2⟩, h3⟩, h4⟩ := h
  refine ⟨h1, h2, fun d hd d' hd' => ?_, ?_⟩
  · obtain ⟨x, hx, rfl⟩ := List.mem_map.mp hd
    obtain ⟨y, hy, rfl⟩ := List.mem_map.mp hd'
    exact h3 x hx y hy
  · rcases h4 with h4 | h4
    · refine .inl fun d hd => ?_
      obtain ⟨x, hx, rfl⟩ := List.mem_map.mp hd
      have := h4 x hx
      cases x with
      | tup xs =>
        cases xs with
        | nil => cases this
        | cons y ys => exact ⟨toP y, toPs ys, by rw [toP, toPs]⟩
      | _ => cases this
    · refine .inr fun d hd => ?_
      obtain ⟨x, hx, rfl⟩ := List.mem_map.mp hd
      have := h4 x hx
      cases x <;> first | (cases this; done) | (exact ⟨(by simp [toP]), fun xs => by simp [toP]⟩)
section
variable {X : Cx}
theorem each_of {K : PySem.W.Frag} {O : Addr → Prop} {H : Hp} {s : Shared} (hf : HF K H s) : ∀ {ds : List D} {vs : List V} {us : List Value}, (∀ x ∈ ds, pl 40 x = true) → Reps K O H vs ds → Vals vs us →
    EachIs (fun (u : Value) (b : D × V) => RelV b.2 u ∧ Rep K O H b.2 b.1) us (ds.zip vs) ∧ EachIs (fun (u : Value) (b : D × V) => ∃ as, Reads s.heap u (toP b.1) as) us (ds.zip vs)
  | _, _, _, _, .nil, .nil => ⟨.nil, .nil⟩
  | d :: ds, v :: vs, u :: us, p, .cons r rs, .cons rv rvs => by
    obtain ⟨a, b⟩ := each_of hf (fun x hx => p x (List.mem_cons_of_mem _ hx)) rs rvs
    exact ⟨.cons ⟨rv, r⟩ a, .cons (reads_of hf (p d (by simp)) r rv) b⟩
theorem each_back {K : PySem.W.Frag} {O : Addr → Prop} {H : Hp} : ∀ {us : List Value} {bs : List (D × V)}, EachIs (fun (u : Value) (b : D × V) => RelV b.2 u ∧ Rep K O H b.2 b.1) us bs → Vals (bs.map (·.2)) us ∧ Reps K O H (bs.map (·.2)) (bs.map (·.1))
  | _, _, .nil => ⟨.nil, .nil⟩
  | _, _, .cons h t => by
    obtain ⟨a, b⟩ := each_back t
    exact ⟨.cons h.1 a, .cons h.2 b⟩
theorem zipD_fst : ∀ {ds : List D} {vs : List V}, vs.length = ds.length → (ds.zip vs).map (·.1) = ds := fun h => zip_fst h
theorem sort_fst {ds : List D} {vs : List V} (h : vs.length = ds.length) : ((ds.zip vs).mergeSort (dataLe false fun b => toP b.1)).map (·.1) = sortD ds := by
  have e := List.map_mergeSort (l := ds.zip vs) (r := dataLe false fun b : D × V => toP b.1) (s := fun x y => !ltD y x) (f := fun b : D × V => b.1) (fun a _ b _ => by rw [dataLe_eq]; rfl)
  rw [e, zip_fst h]
  rfl
/-- sorted(x) -/
def oSorted : OFn := fun ds => match ds with
  | [.lst a] => if srtC a = true then some (.lst (sortD a), .ow) else none
  | [.tup a] => if srtC a = true then some (.lst (sortD a), .ow) else none
  | _ => none
/-- what its call asks -/
def rSortedD (K : PySem.W.Frag) : List V → Hp → VK → Prop := fun vs H Q => ∃ (p : Addr) (xs : List V) (ds : List D) (O : Addr → Prop), vs = [.ref p] ∧ (Rd H p (.lst xs) ∨ SqT K H p xs) ∧ Reps K O H xs ds ∧ srtC ds = true ∧
  ∀ (l : Addr) (ys : List V), H l = none → Reps K O H ys (sortD ds) → Q (.ref l) (upd H l (.lst ys))
theorem cr_sortedD (hu : X.A.units + 64 < cLine) : CallR X (.builtin "sorted") (rSortedD X.K) := by
  intro pins s σ H vs us Q I r h
  obtain ⟨p, xs, ds, O, rfl, hp, rp, hc, q⟩ := h
  obtain ⟨c1, c2, c3, c4⟩ := srtC_of hc
  have hf := hf_of I
  cases r with
  | cons r1 rr =>
    cases rr
    rename_i u
    obtain rfl : u = Value.ref p := r1
    have key : ∀ its : List Value, Vals xs its → (s.heap.IsList p its.toArray ∨ s.heap.IsTuple p its.toArray) → wpAny (model X.prog X.w) X.A (call (.builtin "sorted") [.ref p]) (EP X pins σ Q) X.xe s := by
      intro its vi hs
      obtain ⟨e1, e2⟩ := each_of hf c2 rp vi
      have hbl : (ds.zip xs).length = ds.length := by rw [List.length_zip, rp.length, Nat.min_self]
      have em : (ds.zip xs).map (fun b => toP b.1) = ds.map toP := by
        have : (ds.zip xs).map (fun b => toP b.1) = ((ds.zip xs).map (·.1)).map toP := by rw [List.map_map]; rfl
        rw [this, zip_fst rp.length]
      have fin : ∀ out : List Value, out.length = (ds.zip xs).length → EachIs (fun (u : Value) (b : D × V) => RelV b.2 u ∧ Rep X.K O H b.2 b.1) out ((ds.zip xs).mergeSort (dataLe false fun b => toP b.1)) →
          EP X pins σ Q (.ref (s.heap.objs.size + 1)) { s with heap := sortedAll s.heap its (List.toArray out) } := by
        intro out ho eo
        obtain ⟨b1, b2⟩ := each_back eo
        rw [sort_fst rp.length] at b2
        obtain ⟨n, hn⟩ := sortedAll_at s.heap its (List.toArray out)
        have hlen : (((ds.zip xs).mergeSort (dataLe false fun b => toP b.1)).map (·.2)).length ≤ sizeLine := by
          rw [List.length_map, List.length_mergeSort, hbl]
          exact c1
        have ob : ObjOk X.prog X.w (upd H (s.heap.objs.size + 1) (.lst (((ds.zip xs).mergeSort (dataLe false fun b => toP b.1)).map (·.2)))) (sortedAll s.heap its (List.toArray out)) (s.heap.objs.size + 1) (.lst (((ds.zip xs).mergeSort (dataLe false fun b => toP b.1)).map (·.2))) := ⟨hlen, out, n, b1, hn⟩
        exact ⟨.ref (s.heap.objs.size + 1), _, I.laid (t' := s.toks) (fun b o e => sortedAll_old e) (Nat.le_succ _) ob, rfl, q _ _ (I.hok.fresh (Nat.le_succ _)) b2⟩
      have hub : ∀ b, b ∈ ds.zip xs → X.A.units + 2 + (toP b.1).depth < cLine := fun b hb => by
        have hm : b.1 ∈ ds := (List.of_mem_zip (a := b.1) (b := b.2) hb).1
        have := (plain_toP _ _ (c2 _ hm)).2
        omega
      rcases hs with hs | hs
      · exact sorted_data (enc := fun b => toP b.1) hs e1 e2 (by rw [em]; exact c3) (by rw [em]; exact c4) (by rw [hbl]; exact c1) hub fin
      · exact sorted_tup (enc := fun b => toP b.1) hs e1 e2 (by rw [em]; exact c3) (by rw [em]; exact c4) (by rw [hbl]; exact c1) hub fin
    rcases hp with hp | hp
    · obtain ⟨its, vi, hl⟩ := hf.lst _ _ hp
      exact key its vi (.inl hl)
    · obtain ⟨its, vi, hl⟩ := hf.tup _ _ hp
      exact key its vi (.inr hl)
theorem c_sorted (hu : X.A.units + 64 < cLine) : CallD X (.builtin "sorted") oSorted := by
  refine ⟨_, cr_sortedD hu, fun g F H vs ds d k Q G r ho q => ?_⟩
  have fin : ∀ {p : Addr} {xs : List V} {a : List D}, Rd H p (.lst xs) ∨ SqT X.K H p xs → Reps X.K (Av g F) H xs a → srtC a = true → d = .lst (sortD a) → k = .ow → rSortedD X.K [.ref p] H Q := by
    intro p xs a hp rp hc hd hk
    subst hd hk
    exact ⟨p, xs, a, _, rfl, hp, rp, hc, fun l ys hl ry => q _ _ (same_upd hl) (res_new hl ry)⟩
  unfold oSorted at ho
  split at ho
  · split at ho
    · rename_i hc
      cases ho
      cases r with
      | cons r1 rr =>
        cases rr
        obtain ⟨p1, x1, rfl, h1, s1⟩ := r1.lst
        exact fin (.inl h1) s1 hc rfl rfl
    · cases ho
  · split at ho
    · rename_i hc
      cases ho
      cases r with
      | cons r1 rr =>
        cases rr
        obtain ⟨p1, x1, rfl, h1, s1⟩ := r1.tup
        exact fin (.inr h1) s1 hc rfl rfl
    · cases ho
  · cases ho
end
end DL
/-! D-layer, part Cc: x.extend(e), x.append(y.pop(e)), list(range(n)); dicts: {}, k in d, d[k] = v, min(d). -/
namespace DL
open PySem PySem.Spec PyProof.Rows L2 PySem.W
section
variable {X : Cx}
/-- x.extend(t), t a tuple -/
def rExtT (K : PySem.W.Frag) : V → List V → Hp → VK → Prop := fun x vs H Q => ∃ l b xs zs, x = .ref l ∧ vs = [.ref b] ∧ H l = some (.lst xs) ∧ SqT K H b zs ∧ xs.length + zs.length ≤ sizeLine ∧ Q .non (upd H l (.lst (xs ++ zs)))
theorem mt_extT : MtM X "list.extend" (rExtT X.K) := by
  intro pins s σ H x vs v us Q I rx rv h
  obtain ⟨l, b, xs, zs, rfl, rfl, hH, hB, hz, q⟩ := h
  cases rx
  obtain ⟨u, rfl, ru⟩ := rv.one
  cases ru
  obtain ⟨z, its, n, r, hl, e⟩ := I.lstM hH
  obtain ⟨its2, r2, ⟨o2, e2, c2, n2, d2⟩, z2⟩ := I.tuple hB
  have hl2 := r2.length
  have hs : its.toArray.size + its2.toArray.size ≤ sizeLine := by rw [List.size_toArray, List.size_toArray]; omega
  have hno : ¬ (!its.toArray.isEmpty && Builtin.List.listTooLong (its.toArray.size + its2.toArray.size)) = true := by
    rw [notLongL hs, Bool.and_false]
    exact Bool.false_ne_true
  have hcls : (Value.type "tuple" == Value.type "tuple") = true := by rfl
  have hzz : its.toArray.size ≤ sizeLine := by rw [List.size_toArray]; omega
  refine wpAny_call_entry F.slot_list_extend ⟨_, e, rfl⟩ F.entry_list_extend ?_ (F.args_list_extend_2 _ _)
  show wpAny _ _ (Builtin.List.listExtendWith (.ref l) (.ref b) .none) _ _ s
  unfold Builtin.List.listExtendWith
  refine wpAny_bind (wpAny_typeOf (T := "tuple") ⟨o2, e2, c2⟩ ?_)
  rw [if_pos (by rw [hcls]; simp)]
  refine wpAny_bind (listItems_at e2 d2 (wpAny_bind (listItems_at e rfl ?_)))
  rw [if_neg hno]
  refine wpAny_bind (listUpdate_at e rfl ?_ hzz (by rw [Array.size_append]; omega))
  refine wpAny_pure ⟨_, rfl, ?_⟩
  refine ⟨.non, _, I.lset (its' := its ++ its2) (t' := s.toks) hH e (by simp) (r.append r2) ?_, rfl, q⟩
  rw [List.length_append]
  omega
/-- one of two -/
theorem mt_extA : MtM X "list.extend" (fun x vs H Q => rExtend x vs H Q ∨ rExtT X.K x vs H Q) := by
  intro pins s σ H x vs v us Q I rx rv h
  rcases h with h | h
  · exact mt_extend pins s σ H x vs v us Q I rx rv h
  · exact mt_extT pins s σ H x vs v us Q I rx rv h
/-! ### x.extend(e) -/
theorem Rd1.lstH {K : PySem.W.Frag} {g : Gh} {F : Fp} {H : Hp} {v : V} {ds : List D} (r : Rd1 K g F H v (.lst ds)) : ∃ p xs, v = .ref p ∧ H p = some (.lst xs) ∧ Reps K (Av g F) H xs ds := by
  rcases r with r | ⟨p, e, n, xs, h, r⟩
  · cases r with
    | lst h n r => exact ⟨_, _, rfl, h, r⟩
  · exact ⟨p, xs, e, h, r⟩
def hExt (i : Nat) (f : EF) : HF' := fun ρ δ => match ρ[i]? with
  | some (.ow (.lst xs)) => (f ρ δ).bind fun p => match p.1 with
    | .lst zs => if xs.length + zs.length ≤ sizeLine then some (.nx, ρ.set i (.ow (.lst (xs ++ zs))), p.2.2) else none
    | .tup zs => if xs.length + zs.length ≤ sizeLine then some (.nx, ρ.set i (.ow (.lst (xs ++ zs))), p.2.2) else none
    | _ => none
  | _ => none
theorem ds_extend {i : Nat} {x : Str} {e : Expr} {f : EF} {px pa pc pos : Pos} (hx : PE X (.Name x px) (tVar i)) (he : DE X e f) (hse : starEach [e] X.env = (false, eval e X.env) :: starEach [] X.env := by rfl)
    (hs : swapsWith (.Call (.Attribute (.Name x px) "extend" pa) [e] [] pc) none pos.line X.env = pure false := by rfl)
    (hm : PE X (.Name x px) (tVar i) → ∀ t, PA X [e] t → PE X (.Call (.Attribute (.Name x px) "extend" pa) [e] [] pc) (tBM X.K "list" (fun x vs H Q => rExtend x vs H Q ∨ rExtT X.K x vs H Q) (tVar i) t) := by
      exact fun h1 t h2 => pe_bm PySem.F.plainAttrs_list PySem.F.slot_list_extend PySem.F.type_list_extend mt_extA h1 h2) : DS X (.Expr (.Call (.Attribute (.Name x px) "extend" pa) [e] [] pc) pos) (hExt i f) := by
  obtain ⟨t, p, x'⟩ := he.ex
  refine ⟨_, ps_expr (hm hx _ (pa_cons p pa_nil hse)) hs, fun H0 g F σ H ρ δ o ρ' δ' D' S W hf q => ?_⟩
  unfold hExt at hf
  split at hf
  · rename_i xs e0
    cases e1 : f ρ δ with
    | none => rw [e1] at hf; cases hf
    | some c =>
      obtain ⟨d, k, δ1⟩ := c
      rw [e1] at hf
      simp only [Option.bind_some] at hf
      obtain ⟨a, vs, a1, a2, a3, a4⟩ := own_at S e0
      refine ⟨_, a1, .inl ⟨rfl, _, .inl (.inl a3)⟩, x' g F σ H ρ δ d k _ _ S e1 fun v H1 k1 S1 r1 => ?_⟩
      obtain ⟨b, vs', b1, b2, b3, b4⟩ := own_at S1 e0
      rw [a1] at b1
      cases b1
      split at hf
      · split at hf
        · rename_i hl
          cases hf
          obtain ⟨c, ws, rfl, c1, c2⟩ := (r1.rd S.good).lstH
          refine .inl ⟨a, c, vs', ws, rfl, rfl, b3, c1, by rw [b4.length, c2.length]; exact hl, ?_⟩
          obtain ⟨S2, W2⟩ := turned S1 (W.grow k1) e0 a1 b2 b3 (b4.append c2)
          exact q F σ _ S2 W2
        · cases hf
      · split at hf
        · rename_i hl
          cases hf
          obtain ⟨c, ws, rfl, c1, c2⟩ := (r1.rd S.good).tup
          refine .inr ⟨a, c, vs', ws, rfl, rfl, b3, c1, by rw [b4.length, c2.length]; exact hl, ?_⟩
          obtain ⟨S2, W2⟩ := turned S1 (W.grow k1) e0 a1 b2 b3 (b4.append c2)
          exact q F σ _ S2 W2
        · cases hf
      · cases hf
  · cases hf
/-! ### x.append(y.pop(e)) -/
def hAppPop (i j : Nat) (f : EF) : HF' := fun ρ δ => match ρ[i]?, ρ[j]? with
  | some (.ow (.lst xs)), some (.ow (.lst ys)) => (f ρ δ).bind fun p => match p.1 with
    | .int z => (ixN ys.length z).bind fun k => (ys[k]?).bind fun d => if xs.length < sizeLine ∧ ys.length ≤ sizeLine then some (.nx, (ρ.set j (.ow (.lst (ys.eraseIdx k)))).set i (.ow (.lst (xs ++ [d]))), p.2.2) else none
    | _ => none
  | _, _ => none
theorem ds_appPop {i j : Nat} {x y : Str} {e : Expr} {f : EF} {px pa pc py pb pd pos : Pos} (hij : i ≠ j) (hx : PE X (.Name x px) (tVar i)) (hy : PE X (.Name y py) (tVar j)) (he : DE X e f) (hse : starEach [e] X.env = (false, eval e X.env) :: starEach [] X.env := by rfl)
    (hse2 : starEach [.Call (.Attribute (.Name y py) "pop" pb) [e] [] pd] X.env = (false, eval (.Call (.Attribute (.Name y py) "pop" pb) [e] [] pd) X.env) :: starEach [] X.env := by rfl)
    (hs : swapsWith (.Call (.Attribute (.Name x px) "append" pa) [.Call (.Attribute (.Name y py) "pop" pb) [e] [] pd] [] pc) none pos.line X.env = pure false := by rfl)
    (hm : PE X (.Name y py) (tVar j) → ∀ t, PA X [e] t → PE X (.Call (.Attribute (.Name y py) "pop" pb) [e] [] pd) (tBM X.K "list" rPopAt (tVar j) t) := by
      exact fun h1 t h2 => pe_bm PySem.F.plainAttrs_list PySem.F.slot_list_pop PySem.F.type_list_pop mt_popAt h1 h2)
    (hm2 : PE X (.Name x px) (tVar i) → ∀ t, PA X [.Call (.Attribute (.Name y py) "pop" pb) [e] [] pd] t → PE X (.Call (.Attribute (.Name x px) "append" pa) [.Call (.Attribute (.Name y py) "pop" pb) [e] [] pd] [] pc) (tBM X.K "list" rAppend (tVar i) t) := by
      exact fun h1 t h2 => pe_bm PySem.F.plainAttrs_list PySem.F.slot_list_append PySem.F.type_list_append mt_append h1 h2) :
    DS X (.Expr (.Call (.Attribute (.Name x px) "append" pa) [.Call (.Attribute (.Name y py) "pop" pb) [e] [] pd] [] pc) pos) (hAppPop i j f) := by
  obtain ⟨t, p, x'⟩ := he.ex
  refine ⟨_, ps_expr (hm2 hx _ (pa_cons (hm hy _ (pa_cons p pa_nil hse)) pa_nil hse2)) hs, fun H0 g F σ H ρ δ o ρ' δ' D' S W hf q => ?_⟩
  unfold hAppPop at hf
  split at hf
  · rename_i xs ys e0 e0'
    cases e1 : f ρ δ with
    | none => rw [e1] at hf; cases hf
    | some c =>
      obtain ⟨d, k, δ1⟩ := c
      rw [e1] at hf
      simp only [Option.bind_some] at hf
      cases d with
      | int z =>
        dsimp only at hf
        cases e2 : ixN ys.length z with
        | none => rw [e2] at hf; cases hf
        | some kk =>
          rw [e2] at hf
          simp only [Option.bind_some] at hf
          cases e3 : ys[kk]? with
          | none => rw [e3] at hf; cases hf
          | some d2 =>
            rw [e3] at hf
            simp only [Option.bind_some] at hf
            split at hf
            · rename_i hl
              cases hf
              obtain ⟨a, vs, a1, a2, a3, a4⟩ := own_at S e0
              obtain ⟨c, us, c1, c2, c3, c4⟩ := own_at S e0'
              refine ⟨_, a1, .inl ⟨rfl, _, .inl (.inl a3)⟩, ?_⟩
              refine ⟨_, c1, .inl ⟨rfl, _, .inl (.inl c3)⟩, x' g F σ H ρ δ _ k _ _ S e1 fun v H1 k1 S1 r1 => ?_⟩
              obtain ⟨b, us', b1, b2, b3, b4⟩ := own_at S1 e0'
              rw [c1] at b1
              cases b1
              obtain ⟨h1, h2, h3, h4⟩ := ixN_seq e2
              obtain ⟨w, w1, w2⟩ := b4.getD e3
              have hv := (r1.rd S.good).int
              subst hv
              have hn := line63
              refine ⟨c, us', z, kk, w, rfl, rfl, b3, by omega, by omega, by rw [b4.length]; exact h1, w1, ?_⟩
              obtain ⟨S2, W2⟩ := turned S1 (W.grow k1) e0' c1 b2 b3 (b4.eraseIdx kk)
              have hi : (ρ.set j (.ow (.lst (ys.eraseIdx kk))))[i]? = some (.ow (.lst xs)) := by rw [List.getElem?_set_ne (Ne.symm hij)]; exact e0
              obtain ⟨l, vs', l1, l2, l3, l4⟩ := own_at S2 hi
              rw [a1] at l1
              cases l1
              have w3 : Rep X.K (Av g F) (upd H1 c (.lst (us'.eraseIdx kk))) w d2 := w2.keep (P := fun a => a = c) (keep_upd (o' := .lst (us'.eraseIdx kk)) b3 trivial trivial rfl) fun a z => by rw [z]; exact .inr (.inr ⟨j, by rw [b2]; simp⟩)
              refine ⟨a, vs', w, rfl, rfl, l3, by rw [l4.length]; exact hl.1, ?_⟩
              obtain ⟨S3, W3⟩ := turned S2 W2 hi a1 l2 l3 (l4.append (.cons w3 .nil))
              exact q F σ _ S3 W3
            · cases hf
      | _ => cases hf
  · cases hf
/-! ### list(range(n)) -/
noncomputable def fLRg (f : EF) : EF := fun ρ δ => (f ρ δ).bind fun p => match p.1 with
  | .int z => if cRng z ∧ z ≤ 16777216 then some (.lst (rng 0 z.toNat), .ow, p.2.2) else none
  | _ => none
theorem de_listRg {a : Expr} {f : EF} {p p2 pos pos2 : Pos} (hc : X.calm = true) (hg : Gl X "list") (hm : X.mg "list" = none) (hg2 : Gl X "range") (hm2 : X.mg "range" = none) (ha : DE X a f)
    (na : starEach [a] X.env = (false, eval a X.env) :: starEach [] X.env := by rfl) (na2 : starEach [.Call (.Name "range" p2) [a] [] pos2] X.env = (false, eval (.Call (.Name "range" p2) [a] [] pos2) X.env) :: starEach [] X.env := by rfl) :
    DE X (.Call (.Name "list" p) [.Call (.Name "range" p2) [a] [] pos2] [] pos) (fLRg f) := by
  obtain ⟨t, pa, x⟩ := ha.ex
  refine ⟨_, pe_listRg hc hg hm (prg_1 hg2 hm2 pa na) na2, fun g F σ H ρ δ d k δ' Q S hf q => ?_⟩
  unfold fLRg at hf
  cases e1 : f ρ δ with
  | none => rw [e1] at hf; cases hf
  | some c =>
    obtain ⟨d0, k0, δ1⟩ := c
    rw [e1] at hf
    simp only [Option.bind_some] at hf
    cases d0 with
    | int z =>
      dsimp only at hf
      split at hf
      · rename_i hz
        cases hf
        refine x g F σ H ρ δ _ k0 _ _ S e1 fun v H1 k1 S1 r1 => ⟨z, (r1.rd S.good).int, ?_, fun b hb => ?_⟩
        · obtain ⟨⟨h1, h2⟩, h3⟩ := hz
          refine ⟨by decide, by decide, h1, h2, ?_⟩
          omega
        · have rr : Reps X.K (Av g F) H1 (rgV 0 z) (rng 0 z.toNat) := by
            unfold rgV rng
            have e : (z - 0).toNat = z.toNat := by rw [Int.sub_zero]
            rw [e]
            have e2 : (List.range z.toNat).map (fun i => V.int (0 + (i : Nat))) = ((List.range z.toNat).map fun (i : Nat) => (0 + (i : Int))).map V.int := by rw [List.map_map]; rfl
            have e3 : (List.range z.toNat).map (fun i => D.int (0 + (i : Nat))) = ((List.range z.toNat).map fun (i : Nat) => (0 + (i : Int))).map D.int := by rw [List.map_map]; rfl
            rw [e2, e3]
            exact Reps.of_ints _
          exact q _ _ (k1.trans (Keep.of_same (same_upd hb))) (S1.same (same_upd hb)) ((res_new hb rr).earlier k1)
      · cases hf
    | _ => cases hf
/-! ### dicts -/
def fDic0 : EF := fun _ δ => some (.dic [], .ow, δ)
theorem de_dic0 {pos : Pos} : DE X (.Dict [] [] pos) fDic0 := by
  refine ⟨_, pe_dnewK, fun g F σ H ρ δ d k δ' Q S hf q => ?_⟩
  cases hf
  exact fun p hp => q _ _ (Keep.of_same (same_upd hp)) (S.same (same_upd hp)) (res_newD hp rfl .nil)
/-- k in d, k not in d -/
def rInK (b : Bool) : R2 := fun y x H Q => ∃ a kvs k, x = .ref a ∧ y = kV k ∧ H a = some (.dK kvs) ∧ Q (.bl (if b then !(valV kvs k).isSome else (valV kvs k).isSome)) H
theorem op_inK (hu : X.A.units + 64 < cLine) : OpR X (compareOp .In) (rInK false) := by
  intro pins s σ H y x u v Q I ry rx h
  obtain ⟨a, kvs, k, rfl, rfl, e, q⟩ := h
  cases rx
  have g : DGet H a (kV k) (valV kvs k) := .k e
  exact d_in (by omega) I g ry fun s' I' => ⟨.bl _, H, I', rfl, q⟩
theorem op_notInK (hu : X.A.units + 64 < cLine) : OpR X (compareOp .NotIn) (rInK true) := by
  intro pins s σ H y x u v Q I ry rx h
  obtain ⟨a, kvs, k, rfl, rfl, e, q⟩ := h
  cases rx
  have g : DGet H a (kV k) (valV kvs k) := .k e
  exact d_notIn (by omega) I g ry fun s' I' => ⟨.bl _, H, I', rfl, q⟩
def oInA : OF2 := fun y x => match x with
  | .dic ds => (keyOf y).map fun k => (.bl (getD' ds k).isSome, .sh)
  | _ => oIn y x
def oNotInA : OF2 := fun y x => match x with
  | .dic ds => (keyOf y).map fun k => (.bl (!(getD' ds k).isSome), .sh)
  | _ => oNotIn y x
theorem o_inA (hu : X.A.units + 64 < cLine) : Op2 X (compareOp .In) oInA := by
  obtain ⟨r0, hr0, hf0⟩ := o_in (X := X) hu
  refine ⟨_, hr0.or (op_inK hu), fun g F H y x dy dx d k Q G r1 r2 ho q => ?_⟩
  unfold oInA at ho
  split at ho
  · rename_i ds
    cases e1 : keyOf dy with
    | none => rw [e1] at ho; cases ho
    | some kk =>
      rw [e1] at ho
      cases ho
      obtain ⟨a, kvs, rfl, h1, h2, h3⟩ := r2.dic
      refine .inr ⟨a, kvs, kk, rfl, keyOf_rd e1 r1, h1, ?_⟩
      rcases kvs_get kk h2 h3 with ⟨z1, z2⟩ | ⟨d', v, z1, z2, z3⟩
      · rw [z1] at q; rw [z2]; exact q _ H (Same.refl _) (.bl _)
      · rw [z1] at q; rw [z2]; exact q _ H (Same.refl _) (.bl _)
  · exact .inl (hf0 g F H y x dy _ d k Q G r1 r2 ho q)
theorem o_notInA (hu : X.A.units + 64 < cLine) : Op2 X (compareOp .NotIn) oNotInA := by
  obtain ⟨r0, hr0, hf0⟩ := o_notIn (X := X) hu
  refine ⟨_, hr0.or (op_notInK hu), fun g F H y x dy dx d k Q G r1 r2 ho q => ?_⟩
  unfold oNotInA at ho
  split at ho
  · rename_i ds
    cases e1 : keyOf dy with
    | none => rw [e1] at ho; cases ho
    | some kk =>
      rw [e1] at ho
      cases ho
      obtain ⟨a, kvs, rfl, h1, h2, h3⟩ := r2.dic
      refine .inr ⟨a, kvs, kk, rfl, keyOf_rd e1 r1, h1, ?_⟩
      rcases kvs_get kk h2 h3 with ⟨z1, z2⟩ | ⟨d', v, z1, z2, z3⟩
      · rw [z1] at q; rw [z2]; exact q _ H (Same.refl _) (.bl _)
      · rw [z1] at q; rw [z2]; exact q _ H (Same.refl _) (.bl _)
  · exact .inl (hf0 g F H y x dy _ d k Q G r1 r2 ho q)
/-- d[k] = v, d one's own -/
def hDPut (i : Nat) (fk fv : EF) : HF' := fun ρ δ => (fv ρ δ).bind fun p => if p.2.1 = .br then none else (fk ρ p.2.2).bind fun r => match ρ[i]? with
  | some (.ow (.dic ds)) => (keyOf r.1).bind fun k => if ds.length < sizeLine then some (.nx, ρ.set i (.ow (.dic (putD ds k p.1))), r.2.2) else none
  | _ => none
theorem own_dic {g : Gh} {F : Fp} {σ : L2.St} {ρ : Rho} {δ : Dr} {H : Hp} {i : Nat} {ds : List (Key × D)} (S : SR X.K g F σ ρ δ H) (e : ρ[i]? = some (.ow (.dic ds))) :
    ∃ p kvs, σ[i]? = some (some (.ref p)) ∧ F i = [p] ∧ H p = some (.dK kvs) ∧ kvs.map (·.1) = ds.map (·.1) ∧ Reps X.K (Av g F) H (kvs.map (·.2)) (ds.map (·.2)) := by
  obtain ⟨p, e3, e2, t⟩ := S.slot i _ e
  obtain ⟨kvs, h, e4, r⟩ := t
  exact ⟨p, kvs, e3, e2, h, e4, r⟩
theorem turnedD {g : Gh} {F : Fp} {σ : L2.St} {ρ : Rho} {δ : Dr} {H H0 : Hp} {i : Nat} {xs ys : List (Key × D)} {p : Addr} {vs ws : List (Key × V)} (S : SR X.K g F σ ρ δ H) (W : SH H0 g F H) (e : ρ[i]? = some (.ow (.dic xs))) (e3 : σ[i]? = some (some (.ref p))) (e2 : F i = [p])
    (h : H p = some (.dK vs)) (ek : ws.map (·.1) = ys.map (·.1)) (r : Reps X.K (Av g F) H (ws.map (·.2)) (ys.map (·.2))) : SR X.K g F σ (ρ.set i (.ow (.dic ys))) δ (upd H p (.dK ws)) ∧ SH H0 g F (upd H p (.dK ws)) := by
  have k : Keep (fun a => a = p) H (upd H p (.dK ws)) := keep_upd h trivial trivial rfl
  exact ⟨S.turn e e2 e3 k ⟨ws, upd_same, ek, r.keep k fun a z => by rw [z]; exact .inr (.inr ⟨i, by rw [e2]; simp⟩)⟩, W.turn e2 k⟩
theorem ds_dput {i : Nat} {x : Str} {ek ev : Expr} {fk fv : EF} {px ps pos : Pos} (hu : X.A.units + 64 < cLine) (hx : PE X (.Name x px) (tVar i)) (hk : DE X ek fk) (hv : DE X ev fv)
    (hs : swapsWith ev (some (.Subscript (.Name x px) ek ps)) pos.line X.env = pure false := by rfl) : DS X (.Assign [.Subscript (.Name x px) ek ps] ev pos) (hDPut i fk fv) := by
  obtain ⟨tk, pk, xk⟩ := hk.ex
  obtain ⟨tv, pv, xv⟩ := hv.ex
  refine ⟨_, ps_dput (by omega) hx pk pv hs, fun H0 g F σ H ρ δ o ρ' δ' D' S W hf q => ?_⟩
  unfold hDPut at hf
  cases e1 : fv ρ δ with
  | none => rw [e1] at hf; cases hf
  | some c =>
    obtain ⟨dv, kv, δ1⟩ := c
    rw [e1] at hf
    simp only [Option.bind_some] at hf
    split at hf
    · cases hf
    · rename_i hkv
      cases e2 : fk ρ δ1 with
      | none => rw [e2] at hf; cases hf
      | some c =>
        obtain ⟨dk, kk, δ2⟩ := c
        rw [e2] at hf
        simp only [Option.bind_some] at hf
        split at hf
        · rename_i ds e0
          cases e3 : keyOf dk with
          | none => rw [e3] at hf; cases hf
          | some key =>
            rw [e3] at hf
            simp only [Option.bind_some] at hf
            split at hf
            · rename_i hl
              cases hf
              refine xv g F σ H ρ δ dv kv δ1 _ S e1 fun v H1 k1 S1 r1 => ?_
              obtain ⟨a, kvs0, a1, a2, a3, a4, a5⟩ := own_dic S1 e0
              refine ⟨_, a1, ?_⟩
              refine xk g F σ H1 ρ δ1 dk kk _ _ S1 e2 fun y H2 k2 S2 r2 => ?_
              obtain ⟨b, kvs, b1, b2, b3, b4, b5⟩ := own_dic S2 e0
              rw [a1] at b1
              cases b1
              have hy := keyOf_rd e3 (r2.rd S1.good)
              subst hy
              have hlen : kvs.length < sizeLine := by
                have := congrArg List.length b4
                rw [List.length_map, List.length_map] at this
                omega
              have rv : Rep X.K (Av g F) H2 v dv := (r1.rep S.good hkv).keep k2 fun a z => .inr (.inl z)
              refine ⟨a, _, rfl, DPut.k (k := key) b3 hlen, ?_⟩
              obtain ⟨S3, W3⟩ := turnedD S2 ((W.grow k1).grow k2) e0 a1 b2 b3 (put_keys (k := key) (v := v) (d := dv) b4) (put_vals rv b4 b5)
              exact q F σ _ S3 W3
            · cases hf
        · cases hf
/-- min(d), d's keys ints -/
def intKs : List (Key × D) → Option (List Int)
  | [] => some []
  | (.inl i, _) :: r => (intKs r).map fun l => i :: l
  | _ => none
theorem intKs_some : ∀ {ds : List (Key × D)} {is : List Int}, intKs ds = some is → ds.map (·.1) = is.map Sum.inl
  | [], is, h => by cases h; rfl
  | (.inl i, d) :: r, is, h => by
    simp only [intKs] at h
    cases e : intKs r with
    | none => rw [e] at h; cases h
    | some l =>
      rw [e] at h
      cases h
      rw [List.map_cons, List.map_cons, intKs_some e]
  | (.inr _, _) :: _, _, h => by cases h
def minI : List Int → Option Int
  | [] => none
  | i :: r => some (r.foldl min i)
theorem minI_of {is : List Int} {m : Int} (h : minI is = some m) : ∀ n, n ∈ is → (∀ j ∈ is, n ≤ j) → n = m := by
  cases is with
  | nil => cases h
  | cons i r =>
    cases h
    have key : ∀ (r : List Int) (i : Int), (∀ j ∈ i :: r, r.foldl min i ≤ j) ∧ r.foldl min i ∈ i :: r := by
      intro r
      induction r with
      | nil => intro i; exact ⟨fun j hj => by simp at hj; subst hj; exact Int.le_refl _, by simp⟩
      | cons a r ih =>
        intro i
        obtain ⟨h1, h2⟩ := ih (min i a)
        refine ⟨fun j hj => ?_, ?_⟩
        · have h3 := h1 (min i a) (by simp)
          rw [List.foldl_cons]
          rcases List.mem_cons.mp hj with rfl | hj
          · omega
          · rcases List.mem_cons.mp hj with rfl | hj
            · omega
            · exact h1 j (by simp [hj])
        · rw [List.foldl_cons]
          rcases List.mem_cons.mp h2 with h | h
          · rw [h]
            by_cases hi : i ≤ a
            · rw [Int.min_eq_left hi]; simp
            · rw [Int.min_eq_right (by omega)]; simp
          · simp [h]
    obtain ⟨k1, k2⟩ := key r i
    intro n hn hle
    have a1 := k1 n hn
    have a2 := hle _ k2
    omega
theorem minI_min {is : List Int} {m : Int} (h : minI is = some m) : m ∈ is ∧ ∀ j ∈ is, m ≤ j := by
  cases is with
  | nil => cases h
  | cons i r =>
    have ex : ∃ n ∈ i :: r, ∀ j ∈ i :: r, n ≤ j := by
      clear h
      induction r generalizing i with
      | nil => exact ⟨i, by simp, fun j hj => by simp at hj; subst hj; exact Int.le_refl _⟩
      | cons a r ih =>
        obtain ⟨n, h1, h2⟩ := ih a
        by_cases hc : i ≤ n
        · exact ⟨i, by simp, fun j hj => by
            rcases List.mem_cons.mp hj with rfl | hj
            · exact Int.le_refl _
            · exact Int.le_trans hc (h2 j hj)⟩
        · exact ⟨n, List.mem_cons_of_mem _ h1, fun j hj => by
            rcases List.mem_cons.mp hj with rfl | hj
            · omega
            · exact h2 j hj⟩
    obtain ⟨n, h1, h2⟩ := ex
    have := minI_of h n h1 h2
    subst this
    exact ⟨h1, h2⟩
def oMinK : OFn := fun ds => match ds with
  | [.dic kvs] => (intKs kvs).bind fun is => (minI is).map fun m => (.int m, .sh)
  | _ => none
theorem c_minK (hc : X.calm = true) : CallD X (.builtin "min") oMinK := by
  refine ⟨_, cr_minK hc, fun g F H vs ds d k Q G r ho q => ?_⟩
  unfold oMinK at ho
  split at ho
  · rename_i kvs
    cases e1 : intKs kvs with
    | none => rw [e1] at ho; cases ho
    | some is =>
      rw [e1] at ho
      simp only [Option.bind_some] at ho
      cases e2 : minI is with
      | none => rw [e2] at ho; cases ho
      | some m =>
        rw [e2] at ho
        cases ho
        cases r with
        | cons r1 rr =>
          cases rr
          obtain ⟨a, ks, rfl, h1, h2, h3⟩ := r1.dic
          refine ⟨a, ks, is, rfl, h1, h2.trans (intKs_some e1), (fun z => by rw [z] at e2; cases e2), fun n hn hle => ?_⟩
          rw [minI_of e2 n hn hle]
          exact q _ H (Same.refl _) (.int _)
  · cases ho
end
end DL
/-! D-layer, part Cx: an own error over Exception (own classes between) with one field, "at", stored by its own __init__; made, raised, caught, read, asked for its class. -/
namespace DL
open PySem PySem.Spec PyProof.Rows L2
namespace EX
open PySem.W PySem.Calls PySem.HandSPX
/-- the classes above the error's own: own ones, then Exception's chain -/
def up (cs : List Addr) : List Value := cs.map Value.ref ++ PySem.ESX.exTail
theorem up_free (self : Value) : ∀ cs : List Addr, refuseLoop self "__setattr__" (up cs) = pure ()
  | [] => PySem.F.store_Exception.passes self
  | c :: cs => by
    show refuseLoop self "__setattr__" (Value.ref c :: up cs) = pure ()
    rw [refuseLoop_ref, up_free self cs]
theorem up_has (X : String) : ∀ cs : List Addr, (up cs).contains (.type X) = PySem.ESX.exTail.contains (.type X)
  | [] => rfl
  | c :: cs => by
    show (Value.ref c :: up cs).contains (.type X) = _
    rw [List.contains_cons, up_has X cs]
    rfl
def initA (p1 p2 : Pos) : Arguments := { posonlyargs := [], args := [{ arg := "self", annotation := none, pos := p1 }, { arg := "at", annotation := none, pos := p2 }], vararg := none, kwonlyargs := [], kw_defaults := [], kwarg := none, defaults := [] }
def initB (q1 q2 q3 q4 : Pos) : List Stmt := [.Assign [.Attribute (.Name "self" q1) "at" q2] (.Name "at" q3) q4]
def initS : Scope := { kind := .function, names := [(PySem.Str.ofString "self", .local), (PySem.Str.ofString "at", .local)], isGenerator := false, isCoroutine := false, more := [] }
/-- what the top has written of the error n, its class at C, its __init__ at fI -/
structure ErrC (K : Frag) (mg : Str → Option Value) (n : Str) (C fI : Addr) : Prop where
  gl : mg n = some (.ref C)
  cl : ∃ nm q N bs cs sn sub ab col dd k0 k1 k2 k3 k5, K.lookup C = some (excClassObj nm q C N bs (up cs) true sn sub ab col dd k0 k1 k2 k3 k5 "Exception.__new__")
  st : findIn K (.ref C) "__setattr__" = some (some (.builtin "object.__setattr__"))
  ld : findIn K (.ref C) "__getattribute__" = some (some (.builtin "BaseException.__getattribute__"))
  lx : findIn K (.ref C) "__getattr__" = some none
  na : findIn K (.ref C) "at" = some none
  ic : findIn K (.ref C) "__init__" = some (some (.ref fI))
  it : typeIn K (.ref fI) = some (.type "function")
  kp : keepIn K (.ref C) = true
  be : subIn K (.ref C) (.type "BaseException") = some true
  ty : typeIn K (.ref C) = some (.type "type")
  hd : hasDictIn K C = true
  me : exmOne K (.ref C) (.ref C) = some true
  ca : findIn K (.ref C) "__class__" = some (some (.builtin "object.__class__"))
  sg : specialIn K (.builtin "object.__class__") "__get__" = some (some (.builtin "getset_descriptor.__get__"))
  tk : takesIn K (.builtin "object.__class__") = some true
  ob : mroIn K C (.type "object") = some true
  fn : ∃ (q : Str) (oc : Value) (od : Option Addr) (doc pm : Value) (an : Option Addr) (cdv ct : Value) (osl : Array (Option Value)) (p1 p2 q1 q2 q3 q4 : Pos),
    K.lookup fI = some ⟨oc, od, .func (fnOf "__init__" q (initA p1 p2) (initB q1 q2 q3 q4) initS .none .none doc pm an cdv ct), osl⟩ ∧ codeIn K cdv q = true
theorem me_of {K : Frag} {S T : Addr} {b : Bool} (h1 : subIn K (.ref S) (.type "BaseException") = some true) (h2 : isClsIn K S = true) (h3 : typeIn K (.ref S) = some (.type "type")) (h4 : subIn K (.ref T) (.ref S) = some b) : exmOne K (.ref T) (.ref S) = some b := by
  unfold exmOne kitCls
  have e2 : (clsIn K S).isSome = true := h2
  simp [h1, h3, h4, e2]
theorem kit_of {K : Frag} {S T : Addr} (h2 : isClsIn K S = true) (h3 : typeIn K (.ref S) = some (.type "type")) (h4 : subIn K (.ref T) (.ref S) = some true) : kitOne K (.ref T) (.ref S) = some true := by
  have e2 : (clsIn K S).isSome = true := h2
  unfold kitOne kitCls
  split
  · rfl
  · simp [h3, h4, e2]
section
open Builtin Builtin.ObjectAttr
variable {prog : Program} {w : World} {A : Around} {E : Value → Shared → Prop} {R : Result → Shared → Prop} {hp : Heap} {g : Array GenState} {d : Drawn} {t : Nat} {os : OsState}
/-- self.at = v on a fresh one -/
theorem put_at {K : Frag} {tk : Tok} {v : Value} {x C : Addr} {fv : Array Value} {cd : ClassData} {cs : List Addr}
    (X : K.In hp) (hx : hp.get? x = some { cls := .ref C, data := .fields fv }) (hcd : clsIn K C = some cd) (hm : cd.mro = up (C :: cs)) (hh : cd.hasDict = true) (ha : findIn K (.ref C) "at" = some none)
    (hq : ∀ h' tk' dx, (∀ b o, b ≠ x → hp.get? b = some o → h'.get? b = some o) → hp.objs.size ≤ dx → dx ≠ x → h'.get? x = some { cls := .ref C, dict := some dx, data := .fields fv } →
      h'.Ns1 dx (fun y => if y = "at" then some v else none) → R (.ok (.ret .none)) ⟨h', g, d, tk', os⟩) :
    codeAny (model prog w) A (.call (.builtin "object.__setattr__") ⟨[.ref x, .str "at" tk, v], []⟩) R ⟨hp, g, d, t, os⟩ := by
  have J : InstAt hp x { cls := .ref C, data := .fields fv } C none := ⟨hx, rfl, rfl, trivial⟩
  have SF := F.store_object
  have hne : cd.mro.isEmpty = false := by rw [hm]; rfl
  have hob : cd.mro.contains (.type "object") = true := by rw [hm, up_has "object" (C :: cs)]; decide +kernel
  have xs : x ≠ hp.objs.size := Nat.ne_of_lt (Heap.lt_size hx)
  have su : Looks (model prog w) hp (isInstance (.ref x) (.type "object")) true := J.type.andThen (looks_mroIn X (by unfold mroIn; rw [hcd, Option.bind_some, if_neg (by rw [hne]; decide), hob]))
  refine codeAny_call_builtin SF.slot.plain SF.entry (@check_slot (model prog w) _ _ ⟨hp, g, d, t, os⟩ "object.__setattr__" "object" "__setattr__" (.ref x) [.str "at" tk, v] [] _ SF.kind SF.split su (SF.args (.ref x) (.str "at" tk) v) ?_)
  have lm : Looks (model prog w) hp (mroOf (.ref C)) cd.mro := (looks_clsIn X hcd).andThen .now
  have ln : Looks (model prog w) hp (storeTaker? none) none := .now
  have lc : Looks (model prog w) hp (classData C) cd := looks_clsIn X hcd
  rw [osa_eq, refuse_eq]
  refine wpAny_bind (wpAny_bind (J.type.at (wpAny_bind (lm.at ?_))))
  rw [hm, up_free _ (C :: cs)]
  refine wpAny_pure (wpAny_bind (J.type.at (wpAny_bind ((looks_findIn X ha).at (wpAny_bind (ln.at ?_))))))
  show wpAny _ _ (storeInOwnDict (.ref x) (.ref C) (.str "at" tk) "at" v false) _ _ _
  obtain ⟨nm, bs, mro, ns, qn, hd, sn, sb, ab, col, del⟩ := cd
  dsimp only at hh
  subst hh
  unfold storeInOwnDict ownDictForStores
  repeat (first | with_reducible refine store_in_new ?_ ?_ | with_reducible refine wpAny_loadPart_at hx ?_ | with_reducible refine lc.at ?_ | wp_step)
  · exact ⟨_, #[], _, (Heap.get?_update_ne _ _ _ _ xs.symm).trans (Heap.get?_push_at rfl rfl), rfl, fun e he => absurd he (by simp), fun _ => rfl⟩
  · intro h' tk' hn' hs
    have hx1 : (hp.push { cls := .type "dict", data := .dict #[] }).get? x = some { cls := .ref C, data := .fields fv } := Heap.get?_push_of_some _ hx
    refine hq h' tk' hp.objs.size (fun b o hb ho => ?_) (Nat.le_refl _) xs.symm ?_ hn'
    · have e1 := hs.2 b (Nat.ne_of_lt (Heap.lt_size ho))
      exact e1.trans ((Heap.get?_update_ne _ _ _ _ hb).trans (Heap.get?_push_of_some _ ho))
    · exact (hs.2 x xs).trans (Heap.get?_update_self _ hx1 rfl)
end
theorem one_fits (v : Value) : [v].length ≤ sizeLine := by
  rw [sizeLine_eq]
  exact Nat.succ_le_of_lt (by decide : 0 < 16777216)
theorem ld_loc {M : Model} {s : Shared} {name : Str} {scope : Scope} {L a : Addr} {cd : Value} {m : Str → Option Value} {x : Str} {pos : Pos} {v : Value} {Q : Value → Shared → Prop} {A : Around} {E : Value → Shared → Prop} (hn : s.heap.Ns L m) (hv : m x = some v) (h : Q v s)
    (hk : scope.kind = .function := by rfl) (hl : (envOfC name scope L a cd).kindOf x = some .local := by rfl) (hd : (x == ("__debug__" : Str)) = false := by decide) :
    wpAny M A (eval (.Name x pos) (envOfC name scope L a cd)) Q E s := wpAny_Name (wpAny_loadName_local hk hl hn hv h) hd
/-- behind __init__ -/
structure Set1 (h h' : Heap) (x C dx t1 : Addr) (v : Value) : Prop where
  keep : ∀ b o, b ≠ x → h.get? b = some o → h'.get? b = some o
  obj : h'.get? x = some { cls := .ref C, dict := some dx, data := .fields #[.ref t1, .none, .none, .none, .bool false, .none] }
  big : h.objs.size ≤ dx
  ne : dx ≠ x
  ns : h'.Ns1 dx (fun y => if y = "at" then some v else none)
/-- one that is made -/
structure Made1 (h h' : Heap) (e C d : Addr) (v : Value) : Prop where
  keep : ∀ b o, h.get? b = some o → h'.get? b = some o
  new : h.objs.size ≤ e
  obj : ∃ oe vs, h'.get? e = some oe ∧ oe.cls = .ref C ∧ oe.dict = some d ∧ oe.data = .fields vs ∧ vs[1]? = some .none
  big : h.objs.size ≤ d
  ne : d ≠ e
  ns : h'.Ns1 d (fun y => if y = "at" then some v else none)
section
variable {prog : Program} {w : World} {A : Around} {E : Value → Shared → Prop} {R : Result → Shared → Prop} {s : Shared} {K : Frag} {mg : Str → Option Value} {n : Str} {C fI : Addr}
theorem run_init (T : ErrC K mg n C fI) {x t0 : Addr} {v : Value} (X : K.In s.heap) (hlim : s.heap.NoLimit) (hx : s.heap.get? x = some (excO C t0)) (hroom : A.depth < recursionLimit)
    (hq : ∀ h' tk dx, Set1 s.heap h' x C dx t0 v → R (.ok (.ret .none)) { s with heap := h', toks := tk }) :
    codeAny (model prog w) A (.call (.ref fI) ⟨[.ref x, v], []⟩) R s := by
  obtain ⟨q, oc, od, doc, pm, an, cdv, ct, osl, p1, p2, q1, q2, q3, q4, ho, hcd⟩ := T.fn
  obtain ⟨nm, qc, N, bs, cs, sn, sub, ab, col, dd, k0, k1, k2, k3, k5, hC⟩ := T.cl
  have hcl : clsIn K C = some { name := nm, bases := bs, mro := .ref C :: up cs, ns := N, qualname := qc, hasDict := true, slotNames := sn, subclasses := sub, abstract := ab, collection := col, hasDel := false } := by unfold clsIn; rw [hC] <;> rfl
  refine Att.call_fn (binds := [("self", .ref x), ("at", v)]) X hlim ho hcd hroom (BindsTo.of_eq (by first | rfl | with_unfolding_all rfl)) (by first | rfl | decide | with_unfolding_all rfl) (fun s₁ IC => ?_) rfl rfl rfl
  obtain ⟨h₁, tk₁, rfl⟩ := IC.toInCall.same
  have k : ∀ b o, s.heap.get? b = some o → h₁.get? b = some o := IC.toInCall.keep
  have hn := IC.toInCall.ns
  have hx1 := k _ _ hx
  have X1 : K.In h₁ := X.keeps k
  show wpAny _ _ (execs _ _) _ _ _
  refine wpAny_execs_cons (plainObj_wpAny_Assign_Attribute ?_)
  refine ld_loc (v := v) hn (by first | rfl | with_unfolding_all rfl | kernel_rfl) (ld_loc (v := .ref x) hn (by first | rfl | with_unfolding_all rfl | kernel_rfl) ?_)
  refine set_plain X1 (ox := excO C t0) (od := none) ⟨hx1, rfl, rfl, trivial⟩ T.st ?_
  refine put_at (cs := cs) X1 hx1 hcl rfl rfl T.na (fun h3 tk3 dx k3 dn dne hx3 hn3 => ?_)
  show wpAny _ _ (execs _ _) _ _ _
  have z : s.heap.objs.size < h₁.objs.size := hn.lt
  exact wpAny_execs_nil (hq h3 tk3 dx ⟨fun b o hb e => k3 b o hb (k b o e), hx3, Nat.le_of_lt (Nat.lt_of_lt_of_le z dn), dne, hn3⟩)
theorem run_made (T : ErrC K mg n C fI) {v : Value} (X : K.In s.heap) (hlim : s.heap.NoLimit) (hroom : A.depth + 1 < recursionLimit)
    (hq : ∀ h' tk e d, Made1 s.heap h' e C d v → R (.ok (.ret (.ref e))) { s with heap := h', toks := tk }) :
    codeAny (model prog w) A (.call (.ref C) ⟨[v], []⟩) R s := by
  obtain ⟨nm, qc, N, bs, cs, sn, sub, ab, col, dd, k0, k1, k2, k3, k5, hC⟩ := T.cl
  obtain ⟨hp, g, dr, tk, os⟩ := s
  have k : ∀ b o, hp.get? b = some o → ((hp.push (kdv_tup [v])).push (excO C hp.objs.size)).get? b = some o := fun b o e => Heap.get?_push_of_some _ (Heap.get?_push_of_some _ e)
  have at1 : ((hp.push (kdv_tup [v])).push (excO C hp.objs.size)).get? (hp.objs.size + 1) = some (excO C hp.objs.size) := by heap_get
  refine call_own F.excBase_Exception (fun Y => up_has Y cs) (X _ _ hC) (looks_findIn X T.ic) (fun self => bind_fn X self T.it) (one_fits v) ?_
  refine run_init (s := ⟨(hp.push (kdv_tup [v])).push (excO C hp.objs.size), g, dr, tk, os⟩) T (X.keeps k) (hlim.keeps k) at1 ?_ fun h' tk' dx ⟨k', hx, dn, dne, hns⟩ => ?_
  · show A.depth + 1 < recursionLimit
    exact hroom
  · have old : ∀ b o, hp.get? b = some o → h'.get? b = some o := fun b o e => k' b o (Nat.ne_of_lt (Nat.lt_succ_of_lt (Heap.lt_size e))) (k b o e)
    have z : hp.objs.size + 1 + 1 ≤ dx := by
      first
        | (simpa only [Heap.size_push] using dn)
        | exact dn
        | (have q := dn; rw [Heap.size_push, Heap.size_push] at q; exact q)
    refine ⟨rfl, hq h' tk' (hp.objs.size + 1) dx ⟨old, Nat.le_succ _, ⟨_, _, hx, rfl, rfl, rfl, rfl⟩, ?_, dne, hns⟩⟩
    show hp.objs.size ≤ dx
    omega
end
theorem relO_at {v : V} {v' : Value} (r : RelV v v') (f : Str) : RelO (List.lookup f [(("at" : Str), v)]) (if f = "at" then some v' else none) := by
  by_cases hw : f = "at"
  · subst hw
    rw [if_pos rfl, show List.lookup ("at" : Str) [(("at" : Str), v)] = some v by simp [List.lookup]]
    exact r
  · have qw : (f == ("at" : Str)) = false := by simpa using hw
    rw [if_neg hw, show List.lookup f [(("at" : Str), v)] = none by simp [List.lookup, qw]]
    trivial
section
variable {X : Cx} {C fI : Addr} {n : Str}
/-- n(e) -/
def tMkE (C : Addr) (ta : TA) : L2.St → Hp → XK → Prop := fun σ H Q => ta σ H fun vs H1 => ∃ v, vs = [v] ∧ ∀ d, H1 d = none → Q (.ref C) (some d) (upd H1 d (.xd [(("at" : Str), v)]))
theorem pmk_err {a : Expr} {ta : TA} {p pos : Pos} {k : Nat} (T : ErrC X.K X.mg n C fI) (hr : Room k X.A) (ha : PA X [a] ta) (hg : Gl X n) (hdb : (n == ("__debug__" : Str)) = false)
    (he : starEach (a :: []) X.env = (false, eval a X.env) :: starEach [] X.env := by rfl) (hpl : (backTo pos (starEach [] X.env)).any (·.1) = false := by rfl) :
    PMk X (.Call (.Name n p) [a] [] pos) (tMkE C ta) := by
  intro pins s σ H Q I h
  refine wpAny_Call_Name_kw (ld_glob I hg T.gl ?_ hdb)
  refine callWith_K (h₀ := X.base) I.ok.mod.kin T.kp (thn (ha.run pos pins s σ H _ I h) fun us s1 hh => ?_) he hpl
  obtain ⟨vs, H1, I1, r1, v, ev, q1⟩ := hh
  subst ev
  refine ⟨I1.kIn, ?_⟩
  cases r1 with
  | cons rv rn =>
    rename_i v' us'
    cases rn
    show wpAny _ _ (call (.ref C) [v']) _ _ _
    have hlim := I1.nolimit
    obtain ⟨hp, g, dr, tk, os⟩ := s1
    refine wpAny_call (run_made T I1.kIn hlim (by have := hr.dp; omega) fun h' tk' e d M => ?_)
    show MkP X pins σ Q (.ref e) ⟨h', g, dr, tk', os⟩
    obtain ⟨oe, fv, hoe, hc, hd, hdat, h1⟩ := M.obj
    have hns := M.ns
    obtain ⟨G', g1, g2⟩ := restrict h' fun b => decide (b ≠ e)
    have gk : ∀ b, b ≠ e → G'.get? b = h'.get? b := fun b hb => g1 b (decide_eq_true hb)
    have ge : G'.get? e = none := g2 e (by simp)
    have old : ∀ b o, hp.get? b = some o → G'.get? b = some o := fun b o q => (gk b (Nat.ne_of_lt (Nat.lt_of_lt_of_le (Heap.lt_size q) M.new))).trans (M.keep b o q)
    have ob : ObjOk X.prog X.w (upd H1 d (.xd [(("at" : Str), v)])) G' d (.xd [(("at" : Str), v)]) :=
      ⟨_, hns.at (fun o q => (gk d M.ne).trans q), fun f => relO_at rv f⟩
    have J : Inv X pins σ (upd H1 d (.xd [(("at" : Str), v)])) ⟨G', g, dr, tk', os⟩ := I1.laid (t' := tk') old M.big ob
    refine ⟨e, oe, fv, ⟨G', g, dr, tk', os⟩, _, .ref C, some d, rfl, J, fun b o q => ?_, ge, hoe, ⟨hc, hd⟩, hdat, h1, ?_, rfl, I1.bare, raises_own T.be T.ty, q1 d (I1.hok.fresh M.big)⟩
    · by_cases hb : b = e
      · have q' : G'.get? b = some o := q
        rw [hb, ge] at q'; cases q'
      · exact (gk b hb).symm.trans q
    · rw [upd_ne (Ne.symm M.ne)]
      exact I1.hok.fresh M.new
/-- raise n(e) -/
def tRaiseE (C : Addr) (W : WX) (ta : TA) : TS := fun _ σ H => tMkE C ta σ H fun cls d H' => W cls d σ H'
theorem ps_raiseE {a : Expr} {ta : TA} {W : WX} {p pos pos2 : Pos} {k : Nat} (hc : X.calm = true) (T : ErrC X.K X.mg n C fI) (hr : Room k X.A) (tk : Takes X W) (ha : PA X [a] ta) (hg : Gl X n := by rfl) (hdb : (n == ("__debug__" : Str)) = false := by decide)
    (he : starEach (a :: []) X.env = (false, eval a X.env) :: starEach [] X.env := by rfl) (hpl : (backTo pos (starEach [] X.env)).any (·.1) = false := by rfl) :
    PS X (.Raise (some (.Call (.Name n p) [a] [] pos)) none pos2) (tRaiseE C W ta) := ps_raise hc tk (pmk_err T hr ha hg hdb he hpl)
/-- e.at, e what the suite holds -/
def tAtE (C : Addr) (a : Addr) (cls : Value) (d : Option Addr) (te : TE) : TE := fun σ H Q => te σ H fun x H1 => x = .ref a ∧ cls = .ref C ∧ ∃ (dd : Addr) (v : V), d = some dd ∧ H1 dd = some (.xd [(("at" : Str), v)]) ∧ Q v H1
theorem pe_atE {a : Addr} {oe : Obj} {cls : Value} {d : Option Addr} {pn : List (Addr × Obj)} {e : Expr} {te : TE} {pos : Pos} (T : ErrC X.K X.mg n C fI) (hz : Zc cls d oe) (hf : ∃ vs, oe.data = .fields vs) (he : PE (X.suite a ((a, oe) :: pn)) e te)
    (hb : attributeBase e "at" X.env (eval e X.env) = eval e X.env := by rfl) :
    PE (X.suite a ((a, oe) :: pn)) (.Attribute e "at" pos) (tAtE C a cls d te) := by
  refine ⟨fun pins s σ H Q I h => ?_⟩
  refine attr_of hb (thn (he.run pins s σ H _ I h) fun u s1 hh => ?_)
  obtain ⟨x, H1, I1, rx, ex, ec, dd, v, ed, ea, q⟩ := hh
  subst ex
  obtain rfl : u = Value.ref a := rx
  subst ec
  subst ed
  obtain ⟨ha, _⟩ := I1.pin (a, oe) (List.mem_append_left _ List.mem_cons_self)
  obtain ⟨vs, hd⟩ := hf
  have hx : ObjOk X.prog X.w H1 s1.heap dd (.xd [(("at" : Str), v)]) := I1.hok dd _ ea
  obtain ⟨mA, hns, hr⟩ := hx
  obtain ⟨od, ho, hl⟩ := lookIn_ns hns
  have l : List.lookup ("at" : Str) [(("at" : Str), v)] = some v := by simp [List.lookup]
  obtain ⟨u, hu, ru⟩ := RelO.some_of (v := v) (o := mA "at") (by rw [← l]; exact hr "at")
  have J : InstAt s1.heap a oe C (some od) := ⟨ha, hz.1, by unfold notCls; rw [hd] <;> rfl, by rw [hz.2]; exact ho⟩
  exact exc_get I1.kIn J T.ld T.lx T.be (findObj_own T.hd T.na rfl (by rw [hl, hu])) (handed_of ru) ⟨v, H1, I1.tok _, ru, q⟩
/-- isinstance(e, c), e what the suite holds -/
def rIsaE (K : Frag) (C a : Addr) (cls : Value) (d : Option Addr) : List V → Hp → VK → Prop := fun xs H Q => cls = .ref C ∧ ∃ (c : V) (cv : Value) (b : Bool) (dd : Addr) (fs : List (Str × V)), xs = [.ref a, c] ∧ (∀ u, RelV c u → u = cv) ∧ kitOne K (.ref C) cv = some b ∧ d = some dd ∧ H dd = some (.xd fs) ∧ Q (.bl b) H
theorem call_isaE {a : Addr} {oe : Obj} {cls : Value} {d : Option Addr} {pn : List (Addr × Obj)} (T : ErrC X.K X.mg n C fI) (hz : Zc cls d oe) (hf : ∃ vs, oe.data = .fields vs) : CallR (X.suite a ((a, oe) :: pn)) (.builtin "isinstance") (rIsaE X.K C a cls d) := by
  intro pins s σ H xs us Q I r h
  obtain ⟨ec, c, cv, b, dd, fs, rfl, hcv, e, hd, hdd, q⟩ := h
  subst hd
  subst ec
  cases r with
  | cons rx rr =>
    cases rr with
    | cons rt rr =>
      cases rr
      cases rx
      have ec := hcv _ rt
      subst ec
      obtain ⟨hget, _⟩ := I.pin (a, oe) (List.mem_append.mpr (.inl List.mem_cons_self))
      obtain ⟨vs, hv⟩ := hf
      have hx : ObjOk X.prog X.w H s.heap dd (.xd fs) := I.hok dd _ hdd
      obtain ⟨mA, hns, _⟩ := hx
      obtain ⟨od, ho, _⟩ := lookIn_ns hns
      have J : InstAt s.heap a oe C (some od) := ⟨hget, hz.1, by unfold notCls; rw [hv] <;> rfl, by rw [hz.2]; exact ho⟩
      have hcls : (clsIn X.K C).isSome = true := by
        obtain ⟨cd, hc, _⟩ := any_some T.hd
        rw [hc]; rfl
      exact kia_one (kitx_exc hcls T.ld T.lx T.be T.ca T.sg T.tk T.ob) I.kIn J e (fun z => nomatch z) fun tk => ⟨.bl b, H, I.kept (t' := tk) fun _ _ z => z, rfl, q⟩
end
/-! ### a call with keywords alone whose errors are wished for at the slots -/
def tKwS (m : Nat) (sp : Sp) (gV : List V → List V → List V) (E : L2.St → XK) (tk : TA) : TE := fun σ H Q => tk σ H fun zs H2 => zs.length = m ∧ sp (gV [] zs) H2 Q (E σ)
theorem pe_kwS {X : Cx} {CX : CXT} {k : Nat} {f : Addr} {fd : FuncData} {ps ks : List Str} {sp : Sp} {E : L2.St → XK} {x : Str} {p pos : Pos} {kws : List Keyword} {tk : TA} {g : List Value → List Value → List Value} {gV : List V → List V → List V} (F : FnOk X.prog X.w X.K X.mg X.base CX k f fd ps sp) (hr : Room k X.A) (hg : Gl X x) (hm : X.mg x = some (.ref f)) (hk : keepIn X.K (.ref f) = true) (hb : KBn X.K fd ps 0 ks g gV) (hx : ∀ σ, PassesAt CX X σ (E σ)) (hkw : PK X kws tk)
    (hall : (backToKw pos (keywordEach kws X.env)).all (·.1.isSome) = true := by rfl) (hks : (backToKw pos (keywordEach kws X.env)).filterMap (·.1) = ks := by rfl) (hdb : (x == ("__debug__" : Str)) = false := by decide)
    (hpl : ((backTo pos (starEach [] X.env)).any (·.1) || (backToKw pos (keywordEach kws X.env)).any (·.1.isNone)) = false := by rfl) :
    PE X (.Call (.Name x p) [] kws pos) (tKwS ks.length sp gV E tk) := by
  refine ⟨fun pins s σ H Q I h => ?_⟩
  refine wpAny_Call_Name_kw (ld_glob I hg hm ?_ hdb)
  refine callWith_KW0 (h₀ := X.base) I.ok.mod.kin hk hall ?_ hpl
  refine thn (hkw.run pos pins s σ H _ I h) fun ws s2 ⟨zs, H2, I2, rz, l2, q2⟩ => ⟨I2.kIn, ?_⟩
  rw [hks]
  have r2 := hb.rel (vs := []) (us := []) .nil rz
  refine wpAny_call (codeAny_mono (F.run X.A X.stack s2 H2 ⟨[], ks.zip ws⟩ (g [] ws) (gV [] zs) Q (E σ) hr I2.env0 (hb.to s2 [] ws I2.kIn rfl (rz.length.symm.trans l2)) r2 q2) fun r s' hq => ?_)
  cases r with
  | error e => exact hx σ pins H2 s2 e s' I2 hq
  | ok fl =>
    cases fl with
    | ret u => exact I2.after hq
    | next => exact False.elim hq
    | brk => exact False.elim hq
    | cont => exact False.elim hq
/-! ### a def that looks for the first wrong place and raises the error there -/
/-- on such data: nothing, where the place is below 0; else the error with the place -/
def spNd (K : Frag) (C : Addr) (n : Nat) (gf : List D → Option (D × Kd)) : Sp := fun vs H Q E => vs.length = n ∧ ∃ (A : Addr → Prop) (ds : List D) (z : Int), (∀ a, A a → H a ≠ none) ∧ Reps K A H vs ds ∧ gf ds = some (.int z, .sh) ∧
  (z < 0 → ∀ H', Same H H' → Q .non H') ∧ (0 ≤ z → ∀ H' d, Same H H' → H' d = none → E (.ref C) (some d) (upd H' d (.xd [(("at" : Str), .int z)])))
end EX
end DL
namespace W48
open PySem PySem.Spec PyProof.Rows L2 DL
/-! ### the text -/
def topS (i : Nat) : Stmt := PySem.Challenge.pw_eachtongue_k48_trace_programs_refused_at.main.body.getD i (.Pass ⟨0, 0, 0, 0⟩)
abbrev s_is_integer : Stmt := topS 4
theorem sc_is_integer : FnScope ["value"] ["value"] (defScope s_is_integer) := ⟨rfl, rfl, rfl, by decide +kernel, rfl, by decide +kernel, by decide +kernel⟩
abbrev s_is_tuple : Stmt := topS 5
theorem sc_is_tuple : FnScope ["value", "many"] ["value", "many"] (defScope s_is_tuple) := ⟨rfl, rfl, rfl, by decide +kernel, rfl, by decide +kernel, by decide +kernel⟩
abbrev s_is_ascending : Stmt := topS 6
theorem sc_is_ascending : FnScope ["values", "at"] ["values"] (defScope s_is_ascending) := ⟨rfl, rfl, rfl, by decide +kernel, rfl, by decide +kernel, by decide +kernel⟩
abbrev s_common_divisor : Stmt := topS 7
theorem sc_common_divisor : FnScope ["one", "other"] ["one", "other"] (defScope s_common_divisor) := ⟨rfl, rfl, rfl, by decide +kernel, rfl, by decide +kernel, by decide +kernel⟩
abbrev s_is_fraction : Stmt := topS 8
theorem sc_is_fraction : FnScope ["value"] ["value"] (defScope s_is_fraction) := ⟨rfl, rfl, rfl, by decide +kernel, rfl, by decide +kernel, by decide +kernel⟩
abbrev s_is_link_pair : Stmt := topS 13
theorem sc_is_link_pair : FnScope ["kind", "value"] ["kind", "value"] (defScope s_is_link_pair) := ⟨rfl, rfl, rfl, by decide +kernel, rfl, by decide +kernel, by decide +kernel⟩
abbrev s_is_link : Stmt := topS 14
theorem sc_is_link : FnScope ["kind", "value", "pair"] ["kind", "value"] (defScope s_is_link) := ⟨rfl, rfl, rfl, by decide +kernel, rfl, by decide +kernel, by decide +kernel⟩
abbrev s_list_words : Stmt := topS 37
theorem sc_list_words : FnScope ["sort"] ["sort"] (defScope s_list_words) := ⟨rfl, rfl, rfl, by decide +kernel, rfl, by decide +kernel, by decide +kernel⟩
abbrev s_single_sort : Stmt := topS 38
theorem sc_single_sort : FnScope ["sort", "word"] ["sort", "word"] (defScope s_single_sort) := ⟨rfl, rfl, rfl, by decide +kernel, rfl, by decide +kernel, by decide +kernel⟩
abbrev s_is_worded : Stmt := topS 39
theorem sc_is_worded : FnScope ["value"] ["value"] (defScope s_is_worded) := ⟨rfl, rfl, rfl, by decide +kernel, rfl, by decide +kernel, by decide +kernel⟩
abbrev s_is_list_part : Stmt := topS 40
theorem sc_is_list_part : FnScope ["value"] ["value"] (defScope s_is_list_part) := ⟨rfl, rfl, rfl, by decide +kernel, rfl, by decide +kernel, by decide +kernel⟩
abbrev s_is_number_part : Stmt := topS 41
theorem sc_is_number_part : FnScope ["value"] ["value"] (defScope s_is_number_part) := ⟨rfl, rfl, rfl, by decide +kernel, rfl, by decide +kernel, by decide +kernel⟩
abbrev s_is_mark_part : Stmt := topS 42
theorem sc_is_mark_part : FnScope ["kind", "value"] ["kind", "value"] (defScope s_is_mark_part) := ⟨rfl, rfl, rfl, by decide +kernel, rfl, by decide +kernel, by decide +kernel⟩
abbrev s_is_matrix_part : Stmt := topS 43
theorem sc_is_matrix_part : FnScope ["kind", "value"] ["kind", "value"] (defScope s_is_matrix_part) := ⟨rfl, rfl, rfl, by decide +kernel, rfl, by decide +kernel, by decide +kernel⟩
abbrev s_is_row_part : Stmt := topS 44
theorem sc_is_row_part : FnScope ["kind", "value"] ["kind", "value"] (defScope s_is_row_part) := ⟨rfl, rfl, rfl, by decide +kernel, rfl, by decide +kernel, by decide +kernel⟩
abbrev s_is_letter : Stmt := topS 45
theorem sc_is_letter : FnScope ["kind", "value"] ["kind", "value"] (defScope s_is_letter) := ⟨rfl, rfl, rfl, by decide +kernel, rfl, by decide +kernel, by decide +kernel⟩
abbrev s_is_program_part : Stmt := topS 46
theorem sc_is_program_part : FnScope ["value", "is_trace"] ["value", "is_trace"] (defScope s_is_program_part) := ⟨rfl, rfl, rfl, by decide +kernel, rfl, by decide +kernel, by decide +kernel⟩
abbrev s_is_part : Stmt := topS 47
theorem sc_is_part : FnScope ["kind", "sort", "value", "is_trace"] ["kind", "sort", "value", "is_trace"] (defScope s_is_part) := ⟨rfl, rfl, rfl, by decide +kernel, rfl, by decide +kernel, by decide +kernel⟩
abbrev s_inner_parts : Stmt := topS 48
theorem sc_inner_parts : FnScope ["sort", "value", "word", "part", "letter"] ["sort", "value"] (defScope s_inner_parts) := ⟨rfl, rfl, rfl, by decide +kernel, rfl, by decide +kernel, by decide +kernel⟩
abbrev s_first_wrong : Stmt := topS 49
theorem sc_first_wrong : FnScope ["kind", "value", "is_trace", "todo", "number", "sort", "part"] ["kind", "value", "is_trace"] (defScope s_first_wrong) := ⟨rfl, rfl, rfl, by decide +kernel, rfl, by decide +kernel, by decide +kernel⟩
abbrev s_need_trace : Stmt := topS 51
theorem sc_need_trace : FnScope ["kind", "value", "at"] ["kind", "value"] (defScope s_need_trace) := ⟨rfl, rfl, rfl, by decide +kernel, rfl, by decide +kernel, by decide +kernel⟩
abbrev s__law_deal : Stmt := topS 55
theorem sc__law_deal : FnScope ["script", "salt", "most", "cells", "mix", "cell"] ["script", "salt"] (defScope s__law_deal) := ⟨rfl, rfl, rfl, by decide +kernel, rfl, by decide +kernel, by decide +kernel⟩
abbrev s__law_any : Stmt := topS 56
theorem sc__law_any : FnScope ["deal", "bound", "rest"] ["deal", "bound"] (defScope s__law_any) := ⟨rfl, rfl, rfl, by decide +kernel, rfl, by decide +kernel, by decide +kernel⟩
abbrev s__law_of : Stmt := topS 57
theorem sc__law_of : FnScope ["deal", "some"] ["deal", "some"] (defScope s__law_of) := ⟨rfl, rfl, rfl, by decide +kernel, rfl, by decide +kernel, by decide +kernel⟩
abbrev s__law_mixed : Stmt := topS 58
theorem sc__law_mixed : FnScope ["deal", "some", "left", "found", "turn"] ["deal", "some"] (defScope s__law_mixed) := ⟨rfl, rfl, rfl, by decide +kernel, rfl, by decide +kernel, by decide +kernel⟩
abbrev s__law_is_kind : Stmt := topS 59
theorem sc__law_is_kind : FnScope ["told", "due"] ["told", "due"] (defScope s__law_is_kind) := ⟨rfl, rfl, rfl, by decide +kernel, rfl, by decide +kernel, by decide +kernel⟩
abbrev s__law_same : Stmt := topS 60
theorem sc__law_same : FnScope ["told", "due", "todo", "one", "other"] ["told", "due"] (defScope s__law_same) := ⟨rfl, rfl, rfl, by decide +kernel, rfl, by decide +kernel, by decide +kernel⟩
abbrev s__law_all : Stmt := topS 61
theorem sc__law_all : FnScope ["pairs", "told", "due"] ["pairs"] (defScope s__law_all) := ⟨rfl, rfl, rfl, by decide +kernel, rfl, by decide +kernel, by decide +kernel⟩
abbrev s__law_shared : Stmt := topS 62
theorem sc__law_shared : FnScope ["one", "other"] ["one", "other"] (defScope s__law_shared) := ⟨rfl, rfl, rfl, by decide +kernel, rfl, by decide +kernel, by decide +kernel⟩
abbrev s__law_low : Stmt := topS 63
theorem sc__law_low : FnScope ["top", "bottom", "part"] ["top", "bottom"] (defScope s__law_low) := ⟨rfl, rfl, rfl, by decide +kernel, rfl, by decide +kernel, by decide +kernel⟩
abbrev s__law_names : Stmt := topS 64
theorem sc__law_names : FnScope ["deal", "many"] ["deal", "many"] (defScope s__law_names) := ⟨rfl, rfl, rfl, by decide +kernel, rfl, by decide +kernel, by decide +kernel⟩
abbrev s__law_kind : Stmt := topS 65
theorem sc__law_kind : FnScope ["deal", "sort", "ties", "arrows", "marks", "names"] ["deal", "sort"] (defScope s__law_kind) := ⟨rfl, rfl, rfl, by decide +kernel, rfl, by decide +kernel, by decide +kernel⟩
abbrev s__law_link_facts : Stmt := topS 66
theorem sc__law_link_facts : FnScope ["names", "x", "y", "found", "tie", "arrow"] ["names", "x", "y"] (defScope s__law_link_facts) := ⟨rfl, rfl, rfl, by decide +kernel, rfl, by decide +kernel, by decide +kernel⟩
abbrev s__law_link : Stmt := topS 67
theorem sc__law_link : FnScope ["deal", "names", "some", "many", "fact", "asked"] ["deal", "names"] (defScope s__law_link) := ⟨rfl, rfl, rfl, by decide +kernel, rfl, by decide +kernel, by decide +kernel⟩
abbrev s__law_letters : Stmt := topS 68
theorem sc__law_letters : FnScope ["deal", "names", "many", "found", "turn", "is_mark"] ["deal", "names", "many"] (defScope s__law_letters) := ⟨rfl, rfl, rfl, by decide +kernel, rfl, by decide +kernel, by decide +kernel⟩
abbrev s__law_told : Stmt := topS 69
theorem sc__law_told : FnScope ["kind", "value", "is_named"] ["kind", "value", "is_named"] (defScope s__law_told) := ⟨rfl, rfl, rfl, by decide +kernel, rfl, by decide +kernel, by decide +kernel⟩
abbrev s__law_row_of : Stmt := topS 70
theorem sc__law_row_of : FnScope ["deal", "names", "found", "left", "sort", "many", "letters", "letter"] ["deal", "names"] (defScope s__law_row_of) := ⟨rfl, rfl, rfl, by decide +kernel, rfl, by decide +kernel, by decide +kernel⟩
abbrev s__law_built : Stmt := topS 71
theorem sc__law_built : FnScope ["row", "odd", "done", "at", "word", "own", "many", "within", "made"] ["row", "odd"] (defScope s__law_built) := ⟨rfl, rfl, rfl, by decide +kernel, rfl, by decide +kernel, by decide +kernel⟩
abbrev s__law_odd : Stmt := topS 72
theorem sc__law_odd : FnScope ["deal", "word", "names", "some", "tie", "arrow", "mark"] ["deal", "word", "names"] (defScope s__law_odd) := ⟨rfl, rfl, rfl, by decide +kernel, rfl, by decide +kernel, by decide +kernel⟩
abbrev s_law : Stmt := topS 73
theorem sc_law : FnScope ["script", "deal", "pairs", "turn", "names", "kind", "row", "again", "at", "spot", "odd", "other", "facts", "wrong", "value", "part"] ["script"] (defScope s_law) := ⟨rfl, rfl, rfl, by decide +kernel, rfl, by decide +kernel, by decide +kernel⟩
/-! ### what the defs mean -/
noncomputable section
def h_is_integer : HF' := (hRet (fAndV (asB (fCall oIsa (rCons (fVar 0) (rCons (fC (.ty "int")) rNil)))) (ofT (fNot (asB (fCall oIsa (rCons (fVar 0) (rCons (fC (.ty "bool")) rNil))))))))
def g_is_integer := fnP 1 0 h_is_integer
def h_is_tuple : HF' := (hRet (fAndV (asB (fCall oIsa (rCons (fVar 0) (rCons (fC (.ty "tuple")) rNil)))) (fBin oEq (fCall oLen (rCons (fVar 0) rNil)) (fVar 1))))
def g_is_tuple := fnP 2 0 h_is_tuple
def fb_is_ascending_1 : HF' := (hIf (fNot (asB (fBin oLt (fBin oIx (fVar 0) (fVar 1)) (fBin oIx (fVar 0) (fBin oAdd (fVar 1) (fC (.int 1))))))) (hRet (fC (.bl false))) hNil)
def h_is_ascending : HF' := (hSeq (hFor (sRng1 (rCons (fBin oSub (fCall oLen (rCons (fVar 0) rNil)) (fC (.int 1))) rNil)) (bName 1) fb_is_ascending_1)
  (hRet (fC (.bl true))))
def g_is_ascending := fnP 1 1 h_is_ascending
def wt_common_divisor_1 : TF := (asB (fBin oNe (fVar 1) (fC (.int 0))))
def wb_common_divisor_1 : HF' := (hPar 0 1 (fVar 1) (fBin oMod (fVar 0) (fVar 1)))
def h_common_divisor : HF' := (hSeq (hPar 0 1 (fCall oAbs (rCons (fVar 0) rNil)) (fCall oAbs (rCons (fVar 1) rNil)))
  (hSeq (hWhile wt_common_divisor_1 wb_common_divisor_1)
  (hRetV 0)))
def g_common_divisor := fnP 2 0 h_common_divisor
def h_is_fraction : HF' := (hSeq (hIf (fOr (fNot (asB (fCallP g_is_tuple (vCons (fVar 0) (vCons (fC (.int 2)) vNil))))) (fOr (fNot (asB (fCallP g_is_integer (vCons (fBin oIx (fVar 0) (fC (.int 0))) vNil)))) (fNot (asB (fCallP g_is_integer (vCons (fBin oIx (fVar 0) (fC (.int 1))) vNil)))))) (hRet (fC (.bl false))) hNil)
  (hRet (fAndV (asB (fBin oGe (fBin oIx (fVar 0) (fC (.int 1))) (fC (.int 1)))) (fBin oEq (fCallP g_common_divisor (vCons (fBin oIx (fVar 0) (fC (.int 0))) (vCons (fBin oIx (fVar 0) (fC (.int 1))) vNil))) (fC (.int 1))))))
def g_is_fraction := fnP 1 0 h_is_fraction
def h_is_link_pair : HF' := (hSeq (hIf (fOr (fNot (asB (fCallP g_is_tuple (vCons (fVar 1) (vCons (fC (.int 2)) vNil))))) (fOr (fNot (asB (fCall oIsa (rCons (fBin oIx (fVar 1) (fC (.int 0))) (rCons (fC (.ty "str")) rNil))))) (fNot (asB (fCall oIsa (rCons (fBin oIx (fVar 1) (fC (.int 1))) (rCons (fC (.ty "str")) rNil))))))) (hRet (fC (.bl false))) hNil)
  (hSeq (hIf (asB (fBin oEq (fBin oIx (fVar 1) (fC (.int 1))) (fC (.str "with")))) (hRet (fBin oInA (fBin oIx (fVar 1) (fC (.int 0))) (fFld ["Kind"] "ties" (fVar 0)))) hNil)
  (hRet (fAndV (asB (fBin oInA (fBin oIx (fVar 1) (fC (.int 1))) (fTup (aCons (fC (.str "out")) (aCons (fC (.str "in")) aNil))))) (fBin oInA (fBin oIx (fVar 1) (fC (.int 0))) (fFld ["Kind"] "arrows" (fVar 0)))))))
def g_is_link_pair := fnP 2 0 h_is_link_pair
def ct_is_link_1 : TF := (fNot (asB (fCallP g_is_link_pair (vCons (fVar 0) (vCons (fVar 2) vNil)))))
def h_is_link : HF' := (hSeq (hIf (fOr (fNot (asB (fCall oIsa (rCons (fVar 1) (rCons (fC (.ty "tuple")) rNil))))) (asB (fBin oEq (fVar 1) (fTup aNil)))) (hRet (fC (.bl false))) hNil)
  (hRet (fAndV (asB (fBin oEq (fLc (sSeq (fVar 1)) (bName 2) ct_is_link_1 (fVar 2) [2]) (fLst aNil))) (fCallP g_is_ascending (vCons (fVar 1) vNil)))))
def g_is_link := fnP 2 1 h_is_link
def h_list_words : HF' := (hSeq (hIf (asB (fBin oEq (fVar 0) (fC (.str "matrix")))) (hRet (fTup (aCons (fC (.str "product")) (aCons (fC (.str "plus")) (aCons (fC (.str "cells")) aNil))))) hNil)
  (hRet (fIf (asB (fBin oEq (fVar 0) (fC (.str "letter")))) (fTup aNil) (fTup (aCons (fC (.str "plus")) (aCons (fC (.str "times")) aNil))))))
def g_list_words := fnP 1 0 h_list_words
def h_single_sort : HF' := (hSeq (hIf (asB (fBin oEq (fVar 0) (fC (.str "program")))) (hRet (fIf (asB (fBin oEq (fVar 1) (fC (.str "total")))) (fC (.str "row")) (fC (.str "")))) hNil)
  (hSeq (hIf (fAnd (asB (fBin oEq (fVar 0) (fC (.str "row")))) (asB (fBin oInA (fVar 1) (fTup (aCons (fC (.str "corner")) (aCons (fC (.str "whole")) aNil)))))) (hRet (fIf (asB (fBin oEq (fVar 1) (fC (.str "corner")))) (fC (.str "matrix")) (fC (.str "program")))) hNil)
  (hSeq (hIf (fAnd (asB (fBin oEq (fVar 0) (fC (.str "matrix")))) (asB (fBin oInA (fVar 1) (fTup (aCons (fC (.str "turned")) (aCons (fC (.str "spread")) aNil)))))) (hRet (fIf (asB (fBin oEq (fVar 1) (fC (.str "turned")))) (fC (.str "matrix")) (fC (.str "row")))) hNil)
  (hRet (fC (.str ""))))))
def g_single_sort := fnP 2 0 h_single_sort
def h_is_worded : HF' := (hRet (fAndV (asB (fCall oIsa (rCons (fVar 0) (rCons (fC (.ty "tuple")) rNil)))) (fAndV (asB (fBin oNe (fVar 0) (fTup aNil))) (fCall oIsa (rCons (fBin oIx (fVar 0) (fC (.int 0))) (rCons (fC (.ty "str")) rNil))))))
def g_is_worded := fnP 1 0 h_is_worded
def h_is_list_part : HF' := (hRet (fAndV (asB (fBin oEq (fCall oLen (rCons (fVar 0) rNil)) (fC (.int 2)))) (fAndV (asB (fCall oIsa (rCons (fBin oIx (fVar 0) (fC (.int 1))) (rCons (fC (.ty "tuple")) rNil)))) (fBin oGt (fCall oLen (rCons (fBin oIx (fVar 0) (fC (.int 1))) rNil)) (fC (.int 1))))))
def g_is_list_part := fnP 1 0 h_is_list_part
def h_is_number_part : HF' := (hRet (fAndV (asB (fBin oEq (fCall oLen (rCons (fVar 0) rNil)) (fC (.int 2)))) (fCallP g_is_fraction (vCons (fBin oIx (fVar 0) (fC (.int 1))) vNil))))
def g_is_number_part := fnP 1 0 h_is_number_part
def h_is_mark_part : HF' := (hRet (fAndV (asB (fBin oEq (fCall oLen (rCons (fVar 1) rNil)) (fC (.int 2)))) (fAndV (asB (fCall oIsa (rCons (fBin oIx (fVar 1) (fC (.int 1))) (rCons (fC (.ty "str")) rNil)))) (fBin oInA (fBin oIx (fVar 1) (fC (.int 1))) (fFld ["Kind"] "marks" (fVar 0))))))
def g_is_mark_part := fnP 2 0 h_is_mark_part
def h_is_matrix_part : HF' := (hSeq (hIf (asB (fBin oEq (fBin oIx (fVar 1) (fC (.int 0))) (fC (.str "facts")))) (hRet (fAndV (asB (fBin oEq (fCall oLen (rCons (fVar 1) rNil)) (fC (.int 2)))) (fCallP g_is_link (vCons (fVar 0) (vCons (fBin oIx (fVar 1) (fC (.int 1))) vNil))))) hNil)
  (hSeq (hIf (asB (fBin oInA (fBin oIx (fVar 1) (fC (.int 0))) (fTup (aCons (fC (.str "one")) (aCons (fC (.str "all")) aNil))))) (hRet (fBin oEq (fCall oLen (rCons (fVar 1) rNil)) (fC (.int 1)))) hNil)
  (hRet (fAndV (asB (fBin oEq (fBin oIx (fVar 1) (fC (.int 0))) (fC (.str "scaled")))) (fAndV (asB (fBin oEq (fCall oLen (rCons (fVar 1) rNil)) (fC (.int 3)))) (fCallP g_is_fraction (vCons (fBin oIx (fVar 1) (fC (.int 1))) vNil)))))))
def g_is_matrix_part := fnP 2 0 h_is_matrix_part
def h_is_row_part : HF' := (hSeq (hIf (asB (fBin oEq (fBin oIx (fVar 1) (fC (.int 0))) (fC (.str "mark")))) (hRet (fCallP g_is_mark_part (vCons (fVar 0) (vCons (fVar 1) vNil)))) hNil)
  (hRet (fIf (asB (fBin oEq (fBin oIx (fVar 1) (fC (.int 0))) (fC (.str "applied")))) (fBin oEq (fCall oLen (rCons (fVar 1) rNil)) (fC (.int 3))) (fAndV (asB (fBin oEq (fBin oIx (fVar 1) (fC (.int 0))) (fC (.str "number")))) (fCallP g_is_number_part (vCons (fVar 1) vNil))))))
def g_is_row_part := fnP 2 0 h_is_row_part
def h_is_letter : HF' := (hSeq (hIf (asB (fBin oEq (fBin oIx (fVar 1) (fC (.int 0))) (fC (.str "facts")))) (hRet (fAndV (asB (fBin oEq (fCall oLen (rCons (fVar 1) rNil)) (fC (.int 2)))) (fCallP g_is_link (vCons (fVar 0) (vCons (fBin oIx (fVar 1) (fC (.int 1))) vNil))))) hNil)
  (hRet (fAndV (asB (fBin oEq (fBin oIx (fVar 1) (fC (.int 0))) (fC (.str "mark")))) (fCallP g_is_mark_part (vCons (fVar 0) (vCons (fVar 1) vNil))))))
def g_is_letter := fnP 2 0 h_is_letter
def h_is_program_part : HF' := (hSeq (hIf (asB (fBin oEq (fBin oIx (fVar 0) (fC (.int 0))) (fC (.str "trace")))) (hRet (fAndV (asB (fVar 1)) (fAndV (asB (fBin oEq (fCall oLen (rCons (fVar 0) rNil)) (fC (.int 2)))) (fCall oIsa (rCons (fBin oIx (fVar 0) (fC (.int 1))) (rCons (fC (.ty "tuple")) rNil)))))) hNil)
  (hRet (fAndV (asB (fBin oEq (fBin oIx (fVar 0) (fC (.int 0))) (fC (.str "number")))) (fCallP g_is_number_part (vCons (fVar 0) vNil)))))
def g_is_program_part := fnP 2 0 h_is_program_part
def h_is_part : HF' := (hSeq (hIf (fNot (asB (fCallP g_is_worded (vCons (fVar 2) vNil)))) (hRet (fC (.bl false))) hNil)
  (hSeq (hIf (asB (fBin oInA (fBin oIx (fVar 2) (fC (.int 0))) (fCallP g_list_words (vCons (fVar 1) vNil)))) (hRet (fCallP g_is_list_part (vCons (fVar 2) vNil))) hNil)
  (hSeq (hIf (asB (fBin oNe (fCallP g_single_sort (vCons (fVar 1) (vCons (fBin oIx (fVar 2) (fC (.int 0))) vNil))) (fC (.str "")))) (hRet (fAndV (asB (fBin oEq (fCall oLen (rCons (fVar 2) rNil)) (fC (.int 2)))) (ofT (fNot (asB (fAndV (asB (fVar 3)) (fBin oEq (fBin oIx (fVar 2) (fC (.int 0))) (fC (.str "total"))))))))) hNil)
  (hSeq (hIf (asB (fBin oEq (fVar 1) (fC (.str "matrix")))) (hRet (fCallP g_is_matrix_part (vCons (fVar 0) (vCons (fVar 2) vNil)))) hNil)
  (hSeq (hIf (asB (fBin oEq (fVar 1) (fC (.str "row")))) (hRet (fCallP g_is_row_part (vCons (fVar 0) (vCons (fVar 2) vNil)))) hNil)
  (hRet (fIf (asB (fBin oEq (fVar 1) (fC (.str "letter")))) (fCallP g_is_letter (vCons (fVar 0) (vCons (fVar 2) vNil))) (fCallP g_is_program_part (vCons (fVar 2) (vCons (fVar 3) vNil))))))))))
def g_is_part := fnP 4 0 h_is_part
def ce_inner_parts_1 : EF := (fTup (aCons (fVar 0) (aCons (fVar 3) aNil)))
def ce_inner_parts_2 : EF := (fTup (aCons (fC (.str "letter")) (aCons (fVar 4) aNil)))
def h_inner_parts : HF' := (hSeq (hSet 2 (fBin oIx (fVar 1) (fC (.int 0))))
  (hSeq (hIf (asB (fBin oInA (fVar 2) (fCallP g_list_words (vCons (fVar 0) vNil)))) (hRet (fLc (sSeq (fBin oIx (fVar 1) (fC (.int 1)))) (bName 3) fYes ce_inner_parts_1 [3])) hNil)
  (hSeq (hIf (asB (fBin oNe (fCallP g_single_sort (vCons (fVar 0) (vCons (fVar 2) vNil))) (fC (.str "")))) (hRet (fLst (aCons (fTup (aCons (fCallP g_single_sort (vCons (fVar 0) (vCons (fVar 2) vNil))) (aCons (fBin oIx (fVar 1) (fC (.int 1))) aNil))) aNil))) hNil)
  (hSeq (hIf (asB (fBin oEq (fVar 2) (fC (.str "scaled")))) (hRet (fLst (aCons (fTup (aCons (fC (.str "matrix")) (aCons (fBin oIx (fVar 1) (fC (.int 2))) aNil))) aNil))) hNil)
  (hSeq (hIf (asB (fBin oEq (fVar 2) (fC (.str "applied")))) (hRet (fLst (aCons (fTup (aCons (fC (.str "matrix")) (aCons (fBin oIx (fVar 1) (fC (.int 1))) aNil))) (aCons (fTup (aCons (fC (.str "row")) (aCons (fBin oIx (fVar 1) (fC (.int 2))) aNil))) aNil)))) hNil)
  (hRet (fIf (asB (fBin oEq (fVar 2) (fC (.str "trace")))) (fLc (sSeq (fBin oIx (fVar 1) (fC (.int 1)))) (bName 4) fYes ce_inner_parts_2 [4]) (fLst aNil))))))))
def g_inner_parts := fnP 2 3 h_inner_parts
def wt_first_wrong_1 : TF := (asB (fBin oNe (fVar 3) (fLst aNil)))
def wb_first_wrong_1 : HF' := (hSeq (hPopTo (bTup (bCons (bName 5) (bCons (bName 6) bNil))) 3)
  (hSeq (hIf (fNot (asB (fCallP g_is_part (vCons (fVar 0) (vCons (fVar 5) (vCons (fVar 6) (vCons (fVar 2) vNil))))))) (hRetV 4) hNil)
  (hSeq (hExt 3 (fRev (fCallP g_inner_parts (vCons (fVar 5) (vCons (fVar 6) vNil)))))
  (hAug 4 oAddI (fC (.int 1))))))
def h_first_wrong : HF' := (hSeq (hPar 3 4 (fLst (aCons (fTup (aCons (fC (.str "program")) (aCons (fVar 1) aNil))) aNil)) (fC (.int 0)))
  (hSeq (hWhile wt_first_wrong_1 wb_first_wrong_1)
  (hRet (fNeg (fC (.int 1))))))
def g_first_wrong := fnP 3 4 h_first_wrong
def gn_trace : List D → Option (D × Kd) := fun ds => match ds with
  | [k, v] => g_first_wrong [k, v, .bl true]
  | _ => none
def ce__law_deal_1 : EF := (fBin oMod (fCall oInt (rCons (fCall oAbs (rCons (fCall oInt (rCons (fVar 5) rNil)) rNil)) rNil)) (fVar 2))
def fb__law_deal_1 : HF' := (hSet 4 (fBin oMod (fCall oInt (rCons (fBin oAdd (fBin oAdd (fBin oMul (fVar 4) (fC (.int 69621))) (fBin oMod (fCall oInt (rCons (fVar 5) rNil)) (fC (.int 2147483563)))) (fC (.int 23))) rNil)) (fC (.int 2147483647))))
def ct__law_deal_1 : TF := (asB (fBin oGe (fVar 5) (fBin oPow (fC (.int 10)) (fC (.int 18)))))
def h__law_deal : HF' := (hSeq (hSet 2 (fBin oMul (fBin oMul (fBin oMul (fBin oMul (fBin oMul (fBin oPow (fC (.int 10)) (fC (.int 64))) (fBin oPow (fC (.int 10)) (fC (.int 64)))) (fBin oPow (fC (.int 10)) (fC (.int 64)))) (fBin oPow (fC (.int 10)) (fC (.int 64)))) (fBin oPow (fC (.int 10)) (fC (.int 64)))) (fBin oPow (fC (.int 10)) (fC (.int 64)))))
  (hSeq (hPar 3 4 (fLc (sSeq (fCut (fVar 0) bNo (bOf (fC (.int 63))))) (bName 5) fYes ce__law_deal_1 [5]) (fBin oAdd (fC (.int 70001)) (fBin oMul (fC (.int 7919)) (fVar 1))))
  (hSeq (hForV 3 (bName 5) fb__law_deal_1)
  (hRet (fLst (aCons (fRev (fLc (sSeq (fVar 3)) (bName 5) ct__law_deal_1 (fVar 5) [5])) (aCons (fVar 4) aNil)))))))
def g__law_deal := fnP 2 4 h__law_deal
def wt__law_any_1 : TF := (fAnd (asB (fBin oGt (fDLen 0) (fC (.int 0)))) (asB (fBin oEq (fDLast 0) (fC (.int 0)))))
def wb__law_any_1 : HF' := (hExpr (fDPop 0))
def h__law_any : HF' := (hSeq (hWhile wt__law_any_1 wb__law_any_1)
  (hSeq (hIf (asB (fBin oGt (fDLen 0) (fC (.int 0)))) (hSeq (hSet 2 (fCall oInt (rCons (fDPop 0) rNil)))
  (hSeq (hDApp 0 (fBin oDiv (fVar 2) (fVar 1)))
  (hRet (fBin oMod (fVar 2) (fVar 1))))) hNil)
  (hSeq (hDSet1 0 (fBin oMod (fCall oInt (rCons (fBin oAdd (fBin oMul (fD1 0) (fC (.int 48271))) (fC (.int 31))) rNil)) (fC (.int 2147483647))))
  (hRet (fBin oMod (fCall oInt (rCons (fBin oDiv (fD1 0) (fC (.int 64))) rNil)) (fVar 1))))))
def g__law_any := fnW 1 1 h__law_any
def h__law_of : HF' := (hRet (fBin oIx (fVar 1) (fCallW 0 g__law_any (vCons (fCall oLen (rCons (fVar 1) rNil)) vNil))))
def g__law_of := fnW 1 0 h__law_of
def fb__law_mixed_1 : HF' := (hAppPop 3 2 (fCallW 0 g__law_any (vCons (fCall oLen (rCons (fVar 2) rNil)) vNil)))
def h__law_mixed : HF' := (hSeq (hPar 2 3 (fCall oList (rCons (fVar 1) rNil)) (fLst aNil))
  (hSeq (hFor (sRng1 (rCons (fCall oLen (rCons (fVar 1) rNil)) rNil)) (bName 4) fb__law_mixed_1)
  (hRetV 3)))
def g__law_mixed := fnW 1 3 h__law_mixed
def h__law_is_kind : HF' := (hSeq (hIf (asB (fBin oIs (fVar 1) (fC .non))) (hRet (fBin oIs (fVar 0) (fC .non))) hNil)
  (hSeq (hIf (fOr (asB (fBin oIs (fVar 1) (fC (.bl true)))) (asB (fBin oIs (fVar 1) (fC (.bl false))))) (hRet (fIf (asB (fVar 1)) (fBin oIs (fVar 0) (fC (.bl true))) (fBin oIs (fVar 0) (fC (.bl false))))) hNil)
  (hSeq (hIf (asB (fCall oIsa (rCons (fVar 1) (rCons (fC (.ty "str")) rNil)))) (hRet (fAndV (asB (fCall oIsa (rCons (fVar 0) (rCons (fC (.ty "str")) rNil)))) (fBin oEq (fVar 0) (fVar 1)))) hNil)
  (hRet (fAndV (asB (fCall oIsa (rCons (fVar 0) (rCons (fC (.ty "int")) rNil)))) (fAndV (asB (ofT (fNot (asB (fCall oIsa (rCons (fVar 0) (rCons (fC (.ty "bool")) rNil))))))) (fBin oEq (fVar 0) (fVar 1))))))))
def g__law_is_kind := fnP 2 0 h__law_is_kind
def wt__law_same_1 : TF := (asB (fBin oGt (fCall oLen (rCons (fVar 2) rNil)) (fC (.int 0))))
def wb__law_same_1 : HF' := (hSeq (hPopTo (bTup (bCons (bName 3) (bCons (bName 4) bNil))) 2)
  (hIf (asB (fCall oIsa (rCons (fVar 4) (rCons (fC (.ty "tuple")) rNil)))) (hSeq (hIf (fOr (fNot (asB (fCall oIsa (rCons (fVar 3) (rCons (fC (.ty "tuple")) rNil))))) (asB (fBin oNe (fCall oLen (rCons (fVar 3) rNil)) (fCall oLen (rCons (fVar 4) rNil))))) (hRet (fC (.bl false))) hNil)
  (hSet 2 (fBin oAdd (fVar 2) (fLZip (rCons (fVar 3) (rCons (fVar 4) rNil)))))) (hIf (fOr (asB (fIsaT (fVar 3) ["tuple", "list", "dict"])) (fNot (asB (fCallP g__law_is_kind (vCons (fVar 3) (vCons (fVar 4) vNil)))))) (hRet (fC (.bl false))) hNil)))
def h__law_same : HF' := (hSeq (hSet 2 (fLst (aCons (fTup (aCons (fVar 0) (aCons (fVar 1) aNil))) aNil)))
  (hSeq (hWhile wt__law_same_1 wb__law_same_1)
  (hRet (fC (.bl true)))))
def g__law_same := fnP 2 3 h__law_same
def ct__law_all_1 : TF := (fNot (asB (fCallP g__law_same (vCons (fVar 1) (vCons (fVar 2) vNil)))))
def h__law_all : HF' := (hRet (fBin oEq (fCall oLen (rCons (fLc (sSeq (fVar 0)) (bTup (bCons (bName 1) (bCons (bName 2) bNil))) ct__law_all_1 (fVar 1) [1, 2]) rNil)) (fC (.int 0))))
def g__law_all := fnP 1 2 h__law_all
def wt__law_shared_1 : TF := (asB (fBin oGt (fVar 1) (fC (.int 0))))
def wb__law_shared_1 : HF' := (hPar 0 1 (fVar 1) (fBin oMod (fCall oInt (rCons (fVar 0) rNil)) (fVar 1)))
def h__law_shared : HF' := (hSeq (hPar 0 1 (fCall oAbs (rCons (fVar 0) rNil)) (fCall oAbs (rCons (fVar 1) rNil)))
  (hSeq (hWhile wt__law_shared_1 wb__law_shared_1)
  (hRetV 0)))
def g__law_shared := fnP 2 0 h__law_shared
def h__law_low : HF' := (hSeq (hSet 2 (fCallP g__law_shared (vCons (fVar 0) (vCons (fVar 1) vNil))))
  (hSeq (hSet 2 (fIf (asB (fBin oLt (fVar 1) (fC (.int 0)))) (fBin oSub (fC (.int 0)) (fVar 2)) (fVar 2)))
  (hRet (fTup (aCons (fBin oDiv (fVar 0) (fVar 2)) (aCons (fBin oDiv (fVar 1) (fVar 2)) aNil))))))
def g__law_low := fnP 2 1 h__law_low
def h__law_names : HF' := (hRet (fCut (fCallW 0 g__law_mixed (vCons (fLst (aCons (fC (.str "a")) (aCons (fC (.str "b")) (aCons (fC (.str "x")) (aCons (fC (.str "y")) (aCons (fC (.str "k")) (aCons (fC (.str "to")) (aCons (fC (.str "red")) (aCons (fC (.str "knows")) (aCons (fC (.str "mother")) (aCons (fC (.str "eightlet")) aNil))))))))))) vNil)) bNo (bOf (fVar 1))))
def g__law_names := fnW 1 0 h__law_names
def h__law_kind : HF' := (hSeq (hAsg (bTup (bCons (bName 2) (bCons (bName 3) bNil))) (fBin oIx (fLst (aCons (fTup (aCons (fC (.int 1)) (aCons (fC (.int 0)) aNil))) (aCons (fTup (aCons (fC (.int 0)) (aCons (fC (.int 1)) aNil))) (aCons (fTup (aCons (fC (.int 1)) (aCons (fC (.int 1)) aNil))) (aCons (fTup (aCons (fC (.int 0)) (aCons (fC (.int 2)) aNil))) (aCons (fTup (aCons (fC (.int 2)) (aCons (fC (.int 0)) aNil))) (aCons (fTup (aCons (fC (.int 1)) (aCons (fC (.int 2)) aNil))) (aCons (fTup (aCons (fC (.int 2)) (aCons (fC (.int 1)) aNil))) (aCons (fTup (aCons (fC (.int 0)) (aCons (fC (.int 0)) aNil))) (aCons (fTup (aCons (fC (.int 3)) (aCons (fC (.int 0)) aNil))) (aCons (fTup (aCons (fC (.int 0)) (aCons (fC (.int 3)) aNil))) aNil))))))))))) (fVar 1)))
  (hSeq (hSet 4 (fCallW 0 g__law_any (vCons (fC (.int 3)) vNil)))
  (hSeq (hSet 5 (fCallW 0 g__law_names (vCons (fBin oAdd (fBin oAdd (fVar 4) (fVar 2)) (fVar 3)) vNil)))
  (hRet (fTup (aCons (fCall oTuple (rCons (fCall oSorted (rCons (fCut (fVar 5) bNo (bOf (fVar 4))) rNil)) rNil)) (aCons (fCall oTuple (rCons (fCall oSorted (rCons (fCut (fVar 5) (bOf (fVar 4)) (bOf (fBin oAdd (fVar 4) (fVar 2)))) rNil)) rNil)) (aCons (fCall oTuple (rCons (fCall oSorted (rCons (fCut (fVar 5) (bOf (fBin oAdd (fVar 4) (fVar 2))) bNo) rNil)) rNil)) aNil))))))))
def g__law_kind := fnW 1 4 h__law_kind
def ce__law_link_facts_1 : EF := (fTup (aCons (fTup (aCons (fVar 4) (aCons (fC (.str "with")) aNil))) (aCons (fTup (aCons (fVar 4) (aCons (fTup (aCons (fCall oMin2 (rCons (fVar 1) (rCons (fVar 2) rNil))) (aCons (fCall oMax2 (rCons (fVar 1) (rCons (fVar 2) rNil))) aNil))) aNil))) aNil)))
def ce__law_link_facts_2 : EF := (fTup (aCons (fTup (aCons (fVar 5) (aCons (fC (.str "out")) aNil))) (aCons (fTup (aCons (fVar 5) (aCons (fTup (aCons (fVar 1) (aCons (fVar 2) aNil))) aNil))) aNil)))
def ce__law_link_facts_3 : EF := (fTup (aCons (fTup (aCons (fVar 5) (aCons (fC (.str "in")) aNil))) (aCons (fTup (aCons (fVar 5) (aCons (fTup (aCons (fVar 2) (aCons (fVar 1) aNil))) aNil))) aNil)))
def h__law_link_facts : HF' := (hSeq (hSet 3 (fLc (sSeq (fBin oIx (fVar 0) (fC (.int 1)))) (bName 4) fYes ce__law_link_facts_1 [4]))
  (hSeq (hSet 3 (fBin oAdd (fVar 3) (fLc (sSeq (fBin oIx (fVar 0) (fC (.int 2)))) (bName 5) fYes ce__law_link_facts_2 [5])))
  (hRet (fCall oSorted (rCons (fBin oAdd (fVar 3) (fLc (sSeq (fBin oIx (fVar 0) (fC (.int 2)))) (bName 5) fYes ce__law_link_facts_3 [5])) rNil)))))
def g__law_link_facts := fnP 3 3 h__law_link_facts
def h__law_link : HF' := (hSeq (hSet 2 (fLc (sSeq (fCallP g__law_link_facts (vCons (fVar 1) (vCons (fC (.int 0)) (vCons (fC (.int 1)) vNil))))) (bTup (bCons (bName 4) (bCons (bName 5) bNil))) fYes (fVar 4) [4, 5]))
  (hSeq (hSet 3 (fIf (asB (fBin oGt (fCallW 0 g__law_any (vCons (fC (.int 3)) vNil)) (fC (.int 0)))) (fBin oAdd (fC (.int 1)) (fCallW 0 g__law_any (vCons (fCall oLen (rCons (fVar 2) rNil)) vNil))) (fCall oLen (rCons (fVar 2) rNil))))
  (hRet (fCall oTuple (rCons (fCall oSorted (rCons (fCut (fCallW 0 g__law_mixed (vCons (fVar 2) vNil)) bNo (bOf (fIf (asB (fBin oEq (fCallW 0 g__law_any (vCons (fC (.int 2)) vNil)) (fC (.int 0)))) (fVar 3) (fC (.int 1))))) rNil)) rNil)))))
def g__law_link := fnW 1 4 h__law_link
def fb__law_letters_1 : HF' := (hSeq (hSet 5 (fAndV (asB (fBin oGt (fCall oLen (rCons (fBin oIx (fVar 1) (fC (.int 0))) rNil)) (fC (.int 0)))) (fBin oEq (fCallW 0 g__law_any (vCons (fC (.int 3)) vNil)) (fC (.int 0)))))
  (hApp 3 (fIf (asB (fVar 5)) (fTup (aCons (fC (.str "mark")) (aCons (fCallW 0 g__law_of (vCons (fCall oList (rCons (fBin oIx (fVar 1) (fC (.int 0))) rNil)) vNil)) aNil))) (fTup (aCons (fC (.str "facts")) (aCons (fCallW 0 g__law_link (vCons (fVar 1) vNil)) aNil))))))
def h__law_letters : HF' := (hSeq (hSet 3 (fLst aNil))
  (hSeq (hFor (sRng1 (rCons (fVar 2) rNil)) (bName 4) fb__law_letters_1)
  (hRet (fCall oTuple (rCons (fVar 3) rNil)))))
def g__law_letters := fnW 2 3 h__law_letters
def g__law_told : List D → Option (D × Kd) := fun ds => match ds with
  | [k, v, .bl _] => (g_first_wrong [k, v, .bl true]).bind fun r => match r with
    | (.int at', .sh) => if at' < 0 then some (.tup [.str "told", .non], .sh) else some (.tup [.str "refused", .int at'], .sh)
    | _ => none
  | _ => none
theorem len__law_told : ∀ ds c, g__law_told ds = some c → ds.length = 3 := fun ds c h => by
  unfold g__law_told at h
  split at h
  · rfl
  · cases h
def ce__law_row_of_1 : EF := (fTup (aCons (fC (.str "letter")) (aCons (fVar 7) (aCons (fC (.int 0)) aNil))))
def wt__law_row_of_1 : TF := (asB (fBin oGt (fVar 3) (fC (.int 0))))
def wb__law_row_of_1 : HF' := (hSeq (hSet 3 (fBin oSub (fVar 3) (fC (.int 1))))
  (hSeq (hSet 4 (fIf (asB (fBin oLt (fCall oLen (rCons (fVar 2) rNil)) (fC (.int 8)))) (fCallW 0 g__law_any (vCons (fC (.int 6)) vNil)) (fC (.int 5))))
  (hIf (fAnd (asB (fBin oLt (fVar 4) (fC (.int 2)))) (asB (fBin oLt (fCall oLen (rCons (fVar 2) rNil)) (fC (.int 6))))) (hSeq (hSet 5 (fBin oAdd (fC (.int 2)) (fCallW 0 g__law_any (vCons (fC (.int 2)) vNil))))
  (hSeq (hApp 2 (fTup (aCons (fCallW 0 g__law_of (vCons (fLst (aCons (fC (.str "plus")) (aCons (fC (.str "times")) aNil))) vNil)) (aCons (fC .non) (aCons (fVar 5) aNil)))))
  (hSet 3 (fBin oAdd (fVar 3) (fVar 5))))) (hIf (asB (fBin oEq (fVar 4) (fC (.int 2)))) (hApp 2 (fTup (aCons (fC (.str "number")) (aCons (fCallP g__law_low (vCons (fBin oSub (fCallW 0 g__law_any (vCons (fC (.int 9)) vNil)) (fC (.int 4))) (vCons (fBin oAdd (fC (.int 1)) (fCallW 0 g__law_any (vCons (fC (.int 3)) vNil))) vNil))) (aCons (fC (.int 0)) aNil))))) (hSeq (hSet 6 (fCallW 0 g__law_letters (vCons (fVar 1) (vCons (fCallW 0 g__law_any (vCons (fIf (asB (fBin oLt (fCall oLen (rCons (fVar 2) rNil)) (fC (.int 4)))) (fC (.int 8)) (fC (.int 3))) vNil)) vNil))))
  (hSeq (hApp 2 (fTup (aCons (fC (.str "trace")) (aCons (fC .non) (aCons (fCall oLen (rCons (fVar 6) rNil)) aNil)))))
  (hSet 2 (fBin oAdd (fVar 2) (fLc (sSeq (fVar 6)) (bName 7) fYes ce__law_row_of_1 [7])))))))))
def h__law_row_of : HF' := (hSeq (hPar 2 3 (fLst aNil) (fC (.int 1)))
  (hSeq (hWhile wt__law_row_of_1 wb__law_row_of_1)
  (hRetV 2)))
def g__law_row_of := fnW 1 6 h__law_row_of
def fb__law_built_1 : HF' := (hSeq (hAsg (bTup (bCons (bName 4) (bCons (bName 5) (bCons (bName 6) bNil)))) (fBin oIx (fVar 0) (fVar 3)))
  (hSeq (hPar 7 2 (fCut (fVar 2) bNo (bOf (fVar 6))) (fCut (fVar 2) (bOf (fVar 6)) bNo))
  (hSeq (hSet 8 (fIf (asB (fBin oEq (fVar 4) (fC (.str "letter")))) (fVar 5) (fIf (asB (fBin oEq (fVar 4) (fC (.str "number")))) (fTup (aCons (fC (.str "number")) (aCons (fVar 5) aNil))) (fTup (aCons (fVar 4) (aCons (fCall oTuple (rCons (fVar 7) rNil)) aNil))))))
  (hSet 2 (fBin oAdd (fLst (aCons (fIf (asB (fBin oInA (fVar 3) (fVar 1))) (fBin oIxA (fVar 1) (fVar 3)) (fVar 8)) aNil)) (fVar 2))))))
def h__law_built : HF' := (hSeq (hSet 2 (fLst aNil))
  (hSeq (hFor (sSeq (fRev (fLRg (fCall oLen (rCons (fVar 0) rNil))))) (bName 3) fb__law_built_1)
  (hRet (fBin oIx (fVar 2) (fC (.int 0))))))
def g__law_built := fnP 2 7 h__law_built
def ce__law_odd_1 : EF := (fTup (aCons (fC (.str "facts")) (aCons (fTup (aCons (fTup (aCons (fVar 4) (aCons (fC (.str "out")) aNil))) aNil)) aNil)))
def ce__law_odd_2 : EF := (fTup (aCons (fC (.str "facts")) (aCons (fTup (aCons (fTup (aCons (fVar 5) (aCons (fC (.str "with")) aNil))) aNil)) aNil)))
def ce__law_odd_3 : EF := (fTup (aCons (fC (.str "facts")) (aCons (fTup (aCons (fTup (aCons (fVar 5) (aCons (fC (.str "out")) aNil))) (aCons (fTup (aCons (fVar 5) (aCons (fC (.str "in")) aNil))) aNil))) aNil)))
def ce__law_odd_4 : EF := (fTup (aCons (fC (.str "facts")) (aCons (fTup (aCons (fTup (aCons (fVar 6) (aCons (fC (.str "with")) aNil))) aNil)) aNil)))
def ce__law_odd_5 : EF := (fTup (aCons (fC (.str "mark")) (aCons (fVar 4) aNil)))
def ce__law_odd_6 : EF := (fTup (aCons (fC (.str "facts")) (aCons (fTup (aCons (fTup (aCons (fVar 5) (aCons (fC (.str "in")) aNil))) (aCons (fTup (aCons (fVar 5) (aCons (fC (.str "in")) aNil))) aNil))) aNil)))
def h__law_odd : HF' := (hSeq (hSet 3 (fLst (aCons (fC .non) (aCons (fC (.int 0)) (aCons (fC (.str "trace")) (aCons (fTup aNil) (aCons (fTup (aCons (fC (.str "sum")) (aCons (fC (.str "x")) aNil))) (aCons (fLst (aCons (fTup (aCons (fC (.str "number")) (aCons (fTup (aCons (fC (.int 1)) (aCons (fC (.int 1)) aNil))) aNil))) aNil)) (aCons (fTup (aCons (fC (.str "number")) (aCons (fTup (aCons (fC (.int 2)) (aCons (fC (.int 2)) aNil))) aNil))) (aCons (fTup (aCons (fC (.str "number")) (aCons (fTup (aCons (fC (.int 1)) (aCons (fC (.int 0)) aNil))) aNil))) (aCons (fTup (aCons (fC (.str "number")) (aCons (fC (.int 1)) aNil))) (aCons (fTup (aCons (fC (.str "number")) (aCons (fTup (aCons (fC (.bl true)) (aCons (fC (.int 1)) aNil))) aNil))) aNil))))))))))))
  (hSeq (hSet 3 (fBin oAdd (fVar 3) (fLst (aCons (fTup (aCons (fC (.str "plus")) (aCons (fTup (aCons (fTup (aCons (fC (.str "number")) (aCons (fTup (aCons (fC (.int 1)) (aCons (fC (.int 1)) aNil))) aNil))) aNil)) aNil))) (aCons (fTup (aCons (fC (.str "times")) (aCons (fTup aNil) aNil))) (aCons (fTup (aCons (fC (.str "trace")) aNil)) (aCons (fTup (aCons (fC (.str "trace")) (aCons (fTup aNil) (aCons (fTup aNil) aNil)))) aNil)))))))
  (hSeq (hIf (asB (fBin oEq (fVar 1) (fC (.str "letter")))) (hSeq (hSet 3 (fLst (aCons (fC .non) (aCons (fC (.int 0)) (aCons (fC (.str "mark")) (aCons (fTup aNil) (aCons (fTup (aCons (fC (.str "mark")) (aCons (fC (.str "nomark")) aNil))) (aCons (fTup (aCons (fC (.str "mark")) (aCons (fTup (aCons (fC (.str "red")) aNil)) aNil))) (aCons (fTup (aCons (fC (.str "mark")) aNil)) (aCons (fTup (aCons (fC (.str "facts")) (aCons (fTup aNil) aNil))) (aCons (fTup (aCons (fC (.str "facts")) (aCons (fTup (aCons (fTup (aCons (fC (.str "nofact")) (aCons (fC (.str "with")) aNil))) aNil)) aNil))) aNil)))))))))))
  (hSeq (hSet 3 (fBin oAdd (fVar 3) (fLst (aCons (fTup (aCons (fC (.str "facts")) (aCons (fLst (aCons (fTup (aCons (fC (.str "k")) (aCons (fC (.str "with")) aNil))) aNil)) aNil))) (aCons (fTup (aCons (fC (.str "not")) (aCons (fTup (aCons (fC (.str "facts")) (aCons (fTup aNil) aNil))) aNil))) (aCons (fTup (aCons (fC (.str "number")) (aCons (fTup (aCons (fC (.int 1)) (aCons (fC (.int 1)) aNil))) aNil))) (aCons (fTup (aCons (fC (.str "trace")) (aCons (fTup aNil) aNil))) (aCons (fTup (aCons (fC (.str "one")) aNil)) aNil))))))))
  (hSeq (hSet 3 (fBin oAdd (fBin oAdd (fVar 3) (fLc (sSeq (fBin oIx (fVar 2) (fC (.int 1)))) (bName 4) fYes ce__law_odd_1 [4])) (fLc (sSeq (fBin oIx (fVar 2) (fC (.int 2)))) (bName 5) fYes ce__law_odd_2 [5])))
  (hSeq (hSet 3 (fBin oAdd (fBin oAdd (fBin oAdd (fVar 3) (fLc (sSeq (fBin oIx (fVar 2) (fC (.int 2)))) (bName 5) fYes ce__law_odd_3 [5])) (fLc (sSeq (fBin oIx (fVar 2) (fC (.int 0)))) (bName 6) fYes ce__law_odd_4 [6])) (fLc (sSeq (fBin oIx (fVar 2) (fC (.int 1)))) (bName 4) fYes ce__law_odd_5 [4])))
  (hRet (fCallW 0 g__law_of (vCons (fBin oAdd (fVar 3) (fLc (sSeq (fBin oIx (fVar 2) (fC (.int 2)))) (bName 5) fYes ce__law_odd_6 [5])) vNil))))))) hNil)
  (hFrz 3 (hRet (fCallW 0 g__law_of (vCons (fVar 3) vNil)))))))
def g__law_odd := fnW 2 4 h__law_odd
def fb_law_1 : HF' := (hSeq (hPar 8 9 (fCallW 1 g__law_any (vCons (fCall oLen (rCons (fVar 6) rNil)) vNil)) (fCallW 1 g__law_any (vCons (fCall oLen (rCons (fVar 6) rNil)) vNil)))
  (hSeq (hSet 10 (fCall oDict (rCons (fLst (aCons (fTup (aCons (fVar 8) (aCons (fCallW 1 g__law_odd (vCons (fBin oIx (fBin oIx (fVar 6) (fVar 8)) (fC (.int 0))) (vCons (fVar 4) vNil))) aNil))) aNil)) rNil)))
  (hSeq (hIf (asB (fBin oEq (fCallW 1 g__law_any (vCons (fC (.int 2)) vNil)) (fC (.int 0)))) (hDPut 10 (fVar 9) (fCallW 1 g__law_odd (vCons (fBin oIx (fBin oIx (fVar 6) (fVar 9)) (fC (.int 0))) (vCons (fVar 4) vNil)))) hNil)
  (hFrz 10 (hApp 2 (fTup (aCons (fCallP g__law_told (vCons (fVar 5) (vCons (fCallP g__law_built (vCons (fVar 6) (vCons (fVar 10) vNil))) (vCons (fBin oEq (fVar 3) (fC (.int 1))) vNil)))) (aCons (fTup (aCons (fC (.str "refused")) (aCons (fCall oMinK (rCons (fVar 10) rNil)) aNil))) aNil))))))))
def ct_law_1 : TF := (asB (fBin oEq (fBin oIx (fVar 15) (fC (.int 0))) (fC (.str "letter"))))
def fb_law_2 : HF' := (hSeq (hSet 4 (fCallW 1 g__law_kind (vCons (fBin oIx (fLst (aCons (fC (.int 5)) (aCons (fC (.int 6)) (aCons (fC (.int 3)) (aCons (fC (.int 2)) (aCons (fC (.int 0)) (aCons (fC (.int 1)) (aCons (fC (.int 9)) (aCons (fCallW 1 g__law_any (vCons (fC (.int 7)) vNil)) aNil))))))))) (fVar 3)) vNil)))
  (hSeq (hPar 5 6 (fMk "Kind" ["marks", "ties", "arrows"] (aCons (fBin oIx (fVar 4) (fC (.int 0))) (aCons (fBin oIx (fVar 4) (fC (.int 1))) (aCons (fBin oIx (fVar 4) (fC (.int 2))) aNil)))) (fCallW 1 g__law_row_of (vCons (fVar 4) vNil)))
  (hFrz 6 (hSeq (hApp 2 (fTup (aCons (fCallP g__law_told (vCons (fVar 5) (vCons (fCallP g__law_built (vCons (fVar 6) (vCons fDic0 vNil))) (vCons (fBin oEq (fVar 3) (fC (.int 0))) vNil)))) (aCons (fTup (aCons (fC (.str "told")) (aCons (fC .non) aNil))) aNil))))
  (hSeq (hFor (sRng1 (rCons (fC (.int 12)) rNil)) (bName 7) fb_law_1)
  (hSeq (hSet 11 (fMk "Kind" ["marks", "ties", "arrows"] (aCons (fTup aNil) (aCons (fTup aNil) (aCons (fTup aNil) aNil)))))
  (hSeq (hSet 12 (fLc (sEnum (fVar 6)) (bTup (bCons (bName 8) (bCons (bName 15) bNil))) ct_law_1 (fVar 8) [8, 15]))
  (hApp 2 (fTup (aCons (fCallP g__law_told (vCons (fVar 11) (vCons (fCallP g__law_built (vCons (fVar 6) (vCons fDic0 vNil))) (vCons (fC (.bl false)) vNil)))) (aCons (fIf (asB (fBin oGt (fCall oLen (rCons (fVar 12) rNil)) (fC (.int 0)))) (fTup (aCons (fC (.str "refused")) (aCons (fBin oIx (fVar 12) (fC (.int 0))) aNil))) (fTup (aCons (fC (.str "told")) (aCons (fC .non) aNil)))) aNil)))))))))))
def fb_law_3 : HF' := (hApp 2 (fTup (aCons (fCallP g__law_told (vCons (fVar 5) (vCons (fVar 14) (vCons (fC (.bl false)) vNil)))) (aCons (fTup (aCons (fC (.str "refused")) (aCons (fVar 8) aNil))) aNil))))
def h_law : HF' := (hSeq (hFor (sRng1 (rCons (fC (.int 8)) rNil)) (bName 3) fb_law_2)
  (hSeq (hSet 5 (fMk "Kind" ["marks", "ties", "arrows"] (aCons (fTup (aCons (fC (.str "red")) aNil)) (aCons (fTup (aCons (fC (.str "k")) aNil)) (aCons (fTup (aCons (fC (.str "to")) aNil)) aNil)))))
  (hSeq (hSet 13 (fLst (aCons (fTup (aCons (fC .non) (aCons (fC (.int 0)) aNil))) (aCons (fTup (aCons (fTup aNil) (aCons (fC (.int 0)) aNil))) (aCons (fTup (aCons (fTup (aCons (fC (.str "trace")) (aCons (fLst (aCons (fTup (aCons (fC (.str "mark")) (aCons (fC (.str "red")) aNil))) aNil)) aNil))) (aCons (fC (.int 0)) aNil))) (aCons (fTup (aCons (fTup (aCons (fC (.str "trace")) (aCons (fTup (aCons (fTup (aCons (fC (.str "mark")) (aCons (fC (.str "red")) aNil))) (aCons (fTup (aCons (fC (.str "facts")) (aCons (fTup (aCons (fTup (aCons (fC (.str "to")) (aCons (fC (.str "out")) aNil))) (aCons (fTup (aCons (fC (.str "k")) (aCons (fC (.str "with")) aNil))) aNil))) aNil))) aNil))) aNil))) (aCons (fC (.int 2)) aNil))) aNil))))))
  (hSeq (hSet 13 (fBin oAdd (fVar 13) (fLst (aCons (fTup (aCons (fTup (aCons (fC (.str "total")) (aCons (fTup (aCons (fC (.str "mark")) (aCons (fC (.str "red")) aNil))) aNil))) (aCons (fC (.int 0)) aNil))) (aCons (fTup (aCons (fTup (aCons (fC (.str "plus")) (aCons (fLst (aCons (fTup (aCons (fC (.str "trace")) (aCons (fTup aNil) aNil))) aNil)) aNil))) (aCons (fC (.int 0)) aNil))) (aCons (fTup (aCons (fTup (aCons (fC (.str "plus")) (aCons (fTup (aCons (fTup (aCons (fC (.str "trace")) (aCons (fTup aNil) aNil))) (aCons (fTup (aCons (fC (.str "facts")) (aCons (fTup (aCons (fTup (aCons (fC (.str "k")) (aCons (fC (.str "with")) aNil))) aNil)) aNil))) aNil))) aNil))) (aCons (fC (.int 2)) aNil))) aNil))))))
  (hSeq (hForV 13 (bTup (bCons (bName 14) (bCons (bName 8) bNil))) fb_law_3)
  (hSeq (hSet 2 (fBin oAdd (fVar 2) (fLst (aCons (fTup (aCons (fCallP g__law_told (vCons (fVar 5) (vCons (fTup (aCons (fC (.str "trace")) (aCons (fTup (aCons (fTup (aCons (fC (.str "facts")) (aCons (fTup (aCons (fTup (aCons (fC (.str "k")) (aCons (fC (.str "with")) aNil))) (aCons (fTup (aCons (fC (.str "to")) (aCons (fC (.str "in")) aNil))) (aCons (fTup (aCons (fC (.str "to")) (aCons (fC (.str "out")) aNil))) aNil)))) aNil))) (aCons (fTup (aCons (fC (.str "mark")) (aCons (fC (.str "red")) aNil))) aNil))) aNil))) (vCons (fC (.bl false)) vNil)))) (aCons (fTup (aCons (fC (.str "told")) (aCons (fC .non) aNil))) aNil))) aNil))))
  (hRet (fCallP g__law_all (vCons (fBin oAdd (fVar 2) (fLst (aCons (fTup (aCons (fCallP g__law_told (vCons (fVar 5) (vCons (fTup (aCons (fC (.str "trace")) (aCons (fTup aNil) aNil))) (vCons (fC (.bl false)) vNil)))) (aCons (fTup (aCons (fC (.str "told")) (aCons (fC .non) aNil))) aNil))) aNil))) vNil)))))))))
end
/-! ### the walk -/
structure Mods (K : PySem.W.Frag) (mg : Str → Option Value) : Prop where
  f_ties : ∀ n ∈ (["Kind"] : List Str), ∃ C, caddr K n = some C ∧ Cls K C ∧ NoAttr K C "ties"
  f_arrows : ∀ n ∈ (["Kind"] : List Str), ∃ C, caddr K n = some C ∧ Cls K C ∧ NoAttr K C "arrows"
  f_marks : ∀ n ∈ (["Kind"] : List Str), ∃ C, caddr K n = some C ∧ Cls K C ∧ NoAttr K C "marks"
  b_abs : mg "abs" = none
  b_bool : mg "bool" = none
  b_dict : mg "dict" = none
  b_enumerate : mg "enumerate" = none
  b_int : mg "int" = none
  b_isinstance : mg "isinstance" = none
  b_len : mg "len" = none
  b_list : mg "list" = none
  b_max : mg "max" = none
  b_min : mg "min" = none
  b_range : mg "range" = none
  b_sorted : mg "sorted" = none
  b_str : mg "str" = none
  b_tuple : mg "tuple" = none
  b_zip : mg "zip" = none
  b_WITH : ∃ t, mg "WITH" = some (.str "with" t)
  b_OUT : ∃ t, mg "OUT" = some (.str "out" t)
  b_IN : ∃ t, mg "IN" = some (.str "in" t)
  b_PROGRAM : ∃ t, mg "PROGRAM" = some (.str "program" t)
  b_ROW : ∃ t, mg "ROW" = some (.str "row" t)
  b_MATRIX : ∃ t, mg "MATRIX" = some (.str "matrix" t)
  b_LETTER : ∃ t, mg "LETTER" = some (.str "letter" t)
  b_NUMBER : ∃ t, mg "NUMBER" = some (.str "number" t)
  b_TOTAL : ∃ t, mg "TOTAL" = some (.str "total" t)
  b_PLUS : ∃ t, mg "PLUS" = some (.str "plus" t)
  b_TIMES : ∃ t, mg "TIMES" = some (.str "times" t)
  b_MARK : ∃ t, mg "MARK" = some (.str "mark" t)
  b_APPLIED : ∃ t, mg "APPLIED" = some (.str "applied" t)
  b_CORNER : ∃ t, mg "CORNER" = some (.str "corner" t)
  b_WHOLE : ∃ t, mg "WHOLE" = some (.str "whole" t)
  b_FACTS : ∃ t, mg "FACTS" = some (.str "facts" t)
  b_ONE : ∃ t, mg "ONE" = some (.str "one" t)
  b_ALL : ∃ t, mg "ALL" = some (.str "all" t)
  b_PRODUCT : ∃ t, mg "PRODUCT" = some (.str "product" t)
  b_TURNED : ∃ t, mg "TURNED" = some (.str "turned" t)
  b_SCALED : ∃ t, mg "SCALED" = some (.str "scaled" t)
  b_SPREAD : ∃ t, mg "SPREAD" = some (.str "spread" t)
  b_CELLS : ∃ t, mg "CELLS" = some (.str "cells" t)
  b_TRACE : ∃ t, mg "TRACE" = some (.str "trace" t)
section
variable {P : Program} {w : World} {K : PySem.W.Frag} {mg : Str → Option Value} {base : Heap}
/-- the class Kind -/
abbrev si_Kind : Stmt := inClass (topS 53) 0
theorem sci_Kind : FnScope ["self", "marks", "ties", "arrows"] ["self", "marks", "ties", "arrows"] (defScope si_Kind) := ⟨rfl, rfl, rfl, by decide +kernel, rfl, by decide +kernel, by decide +kernel⟩
theorem mk_Kind {C f : Addr} {fd : FuncData} (F : Fun K "__init__" "Kind.__init__" si_Kind f fd) (cf : ClsF K mg "Kind" C ["marks", "ties", "arrows"]) (mk : Mk K C f) : MkF P w K mg base 1 "Kind" ["marks", "ties", "arrows"] := by
  have G : FnOk P w K mg base CX0 1 f fd ["self", "marks", "ties", "arrows"] (spInit C ["marks", "ties", "arrows"]) := by
    refine F.ok sci_Kind (fun vs H Q E h => ?_) (fun cdv A outer s H vs Q E hr h => ?_)
    · obtain ⟨x, dx, ws, rfl, hl, _⟩ := h
      rw [List.length_cons, hl]
      rfl
    · obtain ⟨x, dx, ws, rfl, hl, hx, q⟩ := h
      match ws, hl with
      | [u0, u1, u2], _ =>
        refine ⟨_, pss_cons (ps_fld (pv 0) (pv 1) rfl) (pss_cons (ps_fld (pv 0) (pv 2) rfl) (pss_one (ps_fld (pv 0) (pv 3) rfl))), ?_⟩
        refine ⟨_, rfl, _, rfl, x, C, dx, _, rfl, hx, cf.cl, cf.nA _ (by simp), (by decide), ?_⟩
        refine ⟨_, rfl, _, rfl, x, C, dx, _, rfl, upd_same, cf.cl, cf.nA _ (by simp), Nat.lt_of_le_of_lt (length_putF ..) (by show _ < 1000; first | decide | exact Nat.lt_of_le_of_lt (Nat.succ_le_succ (length_putF ..)) (by decide)), ?_⟩
        refine ⟨_, rfl, _, rfl, x, C, dx, _, rfl, upd_same, cf.cl, cf.nA _ (by simp), Nat.lt_of_le_of_lt (length_putF ..) (by show _ < 1000; first | decide | exact Nat.lt_of_le_of_lt (Nat.succ_le_succ (length_putF ..)) (by decide)), ?_⟩
        have z : putF "arrows" u2 (putF "ties" u1 (putF "marks" u0 (([] : List (Str × V))))) = (["marks", "ties", "arrows"] : List Str).zip [u0, u1, u2] := by kernel_rfl
        rw [z]
        simp only [upd_upd] at q ⊢
        exact q
  exact ⟨⟨C, f, fd, cf, mk, G, F.binds fun _ _ _ _ _ _ us hl => match us, hl with | [_, u0, u1, u2], _ => rfl⟩⟩
theorem d_is_integer {a : Addr} (M : Mods K mg)  : ∀ (cdv : Value) (A : Around) (outer : List Env) (s : Shared) (H : Hp) (E : XK), Room 1 (A.deeper (envOfC "is_integer" (defScope s_is_integer) s.heap.objs.size a cdv)) → DSs (cxOf CX0 P w K mg base ["value"] "is_integer" (defScope s_is_integer) a cdv A outer s H E).nox (defBody s_is_integer) h_is_integer := by
  intro cdv A outer s H E hr
  exact (dss_one (ds_ret (de_and (de_callB c_isa (by rfl) M.b_isinstance boot_isinstance (dr_cons (de_var (pv 0)) (dr_cons (de_ty (by rfl) M.b_int boot_int) dr_nil))) (de_one (de_not (de_callB c_isa (by rfl) M.b_isinstance boot_isinstance (dr_cons (de_var (pv 0)) (dr_cons (de_ty (by rfl) M.b_bool boot_bool) dr_nil))))))))
theorem o_is_integer {a : Addr} {fd : FuncData} (F : Fun K "is_integer" "is_integer" s_is_integer a fd) (gm : mg "is_integer" = some (.ref a)) (M : Mods K mg)  : OwnF P w K mg base 2 "is_integer" "is_integer" s_is_integer ["value"] (spP K 1 g_is_integer) :=
  ⟨a, fd, fn_pure (m := 0) F sc_is_integer rfl rfl (d_is_integer M), gm, F, F.binds fun _ _ _ _ _ _ us hl => match us, hl with | [_], _ => rfl⟩
theorem d_is_tuple {a : Addr} (M : Mods K mg)  : ∀ (cdv : Value) (A : Around) (outer : List Env) (s : Shared) (H : Hp) (E : XK), Room 1 (A.deeper (envOfC "is_tuple" (defScope s_is_tuple) s.heap.objs.size a cdv)) → DSs (cxOf CX0 P w K mg base ["value", "many"] "is_tuple" (defScope s_is_tuple) a cdv A outer s H E).nox (defBody s_is_tuple) h_is_tuple := by
  intro cdv A outer s H E hr
  exact (dss_one (ds_ret (de_and (de_callB c_isa (by rfl) M.b_isinstance boot_isinstance (dr_cons (de_var (pv 0)) (dr_cons (de_ty (by rfl) M.b_tuple boot_tuple) dr_nil))) (de_one (de_cmp (o_eq (hu64 hr)) (de_callB c_len (by rfl) M.b_len boot_len (dr_cons (de_var (pv 0)) dr_nil)) (de_var (pv 1)))))))
theorem o_is_tuple {a : Addr} {fd : FuncData} (F : Fun K "is_tuple" "is_tuple" s_is_tuple a fd) (gm : mg "is_tuple" = some (.ref a)) (M : Mods K mg)  : OwnF P w K mg base 2 "is_tuple" "is_tuple" s_is_tuple ["value", "many"] (spP K 2 g_is_tuple) :=
  ⟨a, fd, fn_pure (m := 0) F sc_is_tuple rfl rfl (d_is_tuple M), gm, F, F.binds fun _ _ _ _ _ _ us hl => match us, hl with | [_, _], _ => rfl⟩
theorem d_is_ascending {a : Addr} (M : Mods K mg)  : ∀ (cdv : Value) (A : Around) (outer : List Env) (s : Shared) (H : Hp) (E : XK), Room 1 (A.deeper (envOfC "is_ascending" (defScope s_is_ascending) s.heap.objs.size a cdv)) → DSs (cxOf CX0 P w K mg base ["values", "at"] "is_ascending" (defScope s_is_ascending) a cdv A outer s H E).nox (defBody s_is_ascending) h_is_ascending := by
  intro cdv A outer s H E hr
  exact (dss_cons (ds_for PassesOwn.never rfl (di_rng1 (by rfl) M.b_range (dr_cons (de_bin o_sub (de_callB c_len (by rfl) M.b_len boot_len (dr_cons (de_var (pv 0)) dr_nil)) de_int) dr_nil)) (dg_name (i := 1) sc_is_ascending.nd rfl (.inl rfl)) (dss_one (ds_if (dt_not (dt_cmp (o_lt (hu64 hr)) (de_ix (de_var (pv 0)) (de_var (pv 1))) (de_ix (de_var (pv 0)) (de_bin o_add (de_var (pv 1)) de_int)))) (dss_one (ds_ret de_bl)) dss_nil)))
  (dss_one (ds_ret de_bl)))
theorem o_is_ascending {a : Addr} {fd : FuncData} (F : Fun K "is_ascending" "is_ascending" s_is_ascending a fd) (gm : mg "is_ascending" = some (.ref a)) (M : Mods K mg)  : OwnF P w K mg base 2 "is_ascending" "is_ascending" s_is_ascending ["values"] (spP K 1 g_is_ascending) :=
  ⟨a, fd, fn_pure (m := 1) F sc_is_ascending rfl rfl (d_is_ascending M), gm, F, F.binds fun _ _ _ _ _ _ us hl => match us, hl with | [_], _ => rfl⟩
theorem d_common_divisor {a : Addr} (M : Mods K mg)  : ∀ (cdv : Value) (A : Around) (outer : List Env) (s : Shared) (H : Hp) (E : XK), Room 1 (A.deeper (envOfC "common_divisor" (defScope s_common_divisor) s.heap.objs.size a cdv)) → DSs (cxOf CX0 P w K mg base ["one", "other"] "common_divisor" (defScope s_common_divisor) a cdv A outer s H E).nox (defBody s_common_divisor) h_common_divisor := by
  intro cdv A outer s H E hr
  exact (dss_cons (ds_par (i := 0) (j := 1) rfl sc_common_divisor.nd rfl rfl (by decide) rfl rfl (de_callB c_abs (by rfl) M.b_abs boot_abs (dr_cons (de_var (pv 0)) dr_nil)) (de_callB c_abs (by rfl) M.b_abs boot_abs (dr_cons (de_var (pv 1)) dr_nil)) (by rfl))
  (dss_cons (ds_while PassesOwn.never (dt_cmp (o_ne (hu64 hr)) (de_var (pv 1)) de_int) (dss_one (ds_par (i := 0) (j := 1) rfl sc_common_divisor.nd rfl rfl (by decide) rfl rfl (de_var (pv 1)) (de_bin o_mod (de_var (pv 0)) (de_var (pv 1))) (by rfl))))
  (dss_one (ds_retV (pv 0)))))
theorem o_common_divisor {a : Addr} {fd : FuncData} (F : Fun K "common_divisor" "common_divisor" s_common_divisor a fd) (gm : mg "common_divisor" = some (.ref a)) (M : Mods K mg)  : OwnF P w K mg base 2 "common_divisor" "common_divisor" s_common_divisor ["one", "other"] (spP K 2 g_common_divisor) :=
  ⟨a, fd, fn_pure (m := 0) F sc_common_divisor rfl rfl (d_common_divisor M), gm, F, F.binds fun _ _ _ _ _ _ us hl => match us, hl with | [_, _], _ => rfl⟩
theorem d_is_fraction {a : Addr} (M : Mods K mg) (C_is_integer : OwnF P w K mg base 2 "is_integer" "is_integer" s_is_integer ["value"] (spP K 1 g_is_integer)) (C_is_tuple : OwnF P w K mg base 2 "is_tuple" "is_tuple" s_is_tuple ["value", "many"] (spP K 2 g_is_tuple)) (C_common_divisor : OwnF P w K mg base 2 "common_divisor" "common_divisor" s_common_divisor ["one", "other"] (spP K 2 g_common_divisor)) : ∀ (cdv : Value) (A : Around) (outer : List Env) (s : Shared) (H : Hp) (E : XK), Room 2 (A.deeper (envOfC "is_fraction" (defScope s_is_fraction) s.heap.objs.size a cdv)) → DSs (cxOf CX0 P w K mg base ["value"] "is_fraction" (defScope s_is_fraction) a cdv A outer s H E).nox (defBody s_is_fraction) h_is_fraction := by
  intro cdv A outer s H E hr
  exact (dss_cons (ds_if (DW.t (dw_or (dt_not (dt_val (de_call C_is_tuple hr (by rfl) fnP_len (dv_cons (de_var (pv 0)) (dv_cons de_int dv_nil))))) (dw_or (dt_not (dt_val (de_call C_is_integer hr (by rfl) fnP_len (dv_cons (de_ix (de_var (pv 0)) de_int) dv_nil)))) (dw_or1 (dt_not (dt_val (de_call C_is_integer hr (by rfl) fnP_len (dv_cons (de_ix (de_var (pv 0)) de_int) dv_nil)))))))) (dss_one (ds_ret de_bl)) dss_nil)
  (dss_one (ds_ret (de_and (de_cmp (o_ge (hu64 hr)) (de_ix (de_var (pv 0)) de_int) de_int) (de_one (de_cmp (o_eq (hu64 hr)) (de_call C_common_divisor hr (by rfl) fnP_len (dv_cons (de_ix (de_var (pv 0)) de_int) (dv_cons (de_ix (de_var (pv 0)) de_int) dv_nil))) de_int))))))
theorem o_is_fraction {a : Addr} {fd : FuncData} (F : Fun K "is_fraction" "is_fraction" s_is_fraction a fd) (gm : mg "is_fraction" = some (.ref a)) (M : Mods K mg) (C_is_integer : OwnF P w K mg base 2 "is_integer" "is_integer" s_is_integer ["value"] (spP K 1 g_is_integer)) (C_is_tuple : OwnF P w K mg base 2 "is_tuple" "is_tuple" s_is_tuple ["value", "many"] (spP K 2 g_is_tuple)) (C_common_divisor : OwnF P w K mg base 2 "common_divisor" "common_divisor" s_common_divisor ["one", "other"] (spP K 2 g_common_divisor)) : OwnF P w K mg base 3 "is_fraction" "is_fraction" s_is_fraction ["value"] (spP K 1 g_is_fraction) :=
  ⟨a, fd, fn_pure (m := 0) F sc_is_fraction rfl rfl (d_is_fraction M C_is_integer C_is_tuple C_common_divisor), gm, F, F.binds fun _ _ _ _ _ _ us hl => match us, hl with | [_], _ => rfl⟩
theorem d_is_link_pair {a : Addr} (M : Mods K mg) (C_is_tuple : OwnF P w K mg base 2 "is_tuple" "is_tuple" s_is_tuple ["value", "many"] (spP K 2 g_is_tuple)) : ∀ (cdv : Value) (A : Around) (outer : List Env) (s : Shared) (H : Hp) (E : XK), Room 2 (A.deeper (envOfC "is_link_pair" (defScope s_is_link_pair) s.heap.objs.size a cdv)) → DSs (cxOf CX0 P w K mg base ["kind", "value"] "is_link_pair" (defScope s_is_link_pair) a cdv A outer s H E).nox (defBody s_is_link_pair) h_is_link_pair := by
  intro cdv A outer s H E hr
  exact (dss_cons (ds_if (DW.t (dw_or (dt_not (dt_val (de_call C_is_tuple hr (by rfl) fnP_len (dv_cons (de_var (pv 1)) (dv_cons de_int dv_nil))))) (dw_or (dt_not (dt_val (de_callB c_isa (by rfl) M.b_isinstance boot_isinstance (dr_cons (de_ix (de_var (pv 1)) de_int) (dr_cons (de_ty (by rfl) M.b_str boot_str) dr_nil))))) (dw_or1 (dt_not (dt_val (de_callB c_isa (by rfl) M.b_isinstance boot_isinstance (dr_cons (de_ix (de_var (pv 1)) de_int) (dr_cons (de_ty (by rfl) M.b_str boot_str) dr_nil))))))))) (dss_one (ds_ret de_bl)) dss_nil)
  (dss_cons (ds_if (dt_cmp (o_eq (hu64 hr)) (de_ix (de_var (pv 1)) de_int) (de_globS (by rfl) M.b_WITH)) (dss_one (ds_ret (de_cmp (o_inA (hu64 hr)) (de_ix (de_var (pv 1)) de_int) (de_fld M.f_ties (de_var (pv 0)))))) dss_nil)
  (dss_one (ds_ret (de_and (de_cmp (o_inA (hu64 hr)) (de_ix (de_var (pv 1)) de_int) (de_tup (da_cons (de_globS (by rfl) M.b_OUT) (da_cons (de_globS (by rfl) M.b_IN) da_nil)))) (de_one (de_cmp (o_inA (hu64 hr)) (de_ix (de_var (pv 1)) de_int) (de_fld M.f_arrows (de_var (pv 0))))))))))
theorem o_is_link_pair {a : Addr} {fd : FuncData} (F : Fun K "is_link_pair" "is_link_pair" s_is_link_pair a fd) (gm : mg "is_link_pair" = some (.ref a)) (M : Mods K mg) (C_is_tuple : OwnF P w K mg base 2 "is_tuple" "is_tuple" s_is_tuple ["value", "many"] (spP K 2 g_is_tuple)) : OwnF P w K mg base 3 "is_link_pair" "is_link_pair" s_is_link_pair ["kind", "value"] (spP K 2 g_is_link_pair) :=
  ⟨a, fd, fn_pure (m := 0) F sc_is_link_pair rfl rfl (d_is_link_pair M C_is_tuple), gm, F, F.binds fun _ _ _ _ _ _ us hl => match us, hl with | [_, _], _ => rfl⟩
theorem d_is_link {a : Addr} (M : Mods K mg) (C_is_ascending : OwnF P w K mg base 3 "is_ascending" "is_ascending" s_is_ascending ["values"] (spP K 1 g_is_ascending)) (C_is_link_pair : OwnF P w K mg base 3 "is_link_pair" "is_link_pair" s_is_link_pair ["kind", "value"] (spP K 2 g_is_link_pair)) : ∀ (cdv : Value) (A : Around) (outer : List Env) (s : Shared) (H : Hp) (E : XK), Room 3 (A.deeper (envOfC "is_link" (defScope s_is_link) s.heap.objs.size a cdv)) → DSs (cxOf CX0 P w K mg base ["kind", "value", "pair"] "is_link" (defScope s_is_link) a cdv A outer s H E).nox (defBody s_is_link) h_is_link := by
  intro cdv A outer s H E hr
  exact (dss_cons (ds_if (DW.t (dw_or (dt_not (dt_val (de_callB c_isa (by rfl) M.b_isinstance boot_isinstance (dr_cons (de_var (pv 1)) (dr_cons (de_ty (by rfl) M.b_tuple boot_tuple) dr_nil))))) (dw_or1 (dt_cmp (o_eq (hu64 hr)) (de_var (pv 1)) (de_tup da_nil))))) (dss_one (ds_ret de_bl)) dss_nil)
  (dss_one (ds_ret (de_and (de_cmp (o_eq (hu64 hr)) (de_list rfl sc_is_link.nd (di_seq (de_var (pv 1))) (own := [("pair", 2)]) (blkOk_by (by kernel_rfl)) (fun _ _ _ _ _ => (dg_name (i := 2) sc_is_link.nd rfl (.inl rfl))) (fun _ _ _ _ _ => (dts_one (dt_not (dt_val (de_call C_is_link_pair hr (by rfl) fnP_len (dv_cons (de_var (pv 0)) (dv_cons (de_var (pv 2)) dv_nil))))))) (fun _ _ _ _ _ => (de_var (pv 2)))) (de_lst da_nil)) (de_one (de_call C_is_ascending hr (by rfl) fnP_len (dv_cons (de_var (pv 1)) dv_nil)))))))
theorem o_is_link {a : Addr} {fd : FuncData} (F : Fun K "is_link" "is_link" s_is_link a fd) (gm : mg "is_link" = some (.ref a)) (M : Mods K mg) (C_is_ascending : OwnF P w K mg base 3 "is_ascending" "is_ascending" s_is_ascending ["values"] (spP K 1 g_is_ascending)) (C_is_link_pair : OwnF P w K mg base 3 "is_link_pair" "is_link_pair" s_is_link_pair ["kind", "value"] (spP K 2 g_is_link_pair)) : OwnF P w K mg base 4 "is_link" "is_link" s_is_link ["kind", "value"] (spP K 2 g_is_link) :=
  ⟨a, fd, fn_pure (m := 1) F sc_is_link rfl rfl (d_is_link M C_is_ascending C_is_link_pair), gm, F, F.binds fun _ _ _ _ _ _ us hl => match us, hl with | [_, _], _ => rfl⟩
theorem d_list_words {a : Addr} (M : Mods K mg)  : ∀ (cdv : Value) (A : Around) (outer : List Env) (s : Shared) (H : Hp) (E : XK), Room 1 (A.deeper (envOfC "list_words" (defScope s_list_words) s.heap.objs.size a cdv)) → DSs (cxOf CX0 P w K mg base ["sort"] "list_words" (defScope s_list_words) a cdv A outer s H E).nox (defBody s_list_words) h_list_words := by
  intro cdv A outer s H E hr
  exact (dss_cons (ds_if (dt_cmp (o_eq (hu64 hr)) (de_var (pv 0)) (de_globS (by rfl) M.b_MATRIX)) (dss_one (ds_ret (de_tup (da_cons (de_globS (by rfl) M.b_PRODUCT) (da_cons (de_globS (by rfl) M.b_PLUS) (da_cons (de_globS (by rfl) M.b_CELLS) da_nil)))))) dss_nil)
  (dss_one (ds_ret (de_if (dt_cmp (o_eq (hu64 hr)) (de_var (pv 0)) (de_globS (by rfl) M.b_LETTER)) (de_tup da_nil) (de_tup (da_cons (de_globS (by rfl) M.b_PLUS) (da_cons (de_globS (by rfl) M.b_TIMES) da_nil)))))))
theorem o_list_words {a : Addr} {fd : FuncData} (F : Fun K "list_words" "list_words" s_list_words a fd) (gm : mg "list_words" = some (.ref a)) (M : Mods K mg)  : OwnF P w K mg base 2 "list_words" "list_words" s_list_words ["sort"] (spP K 1 g_list_words) :=
  ⟨a, fd, fn_pure (m := 0) F sc_list_words rfl rfl (d_list_words M), gm, F, F.binds fun _ _ _ _ _ _ us hl => match us, hl with | [_], _ => rfl⟩
theorem d_single_sort {a : Addr} (M : Mods K mg)  : ∀ (cdv : Value) (A : Around) (outer : List Env) (s : Shared) (H : Hp) (E : XK), Room 1 (A.deeper (envOfC "single_sort" (defScope s_single_sort) s.heap.objs.size a cdv)) → DSs (cxOf CX0 P w K mg base ["sort", "word"] "single_sort" (defScope s_single_sort) a cdv A outer s H E).nox (defBody s_single_sort) h_single_sort := by
  intro cdv A outer s H E hr
  exact (dss_cons (ds_if (dt_cmp (o_eq (hu64 hr)) (de_var (pv 0)) (de_globS (by rfl) M.b_PROGRAM)) (dss_one (ds_ret (de_if (dt_cmp (o_eq (hu64 hr)) (de_var (pv 1)) (de_globS (by rfl) M.b_TOTAL)) (de_globS (by rfl) M.b_ROW) de_str))) dss_nil)
  (dss_cons (ds_if (DW.t (dw_and (dt_cmp (o_eq (hu64 hr)) (de_var (pv 0)) (de_globS (by rfl) M.b_ROW)) (dw_and1 (dt_cmp (o_inA (hu64 hr)) (de_var (pv 1)) (de_tup (da_cons (de_globS (by rfl) M.b_CORNER) (da_cons (de_globS (by rfl) M.b_WHOLE) da_nil))))))) (dss_one (ds_ret (de_if (dt_cmp (o_eq (hu64 hr)) (de_var (pv 1)) (de_globS (by rfl) M.b_CORNER)) (de_globS (by rfl) M.b_MATRIX) (de_globS (by rfl) M.b_PROGRAM)))) dss_nil)
  (dss_cons (ds_if (DW.t (dw_and (dt_cmp (o_eq (hu64 hr)) (de_var (pv 0)) (de_globS (by rfl) M.b_MATRIX)) (dw_and1 (dt_cmp (o_inA (hu64 hr)) (de_var (pv 1)) (de_tup (da_cons (de_globS (by rfl) M.b_TURNED) (da_cons (de_globS (by rfl) M.b_SPREAD) da_nil))))))) (dss_one (ds_ret (de_if (dt_cmp (o_eq (hu64 hr)) (de_var (pv 1)) (de_globS (by rfl) M.b_TURNED)) (de_globS (by rfl) M.b_MATRIX) (de_globS (by rfl) M.b_ROW)))) dss_nil)
  (dss_one (ds_ret de_str)))))
theorem o_single_sort {a : Addr} {fd : FuncData} (F : Fun K "single_sort" "single_sort" s_single_sort a fd) (gm : mg "single_sort" = some (.ref a)) (M : Mods K mg)  : OwnF P w K mg base 2 "single_sort" "single_sort" s_single_sort ["sort", "word"] (spP K 2 g_single_sort) :=
  ⟨a, fd, fn_pure (m := 0) F sc_single_sort rfl rfl (d_single_sort M), gm, F, F.binds fun _ _ _ _ _ _ us hl => match us, hl with | [_, _], _ => rfl⟩
theorem d_is_worded {a : Addr} (M : Mods K mg)  : ∀ (cdv : Value) (A : Around) (outer : List Env) (s : Shared) (H : Hp) (E : XK), Room 1 (A.deeper (envOfC "is_worded" (defScope s_is_worded) s.heap.objs.size a cdv)) → DSs (cxOf CX0 P w K mg base ["value"] "is_worded" (defScope s_is_worded) a cdv A outer s H E).nox (defBody s_is_worded) h_is_worded := by
  intro cdv A outer s H E hr
  exact (dss_one (ds_ret (de_and (de_callB c_isa (by rfl) M.b_isinstance boot_isinstance (dr_cons (de_var (pv 0)) (dr_cons (de_ty (by rfl) M.b_tuple boot_tuple) dr_nil))) (de_and (de_cmp (o_ne (hu64 hr)) (de_var (pv 0)) (de_tup da_nil)) (de_one (de_callB c_isa (by rfl) M.b_isinstance boot_isinstance (dr_cons (de_ix (de_var (pv 0)) de_int) (dr_cons (de_ty (by rfl) M.b_str boot_str) dr_nil))))))))
theorem o_is_worded {a : Addr} {fd : FuncData} (F : Fun K "is_worded" "is_worded" s_is_worded a fd) (gm : mg "is_worded" = some (.ref a)) (M : Mods K mg)  : OwnF P w K mg base 2 "is_worded" "is_worded" s_is_worded ["value"] (spP K 1 g_is_worded) :=
  ⟨a, fd, fn_pure (m := 0) F sc_is_worded rfl rfl (d_is_worded M), gm, F, F.binds fun _ _ _ _ _ _ us hl => match us, hl with | [_], _ => rfl⟩
theorem d_is_list_part {a : Addr} (M : Mods K mg)  : ∀ (cdv : Value) (A : Around) (outer : List Env) (s : Shared) (H : Hp) (E : XK), Room 1 (A.deeper (envOfC "is_list_part" (defScope s_is_list_part) s.heap.objs.size a cdv)) → DSs (cxOf CX0 P w K mg base ["value"] "is_list_part" (defScope s_is_list_part) a cdv A outer s H E).nox (defBody s_is_list_part) h_is_list_part := by
  intro cdv A outer s H E hr
  exact (dss_one (ds_ret (de_and (de_cmp (o_eq (hu64 hr)) (de_callB c_len (by rfl) M.b_len boot_len (dr_cons (de_var (pv 0)) dr_nil)) de_int) (de_and (de_callB c_isa (by rfl) M.b_isinstance boot_isinstance (dr_cons (de_ix (de_var (pv 0)) de_int) (dr_cons (de_ty (by rfl) M.b_tuple boot_tuple) dr_nil))) (de_one (de_cmp (o_gt (hu64 hr)) (de_callB c_len (by rfl) M.b_len boot_len (dr_cons (de_ix (de_var (pv 0)) de_int) dr_nil)) de_int))))))
theorem o_is_list_part {a : Addr} {fd : FuncData} (F : Fun K "is_list_part" "is_list_part" s_is_list_part a fd) (gm : mg "is_list_part" = some (.ref a)) (M : Mods K mg)  : OwnF P w K mg base 2 "is_list_part" "is_list_part" s_is_list_part ["value"] (spP K 1 g_is_list_part) :=
  ⟨a, fd, fn_pure (m := 0) F sc_is_list_part rfl rfl (d_is_list_part M), gm, F, F.binds fun _ _ _ _ _ _ us hl => match us, hl with | [_], _ => rfl⟩
theorem d_is_number_part {a : Addr} (M : Mods K mg) (C_is_fraction : OwnF P w K mg base 3 "is_fraction" "is_fraction" s_is_fraction ["value"] (spP K 1 g_is_fraction)) : ∀ (cdv : Value) (A : Around) (outer : List Env) (s : Shared) (H : Hp) (E : XK), Room 3 (A.deeper (envOfC "is_number_part" (defScope s_is_number_part) s.heap.objs.size a cdv)) → DSs (cxOf CX0 P w K mg base ["value"] "is_number_part" (defScope s_is_number_part) a cdv A outer s H E).nox (defBody s_is_number_part) h_is_number_part := by
  intro cdv A outer s H E hr
  exact (dss_one (ds_ret (de_and (de_cmp (o_eq (hu64 hr)) (de_callB c_len (by rfl) M.b_len boot_len (dr_cons (de_var (pv 0)) dr_nil)) de_int) (de_one (de_call C_is_fraction hr (by rfl) fnP_len (dv_cons (de_ix (de_var (pv 0)) de_int) dv_nil))))))
theorem o_is_number_part {a : Addr} {fd : FuncData} (F : Fun K "is_number_part" "is_number_part" s_is_number_part a fd) (gm : mg "is_number_part" = some (.ref a)) (M : Mods K mg) (C_is_fraction : OwnF P w K mg base 3 "is_fraction" "is_fraction" s_is_fraction ["value"] (spP K 1 g_is_fraction)) : OwnF P w K mg base 4 "is_number_part" "is_number_part" s_is_number_part ["value"] (spP K 1 g_is_number_part) :=
  ⟨a, fd, fn_pure (m := 0) F sc_is_number_part rfl rfl (d_is_number_part M C_is_fraction), gm, F, F.binds fun _ _ _ _ _ _ us hl => match us, hl with | [_], _ => rfl⟩
theorem d_is_mark_part {a : Addr} (M : Mods K mg)  : ∀ (cdv : Value) (A : Around) (outer : List Env) (s : Shared) (H : Hp) (E : XK), Room 1 (A.deeper (envOfC "is_mark_part" (defScope s_is_mark_part) s.heap.objs.size a cdv)) → DSs (cxOf CX0 P w K mg base ["kind", "value"] "is_mark_part" (defScope s_is_mark_part) a cdv A outer s H E).nox (defBody s_is_mark_part) h_is_mark_part := by
  intro cdv A outer s H E hr
  exact (dss_one (ds_ret (de_and (de_cmp (o_eq (hu64 hr)) (de_callB c_len (by rfl) M.b_len boot_len (dr_cons (de_var (pv 1)) dr_nil)) de_int) (de_and (de_callB c_isa (by rfl) M.b_isinstance boot_isinstance (dr_cons (de_ix (de_var (pv 1)) de_int) (dr_cons (de_ty (by rfl) M.b_str boot_str) dr_nil))) (de_one (de_cmp (o_inA (hu64 hr)) (de_ix (de_var (pv 1)) de_int) (de_fld M.f_marks (de_var (pv 0)))))))))
theorem o_is_mark_part {a : Addr} {fd : FuncData} (F : Fun K "is_mark_part" "is_mark_part" s_is_mark_part a fd) (gm : mg "is_mark_part" = some (.ref a)) (M : Mods K mg)  : OwnF P w K mg base 2 "is_mark_part" "is_mark_part" s_is_mark_part ["kind", "value"] (spP K 2 g_is_mark_part) :=
  ⟨a, fd, fn_pure (m := 0) F sc_is_mark_part rfl rfl (d_is_mark_part M), gm, F, F.binds fun _ _ _ _ _ _ us hl => match us, hl with | [_, _], _ => rfl⟩
theorem d_is_matrix_part {a : Addr} (M : Mods K mg) (C_is_link : OwnF P w K mg base 4 "is_link" "is_link" s_is_link ["kind", "value"] (spP K 2 g_is_link)) (C_is_fraction : OwnF P w K mg base 4 "is_fraction" "is_fraction" s_is_fraction ["value"] (spP K 1 g_is_fraction)) : ∀ (cdv : Value) (A : Around) (outer : List Env) (s : Shared) (H : Hp) (E : XK), Room 4 (A.deeper (envOfC "is_matrix_part" (defScope s_is_matrix_part) s.heap.objs.size a cdv)) → DSs (cxOf CX0 P w K mg base ["kind", "value"] "is_matrix_part" (defScope s_is_matrix_part) a cdv A outer s H E).nox (defBody s_is_matrix_part) h_is_matrix_part := by
  intro cdv A outer s H E hr
  exact (dss_cons (ds_if (dt_cmp (o_eq (hu64 hr)) (de_ix (de_var (pv 1)) de_int) (de_globS (by rfl) M.b_FACTS)) (dss_one (ds_ret (de_and (de_cmp (o_eq (hu64 hr)) (de_callB c_len (by rfl) M.b_len boot_len (dr_cons (de_var (pv 1)) dr_nil)) de_int) (de_one (de_call C_is_link hr (by rfl) fnP_len (dv_cons (de_var (pv 0)) (dv_cons (de_ix (de_var (pv 1)) de_int) dv_nil))))))) dss_nil)
  (dss_cons (ds_if (dt_cmp (o_inA (hu64 hr)) (de_ix (de_var (pv 1)) de_int) (de_tup (da_cons (de_globS (by rfl) M.b_ONE) (da_cons (de_globS (by rfl) M.b_ALL) da_nil)))) (dss_one (ds_ret (de_cmp (o_eq (hu64 hr)) (de_callB c_len (by rfl) M.b_len boot_len (dr_cons (de_var (pv 1)) dr_nil)) de_int))) dss_nil)
  (dss_one (ds_ret (de_and (de_cmp (o_eq (hu64 hr)) (de_ix (de_var (pv 1)) de_int) (de_globS (by rfl) M.b_SCALED)) (de_and (de_cmp (o_eq (hu64 hr)) (de_callB c_len (by rfl) M.b_len boot_len (dr_cons (de_var (pv 1)) dr_nil)) de_int) (de_one (de_call C_is_fraction hr (by rfl) fnP_len (dv_cons (de_ix (de_var (pv 1)) de_int) dv_nil)))))))))
theorem o_is_matrix_part {a : Addr} {fd : FuncData} (F : Fun K "is_matrix_part" "is_matrix_part" s_is_matrix_part a fd) (gm : mg "is_matrix_part" = some (.ref a)) (M : Mods K mg) (C_is_link : OwnF P w K mg base 4 "is_link" "is_link" s_is_link ["kind", "value"] (spP K 2 g_is_link)) (C_is_fraction : OwnF P w K mg base 4 "is_fraction" "is_fraction" s_is_fraction ["value"] (spP K 1 g_is_fraction)) : OwnF P w K mg base 5 "is_matrix_part" "is_matrix_part" s_is_matrix_part ["kind", "value"] (spP K 2 g_is_matrix_part) :=
  ⟨a, fd, fn_pure (m := 0) F sc_is_matrix_part rfl rfl (d_is_matrix_part M C_is_link C_is_fraction), gm, F, F.binds fun _ _ _ _ _ _ us hl => match us, hl with | [_, _], _ => rfl⟩
theorem d_is_row_part {a : Addr} (M : Mods K mg) (C_is_mark_part : OwnF P w K mg base 4 "is_mark_part" "is_mark_part" s_is_mark_part ["kind", "value"] (spP K 2 g_is_mark_part)) (C_is_number_part : OwnF P w K mg base 4 "is_number_part" "is_number_part" s_is_number_part ["value"] (spP K 1 g_is_number_part)) : ∀ (cdv : Value) (A : Around) (outer : List Env) (s : Shared) (H : Hp) (E : XK), Room 4 (A.deeper (envOfC "is_row_part" (defScope s_is_row_part) s.heap.objs.size a cdv)) → DSs (cxOf CX0 P w K mg base ["kind", "value"] "is_row_part" (defScope s_is_row_part) a cdv A outer s H E).nox (defBody s_is_row_part) h_is_row_part := by
  intro cdv A outer s H E hr
  exact (dss_cons (ds_if (dt_cmp (o_eq (hu64 hr)) (de_ix (de_var (pv 1)) de_int) (de_globS (by rfl) M.b_MARK)) (dss_one (ds_ret (de_call C_is_mark_part hr (by rfl) fnP_len (dv_cons (de_var (pv 0)) (dv_cons (de_var (pv 1)) dv_nil))))) dss_nil)
  (dss_one (ds_ret (de_if (dt_cmp (o_eq (hu64 hr)) (de_ix (de_var (pv 1)) de_int) (de_globS (by rfl) M.b_APPLIED)) (de_cmp (o_eq (hu64 hr)) (de_callB c_len (by rfl) M.b_len boot_len (dr_cons (de_var (pv 1)) dr_nil)) de_int) (de_and (de_cmp (o_eq (hu64 hr)) (de_ix (de_var (pv 1)) de_int) (de_globS (by rfl) M.b_NUMBER)) (de_one (de_call C_is_number_part hr (by rfl) fnP_len (dv_cons (de_var (pv 1)) dv_nil))))))))
theorem o_is_row_part {a : Addr} {fd : FuncData} (F : Fun K "is_row_part" "is_row_part" s_is_row_part a fd) (gm : mg "is_row_part" = some (.ref a)) (M : Mods K mg) (C_is_mark_part : OwnF P w K mg base 4 "is_mark_part" "is_mark_part" s_is_mark_part ["kind", "value"] (spP K 2 g_is_mark_part)) (C_is_number_part : OwnF P w K mg base 4 "is_number_part" "is_number_part" s_is_number_part ["value"] (spP K 1 g_is_number_part)) : OwnF P w K mg base 5 "is_row_part" "is_row_part" s_is_row_part ["kind", "value"] (spP K 2 g_is_row_part) :=
  ⟨a, fd, fn_pure (m := 0) F sc_is_row_part rfl rfl (d_is_row_part M C_is_mark_part C_is_number_part), gm, F, F.binds fun _ _ _ _ _ _ us hl => match us, hl with | [_, _], _ => rfl⟩
theorem d_is_letter {a : Addr} (M : Mods K mg) (C_is_link : OwnF P w K mg base 4 "is_link" "is_link" s_is_link ["kind", "value"] (spP K 2 g_is_link)) (C_is_mark_part : OwnF P w K mg base 4 "is_mark_part" "is_mark_part" s_is_mark_part ["kind", "value"] (spP K 2 g_is_mark_part)) : ∀ (cdv : Value) (A : Around) (outer : List Env) (s : Shared) (H : Hp) (E : XK), Room 4 (A.deeper (envOfC "is_letter" (defScope s_is_letter) s.heap.objs.size a cdv)) → DSs (cxOf CX0 P w K mg base ["kind", "value"] "is_letter" (defScope s_is_letter) a cdv A outer s H E).nox (defBody s_is_letter) h_is_letter := by
  intro cdv A outer s H E hr
  exact (dss_cons (ds_if (dt_cmp (o_eq (hu64 hr)) (de_ix (de_var (pv 1)) de_int) (de_globS (by rfl) M.b_FACTS)) (dss_one (ds_ret (de_and (de_cmp (o_eq (hu64 hr)) (de_callB c_len (by rfl) M.b_len boot_len (dr_cons (de_var (pv 1)) dr_nil)) de_int) (de_one (de_call C_is_link hr (by rfl) fnP_len (dv_cons (de_var (pv 0)) (dv_cons (de_ix (de_var (pv 1)) de_int) dv_nil))))))) dss_nil)
  (dss_one (ds_ret (de_and (de_cmp (o_eq (hu64 hr)) (de_ix (de_var (pv 1)) de_int) (de_globS (by rfl) M.b_MARK)) (de_one (de_call C_is_mark_part hr (by rfl) fnP_len (dv_cons (de_var (pv 0)) (dv_cons (de_var (pv 1)) dv_nil))))))))
theorem o_is_letter {a : Addr} {fd : FuncData} (F : Fun K "is_letter" "is_letter" s_is_letter a fd) (gm : mg "is_letter" = some (.ref a)) (M : Mods K mg) (C_is_link : OwnF P w K mg base 4 "is_link" "is_link" s_is_link ["kind", "value"] (spP K 2 g_is_link)) (C_is_mark_part : OwnF P w K mg base 4 "is_mark_part" "is_mark_part" s_is_mark_part ["kind", "value"] (spP K 2 g_is_mark_part)) : OwnF P w K mg base 5 "is_letter" "is_letter" s_is_letter ["kind", "value"] (spP K 2 g_is_letter) :=
  ⟨a, fd, fn_pure (m := 0) F sc_is_letter rfl rfl (d_is_letter M C_is_link C_is_mark_part), gm, F, F.binds fun _ _ _ _ _ _ us hl => match us, hl with | [_, _], _ => rfl⟩
theorem d_is_program_part {a : Addr} (M : Mods K mg) (C_is_number_part : OwnF P w K mg base 4 "is_number_part" "is_number_part" s_is_number_part ["value"] (spP K 1 g_is_number_part)) : ∀ (cdv : Value) (A : Around) (outer : List Env) (s : Shared) (H : Hp) (E : XK), Room 4 (A.deeper (envOfC "is_program_part" (defScope s_is_program_part) s.heap.objs.size a cdv)) → DSs (cxOf CX0 P w K mg base ["value", "is_trace"] "is_program_part" (defScope s_is_program_part) a cdv A outer s H E).nox (defBody s_is_program_part) h_is_program_part := by
  intro cdv A outer s H E hr
  exact (dss_cons (ds_if (dt_cmp (o_eq (hu64 hr)) (de_ix (de_var (pv 0)) de_int) (de_globS (by rfl) M.b_TRACE)) (dss_one (ds_ret (de_and (de_var (pv 1)) (de_and (de_cmp (o_eq (hu64 hr)) (de_callB c_len (by rfl) M.b_len boot_len (dr_cons (de_var (pv 0)) dr_nil)) de_int) (de_one (de_callB c_isa (by rfl) M.b_isinstance boot_isinstance (dr_cons (de_ix (de_var (pv 0)) de_int) (dr_cons (de_ty (by rfl) M.b_tuple boot_tuple) dr_nil)))))))) dss_nil)
  (dss_one (ds_ret (de_and (de_cmp (o_eq (hu64 hr)) (de_ix (de_var (pv 0)) de_int) (de_globS (by rfl) M.b_NUMBER)) (de_one (de_call C_is_number_part hr (by rfl) fnP_len (dv_cons (de_var (pv 0)) dv_nil)))))))
theorem o_is_program_part {a : Addr} {fd : FuncData} (F : Fun K "is_program_part" "is_program_part" s_is_program_part a fd) (gm : mg "is_program_part" = some (.ref a)) (M : Mods K mg) (C_is_number_part : OwnF P w K mg base 4 "is_number_part" "is_number_part" s_is_number_part ["value"] (spP K 1 g_is_number_part)) : OwnF P w K mg base 5 "is_program_part" "is_program_part" s_is_program_part ["value", "is_trace"] (spP K 2 g_is_program_part) :=
  ⟨a, fd, fn_pure (m := 0) F sc_is_program_part rfl rfl (d_is_program_part M C_is_number_part), gm, F, F.binds fun _ _ _ _ _ _ us hl => match us, hl with | [_, _], _ => rfl⟩
theorem d_is_part {a : Addr} (M : Mods K mg) (C_is_worded : OwnF P w K mg base 5 "is_worded" "is_worded" s_is_worded ["value"] (spP K 1 g_is_worded)) (C_list_words : OwnF P w K mg base 5 "list_words" "list_words" s_list_words ["sort"] (spP K 1 g_list_words)) (C_is_list_part : OwnF P w K mg base 5 "is_list_part" "is_list_part" s_is_list_part ["value"] (spP K 1 g_is_list_part)) (C_single_sort : OwnF P w K mg base 5 "single_sort" "single_sort" s_single_sort ["sort", "word"] (spP K 2 g_single_sort)) (C_is_matrix_part : OwnF P w K mg base 5 "is_matrix_part" "is_matrix_part" s_is_matrix_part ["kind", "value"] (spP K 2 g_is_matrix_part)) (C_is_row_part : OwnF P w K mg base 5 "is_row_part" "is_row_part" s_is_row_part ["kind", "value"] (spP K 2 g_is_row_part)) (C_is_letter : OwnF P w K mg base 5 "is_letter" "is_letter" s_is_letter ["kind", "value"] (spP K 2 g_is_letter)) (C_is_program_part : OwnF P w K mg base 5 "is_program_part" "is_program_part" s_is_program_part ["value", "is_trace"] (spP K 2 g_is_program_part)) : ∀ (cdv : Value) (A : Around) (outer : List Env) (s : Shared) (H : Hp) (E : XK), Room 5 (A.deeper (envOfC "is_part" (defScope s_is_part) s.heap.objs.size a cdv)) → DSs (cxOf CX0 P w K mg base ["kind", "sort", "value", "is_trace"] "is_part" (defScope s_is_part) a cdv A outer s H E).nox (defBody s_is_part) h_is_part := by
  intro cdv A outer s H E hr
  exact (dss_cons (ds_if (dt_not (dt_val (de_call C_is_worded hr (by rfl) fnP_len (dv_cons (de_var (pv 2)) dv_nil)))) (dss_one (ds_ret de_bl)) dss_nil)
  (dss_cons (ds_if (dt_cmp (o_inA (hu64 hr)) (de_ix (de_var (pv 2)) de_int) (de_call C_list_words hr (by rfl) fnP_len (dv_cons (de_var (pv 1)) dv_nil))) (dss_one (ds_ret (de_call C_is_list_part hr (by rfl) fnP_len (dv_cons (de_var (pv 2)) dv_nil)))) dss_nil)
  (dss_cons (ds_if (dt_cmp (o_ne (hu64 hr)) (de_call C_single_sort hr (by rfl) fnP_len (dv_cons (de_var (pv 1)) (dv_cons (de_ix (de_var (pv 2)) de_int) dv_nil))) de_str) (dss_one (ds_ret (de_and (de_cmp (o_eq (hu64 hr)) (de_callB c_len (by rfl) M.b_len boot_len (dr_cons (de_var (pv 2)) dr_nil)) de_int) (de_one (de_not (de_and (de_var (pv 3)) (de_one (de_cmp (o_eq (hu64 hr)) (de_ix (de_var (pv 2)) de_int) (de_globS (by rfl) M.b_TOTAL))))))))) dss_nil)
  (dss_cons (ds_if (dt_cmp (o_eq (hu64 hr)) (de_var (pv 1)) (de_globS (by rfl) M.b_MATRIX)) (dss_one (ds_ret (de_call C_is_matrix_part hr (by rfl) fnP_len (dv_cons (de_var (pv 0)) (dv_cons (de_var (pv 2)) dv_nil))))) dss_nil)
  (dss_cons (ds_if (dt_cmp (o_eq (hu64 hr)) (de_var (pv 1)) (de_globS (by rfl) M.b_ROW)) (dss_one (ds_ret (de_call C_is_row_part hr (by rfl) fnP_len (dv_cons (de_var (pv 0)) (dv_cons (de_var (pv 2)) dv_nil))))) dss_nil)
  (dss_one (ds_ret (de_if (dt_cmp (o_eq (hu64 hr)) (de_var (pv 1)) (de_globS (by rfl) M.b_LETTER)) (de_call C_is_letter hr (by rfl) fnP_len (dv_cons (de_var (pv 0)) (dv_cons (de_var (pv 2)) dv_nil))) (de_call C_is_program_part hr (by rfl) fnP_len (dv_cons (de_var (pv 2)) (dv_cons (de_var (pv 3)) dv_nil)))))))))))
theorem o_is_part {a : Addr} {fd : FuncData} (F : Fun K "is_part" "is_part" s_is_part a fd) (gm : mg "is_part" = some (.ref a)) (M : Mods K mg) (C_is_worded : OwnF P w K mg base 5 "is_worded" "is_worded" s_is_worded ["value"] (spP K 1 g_is_worded)) (C_list_words : OwnF P w K mg base 5 "list_words" "list_words" s_list_words ["sort"] (spP K 1 g_list_words)) (C_is_list_part : OwnF P w K mg base 5 "is_list_part" "is_list_part" s_is_list_part ["value"] (spP K 1 g_is_list_part)) (C_single_sort : OwnF P w K mg base 5 "single_sort" "single_sort" s_single_sort ["sort", "word"] (spP K 2 g_single_sort)) (C_is_matrix_part : OwnF P w K mg base 5 "is_matrix_part" "is_matrix_part" s_is_matrix_part ["kind", "value"] (spP K 2 g_is_matrix_part)) (C_is_row_part : OwnF P w K mg base 5 "is_row_part" "is_row_part" s_is_row_part ["kind", "value"] (spP K 2 g_is_row_part)) (C_is_letter : OwnF P w K mg base 5 "is_letter" "is_letter" s_is_letter ["kind", "value"] (spP K 2 g_is_letter)) (C_is_program_part : OwnF P w K mg base 5 "is_program_part" "is_program_part" s_is_program_part ["value", "is_trace"] (spP K 2 g_is_program_part)) : OwnF P w K mg base 6 "is_part" "is_part" s_is_part ["kind", "sort", "value", "is_trace"] (spP K 4 g_is_part) :=
  ⟨a, fd, fn_pure (m := 0) F sc_is_part rfl rfl (d_is_part M C_is_worded C_list_words C_is_list_part C_single_sort C_is_matrix_part C_is_row_part C_is_letter C_is_program_part), gm, F, F.binds fun _ _ _ _ _ _ us hl => match us, hl with | [_, _, _, _], _ => rfl⟩
theorem d_inner_parts {a : Addr} (M : Mods K mg) (C_list_words : OwnF P w K mg base 2 "list_words" "list_words" s_list_words ["sort"] (spP K 1 g_list_words)) (C_single_sort : OwnF P w K mg base 2 "single_sort" "single_sort" s_single_sort ["sort", "word"] (spP K 2 g_single_sort)) : ∀ (cdv : Value) (A : Around) (outer : List Env) (s : Shared) (H : Hp) (E : XK), Room 2 (A.deeper (envOfC "inner_parts" (defScope s_inner_parts) s.heap.objs.size a cdv)) → DSs (cxOf CX0 P w K mg base ["sort", "value", "word", "part", "letter"] "inner_parts" (defScope s_inner_parts) a cdv A outer s H E).nox (defBody s_inner_parts) h_inner_parts := by
  intro cdv A outer s H E hr
  exact (dss_cons (ds_set sc_inner_parts.nd (i := 2) rfl (.inl rfl) (de_ix (de_var (pv 1)) de_int))
  (dss_cons (ds_if (dt_cmp (o_inA (hu64 hr)) (de_var (pv 2)) (de_call C_list_words hr (by rfl) fnP_len (dv_cons (de_var (pv 0)) dv_nil))) (dss_one (ds_ret (de_list rfl sc_inner_parts.nd (di_seq (de_ix (de_var (pv 1)) de_int)) (own := [("part", 3)]) (blkOk_by (by kernel_rfl)) (fun _ _ _ _ _ => (dg_name (i := 3) sc_inner_parts.nd rfl (.inl rfl))) (fun _ _ _ _ _ => dts_nil) (fun _ _ _ _ _ => (de_tup (da_cons (de_var (pv 0)) (da_cons (de_var (pv 3)) da_nil))))))) dss_nil)
  (dss_cons (ds_if (dt_cmp (o_ne (hu64 hr)) (de_call C_single_sort hr (by rfl) fnP_len (dv_cons (de_var (pv 0)) (dv_cons (de_var (pv 2)) dv_nil))) de_str) (dss_one (ds_ret (de_lst (da_cons (de_tup (da_cons (de_call C_single_sort hr (by rfl) fnP_len (dv_cons (de_var (pv 0)) (dv_cons (de_var (pv 2)) dv_nil))) (da_cons (de_ix (de_var (pv 1)) de_int) da_nil))) da_nil)))) dss_nil)
  (dss_cons (ds_if (dt_cmp (o_eq (hu64 hr)) (de_var (pv 2)) (de_globS (by rfl) M.b_SCALED)) (dss_one (ds_ret (de_lst (da_cons (de_tup (da_cons (de_globS (by rfl) M.b_MATRIX) (da_cons (de_ix (de_var (pv 1)) de_int) da_nil))) da_nil)))) dss_nil)
  (dss_cons (ds_if (dt_cmp (o_eq (hu64 hr)) (de_var (pv 2)) (de_globS (by rfl) M.b_APPLIED)) (dss_one (ds_ret (de_lst (da_cons (de_tup (da_cons (de_globS (by rfl) M.b_MATRIX) (da_cons (de_ix (de_var (pv 1)) de_int) da_nil))) (da_cons (de_tup (da_cons (de_globS (by rfl) M.b_ROW) (da_cons (de_ix (de_var (pv 1)) de_int) da_nil))) da_nil))))) dss_nil)
  (dss_one (ds_ret (de_if (dt_cmp (o_eq (hu64 hr)) (de_var (pv 2)) (de_globS (by rfl) M.b_TRACE)) (de_list rfl sc_inner_parts.nd (di_seq (de_ix (de_var (pv 1)) de_int)) (own := [("letter", 4)]) (blkOk_by (by kernel_rfl)) (fun _ _ _ _ _ => (dg_name (i := 4) sc_inner_parts.nd rfl (.inl rfl))) (fun _ _ _ _ _ => dts_nil) (fun _ _ _ _ _ => (de_tup (da_cons (de_globS (by rfl) M.b_LETTER) (da_cons (de_var (pv 4)) da_nil))))) (de_lst da_nil)))))))))
theorem o_inner_parts {a : Addr} {fd : FuncData} (F : Fun K "inner_parts" "inner_parts" s_inner_parts a fd) (gm : mg "inner_parts" = some (.ref a)) (M : Mods K mg) (C_list_words : OwnF P w K mg base 2 "list_words" "list_words" s_list_words ["sort"] (spP K 1 g_list_words)) (C_single_sort : OwnF P w K mg base 2 "single_sort" "single_sort" s_single_sort ["sort", "word"] (spP K 2 g_single_sort)) : OwnF P w K mg base 3 "inner_parts" "inner_parts" s_inner_parts ["sort", "value"] (spP K 2 g_inner_parts) :=
  ⟨a, fd, fn_pure (m := 3) F sc_inner_parts rfl rfl (d_inner_parts M C_list_words C_single_sort), gm, F, F.binds fun _ _ _ _ _ _ us hl => match us, hl with | [_, _], _ => rfl⟩
theorem d_first_wrong {a : Addr} (M : Mods K mg) (C_is_part : OwnF P w K mg base 6 "is_part" "is_part" s_is_part ["kind", "sort", "value", "is_trace"] (spP K 4 g_is_part)) (C_inner_parts : OwnF P w K mg base 6 "inner_parts" "inner_parts" s_inner_parts ["sort", "value"] (spP K 2 g_inner_parts)) : ∀ (cdv : Value) (A : Around) (outer : List Env) (s : Shared) (H : Hp) (E : XK), Room 6 (A.deeper (envOfC "first_wrong" (defScope s_first_wrong) s.heap.objs.size a cdv)) → DSs (cxOf CX0 P w K mg base ["kind", "value", "is_trace", "todo", "number", "sort", "part"] "first_wrong" (defScope s_first_wrong) a cdv A outer s H E).nox (defBody s_first_wrong) h_first_wrong := by
  intro cdv A outer s H E hr
  exact (dss_cons (ds_par (i := 3) (j := 4) rfl sc_first_wrong.nd rfl rfl (by decide) rfl rfl (de_lst (da_cons (de_tup (da_cons (de_globS (by rfl) M.b_PROGRAM) (da_cons (de_var (pv 1)) da_nil))) da_nil)) de_int (by rfl))
  (dss_cons (ds_while PassesOwn.never (dt_cmp (o_ne (hu64 hr)) (de_var (pv 3)) (de_lst da_nil)) (dss_cons (ds_popTo (pv 3) (dg_tup rfl (dgs_cons (dg_name (i := 5) sc_first_wrong.nd rfl (.inl rfl)) (dgs_cons (dg_name (i := 6) sc_first_wrong.nd rfl (.inl rfl)) dgs_nil))))
  (dss_cons (ds_if (dt_not (dt_val (de_call C_is_part hr (by rfl) fnP_len (dv_cons (de_var (pv 0)) (dv_cons (de_var (pv 5)) (dv_cons (de_var (pv 6)) (dv_cons (de_var (pv 2)) dv_nil))))))) (dss_one (ds_retV (pv 4))) dss_nil)
  (dss_cons (ds_extend (pv 3) (de_rev (de_call C_inner_parts hr (by rfl) fnP_len (dv_cons (de_var (pv 5)) (dv_cons (de_var (pv 6)) dv_nil)))))
  (dss_one (ds_aug sc_first_wrong.nd rfl (.inl rfl) de_int ip_addI))))))
  (dss_one (ds_ret (de_neg de_int)))))
theorem o_first_wrong {a : Addr} {fd : FuncData} (F : Fun K "first_wrong" "first_wrong" s_first_wrong a fd) (gm : mg "first_wrong" = some (.ref a)) (M : Mods K mg) (C_is_part : OwnF P w K mg base 6 "is_part" "is_part" s_is_part ["kind", "sort", "value", "is_trace"] (spP K 4 g_is_part)) (C_inner_parts : OwnF P w K mg base 6 "inner_parts" "inner_parts" s_inner_parts ["sort", "value"] (spP K 2 g_inner_parts)) : OwnF P w K mg base 7 "first_wrong" "first_wrong" s_first_wrong ["kind", "value", "is_trace"] (spP K 3 g_first_wrong) :=
  ⟨a, fd, fn_pure (m := 4) F sc_first_wrong rfl rfl (d_first_wrong M C_is_part C_inner_parts), gm, F, F.binds fun _ _ _ _ _ _ us hl => match us, hl with | [_, _, _], _ => rfl⟩
theorem if_yes {c : Bool} {A B : Prop} (h : c = true) (a : A) : if c = true then A else B := by
  rw [if_pos h]
  exact a
theorem if_no {c : Bool} {A B : Prop} (h : c = false) (b : B) : if c = true then A else B := by
  rw [h, if_neg Bool.false_ne_true]
  exact b
/-- need_trace, by hand -/
theorem o_need_trace {f C fI : Addr} {fd : FuncData} (F : Fun K "need_trace" "need_trace" s_need_trace f fd) (T : EX.ErrC K mg "InvalidProgram" C fI) (C_first_wrong : OwnF P w K mg base 7 "first_wrong" "first_wrong" s_first_wrong ["kind", "value", "is_trace"] (spP K 3 g_first_wrong)) :
    FnOk P w K mg base (L2.CX P w) (7 + 1) f fd ["kind", "value"] (EX.spNd K C 2 gn_trace) := by
  refine F.okX sc_need_trace (fun vs H Q E h => h.1) (fun cdv A outer s H vs Q E hr h => ?_)
  obtain ⟨hl, A0, ds, z, hA, r, hg, qN, qR⟩ := h
  obtain ⟨t, p, x⟩ := (de_call (X := cxOf (L2.CX P w) P w K mg base ["kind", "value", "at"] "need_trace" (defScope s_need_trace) f cdv A outer s H E) C_first_wrong hr (by rfl) fnP_len (dv_cons (de_var (pv 0)) (dv_cons (de_var (pv 1)) (dv_cons de_bl dv_nil)))).ex
  refine ⟨_, pss_cons (ps_set (i := 2) sc_need_trace.nd rfl (.inl rfl) p) (pss_one (ps_if (pt_cmpR op_ge (pv 2) pe_int (nomark _)) (pss_one (EX.ps_raiseE rfl T hr (takes_of rfl rfl rfl rfl) (pa_cons (pv 2) pa_nil))) pss_nil)), ?_⟩
  match ds, vs, hl, r, hg with
  | [dk, dv], [vk, vv], _, r, hg =>
    have S0 : SR K ⟨A0, none⟩ (fun _ => []) (L2.start ["kind", "value", "at"] [vk, vv]) [.sh dk, .sh dv, .un] ([], 0) H := sr_start (N := ["kind", "value", "at"]) (m := 1) rfl hA r
    have nopd : ∀ a, ¬ Gh.Pd ⟨A0, none⟩ a := fun a ⟨p, q, z, _⟩ => by cases z
    refine x ⟨A0, none⟩ (fun _ => []) (L2.start ["kind", "value", "at"] [vk, vv]) H [.sh dk, .sh dv, .un] ([], 0) (.int z) .sh ([], 0) _ S0 ?_ fun v H1 k1 S1 r1 => ?_
    · have hg' : g_first_wrong [dk, dv, .bl true] = some (.int z, .sh) := hg
      show ((g_first_wrong [dk, dv, .bl true]).bind _) = _
      rw [hg']
      rfl
    · have sm : Same H H1 := fun a o ha => k1.at_ ha (nopd a)
      have ev : v = .int z := by
        have r2 : Rep K _ H1 v (.int z) := r1
        cases r2
        rfl
      subst ev
      refine ⟨_, rfl, _, _, rfl, rfl, _, rfl, ?_⟩
      by_cases c : (0 : Int) ≤ z
      · exact if_yes (decide_eq_true c) ⟨_, rfl, _, rfl, fun d hd => qR c H1 d sm hd⟩
      · exact if_no (decide_eq_false c) (qN (by omega) H1 sm)
theorem d__law_deal {a : Addr} (M : Mods K mg)  : ∀ (cdv : Value) (A : Around) (outer : List Env) (s : Shared) (H : Hp) (E : XK), Room 1 (A.deeper (envOfC "_law_deal" (defScope s__law_deal) s.heap.objs.size a cdv)) → DSs (cxOf CX0 P w K mg base ["script", "salt", "most", "cells", "mix", "cell"] "_law_deal" (defScope s__law_deal) a cdv A outer s H E).nox (defBody s__law_deal) h__law_deal := by
  intro cdv A outer s H E hr
  exact (dss_cons (ds_set sc__law_deal.nd (i := 2) rfl (.inr rfl) (de_bin o_mul (de_bin o_mul (de_bin o_mul (de_bin o_mul (de_bin o_mul (de_bin o_pow de_int de_int) (de_bin o_pow de_int de_int)) (de_bin o_pow de_int de_int)) (de_bin o_pow de_int de_int)) (de_bin o_pow de_int de_int)) (de_bin o_pow de_int de_int)))
  (dss_cons (ds_par (i := 3) (j := 4) rfl sc__law_deal.nd rfl rfl (by decide) rfl rfl (de_list rfl sc__law_deal.nd (di_seq (de_cut (de_var (pv 0)) do_no (do_of de_int))) (own := [("cell", 5)]) (blkOk_by (by kernel_rfl)) (fun _ _ _ _ _ => (dg_name (i := 5) sc__law_deal.nd rfl (.inl rfl))) (fun _ _ _ _ _ => dts_nil) (fun _ _ _ _ _ => (de_bin o_mod (de_callTy c_int (by rfl) M.b_int boot_int (dr_cons (de_callB c_abs (by rfl) M.b_abs boot_abs (dr_cons (de_callTy c_int (by rfl) M.b_int boot_int (dr_cons (de_var (pv 5)) dr_nil)) dr_nil)) dr_nil)) (de_var (pv 2))))) (de_bin o_add de_int (de_bin o_mul de_int (de_var (pv 1)))) (by rfl))
  (dss_cons (ds_forV PassesOwn.never rfl (pv 3) (dg_name (i := 5) sc__law_deal.nd rfl (.inl rfl)) (dss_one (ds_set sc__law_deal.nd (i := 4) rfl (.inl rfl) (de_bin o_mod (de_callTy c_int (by rfl) M.b_int boot_int (dr_cons (de_bin o_add (de_bin o_add (de_bin o_mul (de_var (pv 4)) de_int) (de_bin o_mod (de_callTy c_int (by rfl) M.b_int boot_int (dr_cons (de_var (pv 5)) dr_nil)) de_int)) de_int) dr_nil)) de_int))))
  (dss_one (ds_ret (de_lst (da_cons (de_rev (de_list rfl sc__law_deal.nd (di_seq (de_var (pv 3))) (own := [("cell", 5)]) (blkOk_by (by kernel_rfl)) (fun _ _ _ _ _ => (dg_name (i := 5) sc__law_deal.nd rfl (.inl rfl))) (fun _ _ _ _ _ => (dts_one (dt_cmp (o_ge (hu64 hr)) (de_var (pv 5)) (de_bin o_pow de_int de_int)))) (fun _ _ _ _ _ => (de_var (pv 5))))) (da_cons (de_var (pv 4)) da_nil))))))))
theorem o__law_deal {a : Addr} {fd : FuncData} (F : Fun K "_law_deal" "_law_deal" s__law_deal a fd) (gm : mg "_law_deal" = some (.ref a)) (M : Mods K mg)  : OwnF P w K mg base 2 "_law_deal" "_law_deal" s__law_deal ["script", "salt"] (spP K 2 g__law_deal) :=
  ⟨a, fd, fn_pure (m := 4) F sc__law_deal rfl rfl (d__law_deal M), gm, F, F.binds fun _ _ _ _ _ _ us hl => match us, hl with | [_, _], _ => rfl⟩
theorem d__law_any {a : Addr} (M : Mods K mg)  : ∀ (cdv : Value) (A : Around) (outer : List Env) (s : Shared) (H : Hp) (E : XK), Room 1 (A.deeper (envOfC "_law_any" (defScope s__law_any) s.heap.objs.size a cdv)) → DSs (cxOf CX0 P w K mg base ["deal", "bound", "rest"] "_law_any" (defScope s__law_any) a cdv A outer s H E).nox (defBody s__law_any) h__law_any := by
  intro cdv A outer s H E hr
  exact (dss_cons (ds_while PassesOwn.never (DW.t (dw_and (dt_cmp (o_gt (hu64 hr)) (de_dlen (pv 0) (by rfl) M.b_len) de_int) (dw_and1 (dt_cmp (o_eq (hu64 hr)) (de_dlast (pv 0)) de_int)))) (dss_one (ds_expr (de_dpop (pv 0)))))
  (dss_cons (ds_if (dt_cmp (o_gt (hu64 hr)) (de_dlen (pv 0) (by rfl) M.b_len) de_int) (dss_cons (ds_set sc__law_any.nd (i := 2) rfl (.inl rfl) (de_callTy c_int (by rfl) M.b_int boot_int (dr_cons (de_dpop (pv 0)) dr_nil)))
  (dss_cons (ds_dapp (pv 0) (de_bin o_div (de_var (pv 2)) (de_var (pv 1))))
  (dss_one (ds_ret (de_bin o_mod (de_var (pv 2)) (de_var (pv 1))))))) dss_nil)
  (dss_cons (ds_dset1 (pv 0) (de_bin o_mod (de_callTy c_int (by rfl) M.b_int boot_int (dr_cons (de_bin o_add (de_bin o_mul (de_d1 (pv 0)) de_int) de_int) dr_nil)) de_int) (pg_sub (pv 0) pe_int set_list))
  (dss_one (ds_ret (de_bin o_mod (de_callTy c_int (by rfl) M.b_int boot_int (dr_cons (de_bin o_div (de_d1 (pv 0)) de_int) dr_nil)) (de_var (pv 1))))))))
theorem o__law_any {a : Addr} {fd : FuncData} (F : Fun K "_law_any" "_law_any" s__law_any a fd) (gm : mg "_law_any" = some (.ref a)) (M : Mods K mg)  : OwnF P w K mg base 2 "_law_any" "_law_any" s__law_any ["deal", "bound"] (spW K 1 g__law_any) :=
  ⟨a, fd, fn_deal (m := 1) F sc__law_any rfl rfl (d__law_any M), gm, F, F.binds fun _ _ _ _ _ _ us hl => match us, hl with | [_, _], _ => rfl⟩
theorem d__law_of {a : Addr} (M : Mods K mg) (C__law_any : OwnF P w K mg base 2 "_law_any" "_law_any" s__law_any ["deal", "bound"] (spW K 1 g__law_any)) : ∀ (cdv : Value) (A : Around) (outer : List Env) (s : Shared) (H : Hp) (E : XK), Room 2 (A.deeper (envOfC "_law_of" (defScope s__law_of) s.heap.objs.size a cdv)) → DSs (cxOf CX0 P w K mg base ["deal", "some"] "_law_of" (defScope s__law_of) a cdv A outer s H E).nox (defBody s__law_of) h__law_of := by
  intro cdv A outer s H E hr
  exact (dss_one (ds_ret (de_ix (de_var (pv 1)) (de_callW C__law_any hr (by rfl) fnW_len (pv 0) (dv_cons (de_callB c_len (by rfl) M.b_len boot_len (dr_cons (de_var (pv 1)) dr_nil)) dv_nil)))))
theorem o__law_of {a : Addr} {fd : FuncData} (F : Fun K "_law_of" "_law_of" s__law_of a fd) (gm : mg "_law_of" = some (.ref a)) (M : Mods K mg) (C__law_any : OwnF P w K mg base 2 "_law_any" "_law_any" s__law_any ["deal", "bound"] (spW K 1 g__law_any)) : OwnF P w K mg base 3 "_law_of" "_law_of" s__law_of ["deal", "some"] (spW K 1 g__law_of) :=
  ⟨a, fd, fn_deal (m := 0) F sc__law_of rfl rfl (d__law_of M C__law_any), gm, F, F.binds fun _ _ _ _ _ _ us hl => match us, hl with | [_, _], _ => rfl⟩
theorem d__law_mixed {a : Addr} (M : Mods K mg) (C__law_any : OwnF P w K mg base 2 "_law_any" "_law_any" s__law_any ["deal", "bound"] (spW K 1 g__law_any)) : ∀ (cdv : Value) (A : Around) (outer : List Env) (s : Shared) (H : Hp) (E : XK), Room 2 (A.deeper (envOfC "_law_mixed" (defScope s__law_mixed) s.heap.objs.size a cdv)) → DSs (cxOf CX0 P w K mg base ["deal", "some", "left", "found", "turn"] "_law_mixed" (defScope s__law_mixed) a cdv A outer s H E).nox (defBody s__law_mixed) h__law_mixed := by
  intro cdv A outer s H E hr
  exact (dss_cons (ds_par (i := 2) (j := 3) rfl sc__law_mixed.nd rfl rfl (by decide) rfl rfl (de_callTy c_list (by rfl) M.b_list boot_list (dr_cons (de_var (pv 1)) dr_nil)) (de_lst da_nil) (by rfl))
  (dss_cons (ds_for PassesOwn.never rfl (di_rng1 (by rfl) M.b_range (dr_cons (de_callB c_len (by rfl) M.b_len boot_len (dr_cons (de_var (pv 1)) dr_nil)) dr_nil)) (dg_name (i := 4) sc__law_mixed.nd rfl (.inl rfl)) (dss_one (ds_appPop (by decide) (pv 3) (pv 2) (de_callW C__law_any hr (by rfl) fnW_len (pv 0) (dv_cons (de_callB c_len (by rfl) M.b_len boot_len (dr_cons (de_var (pv 2)) dr_nil)) dv_nil)))))
  (dss_one (ds_retV (pv 3)))))
theorem o__law_mixed {a : Addr} {fd : FuncData} (F : Fun K "_law_mixed" "_law_mixed" s__law_mixed a fd) (gm : mg "_law_mixed" = some (.ref a)) (M : Mods K mg) (C__law_any : OwnF P w K mg base 2 "_law_any" "_law_any" s__law_any ["deal", "bound"] (spW K 1 g__law_any)) : OwnF P w K mg base 3 "_law_mixed" "_law_mixed" s__law_mixed ["deal", "some"] (spW K 1 g__law_mixed) :=
  ⟨a, fd, fn_deal (m := 3) F sc__law_mixed rfl rfl (d__law_mixed M C__law_any), gm, F, F.binds fun _ _ _ _ _ _ us hl => match us, hl with | [_, _], _ => rfl⟩
theorem d__law_is_kind {a : Addr} (M : Mods K mg)  : ∀ (cdv : Value) (A : Around) (outer : List Env) (s : Shared) (H : Hp) (E : XK), Room 1 (A.deeper (envOfC "_law_is_kind" (defScope s__law_is_kind) s.heap.objs.size a cdv)) → DSs (cxOf CX0 P w K mg base ["told", "due"] "_law_is_kind" (defScope s__law_is_kind) a cdv A outer s H E).nox (defBody s__law_is_kind) h__law_is_kind := by
  intro cdv A outer s H E hr
  exact (dss_cons (ds_if (dt_cmp o_is (de_var (pv 1)) de_non) (dss_one (ds_ret (de_cmp o_is (de_var (pv 0)) de_non))) dss_nil)
  (dss_cons (ds_if (DW.t (dw_or (dt_cmp o_is (de_var (pv 1)) de_bl) (dw_or1 (dt_cmp o_is (de_var (pv 1)) de_bl)))) (dss_one (ds_ret (de_if (dt_val (de_var (pv 1))) (de_cmp o_is (de_var (pv 0)) de_bl) (de_cmp o_is (de_var (pv 0)) de_bl)))) dss_nil)
  (dss_cons (ds_if (dt_val (de_callB c_isa (by rfl) M.b_isinstance boot_isinstance (dr_cons (de_var (pv 1)) (dr_cons (de_ty (by rfl) M.b_str boot_str) dr_nil)))) (dss_one (ds_ret (de_and (de_callB c_isa (by rfl) M.b_isinstance boot_isinstance (dr_cons (de_var (pv 0)) (dr_cons (de_ty (by rfl) M.b_str boot_str) dr_nil))) (de_one (de_cmp (o_eq (hu64 hr)) (de_var (pv 0)) (de_var (pv 1))))))) dss_nil)
  (dss_one (ds_ret (de_and (de_callB c_isa (by rfl) M.b_isinstance boot_isinstance (dr_cons (de_var (pv 0)) (dr_cons (de_ty (by rfl) M.b_int boot_int) dr_nil))) (de_and (de_not (de_callB c_isa (by rfl) M.b_isinstance boot_isinstance (dr_cons (de_var (pv 0)) (dr_cons (de_ty (by rfl) M.b_bool boot_bool) dr_nil)))) (de_one (de_cmp (o_eq (hu64 hr)) (de_var (pv 0)) (de_var (pv 1)))))))))))
theorem o__law_is_kind {a : Addr} {fd : FuncData} (F : Fun K "_law_is_kind" "_law_is_kind" s__law_is_kind a fd) (gm : mg "_law_is_kind" = some (.ref a)) (M : Mods K mg)  : OwnF P w K mg base 2 "_law_is_kind" "_law_is_kind" s__law_is_kind ["told", "due"] (spP K 2 g__law_is_kind) :=
  ⟨a, fd, fn_pure (m := 0) F sc__law_is_kind rfl rfl (d__law_is_kind M), gm, F, F.binds fun _ _ _ _ _ _ us hl => match us, hl with | [_, _], _ => rfl⟩
theorem d__law_same {a : Addr} (M : Mods K mg) (C__law_is_kind : OwnF P w K mg base 2 "_law_is_kind" "_law_is_kind" s__law_is_kind ["told", "due"] (spP K 2 g__law_is_kind)) : ∀ (cdv : Value) (A : Around) (outer : List Env) (s : Shared) (H : Hp) (E : XK), Room 2 (A.deeper (envOfC "_law_same" (defScope s__law_same) s.heap.objs.size a cdv)) → DSs (cxOf CX0 P w K mg base ["told", "due", "todo", "one", "other"] "_law_same" (defScope s__law_same) a cdv A outer s H E).nox (defBody s__law_same) h__law_same := by
  intro cdv A outer s H E hr
  exact (dss_cons (ds_set sc__law_same.nd (i := 2) rfl (.inl rfl) (de_lst (da_cons (de_tup (da_cons (de_var (pv 0)) (da_cons (de_var (pv 1)) da_nil))) da_nil)))
  (dss_cons (ds_while PassesOwn.never (dt_cmp (o_gt (hu64 hr)) (de_callB c_len (by rfl) M.b_len boot_len (dr_cons (de_var (pv 2)) dr_nil)) de_int) (dss_cons (ds_popTo (pv 2) (dg_tup rfl (dgs_cons (dg_name (i := 3) sc__law_same.nd rfl (.inl rfl)) (dgs_cons (dg_name (i := 4) sc__law_same.nd rfl (.inl rfl)) dgs_nil))))
  (dss_one (ds_if (dt_val (de_callB c_isa (by rfl) M.b_isinstance boot_isinstance (dr_cons (de_var (pv 4)) (dr_cons (de_ty (by rfl) M.b_tuple boot_tuple) dr_nil)))) (dss_cons (ds_if (DW.t (dw_or (dt_not (dt_val (de_callB c_isa (by rfl) M.b_isinstance boot_isinstance (dr_cons (de_var (pv 3)) (dr_cons (de_ty (by rfl) M.b_tuple boot_tuple) dr_nil))))) (dw_or1 (dt_cmp (o_ne (hu64 hr)) (de_callB c_len (by rfl) M.b_len boot_len (dr_cons (de_var (pv 3)) dr_nil)) (de_callB c_len (by rfl) M.b_len boot_len (dr_cons (de_var (pv 4)) dr_nil)))))) (dss_one (ds_ret de_bl)) dss_nil)
  (dss_one (ds_set sc__law_same.nd (i := 2) rfl (.inl rfl) (de_bin o_add (de_var (pv 2)) (de_listZip rfl (by rfl) M.b_list (by rfl) M.b_zip (dr_cons (de_var (pv 3)) (dr_cons (de_var (pv 4)) dr_nil))))))) (dss_one (ds_if (DW.t (dw_or (dt_val (de_isaT (by rfl) M.b_isinstance (de_var (pv 3)) (ty_cons (pe_bltn (v := .ty "tuple") (by rfl) M.b_tuple boot_tuple rfl) (ty_cons (pe_bltn (v := .ty "list") (by rfl) M.b_list boot_list rfl) (ty_cons (pe_bltn (v := .ty "dict") (by rfl) M.b_dict boot_dict rfl) ty_nil))))) (dw_or1 (dt_not (dt_val (de_call C__law_is_kind hr (by rfl) fnP_len (dv_cons (de_var (pv 3)) (dv_cons (de_var (pv 4)) dv_nil)))))))) (dss_one (ds_ret de_bl)) dss_nil))))))
  (dss_one (ds_ret de_bl))))
theorem o__law_same {a : Addr} {fd : FuncData} (F : Fun K "_law_same" "_law_same" s__law_same a fd) (gm : mg "_law_same" = some (.ref a)) (M : Mods K mg) (C__law_is_kind : OwnF P w K mg base 2 "_law_is_kind" "_law_is_kind" s__law_is_kind ["told", "due"] (spP K 2 g__law_is_kind)) : OwnF P w K mg base 3 "_law_same" "_law_same" s__law_same ["told", "due"] (spP K 2 g__law_same) :=
  ⟨a, fd, fn_pure (m := 3) F sc__law_same rfl rfl (d__law_same M C__law_is_kind), gm, F, F.binds fun _ _ _ _ _ _ us hl => match us, hl with | [_, _], _ => rfl⟩
theorem d__law_all {a : Addr} (M : Mods K mg) (C__law_same : OwnF P w K mg base 3 "_law_same" "_law_same" s__law_same ["told", "due"] (spP K 2 g__law_same)) : ∀ (cdv : Value) (A : Around) (outer : List Env) (s : Shared) (H : Hp) (E : XK), Room 3 (A.deeper (envOfC "_law_all" (defScope s__law_all) s.heap.objs.size a cdv)) → DSs (cxOf CX0 P w K mg base ["pairs", "told", "due"] "_law_all" (defScope s__law_all) a cdv A outer s H E).nox (defBody s__law_all) h__law_all := by
  intro cdv A outer s H E hr
  exact (dss_one (ds_ret (de_cmp (o_eq (hu64 hr)) (de_callB c_len (by rfl) M.b_len boot_len (dr_cons (de_list rfl sc__law_all.nd (di_seq (de_var (pv 0))) (own := [("told", 1), ("due", 2)]) (blkOk_by (by kernel_rfl)) (fun _ _ _ _ _ => (dg_tup rfl (dgs_cons (dg_name (i := 1) sc__law_all.nd rfl (.inl rfl)) (dgs_cons (dg_name (i := 2) sc__law_all.nd rfl (.inl rfl)) dgs_nil)))) (fun _ _ _ _ _ => (dts_one (dt_not (dt_val (de_call C__law_same hr (by rfl) fnP_len (dv_cons (de_var (pv 1)) (dv_cons (de_var (pv 2)) dv_nil))))))) (fun _ _ _ _ _ => (de_var (pv 1)))) dr_nil)) de_int)))
theorem o__law_all {a : Addr} {fd : FuncData} (F : Fun K "_law_all" "_law_all" s__law_all a fd) (gm : mg "_law_all" = some (.ref a)) (M : Mods K mg) (C__law_same : OwnF P w K mg base 3 "_law_same" "_law_same" s__law_same ["told", "due"] (spP K 2 g__law_same)) : OwnF P w K mg base 4 "_law_all" "_law_all" s__law_all ["pairs"] (spP K 1 g__law_all) :=
  ⟨a, fd, fn_pure (m := 2) F sc__law_all rfl rfl (d__law_all M C__law_same), gm, F, F.binds fun _ _ _ _ _ _ us hl => match us, hl with | [_], _ => rfl⟩
theorem d__law_shared {a : Addr} (M : Mods K mg)  : ∀ (cdv : Value) (A : Around) (outer : List Env) (s : Shared) (H : Hp) (E : XK), Room 1 (A.deeper (envOfC "_law_shared" (defScope s__law_shared) s.heap.objs.size a cdv)) → DSs (cxOf CX0 P w K mg base ["one", "other"] "_law_shared" (defScope s__law_shared) a cdv A outer s H E).nox (defBody s__law_shared) h__law_shared := by
  intro cdv A outer s H E hr
  exact (dss_cons (ds_par (i := 0) (j := 1) rfl sc__law_shared.nd rfl rfl (by decide) rfl rfl (de_callB c_abs (by rfl) M.b_abs boot_abs (dr_cons (de_var (pv 0)) dr_nil)) (de_callB c_abs (by rfl) M.b_abs boot_abs (dr_cons (de_var (pv 1)) dr_nil)) (by rfl))
  (dss_cons (ds_while PassesOwn.never (dt_cmp (o_gt (hu64 hr)) (de_var (pv 1)) de_int) (dss_one (ds_par (i := 0) (j := 1) rfl sc__law_shared.nd rfl rfl (by decide) rfl rfl (de_var (pv 1)) (de_bin o_mod (de_callTy c_int (by rfl) M.b_int boot_int (dr_cons (de_var (pv 0)) dr_nil)) (de_var (pv 1))) (by rfl))))
  (dss_one (ds_retV (pv 0)))))
theorem o__law_shared {a : Addr} {fd : FuncData} (F : Fun K "_law_shared" "_law_shared" s__law_shared a fd) (gm : mg "_law_shared" = some (.ref a)) (M : Mods K mg)  : OwnF P w K mg base 2 "_law_shared" "_law_shared" s__law_shared ["one", "other"] (spP K 2 g__law_shared) :=
  ⟨a, fd, fn_pure (m := 0) F sc__law_shared rfl rfl (d__law_shared M), gm, F, F.binds fun _ _ _ _ _ _ us hl => match us, hl with | [_, _], _ => rfl⟩
theorem d__law_low {a : Addr} (M : Mods K mg) (C__law_shared : OwnF P w K mg base 2 "_law_shared" "_law_shared" s__law_shared ["one", "other"] (spP K 2 g__law_shared)) : ∀ (cdv : Value) (A : Around) (outer : List Env) (s : Shared) (H : Hp) (E : XK), Room 2 (A.deeper (envOfC "_law_low" (defScope s__law_low) s.heap.objs.size a cdv)) → DSs (cxOf CX0 P w K mg base ["top", "bottom", "part"] "_law_low" (defScope s__law_low) a cdv A outer s H E).nox (defBody s__law_low) h__law_low := by
  intro cdv A outer s H E hr
  exact (dss_cons (ds_set sc__law_low.nd (i := 2) rfl (.inl rfl) (de_call C__law_shared hr (by rfl) fnP_len (dv_cons (de_var (pv 0)) (dv_cons (de_var (pv 1)) dv_nil))))
  (dss_cons (ds_set sc__law_low.nd (i := 2) rfl (.inl rfl) (de_if (dt_cmp (o_lt (hu64 hr)) (de_var (pv 1)) de_int) (de_bin o_sub de_int (de_var (pv 2))) (de_var (pv 2))))
  (dss_one (ds_ret (de_tup (da_cons (de_bin o_div (de_var (pv 0)) (de_var (pv 2))) (da_cons (de_bin o_div (de_var (pv 1)) (de_var (pv 2))) da_nil)))))))
theorem o__law_low {a : Addr} {fd : FuncData} (F : Fun K "_law_low" "_law_low" s__law_low a fd) (gm : mg "_law_low" = some (.ref a)) (M : Mods K mg) (C__law_shared : OwnF P w K mg base 2 "_law_shared" "_law_shared" s__law_shared ["one", "other"] (spP K 2 g__law_shared)) : OwnF P w K mg base 3 "_law_low" "_law_low" s__law_low ["top", "bottom"] (spP K 2 g__law_low) :=
  ⟨a, fd, fn_pure (m := 1) F sc__law_low rfl rfl (d__law_low M C__law_shared), gm, F, F.binds fun _ _ _ _ _ _ us hl => match us, hl with | [_, _], _ => rfl⟩
theorem d__law_names {a : Addr} (M : Mods K mg) (C__law_mixed : OwnF P w K mg base 3 "_law_mixed" "_law_mixed" s__law_mixed ["deal", "some"] (spW K 1 g__law_mixed)) : ∀ (cdv : Value) (A : Around) (outer : List Env) (s : Shared) (H : Hp) (E : XK), Room 3 (A.deeper (envOfC "_law_names" (defScope s__law_names) s.heap.objs.size a cdv)) → DSs (cxOf CX0 P w K mg base ["deal", "many"] "_law_names" (defScope s__law_names) a cdv A outer s H E).nox (defBody s__law_names) h__law_names := by
  intro cdv A outer s H E hr
  exact (dss_one (ds_ret (de_cut (de_callW C__law_mixed hr (by rfl) fnW_len (pv 0) (dv_cons (de_lst (da_cons de_str (da_cons de_str (da_cons de_str (da_cons de_str (da_cons de_str (da_cons de_str (da_cons de_str (da_cons de_str (da_cons de_str (da_cons de_str da_nil))))))))))) dv_nil)) do_no (do_of (de_var (pv 1))))))
theorem o__law_names {a : Addr} {fd : FuncData} (F : Fun K "_law_names" "_law_names" s__law_names a fd) (gm : mg "_law_names" = some (.ref a)) (M : Mods K mg) (C__law_mixed : OwnF P w K mg base 3 "_law_mixed" "_law_mixed" s__law_mixed ["deal", "some"] (spW K 1 g__law_mixed)) : OwnF P w K mg base 4 "_law_names" "_law_names" s__law_names ["deal", "many"] (spW K 1 g__law_names) :=
  ⟨a, fd, fn_deal (m := 0) F sc__law_names rfl rfl (d__law_names M C__law_mixed), gm, F, F.binds fun _ _ _ _ _ _ us hl => match us, hl with | [_, _], _ => rfl⟩
theorem d__law_kind {a : Addr} (M : Mods K mg) (C__law_any : OwnF P w K mg base 4 "_law_any" "_law_any" s__law_any ["deal", "bound"] (spW K 1 g__law_any)) (C__law_names : OwnF P w K mg base 4 "_law_names" "_law_names" s__law_names ["deal", "many"] (spW K 1 g__law_names)) : ∀ (cdv : Value) (A : Around) (outer : List Env) (s : Shared) (H : Hp) (E : XK), Room 4 (A.deeper (envOfC "_law_kind" (defScope s__law_kind) s.heap.objs.size a cdv)) → DSs (cxOf CX0 P w K mg base ["deal", "sort", "ties", "arrows", "marks", "names"] "_law_kind" (defScope s__law_kind) a cdv A outer s H E).nox (defBody s__law_kind) h__law_kind := by
  intro cdv A outer s H E hr
  exact (dss_cons (ds_asg (de_ix (de_lst (da_cons (de_tup (da_cons de_int (da_cons de_int da_nil))) (da_cons (de_tup (da_cons de_int (da_cons de_int da_nil))) (da_cons (de_tup (da_cons de_int (da_cons de_int da_nil))) (da_cons (de_tup (da_cons de_int (da_cons de_int da_nil))) (da_cons (de_tup (da_cons de_int (da_cons de_int da_nil))) (da_cons (de_tup (da_cons de_int (da_cons de_int da_nil))) (da_cons (de_tup (da_cons de_int (da_cons de_int da_nil))) (da_cons (de_tup (da_cons de_int (da_cons de_int da_nil))) (da_cons (de_tup (da_cons de_int (da_cons de_int da_nil))) (da_cons (de_tup (da_cons de_int (da_cons de_int da_nil))) da_nil))))))))))) (de_var (pv 1))) (dg_tup rfl (dgs_cons (dg_name (i := 2) sc__law_kind.nd rfl (.inl rfl)) (dgs_cons (dg_name (i := 3) sc__law_kind.nd rfl (.inl rfl)) dgs_nil))))
  (dss_cons (ds_set sc__law_kind.nd (i := 4) rfl (.inl rfl) (de_callW C__law_any hr (by rfl) fnW_len (pv 0) (dv_cons de_int dv_nil)))
  (dss_cons (ds_set sc__law_kind.nd (i := 5) rfl (.inl rfl) (de_callW C__law_names hr (by rfl) fnW_len (pv 0) (dv_cons (de_bin o_add (de_bin o_add (de_var (pv 4)) (de_var (pv 2))) (de_var (pv 3))) dv_nil)))
  (dss_one (ds_ret (de_tup (da_cons (de_callTy c_tuple (by rfl) M.b_tuple boot_tuple (dr_cons (de_callB (c_sorted (hu64 hr)) (by rfl) M.b_sorted boot_sorted (dr_cons (de_cut (de_var (pv 5)) do_no (do_of (de_var (pv 4)))) dr_nil)) dr_nil)) (da_cons (de_callTy c_tuple (by rfl) M.b_tuple boot_tuple (dr_cons (de_callB (c_sorted (hu64 hr)) (by rfl) M.b_sorted boot_sorted (dr_cons (de_cut (de_var (pv 5)) (do_of (de_var (pv 4))) (do_of (de_bin o_add (de_var (pv 4)) (de_var (pv 2))))) dr_nil)) dr_nil)) (da_cons (de_callTy c_tuple (by rfl) M.b_tuple boot_tuple (dr_cons (de_callB (c_sorted (hu64 hr)) (by rfl) M.b_sorted boot_sorted (dr_cons (de_cut (de_var (pv 5)) (do_of (de_bin o_add (de_var (pv 4)) (de_var (pv 2)))) do_no) dr_nil)) dr_nil)) da_nil)))))))))
theorem o__law_kind {a : Addr} {fd : FuncData} (F : Fun K "_law_kind" "_law_kind" s__law_kind a fd) (gm : mg "_law_kind" = some (.ref a)) (M : Mods K mg) (C__law_any : OwnF P w K mg base 4 "_law_any" "_law_any" s__law_any ["deal", "bound"] (spW K 1 g__law_any)) (C__law_names : OwnF P w K mg base 4 "_law_names" "_law_names" s__law_names ["deal", "many"] (spW K 1 g__law_names)) : OwnF P w K mg base 5 "_law_kind" "_law_kind" s__law_kind ["deal", "sort"] (spW K 1 g__law_kind) :=
  ⟨a, fd, fn_deal (m := 4) F sc__law_kind rfl rfl (d__law_kind M C__law_any C__law_names), gm, F, F.binds fun _ _ _ _ _ _ us hl => match us, hl with | [_, _], _ => rfl⟩
theorem d__law_link_facts {a : Addr} (M : Mods K mg)  : ∀ (cdv : Value) (A : Around) (outer : List Env) (s : Shared) (H : Hp) (E : XK), Room 1 (A.deeper (envOfC "_law_link_facts" (defScope s__law_link_facts) s.heap.objs.size a cdv)) → DSs (cxOf CX0 P w K mg base ["names", "x", "y", "found", "tie", "arrow"] "_law_link_facts" (defScope s__law_link_facts) a cdv A outer s H E).nox (defBody s__law_link_facts) h__law_link_facts := by
  intro cdv A outer s H E hr
  exact (dss_cons (ds_setLc (i := 3) rfl sc__law_link_facts.nd rfl rfl (by rfl) (di_seq (de_ix (de_var (pv 0)) de_int)) (own := [("tie", 4)]) (blkOk_by (by kernel_rfl)) (fun _ _ _ _ _ => (dg_name (i := 4) sc__law_link_facts.nd rfl (.inl rfl))) (fun _ _ _ _ _ => dts_nil) (fun _ _ _ _ _ => (de_tup (da_cons (de_tup (da_cons (de_var (pv 4)) (da_cons de_str da_nil))) (da_cons (de_tup (da_cons (de_var (pv 4)) (da_cons (de_tup (da_cons (de_callB (c_min2 rfl) (by rfl) M.b_min boot_min (dr_cons (de_var (pv 1)) (dr_cons (de_var (pv 2)) dr_nil))) (da_cons (de_callB (c_max2 rfl) (by rfl) M.b_max boot_max (dr_cons (de_var (pv 1)) (dr_cons (de_var (pv 2)) dr_nil))) da_nil))) da_nil))) da_nil)))))
  (dss_cons (ds_set sc__law_link_facts.nd (i := 3) rfl (.inl rfl) (de_bin o_add (de_var (pv 3)) (de_list rfl sc__law_link_facts.nd (di_seq (de_ix (de_var (pv 0)) de_int)) (own := [("arrow", 5)]) (blkOk_by (by kernel_rfl)) (fun _ _ _ _ _ => (dg_name (i := 5) sc__law_link_facts.nd rfl (.inl rfl))) (fun _ _ _ _ _ => dts_nil) (fun _ _ _ _ _ => (de_tup (da_cons (de_tup (da_cons (de_var (pv 5)) (da_cons de_str da_nil))) (da_cons (de_tup (da_cons (de_var (pv 5)) (da_cons (de_tup (da_cons (de_var (pv 1)) (da_cons (de_var (pv 2)) da_nil))) da_nil))) da_nil)))))))
  (dss_one (ds_ret (de_callB (c_sorted (hu64 hr)) (by rfl) M.b_sorted boot_sorted (dr_cons (de_bin o_add (de_var (pv 3)) (de_list rfl sc__law_link_facts.nd (di_seq (de_ix (de_var (pv 0)) de_int)) (own := [("arrow", 5)]) (blkOk_by (by kernel_rfl)) (fun _ _ _ _ _ => (dg_name (i := 5) sc__law_link_facts.nd rfl (.inl rfl))) (fun _ _ _ _ _ => dts_nil) (fun _ _ _ _ _ => (de_tup (da_cons (de_tup (da_cons (de_var (pv 5)) (da_cons de_str da_nil))) (da_cons (de_tup (da_cons (de_var (pv 5)) (da_cons (de_tup (da_cons (de_var (pv 2)) (da_cons (de_var (pv 1)) da_nil))) da_nil))) da_nil)))))) dr_nil))))))
theorem o__law_link_facts {a : Addr} {fd : FuncData} (F : Fun K "_law_link_facts" "_law_link_facts" s__law_link_facts a fd) (gm : mg "_law_link_facts" = some (.ref a)) (M : Mods K mg)  : OwnF P w K mg base 2 "_law_link_facts" "_law_link_facts" s__law_link_facts ["names", "x", "y"] (spP K 3 g__law_link_facts) :=
  ⟨a, fd, fn_pure (m := 3) F sc__law_link_facts rfl rfl (d__law_link_facts M), gm, F, F.binds fun _ _ _ _ _ _ us hl => match us, hl with | [_, _, _], _ => rfl⟩
theorem d__law_link {a : Addr} (M : Mods K mg) (C__law_link_facts : OwnF P w K mg base 3 "_law_link_facts" "_law_link_facts" s__law_link_facts ["names", "x", "y"] (spP K 3 g__law_link_facts)) (C__law_any : OwnF P w K mg base 3 "_law_any" "_law_any" s__law_any ["deal", "bound"] (spW K 1 g__law_any)) (C__law_mixed : OwnF P w K mg base 3 "_law_mixed" "_law_mixed" s__law_mixed ["deal", "some"] (spW K 1 g__law_mixed)) : ∀ (cdv : Value) (A : Around) (outer : List Env) (s : Shared) (H : Hp) (E : XK), Room 3 (A.deeper (envOfC "_law_link" (defScope s__law_link) s.heap.objs.size a cdv)) → DSs (cxOf CX0 P w K mg base ["deal", "names", "some", "many", "fact", "asked"] "_law_link" (defScope s__law_link) a cdv A outer s H E).nox (defBody s__law_link) h__law_link := by
  intro cdv A outer s H E hr
  exact (dss_cons (ds_setLc (i := 2) rfl sc__law_link.nd rfl rfl (by rfl) (di_seq (de_call C__law_link_facts hr (by rfl) fnP_len (dv_cons (de_var (pv 1)) (dv_cons de_int (dv_cons de_int dv_nil))))) (own := [("fact", 4), ("asked", 5)]) (blkOk_by (by kernel_rfl)) (fun _ _ _ _ _ => (dg_tup rfl (dgs_cons (dg_name (i := 4) sc__law_link.nd rfl (.inl rfl)) (dgs_cons (dg_name (i := 5) sc__law_link.nd rfl (.inl rfl)) dgs_nil)))) (fun _ _ _ _ _ => dts_nil) (fun _ _ _ _ _ => (de_var (pv 4))))
  (dss_cons (ds_set sc__law_link.nd (i := 3) rfl (.inl rfl) (de_if (dt_cmp (o_gt (hu64 hr)) (de_callW C__law_any hr (by rfl) fnW_len (pv 0) (dv_cons de_int dv_nil)) de_int) (de_bin o_add de_int (de_callW C__law_any hr (by rfl) fnW_len (pv 0) (dv_cons (de_callB c_len (by rfl) M.b_len boot_len (dr_cons (de_var (pv 2)) dr_nil)) dv_nil))) (de_callB c_len (by rfl) M.b_len boot_len (dr_cons (de_var (pv 2)) dr_nil))))
  (dss_one (ds_ret (de_callTy c_tuple (by rfl) M.b_tuple boot_tuple (dr_cons (de_callB (c_sorted (hu64 hr)) (by rfl) M.b_sorted boot_sorted (dr_cons (de_cut (de_callW C__law_mixed hr (by rfl) fnW_len (pv 0) (dv_cons (de_var (pv 2)) dv_nil)) do_no (do_of (de_if (dt_cmp (o_eq (hu64 hr)) (de_callW C__law_any hr (by rfl) fnW_len (pv 0) (dv_cons de_int dv_nil)) de_int) (de_var (pv 3)) de_int))) dr_nil)) dr_nil))))))
theorem o__law_link {a : Addr} {fd : FuncData} (F : Fun K "_law_link" "_law_link" s__law_link a fd) (gm : mg "_law_link" = some (.ref a)) (M : Mods K mg) (C__law_link_facts : OwnF P w K mg base 3 "_law_link_facts" "_law_link_facts" s__law_link_facts ["names", "x", "y"] (spP K 3 g__law_link_facts)) (C__law_any : OwnF P w K mg base 3 "_law_any" "_law_any" s__law_any ["deal", "bound"] (spW K 1 g__law_any)) (C__law_mixed : OwnF P w K mg base 3 "_law_mixed" "_law_mixed" s__law_mixed ["deal", "some"] (spW K 1 g__law_mixed)) : OwnF P w K mg base 4 "_law_link" "_law_link" s__law_link ["deal", "names"] (spW K 1 g__law_link) :=
  ⟨a, fd, fn_deal (m := 4) F sc__law_link rfl rfl (d__law_link M C__law_link_facts C__law_any C__law_mixed), gm, F, F.binds fun _ _ _ _ _ _ us hl => match us, hl with | [_, _], _ => rfl⟩
theorem d__law_letters {a : Addr} (M : Mods K mg) (C__law_any : OwnF P w K mg base 4 "_law_any" "_law_any" s__law_any ["deal", "bound"] (spW K 1 g__law_any)) (C__law_of : OwnF P w K mg base 4 "_law_of" "_law_of" s__law_of ["deal", "some"] (spW K 1 g__law_of)) (C__law_link : OwnF P w K mg base 4 "_law_link" "_law_link" s__law_link ["deal", "names"] (spW K 1 g__law_link)) : ∀ (cdv : Value) (A : Around) (outer : List Env) (s : Shared) (H : Hp) (E : XK), Room 4 (A.deeper (envOfC "_law_letters" (defScope s__law_letters) s.heap.objs.size a cdv)) → DSs (cxOf CX0 P w K mg base ["deal", "names", "many", "found", "turn", "is_mark"] "_law_letters" (defScope s__law_letters) a cdv A outer s H E).nox (defBody s__law_letters) h__law_letters := by
  intro cdv A outer s H E hr
  exact (dss_cons (ds_set sc__law_letters.nd (i := 3) rfl (.inl rfl) (de_lst da_nil))
  (dss_cons (ds_for PassesOwn.never rfl (di_rng1 (by rfl) M.b_range (dr_cons (de_var (pv 2)) dr_nil)) (dg_name (i := 4) sc__law_letters.nd rfl (.inl rfl)) (dss_cons (ds_set sc__law_letters.nd (i := 5) rfl (.inl rfl) (de_and (de_cmp (o_gt (hu64 hr)) (de_callB c_len (by rfl) M.b_len boot_len (dr_cons (de_ix (de_var (pv 1)) de_int) dr_nil)) de_int) (de_one (de_cmp (o_eq (hu64 hr)) (de_callW C__law_any hr (by rfl) fnW_len (pv 0) (dv_cons de_int dv_nil)) de_int))))
  (dss_one (ds_append (pv 3) (de_if (dt_val (de_var (pv 5))) (de_tup (da_cons de_str (da_cons (de_callW C__law_of hr (by rfl) fnW_len (pv 0) (dv_cons (de_callTy c_list (by rfl) M.b_list boot_list (dr_cons (de_ix (de_var (pv 1)) de_int) dr_nil)) dv_nil)) da_nil))) (de_tup (da_cons de_str (da_cons (de_callW C__law_link hr (by rfl) fnW_len (pv 0) (dv_cons (de_var (pv 1)) dv_nil)) da_nil))))))))
  (dss_one (ds_ret (de_callTy c_tuple (by rfl) M.b_tuple boot_tuple (dr_cons (de_var (pv 3)) dr_nil))))))
theorem o__law_letters {a : Addr} {fd : FuncData} (F : Fun K "_law_letters" "_law_letters" s__law_letters a fd) (gm : mg "_law_letters" = some (.ref a)) (M : Mods K mg) (C__law_any : OwnF P w K mg base 4 "_law_any" "_law_any" s__law_any ["deal", "bound"] (spW K 1 g__law_any)) (C__law_of : OwnF P w K mg base 4 "_law_of" "_law_of" s__law_of ["deal", "some"] (spW K 1 g__law_of)) (C__law_link : OwnF P w K mg base 4 "_law_link" "_law_link" s__law_link ["deal", "names"] (spW K 1 g__law_link)) : OwnF P w K mg base 5 "_law_letters" "_law_letters" s__law_letters ["deal", "names", "many"] (spW K 2 g__law_letters) :=
  ⟨a, fd, fn_deal (m := 3) F sc__law_letters rfl rfl (d__law_letters M C__law_any C__law_of C__law_link), gm, F, F.binds fun _ _ _ _ _ _ us hl => match us, hl with | [_, _, _], _ => rfl⟩
theorem sc2_told : FnScope ["kind", "value", "is_named", "e"] ["kind", "value", "is_named"] (defScope s__law_told) := ⟨rfl, rfl, rfl, by decide +kernel, rfl, by decide +kernel, by decide +kernel⟩
theorem kw_told : KwB "need_trace" "need_trace" s_need_trace ["kind", "value"] ["value", "kind"] 0 [1, 0] := fun _ _ _ _ _ _ us ws h1 h2 => match us, ws, h1, h2 with | [], [_, _], _, _ => rfl
/-- what the clause does -/
def t_clause (K : PySem.W.Frag) (C D : Addr) : Addr → Value → Option Addr → TS := fun a cls d =>
  tRet (tIf (tB (tCB (EX.rIsaE K C a cls d) (tCons (tVar 3) (tCons (tC (.ref D)) tNil)))) (tTup (tCons (tC (.str "refused")) (tCons (EX.tAtE C a cls d (tVar 3)) tNil))) (tTup (tCons (tC (.str "other")) tNil)))
/-- what the try does -/
def t_body (K : PySem.W.Frag) (C : Addr) : WX → TS := fun W =>
  tRet (tTup (tCons (tC (.str "told")) (tCons (tIf (tB (tVar 2)) (EX.tKwS 2 (EX.spNd K C 2 gn_trace) (fun vs zs => perm [1, 0] (vs ++ zs)) (WE W) (tCons (tVar 1) (tCons (tVar 0) tNil))) (tCallS (EX.spNd K C 2 gn_trace) (WE W) (tCons (tVar 0) (tCons (tVar 1) tNil)))) tNil)))
theorem two_line (u v : V) : [u, v].length ≤ sizeLine := by
  rw [sizeLine_eq]
  exact Nat.succ_le_of_lt (by decide : 1 < 16777216)
theorem o__law_told {a f C fI Dx : Addr} {fd fN : FuncData} (F : Fun K "_law_told" "_law_told" s__law_told a fd) (gm : mg "_law_told" = some (.ref a)) (M : Mods K mg) (T : EX.ErrC K mg "InvalidProgram" C fI) (gD : mg "CountError" = some (.ref Dx)) (hk : PySem.W.kitOne K (.ref C) (.ref Dx) = some true)
    (FN : Fun K "need_trace" "need_trace" s_need_trace f fN) (gN : mg "need_trace" = some (.ref f)) (ON : FnOk P w K mg base (L2.CX P w) 8 f fN ["kind", "value"] (EX.spNd K C 2 gn_trace)) :
    OwnF P w K mg base (8 + 1) "_law_told" "_law_told" s__law_told ["kind", "value", "is_named"] (spP K 3 g__law_told) := by
  refine ⟨a, fd, ?_, gm, F, F.binds fun _ _ _ _ _ _ us hl => match us, hl with | [_, _, _], _ => rfl⟩
  have bN : Binds K fN ["kind", "value"] [] := FN.binds fun _ _ _ _ _ _ us hl => match us, hl with | [_, _], _ => rfl
  refine F.ok sc2_told (fun vs H Q E h => h.1) (fun cdv A outer s H vs Q E hr h => ⟨fun D2 σ H => t_body K C (wAs K (.ref C) 3 (t_clause K C Dx) (fun _ _ _ _ => False) D2) D2 σ H, ?_, ?_⟩)
  · exact pss_one (ps_try_as (i := 3) (tb := t_body K C) (ts := t_clause K C Dx) (Wout := fun _ _ _ _ => False) rfl rfl sc2_told.nd rfl rfl ⟨rfl, by decide, .inl T.gl⟩ takes0
      (fun W pn xe tk _ => pss_one (ps_ret (pe_tup (pa_cons pe_str (pa_cons (pe_ifExp (pt_val (pv 2)) (EX.pe_kwS ON hr (by rfl) gN FN.kp (fun_kbn FN kw_told) (fun σ => passAt tk σ) (pk_cons (pv 1) (pk_cons (pv 0) pk_nil)))
        (pe_callS ON hr (by rfl) gN FN.kp bN (fun σ => passAt tk σ) (by exact (pa_cons (pv 0) (pa_cons (pv 1) pa_nil))))) pa_nil)))))
      (fun ax oe cls d pn hz hf => pss_one (ps_ret (pe_ifExp (pt_val (pe_callB (EX.call_isaE T hz hf) (by rfl) M.b_isinstance boot_isinstance (by exact (pa_cons (pv 3) (pa_cons (pe_glob (by rfl) gD rfl) pa_nil)))))
        (pe_tup (pa_cons pe_str (pa_cons (EX.pe_atE T hz hf (pv 3)) pa_nil))) (pe_tup (pa_cons pe_str pa_nil))))))
  · obtain ⟨hl, A0, ds, d, kd, hA, r, hg, q⟩ := h
    match ds, vs, hl, r, hg with
    | [dk, dv, .bl b], [vk, vv, vb], _, .cons rk (.cons rv (.cons rb .nil)), hg =>
      obtain rfl : vb = .bl b := by
        cases rb
        rfl
      have r2 : Reps K A0 H [vk, vv] [dk, dv] := .cons rk (.cons rv .nil)
      cases e1 : g_first_wrong [dk, dv, .bl true] with
      | none =>
        have hg' : ((g_first_wrong [dk, dv, .bl true]).bind _) = some (d, kd) := hg
        rw [e1] at hg'
        cases hg'
      | some c =>
        have hg' : ((g_first_wrong [dk, dv, .bl true]).bind fun r => match r with
          | (.int at', .sh) => if at' < 0 then some (D.tup [.str "told", .non], Kd.sh) else some (.tup [.str "refused", .int at'], .sh)
          | _ => none) = some (d, kd) := hg
        rw [e1] at hg'
        simp only [Option.bind_some] at hg'
        split at hg'
        · rename_i c' z
          have need : ∀ (Q' : VK) (E' : XK), (z < 0 → ∀ H', Same H H' → Q' .non H') → (0 ≤ z → ∀ H' d, Same H H' → H' d = none → E' (.ref C) (some d) (upd H' d (.xd [(("at" : Str), .int z)]))) → EX.spNd K C 2 gn_trace [vk, vv] H Q' E' :=
            fun Q' E' h1 h2 => ⟨rfl, A0, [dk, dv], z, hA, r2, e1, h1, h2⟩
          have main : ∀ (D2 : Ends), D2.rt = Q → EX.spNd K C 2 gn_trace [vk, vv] H (fun x H1 => [V.str "told", x].length ≤ sizeLine ∧ ∀ p, H1 p = none → D2.rt (.ref p) (upd H1 p (.tup [V.str "told", x])))
              (fun cls d H => wAs K (.ref C) 3 (t_clause K C Dx) (fun _ _ _ _ => False) D2 cls d (L2.start ["kind", "value", "is_named", "e"] [vk, vv, .bl b]) H) := fun D2 hD => by
            refine need _ _ (fun hz H' sm => ⟨two_line _ _, fun p hp => ?_⟩) (fun hz H' d' sm hd => ⟨true, T.me, fun _ e he => ?_, fun z => Bool.noConfusion z⟩)
            · rw [if_pos hz] at hg'
              cases hg'
              rw [hD]
              exact q _ _ (fun b o z => same_upd hp b o (sm b o z)) (.tup (.inl (.inl upd_same)) (.cons (.str _) (.cons .non .nil)))
            · rw [if_neg (by omega)] at hg'
              cases hg'
              refine ⟨_, rfl, rfl, _, _, true, d', _, rfl, (fun u hu => hu), hk, rfl, upd_same, true, rfl, ?_⟩
              refine if_yes rfl ⟨_, rfl, rfl, rfl, d', _, rfl, upd_same, two_line _ _, fun p hp => ?_⟩
              have sm2 : Same H (upd H' d' (.xd [(("at" : Str), .int z)])) := fun b o z => same_upd hd b o (sm b o z)
              show D2.rt _ _
              rw [hD]
              exact q _ _ (fun b o z => same_upd hp b o (sm2 b o z)) (.tup (.inl (.inl upd_same)) (.cons (.str _) (.cons (.int _) .nil)))
          refine ⟨.bl b, rfl, b, rfl, ?_⟩
          cases b with
          | true => exact ⟨_, rfl, _, rfl, rfl, main _ rfl⟩
          | false => exact ⟨_, rfl, _, rfl, main _ rfl⟩
        · cases hg'
theorem d__law_row_of {a : Addr} (M : Mods K mg) (C__law_any : OwnF P w K mg base 5 "_law_any" "_law_any" s__law_any ["deal", "bound"] (spW K 1 g__law_any)) (C__law_of : OwnF P w K mg base 5 "_law_of" "_law_of" s__law_of ["deal", "some"] (spW K 1 g__law_of)) (C__law_low : OwnF P w K mg base 5 "_law_low" "_law_low" s__law_low ["top", "bottom"] (spP K 2 g__law_low)) (C__law_letters : OwnF P w K mg base 5 "_law_letters" "_law_letters" s__law_letters ["deal", "names", "many"] (spW K 2 g__law_letters)) : ∀ (cdv : Value) (A : Around) (outer : List Env) (s : Shared) (H : Hp) (E : XK), Room 5 (A.deeper (envOfC "_law_row_of" (defScope s__law_row_of) s.heap.objs.size a cdv)) → DSs (cxOf CX0 P w K mg base ["deal", "names", "found", "left", "sort", "many", "letters", "letter"] "_law_row_of" (defScope s__law_row_of) a cdv A outer s H E).nox (defBody s__law_row_of) h__law_row_of := by
  intro cdv A outer s H E hr
  exact (dss_cons (ds_par (i := 2) (j := 3) rfl sc__law_row_of.nd rfl rfl (by decide) rfl rfl (de_lst da_nil) de_int (by rfl))
  (dss_cons (ds_while PassesOwn.never (dt_cmp (o_gt (hu64 hr)) (de_var (pv 3)) de_int) (dss_cons (ds_set sc__law_row_of.nd (i := 3) rfl (.inl rfl) (de_bin o_sub (de_var (pv 3)) de_int))
  (dss_cons (ds_set sc__law_row_of.nd (i := 4) rfl (.inl rfl) (de_if (dt_cmp (o_lt (hu64 hr)) (de_callB c_len (by rfl) M.b_len boot_len (dr_cons (de_var (pv 2)) dr_nil)) de_int) (de_callW C__law_any hr (by rfl) fnW_len (pv 0) (dv_cons de_int dv_nil)) de_int))
  (dss_one (ds_if (DW.t (dw_and (dt_cmp (o_lt (hu64 hr)) (de_var (pv 4)) de_int) (dw_and1 (dt_cmp (o_lt (hu64 hr)) (de_callB c_len (by rfl) M.b_len boot_len (dr_cons (de_var (pv 2)) dr_nil)) de_int)))) (dss_cons (ds_set sc__law_row_of.nd (i := 5) rfl (.inl rfl) (de_bin o_add de_int (de_callW C__law_any hr (by rfl) fnW_len (pv 0) (dv_cons de_int dv_nil))))
  (dss_cons (ds_append (pv 2) (de_tup (da_cons (de_callW C__law_of hr (by rfl) fnW_len (pv 0) (dv_cons (de_lst (da_cons de_str (da_cons de_str da_nil))) dv_nil)) (da_cons de_non (da_cons (de_var (pv 5)) da_nil)))))
  (dss_one (ds_set sc__law_row_of.nd (i := 3) rfl (.inl rfl) (de_bin o_add (de_var (pv 3)) (de_var (pv 5))))))) (dss_one (ds_if (dt_cmp (o_eq (hu64 hr)) (de_var (pv 4)) de_int) (dss_one (ds_append (pv 2) (de_tup (da_cons de_str (da_cons (de_call C__law_low hr (by rfl) fnP_len (dv_cons (de_bin o_sub (de_callW C__law_any hr (by rfl) fnW_len (pv 0) (dv_cons de_int dv_nil)) de_int) (dv_cons (de_bin o_add de_int (de_callW C__law_any hr (by rfl) fnW_len (pv 0) (dv_cons de_int dv_nil))) dv_nil))) (da_cons de_int da_nil)))))) (dss_cons (ds_set sc__law_row_of.nd (i := 6) rfl (.inl rfl) (de_callW C__law_letters hr (by rfl) fnW_len (pv 0) (dv_cons (de_var (pv 1)) (dv_cons (de_callW C__law_any hr (by rfl) fnW_len (pv 0) (dv_cons (de_if (dt_cmp (o_lt (hu64 hr)) (de_callB c_len (by rfl) M.b_len boot_len (dr_cons (de_var (pv 2)) dr_nil)) de_int) de_int de_int) dv_nil)) dv_nil))))
  (dss_cons (ds_append (pv 2) (de_tup (da_cons de_str (da_cons de_non (da_cons (de_callB c_len (by rfl) M.b_len boot_len (dr_cons (de_var (pv 6)) dr_nil)) da_nil)))))
  (dss_one (ds_set sc__law_row_of.nd (i := 2) rfl (.inl rfl) (de_bin o_add (de_var (pv 2)) (de_list rfl sc__law_row_of.nd (di_seq (de_var (pv 6))) (own := [("letter", 7)]) (blkOk_by (by kernel_rfl)) (fun _ _ _ _ _ => (dg_name (i := 7) sc__law_row_of.nd rfl (.inl rfl))) (fun _ _ _ _ _ => dts_nil) (fun _ _ _ _ _ => (de_tup (da_cons de_str (da_cons (de_var (pv 7)) (da_cons de_int da_nil))))))))))))))))))
  (dss_one (ds_retV (pv 2)))))
theorem o__law_row_of {a : Addr} {fd : FuncData} (F : Fun K "_law_row_of" "_law_row_of" s__law_row_of a fd) (gm : mg "_law_row_of" = some (.ref a)) (M : Mods K mg) (C__law_any : OwnF P w K mg base 5 "_law_any" "_law_any" s__law_any ["deal", "bound"] (spW K 1 g__law_any)) (C__law_of : OwnF P w K mg base 5 "_law_of" "_law_of" s__law_of ["deal", "some"] (spW K 1 g__law_of)) (C__law_low : OwnF P w K mg base 5 "_law_low" "_law_low" s__law_low ["top", "bottom"] (spP K 2 g__law_low)) (C__law_letters : OwnF P w K mg base 5 "_law_letters" "_law_letters" s__law_letters ["deal", "names", "many"] (spW K 2 g__law_letters)) : OwnF P w K mg base 6 "_law_row_of" "_law_row_of" s__law_row_of ["deal", "names"] (spW K 1 g__law_row_of) :=
  ⟨a, fd, fn_deal (m := 6) F sc__law_row_of rfl rfl (d__law_row_of M C__law_any C__law_of C__law_low C__law_letters), gm, F, F.binds fun _ _ _ _ _ _ us hl => match us, hl with | [_, _], _ => rfl⟩
theorem d__law_built {a : Addr} (M : Mods K mg)  : ∀ (cdv : Value) (A : Around) (outer : List Env) (s : Shared) (H : Hp) (E : XK), Room 1 (A.deeper (envOfC "_law_built" (defScope s__law_built) s.heap.objs.size a cdv)) → DSs (cxOf CX0 P w K mg base ["row", "odd", "done", "at", "word", "own", "many", "within", "made"] "_law_built" (defScope s__law_built) a cdv A outer s H E).nox (defBody s__law_built) h__law_built := by
  intro cdv A outer s H E hr
  exact (dss_cons (ds_set sc__law_built.nd (i := 2) rfl (.inl rfl) (de_lst da_nil))
  (dss_cons (ds_for PassesOwn.never rfl (di_seq (de_rev (de_listRg rfl (by rfl) M.b_list (by rfl) M.b_range (de_callB c_len (by rfl) M.b_len boot_len (dr_cons (de_var (pv 0)) dr_nil))))) (dg_name (i := 3) sc__law_built.nd rfl (.inl rfl)) (dss_cons (ds_asg (de_ix (de_var (pv 0)) (de_var (pv 3))) (dg_tup rfl (dgs_cons (dg_name (i := 4) sc__law_built.nd rfl (.inl rfl)) (dgs_cons (dg_name (i := 5) sc__law_built.nd rfl (.inl rfl)) (dgs_cons (dg_name (i := 6) sc__law_built.nd rfl (.inl rfl)) dgs_nil)))))
  (dss_cons (ds_par (i := 7) (j := 2) rfl sc__law_built.nd rfl rfl (by decide) rfl rfl (de_cut (de_var (pv 2)) do_no (do_of (de_var (pv 6)))) (de_cut (de_var (pv 2)) (do_of (de_var (pv 6))) do_no) (by rfl))
  (dss_cons (ds_set sc__law_built.nd (i := 8) rfl (.inl rfl) (de_if (dt_cmp (o_eq (hu64 hr)) (de_var (pv 4)) de_str) (de_var (pv 5)) (de_if (dt_cmp (o_eq (hu64 hr)) (de_var (pv 4)) de_str) (de_tup (da_cons de_str (da_cons (de_var (pv 5)) da_nil))) (de_tup (da_cons (de_var (pv 4)) (da_cons (de_callTy c_tuple (by rfl) M.b_tuple boot_tuple (dr_cons (de_var (pv 7)) dr_nil)) da_nil))))))
  (dss_one (ds_set sc__law_built.nd (i := 2) rfl (.inl rfl) (de_bin o_add (de_lst (da_cons (de_if (dt_cmp (o_inA (hu64 hr)) (de_var (pv 3)) (de_var (pv 1))) (de_ixA (hu64 hr) (de_var (pv 1)) (de_var (pv 3))) (de_var (pv 8))) da_nil)) (de_var (pv 2)))))))))
  (dss_one (ds_ret (de_ix (de_var (pv 2)) de_int)))))
theorem o__law_built {a : Addr} {fd : FuncData} (F : Fun K "_law_built" "_law_built" s__law_built a fd) (gm : mg "_law_built" = some (.ref a)) (M : Mods K mg)  : OwnF P w K mg base 2 "_law_built" "_law_built" s__law_built ["row", "odd"] (spP K 2 g__law_built) :=
  ⟨a, fd, fn_pure (m := 7) F sc__law_built rfl rfl (d__law_built M), gm, F, F.binds fun _ _ _ _ _ _ us hl => match us, hl with | [_, _], _ => rfl⟩
theorem d__law_odd {a : Addr} (M : Mods K mg) (C__law_of : OwnF P w K mg base 3 "_law_of" "_law_of" s__law_of ["deal", "some"] (spW K 1 g__law_of)) : ∀ (cdv : Value) (A : Around) (outer : List Env) (s : Shared) (H : Hp) (E : XK), Room 3 (A.deeper (envOfC "_law_odd" (defScope s__law_odd) s.heap.objs.size a cdv)) → DSs (cxOf CX0 P w K mg base ["deal", "word", "names", "some", "tie", "arrow", "mark"] "_law_odd" (defScope s__law_odd) a cdv A outer s H E).nox (defBody s__law_odd) h__law_odd := by
  intro cdv A outer s H E hr
  exact (dss_cons (ds_set sc__law_odd.nd (i := 3) rfl (.inl rfl) (de_lst (da_cons de_non (da_cons de_int (da_cons de_str (da_cons (de_tup da_nil) (da_cons (de_tup (da_cons de_str (da_cons de_str da_nil))) (da_cons (de_lst (da_cons (de_tup (da_cons de_str (da_cons (de_tup (da_cons de_int (da_cons de_int da_nil))) da_nil))) da_nil)) (da_cons (de_tup (da_cons de_str (da_cons (de_tup (da_cons de_int (da_cons de_int da_nil))) da_nil))) (da_cons (de_tup (da_cons de_str (da_cons (de_tup (da_cons de_int (da_cons de_int da_nil))) da_nil))) (da_cons (de_tup (da_cons de_str (da_cons de_int da_nil))) (da_cons (de_tup (da_cons de_str (da_cons (de_tup (da_cons de_bl (da_cons de_int da_nil))) da_nil))) da_nil))))))))))))
  (dss_cons (ds_set sc__law_odd.nd (i := 3) rfl (.inl rfl) (de_bin o_add (de_var (pv 3)) (de_lst (da_cons (de_tup (da_cons de_str (da_cons (de_tup (da_cons (de_tup (da_cons de_str (da_cons (de_tup (da_cons de_int (da_cons de_int da_nil))) da_nil))) da_nil)) da_nil))) (da_cons (de_tup (da_cons de_str (da_cons (de_tup da_nil) da_nil))) (da_cons (de_tup (da_cons de_str da_nil)) (da_cons (de_tup (da_cons de_str (da_cons (de_tup da_nil) (da_cons (de_tup da_nil) da_nil)))) da_nil)))))))
  (dss_cons (ds_if (dt_cmp (o_eq (hu64 hr)) (de_var (pv 1)) de_str) (dss_cons (ds_set sc__law_odd.nd (i := 3) rfl (.inl rfl) (de_lst (da_cons de_non (da_cons de_int (da_cons de_str (da_cons (de_tup da_nil) (da_cons (de_tup (da_cons de_str (da_cons de_str da_nil))) (da_cons (de_tup (da_cons de_str (da_cons (de_tup (da_cons de_str da_nil)) da_nil))) (da_cons (de_tup (da_cons de_str da_nil)) (da_cons (de_tup (da_cons de_str (da_cons (de_tup da_nil) da_nil))) (da_cons (de_tup (da_cons de_str (da_cons (de_tup (da_cons (de_tup (da_cons de_str (da_cons de_str da_nil))) da_nil)) da_nil))) da_nil)))))))))))
  (dss_cons (ds_set sc__law_odd.nd (i := 3) rfl (.inl rfl) (de_bin o_add (de_var (pv 3)) (de_lst (da_cons (de_tup (da_cons de_str (da_cons (de_lst (da_cons (de_tup (da_cons de_str (da_cons de_str da_nil))) da_nil)) da_nil))) (da_cons (de_tup (da_cons de_str (da_cons (de_tup (da_cons de_str (da_cons (de_tup da_nil) da_nil))) da_nil))) (da_cons (de_tup (da_cons de_str (da_cons (de_tup (da_cons de_int (da_cons de_int da_nil))) da_nil))) (da_cons (de_tup (da_cons de_str (da_cons (de_tup da_nil) da_nil))) (da_cons (de_tup (da_cons de_str da_nil)) da_nil))))))))
  (dss_cons (ds_set sc__law_odd.nd (i := 3) rfl (.inl rfl) (de_bin o_add (de_bin o_add (de_var (pv 3)) (de_list rfl sc__law_odd.nd (di_seq (de_ix (de_var (pv 2)) de_int)) (own := [("tie", 4)]) (blkOk_by (by kernel_rfl)) (fun _ _ _ _ _ => (dg_name (i := 4) sc__law_odd.nd rfl (.inl rfl))) (fun _ _ _ _ _ => dts_nil) (fun _ _ _ _ _ => (de_tup (da_cons de_str (da_cons (de_tup (da_cons (de_tup (da_cons (de_var (pv 4)) (da_cons de_str da_nil))) da_nil)) da_nil)))))) (de_list rfl sc__law_odd.nd (di_seq (de_ix (de_var (pv 2)) de_int)) (own := [("arrow", 5)]) (blkOk_by (by kernel_rfl)) (fun _ _ _ _ _ => (dg_name (i := 5) sc__law_odd.nd rfl (.inl rfl))) (fun _ _ _ _ _ => dts_nil) (fun _ _ _ _ _ => (de_tup (da_cons de_str (da_cons (de_tup (da_cons (de_tup (da_cons (de_var (pv 5)) (da_cons de_str da_nil))) da_nil)) da_nil)))))))
  (dss_cons (ds_set sc__law_odd.nd (i := 3) rfl (.inl rfl) (de_bin o_add (de_bin o_add (de_bin o_add (de_var (pv 3)) (de_list rfl sc__law_odd.nd (di_seq (de_ix (de_var (pv 2)) de_int)) (own := [("arrow", 5)]) (blkOk_by (by kernel_rfl)) (fun _ _ _ _ _ => (dg_name (i := 5) sc__law_odd.nd rfl (.inl rfl))) (fun _ _ _ _ _ => dts_nil) (fun _ _ _ _ _ => (de_tup (da_cons de_str (da_cons (de_tup (da_cons (de_tup (da_cons (de_var (pv 5)) (da_cons de_str da_nil))) (da_cons (de_tup (da_cons (de_var (pv 5)) (da_cons de_str da_nil))) da_nil))) da_nil)))))) (de_list rfl sc__law_odd.nd (di_seq (de_ix (de_var (pv 2)) de_int)) (own := [("mark", 6)]) (blkOk_by (by kernel_rfl)) (fun _ _ _ _ _ => (dg_name (i := 6) sc__law_odd.nd rfl (.inl rfl))) (fun _ _ _ _ _ => dts_nil) (fun _ _ _ _ _ => (de_tup (da_cons de_str (da_cons (de_tup (da_cons (de_tup (da_cons (de_var (pv 6)) (da_cons de_str da_nil))) da_nil)) da_nil)))))) (de_list rfl sc__law_odd.nd (di_seq (de_ix (de_var (pv 2)) de_int)) (own := [("tie", 4)]) (blkOk_by (by kernel_rfl)) (fun _ _ _ _ _ => (dg_name (i := 4) sc__law_odd.nd rfl (.inl rfl))) (fun _ _ _ _ _ => dts_nil) (fun _ _ _ _ _ => (de_tup (da_cons de_str (da_cons (de_var (pv 4)) da_nil)))))))
  (dss_one (ds_ret (de_callW C__law_of hr (by rfl) fnW_len (pv 0) (dv_cons (de_bin o_add (de_var (pv 3)) (de_list rfl sc__law_odd.nd (di_seq (de_ix (de_var (pv 2)) de_int)) (own := [("arrow", 5)]) (blkOk_by (by kernel_rfl)) (fun _ _ _ _ _ => (dg_name (i := 5) sc__law_odd.nd rfl (.inl rfl))) (fun _ _ _ _ _ => dts_nil) (fun _ _ _ _ _ => (de_tup (da_cons de_str (da_cons (de_tup (da_cons (de_tup (da_cons (de_var (pv 5)) (da_cons de_str da_nil))) (da_cons (de_tup (da_cons (de_var (pv 5)) (da_cons de_str da_nil))) da_nil))) da_nil)))))) dv_nil)))))))) dss_nil)
  (dss_frz (i := 3) (dss_one (ds_ret (de_callW C__law_of hr (by rfl) fnW_len (pv 0) (dv_cons (de_var (pv 3)) dv_nil))))))))
theorem o__law_odd {a : Addr} {fd : FuncData} (F : Fun K "_law_odd" "_law_odd" s__law_odd a fd) (gm : mg "_law_odd" = some (.ref a)) (M : Mods K mg) (C__law_of : OwnF P w K mg base 3 "_law_of" "_law_of" s__law_of ["deal", "some"] (spW K 1 g__law_of)) : OwnF P w K mg base 4 "_law_odd" "_law_odd" s__law_odd ["deal", "word", "names"] (spW K 2 g__law_odd) :=
  ⟨a, fd, fn_deal (m := 4) F sc__law_odd rfl rfl (d__law_odd M C__law_of), gm, F, F.binds fun _ _ _ _ _ _ us hl => match us, hl with | [_, _, _], _ => rfl⟩
def l_rest : List Stmt := (defBody s_law).drop 1
theorem d_law {a : Addr} (M : Mods K mg) (C__law_kind : OwnF P w K mg base 9 "_law_kind" "_law_kind" s__law_kind ["deal", "sort"] (spW K 1 g__law_kind)) (C__law_any : OwnF P w K mg base 9 "_law_any" "_law_any" s__law_any ["deal", "bound"] (spW K 1 g__law_any)) (C__law_row_of : OwnF P w K mg base 9 "_law_row_of" "_law_row_of" s__law_row_of ["deal", "names"] (spW K 1 g__law_row_of)) (C__law_told : OwnF P w K mg base 9 "_law_told" "_law_told" s__law_told ["kind", "value", "is_named"] (spP K 3 g__law_told)) (C__law_built : OwnF P w K mg base 9 "_law_built" "_law_built" s__law_built ["row", "odd"] (spP K 2 g__law_built)) (C__law_odd : OwnF P w K mg base 9 "_law_odd" "_law_odd" s__law_odd ["deal", "word", "names"] (spW K 2 g__law_odd)) (C__law_all : OwnF P w K mg base 9 "_law_all" "_law_all" s__law_all ["pairs"] (spP K 1 g__law_all)) (Mk_Kind : MkF P w K mg base 8 "Kind" ["marks", "ties", "arrows"]) : ∀ (cdv : Value) (A : Around) (outer : List Env) (s : Shared) (H : Hp) (E : XK), Room 9 (A.deeper (envOfC "law" (defScope s_law) s.heap.objs.size a cdv)) → DSs (cxOf CX0 P w K mg base ["script", "deal", "pairs", "turn", "names", "kind", "row", "again", "at", "spot", "odd", "other", "facts", "wrong", "value", "part"] "law" (defScope s_law) a cdv A outer s H E).nox ((defBody s_law).drop 1) h_law := by
  intro cdv A outer s H E hr
  exact (dss_cons (ds_for PassesOwn.never rfl (di_rng1 (by rfl) M.b_range (dr_cons de_int dr_nil)) (dg_name (i := 3) sc_law.nd rfl (.inl rfl)) (dss_cons (ds_set sc_law.nd (i := 4) rfl (.inl rfl) (de_callW C__law_kind hr (by rfl) fnW_len (pv 1) (dv_cons (de_ix (de_lst (da_cons de_int (da_cons de_int (da_cons de_int (da_cons de_int (da_cons de_int (da_cons de_int (da_cons de_int (da_cons (de_callW C__law_any hr (by rfl) fnW_len (pv 1) (dv_cons de_int dv_nil)) da_nil))))))))) (de_var (pv 3))) dv_nil)))
  (dss_cons (ds_par (i := 5) (j := 6) rfl sc_law.nd rfl rfl (by decide) rfl rfl (de_mk Mk_Kind hr (by rfl) (da_cons (de_ix (de_var (pv 4)) de_int) (da_cons (de_ix (de_var (pv 4)) de_int) (da_cons (de_ix (de_var (pv 4)) de_int) da_nil)))) (de_callW C__law_row_of hr (by rfl) fnW_len (pv 1) (dv_cons (de_var (pv 4)) dv_nil)) (by rfl))
  (dss_frz (i := 6) (dss_cons (ds_append (pv 2) (de_tup (da_cons (de_call C__law_told hr (by rfl) len__law_told (dv_cons (de_var (pv 5)) (dv_cons (de_call C__law_built hr (by rfl) fnP_len (dv_cons (de_var (pv 6)) (dv_cons de_dic0 dv_nil))) (dv_cons (de_cmp (o_eq (hu64 hr)) (de_var (pv 3)) de_int) dv_nil)))) (da_cons (de_tup (da_cons de_str (da_cons de_non da_nil))) da_nil))))
  (dss_cons (ds_for PassesOwn.never rfl (di_rng1 (by rfl) M.b_range (dr_cons de_int dr_nil)) (dg_name (i := 7) sc_law.nd rfl (.inl rfl)) (dss_cons (ds_par (i := 8) (j := 9) rfl sc_law.nd rfl rfl (by decide) rfl rfl (de_callW C__law_any hr (by rfl) fnW_len (pv 1) (dv_cons (de_callB c_len (by rfl) M.b_len boot_len (dr_cons (de_var (pv 6)) dr_nil)) dv_nil)) (de_callW C__law_any hr (by rfl) fnW_len (pv 1) (dv_cons (de_callB c_len (by rfl) M.b_len boot_len (dr_cons (de_var (pv 6)) dr_nil)) dv_nil)) (by rfl))
  (dss_cons (ds_set sc_law.nd (i := 10) rfl (.inl rfl) (de_callTy (c_dict rfl) (by rfl) M.b_dict boot_dict (dr_cons (de_lst (da_cons (de_tup (da_cons (de_var (pv 8)) (da_cons (de_callW C__law_odd hr (by rfl) fnW_len (pv 1) (dv_cons (de_ix (de_ix (de_var (pv 6)) (de_var (pv 8))) de_int) (dv_cons (de_var (pv 4)) dv_nil))) da_nil))) da_nil)) dr_nil)))
  (dss_cons (ds_if (dt_cmp (o_eq (hu64 hr)) (de_callW C__law_any hr (by rfl) fnW_len (pv 1) (dv_cons de_int dv_nil)) de_int) (dss_one (ds_dput (hu64 hr) (pv 10) (de_var (pv 9)) (de_callW C__law_odd hr (by rfl) fnW_len (pv 1) (dv_cons (de_ix (de_ix (de_var (pv 6)) (de_var (pv 9))) de_int) (dv_cons (de_var (pv 4)) dv_nil))))) dss_nil)
  (dss_frz (i := 10) (dss_one (ds_append (pv 2) (de_tup (da_cons (de_call C__law_told hr (by rfl) len__law_told (dv_cons (de_var (pv 5)) (dv_cons (de_call C__law_built hr (by rfl) fnP_len (dv_cons (de_var (pv 6)) (dv_cons (de_var (pv 10)) dv_nil))) (dv_cons (de_cmp (o_eq (hu64 hr)) (de_var (pv 3)) de_int) dv_nil)))) (da_cons (de_tup (da_cons de_str (da_cons (de_callB (c_minK rfl) (by rfl) M.b_min boot_min (dr_cons (de_var (pv 10)) dr_nil)) da_nil))) da_nil))))))))))
  (dss_cons (ds_set sc_law.nd (i := 11) rfl (.inl rfl) (de_mk Mk_Kind hr (by rfl) (da_cons (de_tup da_nil) (da_cons (de_tup da_nil) (da_cons (de_tup da_nil) da_nil)))))
  (dss_cons (ds_setLc (i := 12) rfl sc_law.nd rfl rfl (by rfl) (di_enum (by rfl) M.b_enumerate (de_var (pv 6))) (own := [("at", 8), ("part", 15)]) (blkOk_by (by kernel_rfl)) (fun _ _ _ _ _ => (dg_tup rfl (dgs_cons (dg_name (i := 8) sc_law.nd rfl (.inl rfl)) (dgs_cons (dg_name (i := 15) sc_law.nd rfl (.inl rfl)) dgs_nil)))) (fun _ _ _ _ _ => (dts_one (dt_cmp (o_eq (hu64 hr)) (de_ix (de_var (pv 15)) de_int) de_str))) (fun _ _ _ _ _ => (de_var (pv 8))))
  (dss_one (ds_append (pv 2) (de_tup (da_cons (de_call C__law_told hr (by rfl) len__law_told (dv_cons (de_var (pv 11)) (dv_cons (de_call C__law_built hr (by rfl) fnP_len (dv_cons (de_var (pv 6)) (dv_cons de_dic0 dv_nil))) (dv_cons de_bl dv_nil)))) (da_cons (de_if (dt_cmp (o_gt (hu64 hr)) (de_callB c_len (by rfl) M.b_len boot_len (dr_cons (de_var (pv 12)) dr_nil)) de_int) (de_tup (da_cons de_str (da_cons (de_ix (de_var (pv 12)) de_int) da_nil))) (de_tup (da_cons de_str (da_cons de_non da_nil)))) da_nil)))))))))))))
  (dss_cons (ds_set sc_law.nd (i := 5) rfl (.inl rfl) (de_mk Mk_Kind hr (by rfl) (da_cons (de_tup (da_cons de_str da_nil)) (da_cons (de_tup (da_cons de_str da_nil)) (da_cons (de_tup (da_cons de_str da_nil)) da_nil)))))
  (dss_cons (ds_set sc_law.nd (i := 13) rfl (.inl rfl) (de_lst (da_cons (de_tup (da_cons de_non (da_cons de_int da_nil))) (da_cons (de_tup (da_cons (de_tup da_nil) (da_cons de_int da_nil))) (da_cons (de_tup (da_cons (de_tup (da_cons de_str (da_cons (de_lst (da_cons (de_tup (da_cons de_str (da_cons de_str da_nil))) da_nil)) da_nil))) (da_cons de_int da_nil))) (da_cons (de_tup (da_cons (de_tup (da_cons de_str (da_cons (de_tup (da_cons (de_tup (da_cons de_str (da_cons de_str da_nil))) (da_cons (de_tup (da_cons de_str (da_cons (de_tup (da_cons (de_tup (da_cons de_str (da_cons de_str da_nil))) (da_cons (de_tup (da_cons de_str (da_cons de_str da_nil))) da_nil))) da_nil))) da_nil))) da_nil))) (da_cons de_int da_nil))) da_nil))))))
  (dss_cons (ds_set sc_law.nd (i := 13) rfl (.inl rfl) (de_bin o_add (de_var (pv 13)) (de_lst (da_cons (de_tup (da_cons (de_tup (da_cons de_str (da_cons (de_tup (da_cons de_str (da_cons de_str da_nil))) da_nil))) (da_cons de_int da_nil))) (da_cons (de_tup (da_cons (de_tup (da_cons de_str (da_cons (de_lst (da_cons (de_tup (da_cons de_str (da_cons (de_tup da_nil) da_nil))) da_nil)) da_nil))) (da_cons de_int da_nil))) (da_cons (de_tup (da_cons (de_tup (da_cons de_str (da_cons (de_tup (da_cons (de_tup (da_cons de_str (da_cons (de_tup da_nil) da_nil))) (da_cons (de_tup (da_cons de_str (da_cons (de_tup (da_cons (de_tup (da_cons de_str (da_cons de_str da_nil))) da_nil)) da_nil))) da_nil))) da_nil))) (da_cons de_int da_nil))) da_nil))))))
  (dss_cons (ds_forV PassesOwn.never rfl (pv 13) (dg_tup rfl (dgs_cons (dg_name (i := 14) sc_law.nd rfl (.inl rfl)) (dgs_cons (dg_name (i := 8) sc_law.nd rfl (.inl rfl)) dgs_nil))) (dss_one (ds_append (pv 2) (de_tup (da_cons (de_call C__law_told hr (by rfl) len__law_told (dv_cons (de_var (pv 5)) (dv_cons (de_var (pv 14)) (dv_cons de_bl dv_nil)))) (da_cons (de_tup (da_cons de_str (da_cons (de_var (pv 8)) da_nil))) da_nil))))))
  (dss_cons (ds_set sc_law.nd (i := 2) rfl (.inl rfl) (de_bin o_add (de_var (pv 2)) (de_lst (da_cons (de_tup (da_cons (de_call C__law_told hr (by rfl) len__law_told (dv_cons (de_var (pv 5)) (dv_cons (de_tup (da_cons de_str (da_cons (de_tup (da_cons (de_tup (da_cons de_str (da_cons (de_tup (da_cons (de_tup (da_cons de_str (da_cons de_str da_nil))) (da_cons (de_tup (da_cons de_str (da_cons de_str da_nil))) (da_cons (de_tup (da_cons de_str (da_cons de_str da_nil))) da_nil)))) da_nil))) (da_cons (de_tup (da_cons de_str (da_cons de_str da_nil))) da_nil))) da_nil))) (dv_cons de_bl dv_nil)))) (da_cons (de_tup (da_cons de_str (da_cons de_non da_nil))) da_nil))) da_nil))))
  (dss_one (ds_ret (de_call C__law_all hr (by rfl) fnP_len (dv_cons (de_bin o_add (de_var (pv 2)) (de_lst (da_cons (de_tup (da_cons (de_call C__law_told hr (by rfl) len__law_told (dv_cons (de_var (pv 5)) (dv_cons (de_tup (da_cons de_str (da_cons (de_tup da_nil) da_nil))) (dv_cons de_bl dv_nil)))) (da_cons (de_tup (da_cons de_str (da_cons de_non da_nil))) da_nil))) da_nil))) dv_nil))))))))))
abbrev l_s0 : Stmt := (defBody s_law).headD (.Pass ⟨0, 0, 0, 0⟩)
def LawSays : Prop := ∀ ns : List Int, ns.length ≤ 63 → ∃ δ ρ' δ', dealOf g__law_deal 7948 ns = some δ ∧ h_law (.un :: .dl :: .ow (.lst []) :: List.replicate 13 .un) δ = some (.rt (.bl true) .sh, ρ', δ')
theorem o_law {a : Addr} {fd : FuncData} (F : Fun K "law" "law" s_law a fd) (M : Mods K mg) (C__law_kind : OwnF P w K mg base 9 "_law_kind" "_law_kind" s__law_kind ["deal", "sort"] (spW K 1 g__law_kind)) (C__law_any : OwnF P w K mg base 9 "_law_any" "_law_any" s__law_any ["deal", "bound"] (spW K 1 g__law_any)) (C__law_row_of : OwnF P w K mg base 9 "_law_row_of" "_law_row_of" s__law_row_of ["deal", "names"] (spW K 1 g__law_row_of)) (C__law_told : OwnF P w K mg base 9 "_law_told" "_law_told" s__law_told ["kind", "value", "is_named"] (spP K 3 g__law_told)) (C__law_built : OwnF P w K mg base 9 "_law_built" "_law_built" s__law_built ["row", "odd"] (spP K 2 g__law_built)) (C__law_odd : OwnF P w K mg base 9 "_law_odd" "_law_odd" s__law_odd ["deal", "word", "names"] (spW K 2 g__law_odd)) (C__law_all : OwnF P w K mg base 9 "_law_all" "_law_all" s__law_all ["pairs"] (spP K 1 g__law_all)) (C__law_deal : OwnF P w K mg base 9 "_law_deal" "_law_deal" s__law_deal ["script", "salt"] (spP K 2 g__law_deal)) (Mk_Kind : MkF P w K mg base 8 "Kind" ["marks", "ties", "arrows"]) (law : LawSays) : FnOk P w K mg base CX0 10 a fd ["script"] (spL K) := by
  refine fn_law (salt := 7948) (gf := g__law_deal) (m := 13) (s0 := l_s0) (rest := (defBody s_law).drop 1) F sc_law rfl rfl (fun cdv A outer s H E hr => ⟨?_, d_law M C__law_kind C__law_any C__law_row_of C__law_told C__law_built C__law_odd C__law_all Mk_Kind cdv A outer s H E hr⟩) law
  obtain ⟨fD, fdD, Fk, hm, FnD, hbD⟩ := C__law_deal.ex
  exact ps_par (i := 1) (j := 2) rfl sc_law.nd rfl rfl (by decide) rfl rfl (pa_cons (pe_call Fk hr (by rfl) hm FnD.kp hbD .nil pass0 (pa_cons (pv 0) (pa_cons pe_int pa_nil))) (pa_cons (pe_lst pa_nil) pa_nil)) (by rfl)
end
theorem all_mk {l : PySem.W.OpenLaw} {w : World} {K : PySem.W.Frag} {h : Heap} {mg : Str → Option Value} {fa : Addr} (X : K.In h) (G : h.Ns mainGlobals mg) (hfa : mg "law" = some (.ref fa))
    {f0 : Addr} {od0 an0 : Option Addr} {sl0 : Array (Option Value)} {oc0 kV0 dc0 pm0 cd0 ct0 : Value}
    {f1 : Addr} {od1 an1 : Option Addr} {sl1 : Array (Option Value)} {oc1 kV1 dc1 pm1 cd1 ct1 : Value}
    {f2 : Addr} {od2 an2 : Option Addr} {sl2 : Array (Option Value)} {oc2 kV2 dc2 pm2 cd2 ct2 : Value}
    {f3 : Addr} {od3 an3 : Option Addr} {sl3 : Array (Option Value)} {oc3 kV3 dc3 pm3 cd3 ct3 : Value}
    {f4 : Addr} {od4 an4 : Option Addr} {sl4 : Array (Option Value)} {oc4 kV4 dc4 pm4 cd4 ct4 : Value}
    {f5 : Addr} {od5 an5 : Option Addr} {sl5 : Array (Option Value)} {oc5 kV5 dc5 pm5 cd5 ct5 : Value}
    {f6 : Addr} {od6 an6 : Option Addr} {sl6 : Array (Option Value)} {oc6 kV6 dc6 pm6 cd6 ct6 : Value}
    {f7 : Addr} {od7 an7 : Option Addr} {sl7 : Array (Option Value)} {oc7 kV7 dc7 pm7 cd7 ct7 : Value}
    {f8 : Addr} {od8 an8 : Option Addr} {sl8 : Array (Option Value)} {oc8 kV8 dc8 pm8 cd8 ct8 : Value}
    {f9 : Addr} {od9 an9 : Option Addr} {sl9 : Array (Option Value)} {oc9 kV9 dc9 pm9 cd9 ct9 : Value}
    {f10 : Addr} {od10 an10 : Option Addr} {sl10 : Array (Option Value)} {oc10 kV10 dc10 pm10 cd10 ct10 : Value}
    {f11 : Addr} {od11 an11 : Option Addr} {sl11 : Array (Option Value)} {oc11 kV11 dc11 pm11 cd11 ct11 : Value}
    {f12 : Addr} {od12 an12 : Option Addr} {sl12 : Array (Option Value)} {oc12 kV12 dc12 pm12 cd12 ct12 : Value}
    {f13 : Addr} {od13 an13 : Option Addr} {sl13 : Array (Option Value)} {oc13 kV13 dc13 pm13 cd13 ct13 : Value}
    {f14 : Addr} {od14 an14 : Option Addr} {sl14 : Array (Option Value)} {oc14 kV14 dc14 pm14 cd14 ct14 : Value}
    {f15 : Addr} {od15 an15 : Option Addr} {sl15 : Array (Option Value)} {oc15 kV15 dc15 pm15 cd15 ct15 : Value}
    {f16 : Addr} {od16 an16 : Option Addr} {sl16 : Array (Option Value)} {oc16 kV16 dc16 pm16 cd16 ct16 : Value}
    {f17 : Addr} {od17 an17 : Option Addr} {sl17 : Array (Option Value)} {oc17 kV17 dc17 pm17 cd17 ct17 : Value}
    {f18 : Addr} {od18 an18 : Option Addr} {sl18 : Array (Option Value)} {oc18 kV18 dc18 pm18 cd18 ct18 : Value}
    {f19 : Addr} {od19 an19 : Option Addr} {sl19 : Array (Option Value)} {oc19 kV19 dc19 pm19 cd19 ct19 : Value}
    {f20 : Addr} {od20 an20 : Option Addr} {sl20 : Array (Option Value)} {oc20 kV20 dc20 pm20 cd20 ct20 : Value}
    {f21 : Addr} {od21 an21 : Option Addr} {sl21 : Array (Option Value)} {oc21 kV21 dc21 pm21 cd21 ct21 : Value}
    {f22 : Addr} {od22 an22 : Option Addr} {sl22 : Array (Option Value)} {oc22 kV22 dc22 pm22 cd22 ct22 : Value}
    {f23 : Addr} {od23 an23 : Option Addr} {sl23 : Array (Option Value)} {oc23 kV23 dc23 pm23 cd23 ct23 : Value}
    {f24 : Addr} {od24 an24 : Option Addr} {sl24 : Array (Option Value)} {oc24 kV24 dc24 pm24 cd24 ct24 : Value}
    {f25 : Addr} {od25 an25 : Option Addr} {sl25 : Array (Option Value)} {oc25 kV25 dc25 pm25 cd25 ct25 : Value}
    {f26 : Addr} {od26 an26 : Option Addr} {sl26 : Array (Option Value)} {oc26 kV26 dc26 pm26 cd26 ct26 : Value}
    {f27 : Addr} {od27 an27 : Option Addr} {sl27 : Array (Option Value)} {oc27 kV27 dc27 pm27 cd27 ct27 : Value}
    {f28 : Addr} {od28 an28 : Option Addr} {sl28 : Array (Option Value)} {oc28 kV28 dc28 pm28 cd28 ct28 : Value}
    {f29 : Addr} {od29 an29 : Option Addr} {sl29 : Array (Option Value)} {oc29 kV29 dc29 pm29 cd29 ct29 : Value}
    {f30 : Addr} {od30 an30 : Option Addr} {sl30 : Array (Option Value)} {oc30 kV30 dc30 pm30 cd30 ct30 : Value}
    {f31 : Addr} {od31 an31 : Option Addr} {sl31 : Array (Option Value)} {oc31 kV31 dc31 pm31 cd31 ct31 : Value}
    {f32 : Addr} {od32 an32 : Option Addr} {sl32 : Array (Option Value)} {oc32 kV32 dc32 pm32 cd32 ct32 : Value}
    {f33 : Addr} {od33 an33 : Option Addr} {sl33 : Array (Option Value)} {oc33 kV33 dc33 pm33 cd33 ct33 : Value}
    {f34 : Addr} {od34 an34 : Option Addr} {sl34 : Array (Option Value)} {oc34 kV34 dc34 pm34 cd34 ct34 : Value}
    {f35 : Addr} {od35 an35 : Option Addr} {sl35 : Array (Option Value)} {oc35 kV35 dc35 pm35 cd35 ct35 : Value}
    {f36 : Addr} {od36 an36 : Option Addr} {sl36 : Array (Option Value)} {oc36 kV36 dc36 pm36 cd36 ct36 : Value}
    {f37 : Addr} {od37 an37 : Option Addr} {sl37 : Array (Option Value)} {oc37 kV37 dc37 pm37 cd37 ct37 : Value}
    {f38 : Addr} {od38 an38 : Option Addr} {sl38 : Array (Option Value)} {oc38 kV38 dc38 pm38 cd38 ct38 : Value}
    {f39 : Addr} {od39 an39 : Option Addr} {sl39 : Array (Option Value)} {oc39 kV39 dc39 pm39 cd39 ct39 : Value}
    {A_Kind I_Kind : Addr} {od_Kind an_Kind : Option Addr} {sl_Kind : Array (Option Value)} {oc_Kind kV_Kind dc_Kind pm_Kind cd_Kind ct_Kind : Value}
    {XC XI XD : Addr} {xnm xq : Str} {xN : Addr} {xbs : List Value} {xsn : List Str} {xsub : List Value} {xab : Bool} {xcol : Option Bool} {xdd : Option Addr} {x0 x1 x2 x3 x5 : Option Value} {xod xan : Option Addr} {xsl : Array (Option Value)} {xoc xdc xpm xcd xct : Value}
    
    {t_WITH : Tok}
    {t_OUT : Tok}
    {t_IN : Tok}
    {t_PROGRAM : Tok}
    {t_ROW : Tok}
    {t_MATRIX : Tok}
    {t_LETTER : Tok}
    {t_NUMBER : Tok}
    {t_TOTAL : Tok}
    {t_PLUS : Tok}
    {t_TIMES : Tok}
    {t_MARK : Tok}
    {t_APPLIED : Tok}
    {t_CORNER : Tok}
    {t_WHOLE : Tok}
    {t_FACTS : Tok}
    {t_ONE : Tok}
    {t_ALL : Tok}
    {t_PRODUCT : Tok}
    {t_TURNED : Tok}
    {t_SCALED : Tok}
    {t_SPREAD : Tok}
    {t_CELLS : Tok}
    {t_TRACE : Tok}
    (a0 : PySem.W.nsIn K mainGlobals "is_integer" = some (some (.ref f0))) (l0 : K.lookup f0 = some ⟨oc0, od0, .func (PySem.W.fnOf "is_integer" "is_integer" (defArgs s_is_integer) (defBody s_is_integer) (defScope s_is_integer) .none kV0 dc0 pm0 an0 cd0 ct0), sl0⟩) (c0 : PySem.W.codeIn K cd0 "is_integer" = true) (k0 : PySem.W.keepIn K (.ref f0) = true)
    (a1 : PySem.W.nsIn K mainGlobals "is_tuple" = some (some (.ref f1))) (l1 : K.lookup f1 = some ⟨oc1, od1, .func (PySem.W.fnOf "is_tuple" "is_tuple" (defArgs s_is_tuple) (defBody s_is_tuple) (defScope s_is_tuple) .none kV1 dc1 pm1 an1 cd1 ct1), sl1⟩) (c1 : PySem.W.codeIn K cd1 "is_tuple" = true) (k1 : PySem.W.keepIn K (.ref f1) = true)
    (a2 : PySem.W.nsIn K mainGlobals "is_ascending" = some (some (.ref f2))) (l2 : K.lookup f2 = some ⟨oc2, od2, .func (PySem.W.fnOf "is_ascending" "is_ascending" (defArgs s_is_ascending) (defBody s_is_ascending) (defScope s_is_ascending) .none kV2 dc2 pm2 an2 cd2 ct2), sl2⟩) (c2 : PySem.W.codeIn K cd2 "is_ascending" = true) (k2 : PySem.W.keepIn K (.ref f2) = true)
    (a3 : PySem.W.nsIn K mainGlobals "common_divisor" = some (some (.ref f3))) (l3 : K.lookup f3 = some ⟨oc3, od3, .func (PySem.W.fnOf "common_divisor" "common_divisor" (defArgs s_common_divisor) (defBody s_common_divisor) (defScope s_common_divisor) .none kV3 dc3 pm3 an3 cd3 ct3), sl3⟩) (c3 : PySem.W.codeIn K cd3 "common_divisor" = true) (k3 : PySem.W.keepIn K (.ref f3) = true)
    (a4 : PySem.W.nsIn K mainGlobals "is_fraction" = some (some (.ref f4))) (l4 : K.lookup f4 = some ⟨oc4, od4, .func (PySem.W.fnOf "is_fraction" "is_fraction" (defArgs s_is_fraction) (defBody s_is_fraction) (defScope s_is_fraction) .none kV4 dc4 pm4 an4 cd4 ct4), sl4⟩) (c4 : PySem.W.codeIn K cd4 "is_fraction" = true) (k4 : PySem.W.keepIn K (.ref f4) = true)
    (a5 : PySem.W.nsIn K mainGlobals "is_link_pair" = some (some (.ref f5))) (l5 : K.lookup f5 = some ⟨oc5, od5, .func (PySem.W.fnOf "is_link_pair" "is_link_pair" (defArgs s_is_link_pair) (defBody s_is_link_pair) (defScope s_is_link_pair) .none kV5 dc5 pm5 an5 cd5 ct5), sl5⟩) (c5 : PySem.W.codeIn K cd5 "is_link_pair" = true) (k5 : PySem.W.keepIn K (.ref f5) = true)
    (a6 : PySem.W.nsIn K mainGlobals "is_link" = some (some (.ref f6))) (l6 : K.lookup f6 = some ⟨oc6, od6, .func (PySem.W.fnOf "is_link" "is_link" (defArgs s_is_link) (defBody s_is_link) (defScope s_is_link) .none kV6 dc6 pm6 an6 cd6 ct6), sl6⟩) (c6 : PySem.W.codeIn K cd6 "is_link" = true) (k6 : PySem.W.keepIn K (.ref f6) = true)
    (a7 : PySem.W.nsIn K mainGlobals "list_words" = some (some (.ref f7))) (l7 : K.lookup f7 = some ⟨oc7, od7, .func (PySem.W.fnOf "list_words" "list_words" (defArgs s_list_words) (defBody s_list_words) (defScope s_list_words) .none kV7 dc7 pm7 an7 cd7 ct7), sl7⟩) (c7 : PySem.W.codeIn K cd7 "list_words" = true) (k7 : PySem.W.keepIn K (.ref f7) = true)
    (a8 : PySem.W.nsIn K mainGlobals "single_sort" = some (some (.ref f8))) (l8 : K.lookup f8 = some ⟨oc8, od8, .func (PySem.W.fnOf "single_sort" "single_sort" (defArgs s_single_sort) (defBody s_single_sort) (defScope s_single_sort) .none kV8 dc8 pm8 an8 cd8 ct8), sl8⟩) (c8 : PySem.W.codeIn K cd8 "single_sort" = true) (k8 : PySem.W.keepIn K (.ref f8) = true)
    (a9 : PySem.W.nsIn K mainGlobals "is_worded" = some (some (.ref f9))) (l9 : K.lookup f9 = some ⟨oc9, od9, .func (PySem.W.fnOf "is_worded" "is_worded" (defArgs s_is_worded) (defBody s_is_worded) (defScope s_is_worded) .none kV9 dc9 pm9 an9 cd9 ct9), sl9⟩) (c9 : PySem.W.codeIn K cd9 "is_worded" = true) (k9 : PySem.W.keepIn K (.ref f9) = true)
    (a10 : PySem.W.nsIn K mainGlobals "is_list_part" = some (some (.ref f10))) (l10 : K.lookup f10 = some ⟨oc10, od10, .func (PySem.W.fnOf "is_list_part" "is_list_part" (defArgs s_is_list_part) (defBody s_is_list_part) (defScope s_is_list_part) .none kV10 dc10 pm10 an10 cd10 ct10), sl10⟩) (c10 : PySem.W.codeIn K cd10 "is_list_part" = true) (k10 : PySem.W.keepIn K (.ref f10) = true)
    (a11 : PySem.W.nsIn K mainGlobals "is_number_part" = some (some (.ref f11))) (l11 : K.lookup f11 = some ⟨oc11, od11, .func (PySem.W.fnOf "is_number_part" "is_number_part" (defArgs s_is_number_part) (defBody s_is_number_part) (defScope s_is_number_part) .none kV11 dc11 pm11 an11 cd11 ct11), sl11⟩) (c11 : PySem.W.codeIn K cd11 "is_number_part" = true) (k11 : PySem.W.keepIn K (.ref f11) = true)
    (a12 : PySem.W.nsIn K mainGlobals "is_mark_part" = some (some (.ref f12))) (l12 : K.lookup f12 = some ⟨oc12, od12, .func (PySem.W.fnOf "is_mark_part" "is_mark_part" (defArgs s_is_mark_part) (defBody s_is_mark_part) (defScope s_is_mark_part) .none kV12 dc12 pm12 an12 cd12 ct12), sl12⟩) (c12 : PySem.W.codeIn K cd12 "is_mark_part" = true) (k12 : PySem.W.keepIn K (.ref f12) = true)
    (a13 : PySem.W.nsIn K mainGlobals "is_matrix_part" = some (some (.ref f13))) (l13 : K.lookup f13 = some ⟨oc13, od13, .func (PySem.W.fnOf "is_matrix_part" "is_matrix_part" (defArgs s_is_matrix_part) (defBody s_is_matrix_part) (defScope s_is_matrix_part) .none kV13 dc13 pm13 an13 cd13 ct13), sl13⟩) (c13 : PySem.W.codeIn K cd13 "is_matrix_part" = true) (k13 : PySem.W.keepIn K (.ref f13) = true)
    (a14 : PySem.W.nsIn K mainGlobals "is_row_part" = some (some (.ref f14))) (l14 : K.lookup f14 = some ⟨oc14, od14, .func (PySem.W.fnOf "is_row_part" "is_row_part" (defArgs s_is_row_part) (defBody s_is_row_part) (defScope s_is_row_part) .none kV14 dc14 pm14 an14 cd14 ct14), sl14⟩) (c14 : PySem.W.codeIn K cd14 "is_row_part" = true) (k14 : PySem.W.keepIn K (.ref f14) = true)
    (a15 : PySem.W.nsIn K mainGlobals "is_letter" = some (some (.ref f15))) (l15 : K.lookup f15 = some ⟨oc15, od15, .func (PySem.W.fnOf "is_letter" "is_letter" (defArgs s_is_letter) (defBody s_is_letter) (defScope s_is_letter) .none kV15 dc15 pm15 an15 cd15 ct15), sl15⟩) (c15 : PySem.W.codeIn K cd15 "is_letter" = true) (k15 : PySem.W.keepIn K (.ref f15) = true)
    (a16 : PySem.W.nsIn K mainGlobals "is_program_part" = some (some (.ref f16))) (l16 : K.lookup f16 = some ⟨oc16, od16, .func (PySem.W.fnOf "is_program_part" "is_program_part" (defArgs s_is_program_part) (defBody s_is_program_part) (defScope s_is_program_part) .none kV16 dc16 pm16 an16 cd16 ct16), sl16⟩) (c16 : PySem.W.codeIn K cd16 "is_program_part" = true) (k16 : PySem.W.keepIn K (.ref f16) = true)
    (a17 : PySem.W.nsIn K mainGlobals "is_part" = some (some (.ref f17))) (l17 : K.lookup f17 = some ⟨oc17, od17, .func (PySem.W.fnOf "is_part" "is_part" (defArgs s_is_part) (defBody s_is_part) (defScope s_is_part) .none kV17 dc17 pm17 an17 cd17 ct17), sl17⟩) (c17 : PySem.W.codeIn K cd17 "is_part" = true) (k17 : PySem.W.keepIn K (.ref f17) = true)
    (a18 : PySem.W.nsIn K mainGlobals "inner_parts" = some (some (.ref f18))) (l18 : K.lookup f18 = some ⟨oc18, od18, .func (PySem.W.fnOf "inner_parts" "inner_parts" (defArgs s_inner_parts) (defBody s_inner_parts) (defScope s_inner_parts) .none kV18 dc18 pm18 an18 cd18 ct18), sl18⟩) (c18 : PySem.W.codeIn K cd18 "inner_parts" = true) (k18 : PySem.W.keepIn K (.ref f18) = true)
    (a19 : PySem.W.nsIn K mainGlobals "first_wrong" = some (some (.ref f19))) (l19 : K.lookup f19 = some ⟨oc19, od19, .func (PySem.W.fnOf "first_wrong" "first_wrong" (defArgs s_first_wrong) (defBody s_first_wrong) (defScope s_first_wrong) .none kV19 dc19 pm19 an19 cd19 ct19), sl19⟩) (c19 : PySem.W.codeIn K cd19 "first_wrong" = true) (k19 : PySem.W.keepIn K (.ref f19) = true)
    (a20 : PySem.W.nsIn K mainGlobals "need_trace" = some (some (.ref f20))) (l20 : K.lookup f20 = some ⟨oc20, od20, .func (PySem.W.fnOf "need_trace" "need_trace" (defArgs s_need_trace) (defBody s_need_trace) (defScope s_need_trace) .none kV20 dc20 pm20 an20 cd20 ct20), sl20⟩) (c20 : PySem.W.codeIn K cd20 "need_trace" = true) (k20 : PySem.W.keepIn K (.ref f20) = true)
    (a21 : PySem.W.nsIn K mainGlobals "_law_deal" = some (some (.ref f21))) (l21 : K.lookup f21 = some ⟨oc21, od21, .func (PySem.W.fnOf "_law_deal" "_law_deal" (defArgs s__law_deal) (defBody s__law_deal) (defScope s__law_deal) .none kV21 dc21 pm21 an21 cd21 ct21), sl21⟩) (c21 : PySem.W.codeIn K cd21 "_law_deal" = true) (k21 : PySem.W.keepIn K (.ref f21) = true)
    (a22 : PySem.W.nsIn K mainGlobals "_law_any" = some (some (.ref f22))) (l22 : K.lookup f22 = some ⟨oc22, od22, .func (PySem.W.fnOf "_law_any" "_law_any" (defArgs s__law_any) (defBody s__law_any) (defScope s__law_any) .none kV22 dc22 pm22 an22 cd22 ct22), sl22⟩) (c22 : PySem.W.codeIn K cd22 "_law_any" = true) (k22 : PySem.W.keepIn K (.ref f22) = true)
    (a23 : PySem.W.nsIn K mainGlobals "_law_of" = some (some (.ref f23))) (l23 : K.lookup f23 = some ⟨oc23, od23, .func (PySem.W.fnOf "_law_of" "_law_of" (defArgs s__law_of) (defBody s__law_of) (defScope s__law_of) .none kV23 dc23 pm23 an23 cd23 ct23), sl23⟩) (c23 : PySem.W.codeIn K cd23 "_law_of" = true) (k23 : PySem.W.keepIn K (.ref f23) = true)
    (a24 : PySem.W.nsIn K mainGlobals "_law_mixed" = some (some (.ref f24))) (l24 : K.lookup f24 = some ⟨oc24, od24, .func (PySem.W.fnOf "_law_mixed" "_law_mixed" (defArgs s__law_mixed) (defBody s__law_mixed) (defScope s__law_mixed) .none kV24 dc24 pm24 an24 cd24 ct24), sl24⟩) (c24 : PySem.W.codeIn K cd24 "_law_mixed" = true) (k24 : PySem.W.keepIn K (.ref f24) = true)
    (a25 : PySem.W.nsIn K mainGlobals "_law_is_kind" = some (some (.ref f25))) (l25 : K.lookup f25 = some ⟨oc25, od25, .func (PySem.W.fnOf "_law_is_kind" "_law_is_kind" (defArgs s__law_is_kind) (defBody s__law_is_kind) (defScope s__law_is_kind) .none kV25 dc25 pm25 an25 cd25 ct25), sl25⟩) (c25 : PySem.W.codeIn K cd25 "_law_is_kind" = true) (k25 : PySem.W.keepIn K (.ref f25) = true)
    (a26 : PySem.W.nsIn K mainGlobals "_law_same" = some (some (.ref f26))) (l26 : K.lookup f26 = some ⟨oc26, od26, .func (PySem.W.fnOf "_law_same" "_law_same" (defArgs s__law_same) (defBody s__law_same) (defScope s__law_same) .none kV26 dc26 pm26 an26 cd26 ct26), sl26⟩) (c26 : PySem.W.codeIn K cd26 "_law_same" = true) (k26 : PySem.W.keepIn K (.ref f26) = true)
    (a27 : PySem.W.nsIn K mainGlobals "_law_all" = some (some (.ref f27))) (l27 : K.lookup f27 = some ⟨oc27, od27, .func (PySem.W.fnOf "_law_all" "_law_all" (defArgs s__law_all) (defBody s__law_all) (defScope s__law_all) .none kV27 dc27 pm27 an27 cd27 ct27), sl27⟩) (c27 : PySem.W.codeIn K cd27 "_law_all" = true) (k27 : PySem.W.keepIn K (.ref f27) = true)
    (a28 : PySem.W.nsIn K mainGlobals "_law_shared" = some (some (.ref f28))) (l28 : K.lookup f28 = some ⟨oc28, od28, .func (PySem.W.fnOf "_law_shared" "_law_shared" (defArgs s__law_shared) (defBody s__law_shared) (defScope s__law_shared) .none kV28 dc28 pm28 an28 cd28 ct28), sl28⟩) (c28 : PySem.W.codeIn K cd28 "_law_shared" = true) (k28 : PySem.W.keepIn K (.ref f28) = true)
    (a29 : PySem.W.nsIn K mainGlobals "_law_low" = some (some (.ref f29))) (l29 : K.lookup f29 = some ⟨oc29, od29, .func (PySem.W.fnOf "_law_low" "_law_low" (defArgs s__law_low) (defBody s__law_low) (defScope s__law_low) .none kV29 dc29 pm29 an29 cd29 ct29), sl29⟩) (c29 : PySem.W.codeIn K cd29 "_law_low" = true) (k29 : PySem.W.keepIn K (.ref f29) = true)
    (a30 : PySem.W.nsIn K mainGlobals "_law_names" = some (some (.ref f30))) (l30 : K.lookup f30 = some ⟨oc30, od30, .func (PySem.W.fnOf "_law_names" "_law_names" (defArgs s__law_names) (defBody s__law_names) (defScope s__law_names) .none kV30 dc30 pm30 an30 cd30 ct30), sl30⟩) (c30 : PySem.W.codeIn K cd30 "_law_names" = true) (k30 : PySem.W.keepIn K (.ref f30) = true)
    (a31 : PySem.W.nsIn K mainGlobals "_law_kind" = some (some (.ref f31))) (l31 : K.lookup f31 = some ⟨oc31, od31, .func (PySem.W.fnOf "_law_kind" "_law_kind" (defArgs s__law_kind) (defBody s__law_kind) (defScope s__law_kind) .none kV31 dc31 pm31 an31 cd31 ct31), sl31⟩) (c31 : PySem.W.codeIn K cd31 "_law_kind" = true) (k31 : PySem.W.keepIn K (.ref f31) = true)
    (a32 : PySem.W.nsIn K mainGlobals "_law_link_facts" = some (some (.ref f32))) (l32 : K.lookup f32 = some ⟨oc32, od32, .func (PySem.W.fnOf "_law_link_facts" "_law_link_facts" (defArgs s__law_link_facts) (defBody s__law_link_facts) (defScope s__law_link_facts) .none kV32 dc32 pm32 an32 cd32 ct32), sl32⟩) (c32 : PySem.W.codeIn K cd32 "_law_link_facts" = true) (k32 : PySem.W.keepIn K (.ref f32) = true)
    (a33 : PySem.W.nsIn K mainGlobals "_law_link" = some (some (.ref f33))) (l33 : K.lookup f33 = some ⟨oc33, od33, .func (PySem.W.fnOf "_law_link" "_law_link" (defArgs s__law_link) (defBody s__law_link) (defScope s__law_link) .none kV33 dc33 pm33 an33 cd33 ct33), sl33⟩) (c33 : PySem.W.codeIn K cd33 "_law_link" = true) (k33 : PySem.W.keepIn K (.ref f33) = true)
    (a34 : PySem.W.nsIn K mainGlobals "_law_letters" = some (some (.ref f34))) (l34 : K.lookup f34 = some ⟨oc34, od34, .func (PySem.W.fnOf "_law_letters" "_law_letters" (defArgs s__law_letters) (defBody s__law_letters) (defScope s__law_letters) .none kV34 dc34 pm34 an34 cd34 ct34), sl34⟩) (c34 : PySem.W.codeIn K cd34 "_law_letters" = true) (k34 : PySem.W.keepIn K (.ref f34) = true)
    (a35 : PySem.W.nsIn K mainGlobals "_law_told" = some (some (.ref f35))) (l35 : K.lookup f35 = some ⟨oc35, od35, .func (PySem.W.fnOf "_law_told" "_law_told" (defArgs s__law_told) (defBody s__law_told) (defScope s__law_told) .none kV35 dc35 pm35 an35 cd35 ct35), sl35⟩) (c35 : PySem.W.codeIn K cd35 "_law_told" = true) (k35 : PySem.W.keepIn K (.ref f35) = true)
    (a36 : PySem.W.nsIn K mainGlobals "_law_row_of" = some (some (.ref f36))) (l36 : K.lookup f36 = some ⟨oc36, od36, .func (PySem.W.fnOf "_law_row_of" "_law_row_of" (defArgs s__law_row_of) (defBody s__law_row_of) (defScope s__law_row_of) .none kV36 dc36 pm36 an36 cd36 ct36), sl36⟩) (c36 : PySem.W.codeIn K cd36 "_law_row_of" = true) (k36 : PySem.W.keepIn K (.ref f36) = true)
    (a37 : PySem.W.nsIn K mainGlobals "_law_built" = some (some (.ref f37))) (l37 : K.lookup f37 = some ⟨oc37, od37, .func (PySem.W.fnOf "_law_built" "_law_built" (defArgs s__law_built) (defBody s__law_built) (defScope s__law_built) .none kV37 dc37 pm37 an37 cd37 ct37), sl37⟩) (c37 : PySem.W.codeIn K cd37 "_law_built" = true) (k37 : PySem.W.keepIn K (.ref f37) = true)
    (a38 : PySem.W.nsIn K mainGlobals "_law_odd" = some (some (.ref f38))) (l38 : K.lookup f38 = some ⟨oc38, od38, .func (PySem.W.fnOf "_law_odd" "_law_odd" (defArgs s__law_odd) (defBody s__law_odd) (defScope s__law_odd) .none kV38 dc38 pm38 an38 cd38 ct38), sl38⟩) (c38 : PySem.W.codeIn K cd38 "_law_odd" = true) (k38 : PySem.W.keepIn K (.ref f38) = true)
    (a39 : PySem.W.nsIn K mainGlobals "law" = some (some (.ref f39))) (l39 : K.lookup f39 = some ⟨oc39, od39, .func (PySem.W.fnOf "law" "law" (defArgs s_law) (defBody s_law) (defScope s_law) .none kV39 dc39 pm39 an39 cd39 ct39), sl39⟩) (c39 : PySem.W.codeIn K cd39 "law" = true) (k39 : PySem.W.keepIn K (.ref f39) = true)
    (z_abs : PySem.W.nsIn K mainGlobals "abs" = some none)
    (z_bool : PySem.W.nsIn K mainGlobals "bool" = some none)
    (z_dict : PySem.W.nsIn K mainGlobals "dict" = some none)
    (z_enumerate : PySem.W.nsIn K mainGlobals "enumerate" = some none)
    (z_int : PySem.W.nsIn K mainGlobals "int" = some none)
    (z_isinstance : PySem.W.nsIn K mainGlobals "isinstance" = some none)
    (z_len : PySem.W.nsIn K mainGlobals "len" = some none)
    (z_list : PySem.W.nsIn K mainGlobals "list" = some none)
    (z_max : PySem.W.nsIn K mainGlobals "max" = some none)
    (z_min : PySem.W.nsIn K mainGlobals "min" = some none)
    (z_range : PySem.W.nsIn K mainGlobals "range" = some none)
    (z_sorted : PySem.W.nsIn K mainGlobals "sorted" = some none)
    (z_str : PySem.W.nsIn K mainGlobals "str" = some none)
    (z_tuple : PySem.W.nsIn K mainGlobals "tuple" = some none)
    (z_zip : PySem.W.nsIn K mainGlobals "zip" = some none)
    (ca_Kind : PySem.W.nsIn K mainGlobals "Kind" = some (some (.ref A_Kind))) (ci_Kind : PySem.W.findIn K (.ref A_Kind) "__init__" = some (some (.ref I_Kind))) (cf_Kind : PySem.W.isFn K (.ref I_Kind) = true)
    (cl_Kind : K.lookup I_Kind = some ⟨oc_Kind, od_Kind, .func (PySem.W.fnOf "__init__" "Kind.__init__" (defArgs si_Kind) (defBody si_Kind) (defScope si_Kind) .none kV_Kind dc_Kind pm_Kind an_Kind cd_Kind ct_Kind), sl_Kind⟩) (cc_Kind : PySem.W.codeIn K cd_Kind "Kind.__init__" = true) (ck_Kind : PySem.W.keepIn K (.ref I_Kind) = true)
    (cp_Kind : PySem.W.plainGet K A_Kind Str.empty = true) (ch_Kind : PySem.W.hasDictIn K A_Kind = true) (co_Kind : PySem.W.plainOver K A_Kind = true) (cs_Kind : PySem.W.findIn K (.ref A_Kind) "__setattr__" = some (some (.builtin "object.__setattr__"))) (cm_Kind : PySem.W.makesIn K A_Kind = true) (cy_Kind : PySem.W.keepIn K (.ref A_Kind) = true)
    (cn_Kind_0 : PySem.W.findIn K (.ref A_Kind) "marks" = some none) (cn_Kind_1 : PySem.W.findIn K (.ref A_Kind) "ties" = some none) (cn_Kind_2 : PySem.W.findIn K (.ref A_Kind) "arrows" = some none)
    (xa : PySem.W.nsIn K mainGlobals "InvalidProgram" = some (some (.ref XC))) (xd : PySem.W.nsIn K mainGlobals "CountError" = some (some (.ref XD)))
    (xl : K.lookup XC = some (excClassObj xnm xq XC xN xbs [.ref XD, .type "Exception", .type "BaseException", .type "object"] true xsn xsub xab xcol xdd x0 x1 x2 x3 x5 "Exception.__new__"))
    (xsa : PySem.W.findIn K (.ref XC) "__setattr__" = some (some (.builtin "object.__setattr__"))) (xga : PySem.W.findIn K (.ref XC) "__getattribute__" = some (some (.builtin "BaseException.__getattribute__"))) (xgg : PySem.W.findIn K (.ref XC) "__getattr__" = some none) (xno : PySem.W.findIn K (.ref XC) "at" = some none)
    (xin : PySem.W.findIn K (.ref XC) "__init__" = some (some (.ref XI))) (xti : PySem.W.typeIn K (.ref XI) = some (.type "function"))
    (xli : K.lookup XI = some ⟨xoc, xod, .func (PySem.W.fnOf "__init__" "InvalidProgram.__init__" (EX.initA ⟨6, 17, 6, 21⟩ ⟨6, 23, 6, 25⟩) (EX.initB ⟨7, 8, 7, 12⟩ ⟨7, 8, 7, 15⟩ ⟨7, 18, 7, 20⟩ ⟨7, 8, 7, 20⟩) EX.initS .none .none xdc xpm xan xcd xct), xsl⟩) (xci : PySem.W.codeIn K xcd "InvalidProgram.__init__" = true)
    (xk : PySem.W.keepIn K (.ref XC) = true) (xe : PySem.W.subIn K (.ref XC) (.type "BaseException") = some true) (xt : PySem.W.typeIn K (.ref XC) = some (.type "type")) (xh : PySem.W.hasDictIn K XC = true) (xi : PySem.W.isClsIn K XC = true) (xs : PySem.W.subIn K (.ref XC) (.ref XC) = some true)
    (xid : PySem.W.isClsIn K XD = true) (xtd : PySem.W.typeIn K (.ref XD) = some (.type "type")) (xsd : PySem.W.subIn K (.ref XC) (.ref XD) = some true)
    (xca : PySem.W.findIn K (.ref XC) "__class__" = some (some (.builtin "object.__class__"))) (xsg : PySem.W.specialIn K (.builtin "object.__class__") "__get__" = some (some (.builtin "getset_descriptor.__get__"))) (xtk : PySem.W.takesIn K (.builtin "object.__class__") = some true) (xob : PySem.W.mroIn K XC (.type "object") = some true)
    
    (n_WITH : PySem.W.nsIn K mainGlobals "WITH" = some (some (.str "with" t_WITH)))
    (n_OUT : PySem.W.nsIn K mainGlobals "OUT" = some (some (.str "out" t_OUT)))
    (n_IN : PySem.W.nsIn K mainGlobals "IN" = some (some (.str "in" t_IN)))
    (n_PROGRAM : PySem.W.nsIn K mainGlobals "PROGRAM" = some (some (.str "program" t_PROGRAM)))
    (n_ROW : PySem.W.nsIn K mainGlobals "ROW" = some (some (.str "row" t_ROW)))
    (n_MATRIX : PySem.W.nsIn K mainGlobals "MATRIX" = some (some (.str "matrix" t_MATRIX)))
    (n_LETTER : PySem.W.nsIn K mainGlobals "LETTER" = some (some (.str "letter" t_LETTER)))
    (n_NUMBER : PySem.W.nsIn K mainGlobals "NUMBER" = some (some (.str "number" t_NUMBER)))
    (n_TOTAL : PySem.W.nsIn K mainGlobals "TOTAL" = some (some (.str "total" t_TOTAL)))
    (n_PLUS : PySem.W.nsIn K mainGlobals "PLUS" = some (some (.str "plus" t_PLUS)))
    (n_TIMES : PySem.W.nsIn K mainGlobals "TIMES" = some (some (.str "times" t_TIMES)))
    (n_MARK : PySem.W.nsIn K mainGlobals "MARK" = some (some (.str "mark" t_MARK)))
    (n_APPLIED : PySem.W.nsIn K mainGlobals "APPLIED" = some (some (.str "applied" t_APPLIED)))
    (n_CORNER : PySem.W.nsIn K mainGlobals "CORNER" = some (some (.str "corner" t_CORNER)))
    (n_WHOLE : PySem.W.nsIn K mainGlobals "WHOLE" = some (some (.str "whole" t_WHOLE)))
    (n_FACTS : PySem.W.nsIn K mainGlobals "FACTS" = some (some (.str "facts" t_FACTS)))
    (n_ONE : PySem.W.nsIn K mainGlobals "ONE" = some (some (.str "one" t_ONE)))
    (n_ALL : PySem.W.nsIn K mainGlobals "ALL" = some (some (.str "all" t_ALL)))
    (n_PRODUCT : PySem.W.nsIn K mainGlobals "PRODUCT" = some (some (.str "product" t_PRODUCT)))
    (n_TURNED : PySem.W.nsIn K mainGlobals "TURNED" = some (some (.str "turned" t_TURNED)))
    (n_SCALED : PySem.W.nsIn K mainGlobals "SCALED" = some (some (.str "scaled" t_SCALED)))
    (n_SPREAD : PySem.W.nsIn K mainGlobals "SPREAD" = some (some (.str "spread" t_SPREAD)))
    (n_CELLS : PySem.W.nsIn K mainGlobals "CELLS" = some (some (.str "cells" t_CELLS)))
    (n_TRACE : PySem.W.nsIn K mainGlobals "TRACE" = some (some (.str "trace" t_TRACE)))
    (law : LawSays) : ∃ fd : FuncData, (∀ (s : Shared) (v : Value), BindsTo s fd ⟨[v], []⟩ [("script", v)]) ∧ ∀ base : Heap, K.In base → base.Ns mainGlobals mg → FnOk l.prog w K mg base CX0 10 fa fd ["script"] (spL K) := by
  have e := hfa.symm.trans (PySem.W.mg_of X G a39)
  cases e
  have F0 := fun_mk (st := s_is_integer) l0 c0 k0
  have F1 := fun_mk (st := s_is_tuple) l1 c1 k1
  have F2 := fun_mk (st := s_is_ascending) l2 c2 k2
  have F3 := fun_mk (st := s_common_divisor) l3 c3 k3
  have F4 := fun_mk (st := s_is_fraction) l4 c4 k4
  have F5 := fun_mk (st := s_is_link_pair) l5 c5 k5
  have F6 := fun_mk (st := s_is_link) l6 c6 k6
  have F7 := fun_mk (st := s_list_words) l7 c7 k7
  have F8 := fun_mk (st := s_single_sort) l8 c8 k8
  have F9 := fun_mk (st := s_is_worded) l9 c9 k9
  have F10 := fun_mk (st := s_is_list_part) l10 c10 k10
  have F11 := fun_mk (st := s_is_number_part) l11 c11 k11
  have F12 := fun_mk (st := s_is_mark_part) l12 c12 k12
  have F13 := fun_mk (st := s_is_matrix_part) l13 c13 k13
  have F14 := fun_mk (st := s_is_row_part) l14 c14 k14
  have F15 := fun_mk (st := s_is_letter) l15 c15 k15
  have F16 := fun_mk (st := s_is_program_part) l16 c16 k16
  have F17 := fun_mk (st := s_is_part) l17 c17 k17
  have F18 := fun_mk (st := s_inner_parts) l18 c18 k18
  have F19 := fun_mk (st := s_first_wrong) l19 c19 k19
  have F20 := fun_mk (st := s_need_trace) l20 c20 k20
  have F21 := fun_mk (st := s__law_deal) l21 c21 k21
  have F22 := fun_mk (st := s__law_any) l22 c22 k22
  have F23 := fun_mk (st := s__law_of) l23 c23 k23
  have F24 := fun_mk (st := s__law_mixed) l24 c24 k24
  have F25 := fun_mk (st := s__law_is_kind) l25 c25 k25
  have F26 := fun_mk (st := s__law_same) l26 c26 k26
  have F27 := fun_mk (st := s__law_all) l27 c27 k27
  have F28 := fun_mk (st := s__law_shared) l28 c28 k28
  have F29 := fun_mk (st := s__law_low) l29 c29 k29
  have F30 := fun_mk (st := s__law_names) l30 c30 k30
  have F31 := fun_mk (st := s__law_kind) l31 c31 k31
  have F32 := fun_mk (st := s__law_link_facts) l32 c32 k32
  have F33 := fun_mk (st := s__law_link) l33 c33 k33
  have F34 := fun_mk (st := s__law_letters) l34 c34 k34
  have F35 := fun_mk (st := s__law_told) l35 c35 k35
  have F36 := fun_mk (st := s__law_row_of) l36 c36 k36
  have F37 := fun_mk (st := s__law_built) l37 c37 k37
  have F38 := fun_mk (st := s__law_odd) l38 c38 k38
  have F39 := fun_mk (st := s_law) l39 c39 k39
  have ad_Kind : caddr K "Kind" = some A_Kind := by unfold caddr; rw [ca_Kind]
  have cls_Kind : Cls K A_Kind := ⟨cp_Kind, ch_Kind, co_Kind, cs_Kind⟩
  have cF_Kind : ClsF K mg "Kind" A_Kind ["marks", "ties", "arrows"] := ⟨ad_Kind, PySem.W.mg_of X G ca_Kind, cls_Kind, fun f hf => by
    simp only [List.mem_cons, List.not_mem_nil, or_false] at hf
    rcases hf with rfl | rfl | rfl
    · exact cn_Kind_0
    · exact cn_Kind_1
    · exact cn_Kind_2⟩
  have fl_ties : ∀ n ∈ (["Kind"] : List Str), ∃ C, caddr K n = some C ∧ Cls K C ∧ NoAttr K C "ties" := fun n hn => by
    simp only [List.mem_cons, List.not_mem_nil, or_false] at hn
    rcases hn with rfl
    · exact ⟨A_Kind, ad_Kind, cls_Kind, cn_Kind_1⟩
  have fl_arrows : ∀ n ∈ (["Kind"] : List Str), ∃ C, caddr K n = some C ∧ Cls K C ∧ NoAttr K C "arrows" := fun n hn => by
    simp only [List.mem_cons, List.not_mem_nil, or_false] at hn
    rcases hn with rfl
    · exact ⟨A_Kind, ad_Kind, cls_Kind, cn_Kind_2⟩
  have fl_marks : ∀ n ∈ (["Kind"] : List Str), ∃ C, caddr K n = some C ∧ Cls K C ∧ NoAttr K C "marks" := fun n hn => by
    simp only [List.mem_cons, List.not_mem_nil, or_false] at hn
    rcases hn with rfl
    · exact ⟨A_Kind, ad_Kind, cls_Kind, cn_Kind_0⟩
  have M : Mods K mg := ⟨fl_ties, fl_arrows, fl_marks, PySem.W.mg_none_of X G z_abs, PySem.W.mg_none_of X G z_bool, PySem.W.mg_none_of X G z_dict, PySem.W.mg_none_of X G z_enumerate, PySem.W.mg_none_of X G z_int, PySem.W.mg_none_of X G z_isinstance, PySem.W.mg_none_of X G z_len, PySem.W.mg_none_of X G z_list, PySem.W.mg_none_of X G z_max, PySem.W.mg_none_of X G z_min, PySem.W.mg_none_of X G z_range, PySem.W.mg_none_of X G z_sorted, PySem.W.mg_none_of X G z_str, PySem.W.mg_none_of X G z_tuple, PySem.W.mg_none_of X G z_zip, ⟨_, PySem.W.mg_of X G n_WITH⟩, ⟨_, PySem.W.mg_of X G n_OUT⟩, ⟨_, PySem.W.mg_of X G n_IN⟩, ⟨_, PySem.W.mg_of X G n_PROGRAM⟩, ⟨_, PySem.W.mg_of X G n_ROW⟩, ⟨_, PySem.W.mg_of X G n_MATRIX⟩, ⟨_, PySem.W.mg_of X G n_LETTER⟩, ⟨_, PySem.W.mg_of X G n_NUMBER⟩, ⟨_, PySem.W.mg_of X G n_TOTAL⟩, ⟨_, PySem.W.mg_of X G n_PLUS⟩, ⟨_, PySem.W.mg_of X G n_TIMES⟩, ⟨_, PySem.W.mg_of X G n_MARK⟩, ⟨_, PySem.W.mg_of X G n_APPLIED⟩, ⟨_, PySem.W.mg_of X G n_CORNER⟩, ⟨_, PySem.W.mg_of X G n_WHOLE⟩, ⟨_, PySem.W.mg_of X G n_FACTS⟩, ⟨_, PySem.W.mg_of X G n_ONE⟩, ⟨_, PySem.W.mg_of X G n_ALL⟩, ⟨_, PySem.W.mg_of X G n_PRODUCT⟩, ⟨_, PySem.W.mg_of X G n_TURNED⟩, ⟨_, PySem.W.mg_of X G n_SCALED⟩, ⟨_, PySem.W.mg_of X G n_SPREAD⟩, ⟨_, PySem.W.mg_of X G n_CELLS⟩, ⟨_, PySem.W.mg_of X G n_TRACE⟩⟩
  refine ⟨PySem.W.fnOf "law" "law" (defArgs s_law) (defBody s_law) (defScope s_law) .none kV39 dc39 pm39 an39 cd39 ct39, fun s v => .of_eq rfl, fun base _ _ => ?_⟩
  have Mk_Kind : MkF l.prog w K mg base 1 "Kind" ["marks", "ties", "arrows"] := mk_Kind (fun_mk (st := si_Kind) cl_Kind cc_Kind ck_Kind) cF_Kind ⟨cm_Kind, ci_Kind, cf_Kind, cy_Kind⟩
  have C0 := o_is_integer (P := l.prog) (w := w) (base := base) F0 (PySem.W.mg_of X G a0) M
  have C1 := o_is_tuple (P := l.prog) (w := w) (base := base) F1 (PySem.W.mg_of X G a1) M
  have C2 := o_is_ascending (P := l.prog) (w := w) (base := base) F2 (PySem.W.mg_of X G a2) M
  have C3 := o_common_divisor (P := l.prog) (w := w) (base := base) F3 (PySem.W.mg_of X G a3) M
  have C4 := o_is_fraction (P := l.prog) (w := w) (base := base) F4 (PySem.W.mg_of X G a4) M (C0.mono (by decide)) (C1.mono (by decide)) (C3.mono (by decide))
  have C5 := o_is_link_pair (P := l.prog) (w := w) (base := base) F5 (PySem.W.mg_of X G a5) M (C1.mono (by decide))
  have C6 := o_is_link (P := l.prog) (w := w) (base := base) F6 (PySem.W.mg_of X G a6) M (C2.mono (by decide)) (C5.mono (by decide))
  have C7 := o_list_words (P := l.prog) (w := w) (base := base) F7 (PySem.W.mg_of X G a7) M
  have C8 := o_single_sort (P := l.prog) (w := w) (base := base) F8 (PySem.W.mg_of X G a8) M
  have C9 := o_is_worded (P := l.prog) (w := w) (base := base) F9 (PySem.W.mg_of X G a9) M
  have C10 := o_is_list_part (P := l.prog) (w := w) (base := base) F10 (PySem.W.mg_of X G a10) M
  have C11 := o_is_number_part (P := l.prog) (w := w) (base := base) F11 (PySem.W.mg_of X G a11) M (C4.mono (by decide))
  have C12 := o_is_mark_part (P := l.prog) (w := w) (base := base) F12 (PySem.W.mg_of X G a12) M
  have C13 := o_is_matrix_part (P := l.prog) (w := w) (base := base) F13 (PySem.W.mg_of X G a13) M (C6.mono (by decide)) (C4.mono (by decide))
  have C14 := o_is_row_part (P := l.prog) (w := w) (base := base) F14 (PySem.W.mg_of X G a14) M (C12.mono (by decide)) (C11.mono (by decide))
  have C15 := o_is_letter (P := l.prog) (w := w) (base := base) F15 (PySem.W.mg_of X G a15) M (C6.mono (by decide)) (C12.mono (by decide))
  have C16 := o_is_program_part (P := l.prog) (w := w) (base := base) F16 (PySem.W.mg_of X G a16) M (C11.mono (by decide))
  have C17 := o_is_part (P := l.prog) (w := w) (base := base) F17 (PySem.W.mg_of X G a17) M (C9.mono (by decide)) (C7.mono (by decide)) (C10.mono (by decide)) (C8.mono (by decide)) (C13.mono (by decide)) (C14.mono (by decide)) (C15.mono (by decide)) (C16.mono (by decide))
  have C18 := o_inner_parts (P := l.prog) (w := w) (base := base) F18 (PySem.W.mg_of X G a18) M (C7.mono (by decide)) (C8.mono (by decide))
  have C19 := o_first_wrong (P := l.prog) (w := w) (base := base) F19 (PySem.W.mg_of X G a19) M (C17.mono (by decide)) (C18.mono (by decide))
  have XT : EX.ErrC K mg "InvalidProgram" XC XI := { gl := PySem.W.mg_of X G xa, cl := ⟨_, _, _, _, [XD], _, _, _, _, _, _, _, _, _, _, xl⟩, st := xsa, ld := xga, lx := xgg, na := xno, ic := xin, it := xti, kp := xk, be := xe, ty := xt, hd := xh, me := EX.me_of xe xi xt xs, ca := xca, sg := xsg, tk := xtk, ob := xob, fn := ⟨_, _, _, _, _, _, _, _, _, _, _, _, _, _, _, xli, xci⟩ }
  have N20 := o_need_trace (P := l.prog) (w := w) (base := base) F20 XT (C19.mono (by decide))
  have C21 := o__law_deal (P := l.prog) (w := w) (base := base) F21 (PySem.W.mg_of X G a21) M
  have C22 := o__law_any (P := l.prog) (w := w) (base := base) F22 (PySem.W.mg_of X G a22) M
  have C23 := o__law_of (P := l.prog) (w := w) (base := base) F23 (PySem.W.mg_of X G a23) M (C22.mono (by decide))
  have C24 := o__law_mixed (P := l.prog) (w := w) (base := base) F24 (PySem.W.mg_of X G a24) M (C22.mono (by decide))
  have C25 := o__law_is_kind (P := l.prog) (w := w) (base := base) F25 (PySem.W.mg_of X G a25) M
  have C26 := o__law_same (P := l.prog) (w := w) (base := base) F26 (PySem.W.mg_of X G a26) M (C25.mono (by decide))
  have C27 := o__law_all (P := l.prog) (w := w) (base := base) F27 (PySem.W.mg_of X G a27) M (C26.mono (by decide))
  have C28 := o__law_shared (P := l.prog) (w := w) (base := base) F28 (PySem.W.mg_of X G a28) M
  have C29 := o__law_low (P := l.prog) (w := w) (base := base) F29 (PySem.W.mg_of X G a29) M (C28.mono (by decide))
  have C30 := o__law_names (P := l.prog) (w := w) (base := base) F30 (PySem.W.mg_of X G a30) M (C24.mono (by decide))
  have C31 := o__law_kind (P := l.prog) (w := w) (base := base) F31 (PySem.W.mg_of X G a31) M (C22.mono (by decide)) (C30.mono (by decide))
  have C32 := o__law_link_facts (P := l.prog) (w := w) (base := base) F32 (PySem.W.mg_of X G a32) M
  have C33 := o__law_link (P := l.prog) (w := w) (base := base) F33 (PySem.W.mg_of X G a33) M (C32.mono (by decide)) (C22.mono (by decide)) (C24.mono (by decide))
  have C34 := o__law_letters (P := l.prog) (w := w) (base := base) F34 (PySem.W.mg_of X G a34) M (C22.mono (by decide)) (C23.mono (by decide)) (C33.mono (by decide))
  have C35 := o__law_told (P := l.prog) (w := w) (base := base) F35 (PySem.W.mg_of X G a35) M XT (PySem.W.mg_of X G xd) (EX.kit_of xid xtd xsd) F20 (PySem.W.mg_of X G a20) (N20.mono (by decide))
  have C36 := o__law_row_of (P := l.prog) (w := w) (base := base) F36 (PySem.W.mg_of X G a36) M (C22.mono (by decide)) (C23.mono (by decide)) (C29.mono (by decide)) (C34.mono (by decide))
  have C37 := o__law_built (P := l.prog) (w := w) (base := base) F37 (PySem.W.mg_of X G a37) M
  have C38 := o__law_odd (P := l.prog) (w := w) (base := base) F38 (PySem.W.mg_of X G a38) M (C23.mono (by decide))
  exact o_law F39 M (C31.mono (by decide)) (C22.mono (by decide)) (C36.mono (by decide)) (C35.mono (by decide)) (C37.mono (by decide)) (C38.mono (by decide)) (C27.mono (by decide)) (C21.mono (by decide)) (Mk_Kind.mono (by decide)) law
end W48
/-! k48: what the small functions say. -/
namespace W48
open PySem PySem.Spec PyProof.Rows L2 DL LT
open LH (VD Goo k_ii k_ib k_tt)
def lowP (i j : Int) : D := .tup [.int ((i - 4) / (Int.gcd (i - 4) (1 + j) : Nat)), .int ((1 + j) / (Int.gcd (i - 4) (1 + j) : Nat))]
theorem low_ok : ∀ i ∈ ([0, 1, 2, 3, 4, 5, 6, 7, 8] : List Int), ∀ j ∈ ([0, 1, 2] : List Int), g__law_low [.int (i - 4), .int (1 + j)] = some (lowP i j, .sh) ∧ g_is_fraction [lowP i j] = some (.bl true, .sh) := by
  intro i hi j hj
  simp only [List.mem_cons, List.not_mem_nil, or_false] at hi hj
  rcases hi with rfl | rfl | rfl | rfl | rfl | rfl | rfl | rfl | rfl <;> rcases hj with rfl | rfl | rfl <;> exact ⟨by kernel_rfl, by kernel_rfl⟩
/-- the kind of these names -/
def kd (m t a : List D) : D := .ins "Kind" [("marks", .tup m), ("ties", .tup t), ("arrows", .tup a)]
def oddP : List D := [.non, .int 0, .str "trace", .tup [], .tup [.str "sum", .str "x"], .lst [.tup [.str "number", .tup [.int 1, .int 1]]], .tup [.str "number", .tup [.int 2, .int 2]], .tup [.str "number", .tup [.int 1, .int 0]], .tup [.str "number", .int 1], .tup [.str "number", .tup [.bl true, .int 1]], .tup [.str "plus", .tup [.tup [.str "number", .tup [.int 1, .int 1]]]], .tup [.str "times", .tup []], .tup [.str "trace"], .tup [.str "trace", .tup [], .tup []]]
theorem oddP_no (m t a : List D) : ∀ d ∈ oddP, g_is_part [kd m t a, .str "program", d, .bl true] = some (.bl false, .sh) := by
  intro d hd
  simp only [oddP, List.mem_cons, List.not_mem_nil, or_false] at hd
  rcases hd with rfl | rfl | rfl | rfl | rfl | rfl | rfl | rfl | rfl | rfl | rfl | rfl | rfl | rfl <;> kernel_rfl
def oddL0 : List D := [.non, .int 0, .str "mark", .tup [], .tup [.str "mark", .tup [.str "red"]], .tup [.str "mark"], .tup [.str "facts", .tup []], .tup [.str "facts", .lst [.tup [.str "k", .str "with"]]], .tup [.str "not", .tup [.str "facts", .tup []]], .tup [.str "number", .tup [.int 1, .int 1]], .tup [.str "trace", .tup []], .tup [.str "one"]]
theorem oddL0_no (m t a : List D) : ∀ d ∈ oddL0, g_is_part [kd m t a, .str "letter", d, .bl true] = some (.bl false, .sh) := by
  intro d hd
  simp only [oddL0, List.mem_cons, List.not_mem_nil, or_false] at hd
  rcases hd with rfl | rfl | rfl | rfl | rfl | rfl | rfl | rfl | rfl | rfl | rfl | rfl <;> kernel_rfl
/-! ### the right parts of a program -/
theorem pl2_nil {l : List D} (h : pl 40 (.tup l) = true) : pl2 (.tup l) (.tup []) = true := by
  unfold pl2
  rw [h]
  rfl
theorem ne_nil_t {x : D} {l : List D} (h : pl 40 (.tup (x :: l)) = true) : oNe (.tup (x :: l)) (.tup []) = some (.bl true, .sh) := by
  unfold oNe
  rw [if_pos (pl2_nil h)]
  rfl
theorem eq_nil_t {x : D} {l : List D} (h : pl 40 (.tup (x :: l)) = true) : oEq (.tup (x :: l)) (.tup []) = some (.bl false, .sh) := by
  unfold oEq
  rw [if_pos (pl2_nil h)]
  rfl
theorem atD0 (x : D) (l : List D) : atD (x :: l) 0 = some x := by simpa using atD_nat (x :: l) 0
theorem atD1 (x y : D) (l : List D) : atD (x :: y :: l) 1 = some y := by simpa using atD_nat (x :: y :: l) 1
theorem worded_ok {w : Str} {l : List D} (h : pl 40 (.tup (.str w :: l)) = true) : g_is_worded [.tup (.str w :: l)] = some (.bl true, .sh) := by
  simp [g_is_worded, h_is_worded, oIsa, tyD, k_tt, ne_nil_t h, LH.k_ss, atD0]
theorem listpart_ok {w : Str} {l : List D} : g_is_list_part [.tup [.str w, .tup l]] = some (.bl (decide (1 < l.length)), .sh) := by
  simp [g_is_list_part, h_is_list_part, oIsa, tyD, k_tt, oLen_t, atD1]
  omega
theorem lw_p : g_list_words [.str "program"] = some (.tup [.str "plus", .str "times"], .sh) := by kernel_rfl
theorem lw_l : g_list_words [.str "letter"] = some (.tup [], .sh) := by kernel_rfl
theorem part_list {k : D} {w : Str} {l : List D} (hw : w = "plus" ∨ w = "times") (h : pl 40 (.tup [.str w, .tup l]) = true) (hl : 2 ≤ l.length) : g_is_part [k, .str "program", .tup [.str w, .tup l], .bl true] = some (.bl true, .sh) := by
  have e : oInA (.str w) (.tup [.str "plus", .str "times"]) = some (.bl true, .sh) := by rcases hw with rfl | rfl <;> kernel_rfl
  simp [g_is_part, h_is_part, worded_ok h, lw_p, atD0, e, listpart_ok]
  omega
theorem inner_list {w : Str} {l : List D} (hw : w = "plus" ∨ w = "times") (hl : l.length ≤ sizeLine) : g_inner_parts [.str "program", .tup [.str w, .tup l]] = some (.lst (l.map fun x => .tup [.str "program", x]), .ow) := by
  have e : oInA (.str w) (.tup [.str "plus", .str "times"]) = some (.bl true, .sh) := by rcases hw with rfl | rfl <;> kernel_rfl
  have m := lcD_map (b := bName 3) (f := ce_inner_parts_1) (g := fun x => .tup [.str "program", x]) (ds := l) (ρ := wip [.sh (.str "program"), .sh (.tup [.str w, .tup l]), .sh (.str w), .un, .un] [3]) (δ := ([], 0)) (fun x hx => ⟨_, .sh, bName_e, by simp [ce_inner_parts_1, wip], by decide⟩)
  simp [g_inner_parts, h_inner_parts, lw_p, atD0, atD1, e, hl, m]
theorem nw_trace : oInA (.str "trace") (.tup [.str "plus", .str "times"]) = some (.bl false, .sh) := by kernel_rfl
theorem nw_num : oInA (.str "number") (.tup [.str "plus", .str "times"]) = some (.bl false, .sh) := by kernel_rfl
theorem ss_trace : g_single_sort [.str "program", .str "trace"] = some (.str "", .sh) := by kernel_rfl
theorem ss_num : g_single_sort [.str "program", .str "number"] = some (.str "", .sh) := by kernel_rfl
theorem oEq_s (x y : Str) : oEq (.str x) (.str y) = some (.bl (x == y), .sh) := rfl
theorem oNe_s (x y : Str) : oNe (.str x) (.str y) = some (.bl (!(x == y)), .sh) := rfl
theorem pp_trace {l : List D} : g_is_program_part [.tup [.str "trace", .tup l], .bl true] = some (.bl true, .sh) := by
  simp [g_is_program_part, h_is_program_part, atD0, oEq_s, oLen_t, oIsa, tyD, atD1, k_tt]
theorem pp_num {x : D} (h : g_is_fraction [x] = some (.bl true, .sh)) : g_is_program_part [.tup [.str "number", x], .bl true] = some (.bl true, .sh) := by
  have e : (("number" : Str) == ("trace" : Str)) = false := by decide
  have e2 : g_is_number_part [.tup [.str "number", x]] = some (.bl true, .sh) := by simp [g_is_number_part, h_is_number_part, oLen_t, atD1, h]
  simp [g_is_program_part, h_is_program_part, atD0, oEq_s, e, e2]
theorem e_pm : (("program" : Str) == ("matrix" : Str)) = false := by decide
theorem e_pr : (("program" : Str) == ("row" : Str)) = false := by decide
theorem e_pl : (("program" : Str) == ("letter" : Str)) = false := by decide
theorem e_lm : (("letter" : Str) == ("matrix" : Str)) = false := by decide
theorem e_lr : (("letter" : Str) == ("row" : Str)) = false := by decide
theorem part_trace {k : D} {l : List D} (h : pl 40 (.tup [.str "trace", .tup l]) = true) : g_is_part [k, .str "program", .tup [.str "trace", .tup l], .bl true] = some (.bl true, .sh) := by
  simp [g_is_part, h_is_part, worded_ok h, lw_p, atD0, nw_trace, ss_trace, oNe_s, oEq_s, e_pm, e_pr, e_pl, pp_trace]
theorem part_num {k : D} {x : D} (h : pl 40 (.tup [.str "number", x]) = true) (hf : g_is_fraction [x] = some (.bl true, .sh)) : g_is_part [k, .str "program", .tup [.str "number", x], .bl true] = some (.bl true, .sh) := by
  simp [g_is_part, h_is_part, worded_ok h, lw_p, atD0, nw_num, ss_num, oNe_s, oEq_s, e_pm, e_pr, e_pl, pp_num hf]
theorem inner_num {x : D} : g_inner_parts [.str "program", .tup [.str "number", x]] = some (.lst [], .ow) := by kernel_rfl
theorem inner_mark {x : D} : g_inner_parts [.str "letter", .tup [.str "mark", x]] = some (.lst [], .ow) := by kernel_rfl
theorem inner_facts {x : D} : g_inner_parts [.str "letter", .tup [.str "facts", x]] = some (.lst [], .ow) := by kernel_rfl
theorem inner_trace {l : List D} (hl : l.length ≤ sizeLine) : g_inner_parts [.str "program", .tup [.str "trace", .tup l]] = some (.lst (l.map fun x => .tup [.str "letter", x]), .ow) := by
  have e1 : (("trace" : Str) == ("scaled" : Str)) = false := by decide
  have e2 : (("trace" : Str) == ("applied" : Str)) = false := by decide
  have m := lcD_map (b := bName 4) (f := ce_inner_parts_2) (g := fun x => .tup [.str "letter", x]) (ds := l) (ρ := wip [.sh (.str "program"), .sh (.tup [.str "trace", .tup l]), .sh (.str "trace"), .un, .un] [4]) (δ := ([], 0)) (fun x hx => ⟨_, .sh, bName_e, by simp [ce_inner_parts_2, wip], by decide⟩)
  simp [g_inner_parts, h_inner_parts, lw_p, atD0, atD1, nw_trace, ss_trace, oNe_s, oEq_s, e1, e2, hl, m]
/-! ### letters -/
def sD (l : List Str) : List D := l.map .str
theorem sD_all (n : Nat) (l : List Str) : (sD l).all (pl n) = true := by
  unfold sD
  rw [List.all_map, List.all_eq_true]
  intro x _
  cases n <;> rfl
theorem isIn_sD (x : Str) (l : List Str) : isIn (.str x) (sD l) = decide (x ∈ l) := by
  unfold isIn sD
  rw [List.any_map]
  induction l with
  | nil => simp
  | cons y l ih =>
    rw [List.any_cons, ih]
    have e : eqD (.str y) (.str x) = decide (x = y) := by
      show (y == x) = _
      by_cases h : x = y
      · subst h; simp
      · have : (y == x) = false := by simpa using fun z => h z.symm
        rw [this]; simp [h]
    show (eqD (.str y) (.str x) || _) = _
    rw [e]
    simp
theorem in_sD (x : Str) (l : List Str) : oInA (.str x) (.tup (sD l)) = some (.bl (decide (x ∈ l)), .sh) := by
  have e : oInA (.str x) (.tup (sD l)) = if ((sD l).all (pl 40) && pl 40 (.str x)) = true then some (.bl (isIn (.str x) (sD l)), .sh) else none := rfl
  rw [e, sD_all, isIn_sD]
  rfl
section
variable {m t a : List Str}
/-- the kind of the names m, t, a -/
def kN (m t a : List Str) : D := kd (sD m) (sD t) (sD a)
theorem mark_part (x : Str) : g_is_mark_part [kN m t a, .tup [.str "mark", .str x]] = some (.bl (decide (x ∈ m)), .sh) := by
  have e : fFld ["Kind"] "marks" (fVar 0) [.sh (kN m t a), .sh (.tup [.str "mark", .str x])] ([], 0) = some (.tup (sD m), .sh, ([], 0)) := rfl
  simp [g_is_mark_part, h_is_mark_part, oLen_t, oIsa, tyD, LH.k_ss, atD1, e, in_sD]
/-- a pair of a link: its name and its way -/
def pD (p : Str × Str) : D := .tup [.str p.1, .str p.2]
def pairOk (t a : List Str) (p : Str × Str) : Bool := if p.2 = "with" then decide (p.1 ∈ t) else decide (p.2 = "out" ∨ p.2 = "in") && decide (p.1 ∈ a)
theorem pair_ok (p : Str × Str) (hp : p.2 ∈ (["with", "out", "in"] : List Str)) : g_is_link_pair [kN m t a, pD p] = some (.bl (pairOk t a p), .sh) := by
  obtain ⟨x, y⟩ := p
  show g_is_link_pair [kN m t a, .tup [.str x, .str y]] = _
  have e1 : fFld ["Kind"] "ties" (fVar 0) [.sh (kN m t a), .sh (.tup [.str x, .str y])] ([], 0) = some (.tup (sD t), .sh, ([], 0)) := rfl
  have e2 : fFld ["Kind"] "arrows" (fVar 0) [.sh (kN m t a), .sh (.tup [.str x, .str y])] ([], 0) = some (.tup (sD a), .sh, ([], 0)) := rfl
  have tu : g_is_tuple [.tup [.str x, .str y], .int 2] = some (.bl true, .sh) := by kernel_rfl
  simp only [List.mem_cons, List.not_mem_nil, or_false] at hp
  have i1 : oInA (.str "out") (.tup [.str "out", .str "in"]) = some (.bl true, .sh) := by kernel_rfl
  have i2 : oInA (.str "in") (.tup [.str "out", .str "in"]) = some (.bl true, .sh) := by kernel_rfl
  have d1 : (("out" : Str) == ("with" : Str)) = false := by decide
  have d2 : (("in" : Str) == ("with" : Str)) = false := by decide
  have f1 : ¬ (("out" : Str) = ("with" : Str)) := by decide
  have f2 : ¬ (("in" : Str) = ("with" : Str)) := by decide
  rcases hp with rfl | rfl | rfl
  · simp [g_is_link_pair, h_is_link_pair, tu, oIsa, tyD, LH.k_ss, atD0, atD1, e1, e2, in_sD, oEq_s, pairOk]
  · simp [g_is_link_pair, h_is_link_pair, tu, oIsa, tyD, LH.k_ss, atD0, atD1, e1, e2, in_sD, oEq_s, pairOk, d1, f1, i1]
  · simp [g_is_link_pair, h_is_link_pair, tu, oIsa, tyD, LH.k_ss, atD0, atD1, e1, e2, in_sD, oEq_s, pairOk, d2, f2, i2]
end
end W48
/-! k48: letters, right and wrong. -/
namespace W48
open PySem PySem.Spec PyProof.Rows L2 DL LT
open LH (VD Goo k_ii k_ib k_tt)
section
variable {m t a : List Str}
def tags : List Str := ["with", "out", "in"]
theorem al2_p (p q : Str × Str) : al2 (pD p) (pD q) = true := rfl
theorem lt_p (p q : Str × Str) : oLt (pD p) (pD q) = some (.bl (ltD (pD p) (pD q)), .sh) := rfl
theorem pl_p (n : Nat) (p : Str × Str) : pl (n + 2) (pD p) = true := rfl
def psD (ps : List (Str × Str)) : List D := ps.map pD
theorem psD_all (n : Nat) (ps : List (Str × Str)) : (psD ps).all (pl (n + 2)) = true := by
  unfold psD
  rw [List.all_map, List.all_eq_true]
  intro x _
  rfl
theorem psD_len (ps : List (Str × Str)) : (psD ps).length = ps.length := List.length_map ..
/-- each is below the next -/
def Asc (ps : List (Str × Str)) : Prop := ∀ i p q, ps[i]? = some p → ps[i + 1]? = some q → ltD (pD p) (pD q) = true
theorem asc_ok {ps : List (Str × Str)} (h0 : ps ≠ []) (hl : ps.length ≤ 1000) (h : Asc ps) : g_is_ascending [.tup (psD ps)] = some (.bl true, .sh) := by
  have hp : 0 < ps.length := List.length_pos_iff.mpr h0
  have r : sRng1k ([.int (((psD ps).length : Int) - 1)], (([], 0) : Dr)) = some (rng 0 (ps.length - 1), .sh, ([], 0)) := by
    rw [psD_len, show ((ps.length : Int) - 1) = ((ps.length - 1 : Nat) : Int) by omega]
    exact sRng1k_ok (by omega)
  obtain ⟨ρ', δ', e, x, rfl, rfl, _⟩ := forD_inv (b := bName 1) (h := fb_is_ascending_1) (ds := rng 0 (ps.length - 1)) (ρ := [.sh (.tup (psD ps)), .un]) (δ := ([], 0))
    (fun ds ρ δ => ∃ x, ρ = [.sh (.tup (psD ps)), x] ∧ δ = ([], 0) ∧ ∀ d ∈ ds, ∃ i : Nat, d = .int i ∧ i + 1 < ps.length) (fun x xs ρ δ I => by
      obtain ⟨y, rfl, rfl, hd⟩ := I
      obtain ⟨i, rfl, hi⟩ := hd x (List.mem_cons_self ..)
      refine ⟨_, [.sh (.tup (psD ps)), .sh (.int (i : Nat))], ([], 0), bName_e, ?_, .sh (.int (i : Nat)), rfl, rfl, fun d h => hd d (List.mem_cons_of_mem _ h)⟩
      have g1 : ps[i]? = some ps[i] := List.getElem?_eq_getElem _
      have g2 : ps[i + 1]? = some ps[i + 1] := List.getElem?_eq_getElem _
      have a1 : atD (psD ps) (i : Int) = some (pD ps[i]) := by rw [atD_nat]; unfold psD; rw [List.getElem?_map, g1]; rfl
      have a2 : atD (psD ps) ((i : Int) + 1) = some (pD ps[i + 1]) := by
        rw [show ((i : Int) + 1) = ((i + 1 : Nat) : Int) by omega, atD_nat]; unfold psD; rw [List.getElem?_map, g2]; rfl
      simp [fb_is_ascending_1, a1, a2, lt_p, h i _ _ g1 g2]) ⟨.un, rfl, rfl, fun d hd => by
        unfold rng at hd
        obtain ⟨i, hi, rfl⟩ := List.mem_map.mp hd
        rw [List.mem_range] at hi
        exact ⟨i, by simp, by omega⟩⟩
  simp [g_is_ascending, h_is_ascending, oLen_t, r, e]
theorem asc_no {p q : Str × Str} (h : ltD (pD p) (pD q) = false) : g_is_ascending [.tup [pD p, pD q]] = some (.bl false, .sh) := by
  have r : sRng1k ([.int (1 : Nat)], (([], 0) : Dr)) = some (rng 0 1, .sh, ([], 0)) := sRng1k_ok (by decide)
  have r' : sRng1k ([.int 1], (([], 0) : Dr)) = some ([.int 0], .sh, ([], 0)) := r
  simp [g_is_ascending, h_is_ascending, oLen_t, r', forD, fb_is_ascending_1, atD0, atD1, lt_p, h]
def badB (t a : List Str) : D → Bool
  | .tup [.str x, .str y] => !pairOk t a (x, y)
  | _ => false
theorem bad_p (p : Str × Str) : badB t a (pD p) = !pairOk t a p := rfl
theorem link_lc {ps : List (Str × Str)} (ht : ∀ p ∈ ps, p.2 ∈ tags) : lcD (bName 2) ct_is_link_1 (fVar 2) (wip [.sh (kN m t a), .sh (.tup (psD ps)), .un] [2]) (psD ps) ([], 0) = some ((psD ps).filter (badB t a), ([], 0)) := by
  have z := lcD_filter (b := bName 2) (t := ct_is_link_1) (f := fVar 2) (p := badB t a) (g := id) (ds := psD ps) (ρ := wip [.sh (kN m t a), .sh (.tup (psD ps)), .un] [2]) (δ := ([], 0)) fun x hx => by
    obtain ⟨p, hp, rfl⟩ := List.mem_map.mp hx
    refine ⟨_, bName_e, ?_, fun _ => ⟨.sh, by simp [wip], by decide⟩⟩
    simp [ct_is_link_1, wip, pair_ok p (ht p hp), bad_p]
  rw [List.map_id] at z
  exact z
theorem eq_lnil {l : List D} (h : l.all (pl 39) = true) : oEq (.lst l) (.lst []) = some (.bl l.isEmpty, .sh) := by
  unfold oEq
  have e : pl2 (.lst l) (.lst []) = true := by
    unfold pl2
    rw [show pl 40 (.lst l) = l.all (pl 39) from rfl, h]
    rfl
  rw [if_pos e]
  cases l <;> rfl
theorem pl_ps {ps : List (Str × Str)} : pl 40 (.tup (psD ps)) = true := psD_all 37 ps
theorem eq_tnil {ps : List (Str × Str)} (h : ps ≠ []) : oEq (.tup (psD ps)) (.tup []) = some (.bl false, .sh) := by
  cases ps with
  | nil => exact absurd rfl h
  | cons p ps => exact eq_nil_t (pl_ps (ps := p :: ps))
theorem none_bad (ps : List (Str × Str)) : (List.map pD (List.filter (fun p => !pairOk t a p) ps)).isEmpty = ps.all (pairOk t a) := by
  induction ps with
  | nil => rfl
  | cons p ps ih => cases hp : pairOk t a p <;> simp [List.filter_cons, hp, ← ih]
theorem link_is {ps : List (Str × Str)} {b : Bool} (h0 : ps ≠ []) (hl : ps.length ≤ 1000) (ht : ∀ p ∈ ps, p.2 ∈ tags) (ha : ps.all (pairOk t a) = true → g_is_ascending [.tup (psD ps)] = some (.bl b, .sh)) :
    g_is_link [kN m t a, .tup (psD ps)] = some (.bl (ps.all (pairOk t a) && b), .sh) := by
  have e0 := eq_tnil h0
  have e1 := link_lc (m := m) (t := t) (a := a) ht
  have zl : (psD ps).length ≤ sizeLine := z_line (by rw [psD_len]; omega)
  have ef : ((psD ps).filter (badB t a)).isEmpty = ps.all (pairOk t a) := by
    unfold psD
    rw [List.filter_map]
    have : (badB t a ∘ pD) = fun p => !pairOk t a p := by funext p; exact bad_p p
    rw [this]
    exact none_bad ps
  have e2 : oEq (.lst ((psD ps).filter (badB t a))) (.lst []) = some (.bl (ps.all (pairOk t a)), .sh) := by
    rw [← ef]
    exact eq_lnil (List.all_eq_true.mpr fun x hx => List.all_eq_true.mp (psD_all 37 ps) x (List.mem_filter.mp hx).1)
  cases hb : ps.all (pairOk t a) with
  | false => simp [g_is_link, h_is_link, oIsa, tyD, k_tt, e0, zl, e1, e2, hb]
  | true => simp [g_is_link, h_is_link, oIsa, tyD, k_tt, e0, zl, e1, e2, hb, ha hb]
theorem letter_mark (x : Str) : g_is_letter [kN m t a, .tup [.str "mark", .str x]] = some (.bl (decide (x ∈ m)), .sh) := by
  have e : (("mark" : Str) == ("facts" : Str)) = false := by decide
  simp [g_is_letter, h_is_letter, atD0, oEq_s, e, mark_part]
theorem letter_facts {l : List D} {b : Bool} (h : g_is_link [kN m t a, .tup l] = some (.bl b, .sh)) : g_is_letter [kN m t a, .tup [.str "facts", .tup l]] = some (.bl b, .sh) := by
  simp [g_is_letter, h_is_letter, atD0, atD1, oEq_s, oLen_t, h]
theorem nw_mark : oInA (.str "mark") (.tup []) = some (.bl false, .sh) := by kernel_rfl
theorem nw_facts : oInA (.str "facts") (.tup []) = some (.bl false, .sh) := by kernel_rfl
theorem ss_mark : g_single_sort [.str "letter", .str "mark"] = some (.str "", .sh) := by kernel_rfl
theorem ss_facts : g_single_sort [.str "letter", .str "facts"] = some (.str "", .sh) := by kernel_rfl
theorem part_mark (x : Str) : g_is_part [kN m t a, .str "letter", .tup [.str "mark", .str x], .bl true] = some (.bl (decide (x ∈ m)), .sh) := by
  have e := worded_ok (w := "mark") (l := [.str x]) rfl
  simp [g_is_part, h_is_part, e, lw_l, atD0, nw_mark, ss_mark, oNe_s, oEq_s, e_lm, e_lr, letter_mark]
theorem part_facts {l : List D} {b : Bool} (hp : pl 40 (.tup [.str "facts", .tup l]) = true) (h : g_is_link [kN m t a, .tup l] = some (.bl b, .sh)) : g_is_part [kN m t a, .str "letter", .tup [.str "facts", .tup l], .bl true] = some (.bl b, .sh) := by
  simp [g_is_part, h_is_part, worded_ok hp, lw_l, atD0, nw_facts, ss_facts, oNe_s, oEq_s, e_lm, e_lr, letter_facts h]
theorem pl_facts (ps : List (Str × Str)) (n : Nat) : pl (n + 4) (.tup [.str "facts", .tup (psD ps)]) = true := by
  show (true && ((psD ps).all (pl (n + 2)) && true)) = true
  rw [psD_all]
  rfl
theorem facts_is {ps : List (Str × Str)} {b : Bool} (h0 : ps ≠ []) (hl : ps.length ≤ 1000) (ht : ∀ p ∈ ps, p.2 ∈ tags) (ha : ps.all (pairOk t a) = true → g_is_ascending [.tup (psD ps)] = some (.bl b, .sh)) :
    g_is_part [kN m t a, .str "letter", .tup [.str "facts", .tup (psD ps)], .bl true] = some (.bl (ps.all (pairOk t a) && b), .sh) := part_facts (pl_facts ps 36) (link_is h0 hl ht ha)
/-- one pair alone -/
theorem one_pair (p : Str × Str) (hp : p.2 ∈ tags) : g_is_part [kN m t a, .str "letter", .tup [.str "facts", .tup [pD p]], .bl true] = some (.bl (pairOk t a p), .sh) := by
  have z := facts_is (m := m) (t := t) (a := a) (ps := [p]) (b := true) (by simp) (by simp) (fun q hq => by rw [List.mem_singleton.mp hq]; exact hp) (fun _ => asc_ok (by simp) (by simp) (fun i p q h1 h2 => by simp at h2))
  rw [List.all_cons, List.all_nil, Bool.and_true, Bool.and_true] at z
  exact z
theorem two_pairs (p q : Str × Str) (hp : p.2 ∈ tags) (hq : q.2 ∈ tags) (h : ltD (pD p) (pD q) = false) : g_is_part [kN m t a, .str "letter", .tup [.str "facts", .tup [pD p, pD q]], .bl true] = some (.bl false, .sh) := by
  have z := facts_is (m := m) (t := t) (a := a) (ps := [p, q]) (b := false) (by simp) (by simp) (fun r hr => by
    simp only [List.mem_cons, List.not_mem_nil, or_false] at hr
    rcases hr with rfl | rfl
    · exact hp
    · exact hq) (fun _ => asc_no h)
  rw [Bool.and_false] at z
  exact z
/-- all right -/
theorem facts_ok {ps : List (Str × Str)} (h0 : ps ≠ []) (hl : ps.length ≤ 1000) (ht : ∀ p ∈ ps, p.2 ∈ tags ∧ pairOk t a p = true) (ha : Asc ps) : g_is_part [kN m t a, .str "letter", .tup [.str "facts", .tup (psD ps)], .bl true] = some (.bl true, .sh) := by
  have z := facts_is (m := m) (t := t) (a := a) (ps := ps) (b := true) h0 hl (fun p hp => (ht p hp).1) (fun _ => asc_ok h0 hl ha)
  rw [List.all_eq_true.mpr fun p hp => (ht p hp).2] at z
  exact z
/-- no name at all -/
theorem facts_none {ps : List (Str × Str)} (h0 : ps ≠ []) (hl : ps.length ≤ 1000) (ht : ∀ p ∈ ps, p.2 ∈ tags) : g_is_part [kN [] [] [], .str "letter", .tup [.str "facts", .tup (psD ps)], .bl true] = some (.bl false, .sh) := by
  have hn : ps.all (pairOk [] []) = false := by
    cases ps with
    | nil => exact absurd rfl h0
    | cons p ps =>
      have : pairOk [] [] p = false := by unfold pairOk; split <;> simp
      rw [List.all_cons, this, Bool.false_and]
  have z := facts_is (m := []) (t := []) (a := []) (ps := ps) (b := true) h0 hl ht (fun q => by rw [hn] at q; cases q)
  rw [hn] at z
  exact z
end
end W48
/-! k48: a row drawn ahead of its parts, what it is built to, the first wrong part of that. -/
namespace W48
open PySem PySem.Spec PyProof.Rows L2 DL LT
open LH (VD Goo k_ii k_ib k_tt)
/-- a part: a list of parts, a number, a trace of letters, a letter -/
inductive En where
  | ls (w : Str) (n : Nat)
  | nu (d : D)
  | tr (n : Nat)
  | le (d : D)
def kn : En → Nat
  | .ls _ n => n
  | .tr n => n
  | _ => 0
def kids : En → List Str
  | .ls _ n => List.replicate n "program"
  | .tr n => List.replicate n "letter"
  | _ => []
def srt : En → Str
  | .le _ => "letter"
  | _ => "program"
def mkE : En → List D → D
  | .ls w _, l => .tup [.str w, .tup l]
  | .nu d, _ => .tup [.str "number", d]
  | .tr _, l => .tup [.str "trace", .tup l]
  | .le d, _ => d
theorem kids_len (e : En) : (kids e).length = kn e := by cases e <;> simp [kids, kn]
/-- the row fits what is still awaited -/
inductive Fits : List Str → List En → Prop
  | nil : Fits [] []
  | cons {e : En} {ss : List Str} {r : List En} : Fits (kids e ++ ss) r → Fits (srt e :: ss) (e :: r)
/-- what is built, o has the odd ones -/
def bl (o : Nat → Option D) : Nat → List En → List D
  | _, [] => []
  | i, e :: r => (o i).getD (mkE e ((bl o (i + 1) r).take (kn e))) :: (bl o (i + 1) r).drop (kn e)
theorem fits_len (o : Nat → Option D) : ∀ {ss : List Str} {r : List En}, Fits ss r → ∀ i, (bl o i r).length = ss.length
  | _, _, .nil, _ => rfl
  | _, _, .cons (e := e) (ss := ss) (r := r) h, i => by
    have z := fits_len o h (i + 1)
    rw [List.length_append, kids_len] at z
    rw [bl, List.length_cons, List.length_drop, List.length_cons, z]
    omega
theorem fits_le : ∀ {ss : List Str} {r : List En}, Fits ss r → ss.length ≤ r.length
  | _, _, .nil => Nat.le_refl _
  | _, _, .cons (e := e) (ss := ss) (r := r) h => by
    have z := fits_le h
    rw [List.length_append] at z
    rw [List.length_cons, List.length_cons]
    omega
/-- how many lists -/
def nls : List En → Nat
  | [] => 0
  | .ls _ _ :: r => nls r + 1
  | _ :: r => nls r
/-- own data of a part is flat -/
def flat : En → Prop
  | .nu d => pl 5 d = true
  | .le d => pl 5 d = true
  | _ => True
theorem all_mono {n m : Nat} (h : n ≤ m) {l : List D} (hl : ∀ d ∈ l, pl n d = true) : l.all (pl m) = true := List.all_eq_true.mpr fun d hd => pl_mono n m d h (hl d hd)
/-- how deep a part of this sort may be -/
def bnd (s : Str) (n : Nat) : Nat := if s = "letter" then 7 else 9 + 2 * n
theorem bnd_mono {s : Str} {n m : Nat} (h : n ≤ m) : bnd s n ≤ bnd s m := by
  unfold bnd
  split <;> omega
theorem bnd_7 (s : Str) (n : Nat) : 7 ≤ bnd s n := by
  unfold bnd
  split <;> omega
theorem zip_take {α β : Type} {ks ss : List α} {ds : List β} {x : β} (hx : x ∈ ds.take ks.length) : ∃ s ∈ ks, (s, x) ∈ (ks ++ ss).zip ds := by
  obtain ⟨j, hj, rfl⟩ := List.mem_iff_getElem.mp hx
  rw [List.length_take] at hj
  have h1 : j < ks.length := by omega
  have h2 : j < ds.length := by omega
  refine ⟨ks[j], List.getElem_mem _, List.mem_iff_getElem.mpr ⟨j, by rw [List.length_zip, List.length_append]; omega, ?_⟩⟩
  rw [List.getElem_zip, List.getElem_append_left h1, List.getElem_take]
theorem zip_drop {α β : Type} {ks ss : List α} {ds : List β} {p : α × β} (hp : p ∈ ss.zip (ds.drop ks.length)) : p ∈ (ks ++ ss).zip ds := by
  obtain ⟨j, hj, rfl⟩ := List.mem_iff_getElem.mp hp
  rw [List.length_zip, List.length_drop] at hj
  refine List.mem_iff_getElem.mpr ⟨ks.length + j, by rw [List.length_zip, List.length_append]; omega, ?_⟩
  rw [List.getElem_zip, List.getElem_zip, List.getElem_drop, List.getElem_append_right (Nat.le_add_right ..)]
  congr 1
  congr 1
  omega
theorem wrap_pl {w : Str} {n : Nat} {l : List D} (h : ∀ d ∈ l, pl n d = true) : pl (n + 2) (.tup [.str w, .tup l]) = true := by
  show (true && (l.all (pl n) && true)) = true
  rw [List.all_eq_true.mpr h]
  rfl
theorem bl_pl (o : Nat → Option D) (ho : ∀ i d, o i = some d → pl 7 d = true) : ∀ {ss : List Str} {r : List En}, Fits ss r → ∀ (i : Nat), (∀ e ∈ r, flat e) → ∀ p ∈ ss.zip (bl o i r), pl (bnd p.1 (nls r)) p.2 = true
  | _, _, .nil, _, _, p, hp => by cases hp
  | _, _, .cons (e := e) (ss := ss) (r := r) h, i, hf, p, hp => by
    have ih := bl_pl o ho h (i + 1) fun x hx => hf x (List.mem_cons_of_mem _ hx)
    have hn : nls r ≤ nls (e :: r) := by cases e <;> simp [nls]
    rw [bl, List.zip_cons_cons, List.mem_cons] at hp
    rcases hp with hp | hp
    · subst hp
      cases h : o i with
      | some d => exact pl_mono 7 _ d (bnd_7 ..) (ho i d h)
      | none =>
        show pl _ (mkE e _) = true
        have hfe := hf e (List.mem_cons_self ..)
        cases e with
        | ls w n =>
          refine wrap_pl (n := 9 + 2 * nls r) fun d hd => ?_
          obtain ⟨s, hs, hm⟩ := zip_take (ks := kids (.ls w n)) (ss := ss) (ds := bl o (i + 1) r) (x := d) (by rw [kids_len]; exact hd)
          have e : s = "program" := (List.mem_replicate.mp hs).2
          have z := ih _ hm
          rw [e] at z
          exact z
        | nu d =>
          refine pl_mono 7 _ _ (bnd_7 ..) ?_
          show (true && (pl 6 d && true)) = true
          rw [pl_mono 5 6 d (by omega) hfe]
          rfl
        | tr n =>
          refine pl_mono 9 _ _ (by show 9 ≤ 9 + _; omega) (wrap_pl (n := 7) fun d hd => ?_)
          obtain ⟨s, hs, hm⟩ := zip_take (ks := kids (.tr n)) (ss := ss) (ds := bl o (i + 1) r) (x := d) (by rw [kids_len]; exact hd)
          have e : s = "letter" := (List.mem_replicate.mp hs).2
          have z := ih _ hm
          rw [e] at z
          exact z
        | le d => exact pl_mono 5 _ _ (Nat.le_trans (by decide) (bnd_7 ..)) hfe
    · exact pl_mono _ _ _ (bnd_mono hn) (ih p (zip_drop (ks := kids e) (by rw [kids_len]; exact hp)))
/-! ### the stack -/
def stk (ss : List Str) (ds : List D) : List D := ((ss.zip ds).map fun p => D.tup [.str p.1, p.2]).reverse
theorem stk_cons (s : Str) (d : D) (ss : List Str) (ds : List D) : stk (s :: ss) (d :: ds) = stk ss ds ++ [.tup [.str s, d]] := by simp [stk]
def inD (e : En) (l : List D) : List D := ((kids e).zip l).map fun p => D.tup [.str p.1, p.2]
theorem stk_app (e : En) (ss : List Str) (ds : List D) (h : ds.length = (kids e ++ ss).length) : stk ss (ds.drop (kn e)) ++ (inD e (ds.take (kn e))).reverse = stk (kids e ++ ss) ds := by
  have e1 : (kids e ++ ss).zip ds = (kids e).zip (ds.take (kn e)) ++ ss.zip (ds.drop (kn e)) := by
    rw [← List.zip_append (by rw [kids_len, List.length_take, h, List.length_append, kids_len]; omega), List.take_append_drop]
  unfold stk inD
  rw [e1, List.map_append, List.reverse_append]
theorem stk_len (ss : List Str) (ds : List D) : (stk ss ds).length ≤ ss.length := by
  unfold stk
  rw [List.length_reverse, List.length_map, List.length_zip]
  omega
/-- the first that is wrong -/
def fo (wr : Nat → En → Bool) : Nat → List En → Option Nat
  | _, [] => none
  | i, e :: r => if wr i e = true then some i else fo wr (i + 1) r
/-- a part is as it is told to be -/
def OkAt (k : D) (o : Nat → Option D) (wr : Nat → En → Bool) (i : Nat) (e : En) : Prop := ∀ l : List D, l.length = kn e → pl 38 ((o i).getD (mkE e l)) = true →
  g_is_part [k, .str (srt e), (o i).getD (mkE e l), .bl true] = some (.bl (!wr i e), .sh) ∧ (wr i e = false → g_inner_parts [.str (srt e), (o i).getD (mkE e l)] = some (.lst (inD e l), .ow))
/-- how the walk ends -/
def endO (i : Option Nat) : Ou := match i with
  | some i => .rt (.int (i : Nat)) .sh
  | none => .nx
theorem ne_lnil {l : List D} (h : l.all (pl 39) = true) : oNe (.lst l) (.lst []) = some (.bl (!l.isEmpty), .sh) := by
  unfold oNe
  have e : pl2 (.lst l) (.lst []) = true := by
    unfold pl2
    rw [show pl 40 (.lst l) = l.all (pl 39) from rfl, h]
    rfl
  rw [if_pos e]
  cases l <;> rfl
theorem stk_pl {ss : List Str} {ds : List D} (h : ∀ p ∈ ss.zip ds, pl 38 p.2 = true) : (stk ss ds).all (pl 39) = true := by
  refine List.all_eq_true.mpr fun x hx => ?_
  obtain ⟨p, hp, rfl⟩ := List.mem_map.mp (List.mem_reverse.mp hx)
  show (true && (pl 38 p.2 && true)) = true
  rw [h p hp]
  rfl
theorem run_ok {k v : D} {o : Nat → Option D} {wr : Nat → En → Bool} (ho : ∀ i d, o i = some d → pl 7 d = true) : ∀ {ss : List Str} {r : List En}, Fits ss r → ∀ (i fuel : Nat) (x5 x6 : SV), (∀ e ∈ r, flat e) → nls r ≤ 10 → r.length ≤ 1000 → r.length < fuel → (∀ j e, r[j]? = some e → OkAt k o wr (i + j) e) →
    ∃ ρ', whD wt_first_wrong_1 wb_first_wrong_1 fuel [.sh k, .sh v, .sh (.bl true), .ow (.lst (stk ss (bl o i r))), .sh (.int (i : Nat)), x5, x6] ([], 0) = some (endO (fo wr i r), ρ', ([], 0))
  | _, _, .nil, i, fuel, x5, x6, _, _, _, hfu, _ => by
    obtain ⟨n, rfl⟩ : ∃ n, fuel = n + 1 := ⟨fuel - 1, by simp at hfu; omega⟩
    exact ⟨_, rfl⟩
  | _, _, .cons (e := e) (ss := ss) (r := r) h, i, fuel, x5, x6, hf, hn, hl, hfu, hok => by
    have hp := bl_pl o ho (.cons h) i hf
    have hpl : ∀ p ∈ (srt e :: ss).zip (bl o i (e :: r)), pl 38 p.2 = true := fun p hm => pl_mono _ _ _ (by unfold bnd; split <;> omega) (hp p hm)
    have hst := stk_pl hpl
    have hwt := ne_lnil hst
    have h0 := hpl (srt e, (o i).getD (mkE e ((bl o (i + 1) r).take (kn e)))) (by rw [bl, List.zip_cons_cons]; exact List.mem_cons_self ..)
    have hlen := fits_len o h (i + 1)
    rw [List.length_cons] at hl hfu
    obtain ⟨n, rfl⟩ : ∃ n, fuel = n + 1 := ⟨fuel - 1, by omega⟩
    obtain ⟨ok1, ok2⟩ := hok 0 e rfl ((bl o (i + 1) r).take (kn e)) (by rw [List.length_take, hlen, List.length_append, kids_len]; omega) h0
    rw [bl, stk_cons] at hwt ⊢
    have hwt' : oNe (.lst (stk ss ((bl o (i + 1) r).drop (kn e)) ++ [.tup [.str (srt e), (o i).getD (mkE e ((bl o (i + 1) r).take (kn e)))]])) (.lst []) = some (.bl true, .sh) := by
      rw [hwt]
      cases stk ss ((bl o (i + 1) r).drop (kn e)) <;> rfl
    rw [Nat.add_zero] at ok1 ok2
    have hle := fits_le h
    rw [List.length_append, kids_len] at hle
    cases hw : wr i e with
    | true =>
      rw [hw] at ok1
      refine ⟨[.sh k, .sh v, .sh (.bl true), .ow (.lst (stk ss ((bl o (i + 1) r).drop (kn e)))), .sh (.int (i : Nat)), .sh (.str (srt e)), .sh ((o i).getD (mkE e ((bl o (i + 1) r).take (kn e))))], ?_⟩
      rw [fo, hw]
      simp [whD, wt_first_wrong_1, hwt', wb_first_wrong_1, ok1, endO]
    | false =>
      rw [hw] at ok1
      obtain ⟨ρ', ih⟩ := run_ok (k := k) (v := v) ho h (i + 1) n (.sh (.str (srt e))) (.sh ((o i).getD (mkE e ((bl o (i + 1) r).take (kn e))))) (fun x hx => hf x (List.mem_cons_of_mem _ hx)) (by
        have : nls r ≤ nls (e :: r) := by cases e <;> simp [nls]
        omega) (by omega) (by omega) (fun j x hj => by
          have z := hok (j + 1) x (by rw [List.getElem?_cons_succ]; exact hj)
          rw [show i + 1 + j = i + (j + 1) by omega]
          exact z)
      refine ⟨ρ', ?_⟩
      rw [fo, hw]
      have ok2' := ok2 hw
      have zl : (stk ss ((bl o (i + 1) r).drop (kn e))).length + (inD e ((bl o (i + 1) r).take (kn e))).length ≤ sizeLine := z_line (by
        have := stk_len ss ((bl o (i + 1) r).drop (kn e))
        have e2 : (inD e ((bl o (i + 1) r).take (kn e))).length ≤ kn e := by
          unfold inD
          rw [List.length_map, List.length_zip, kids_len]
          omega
        omega)
      rw [← stk_app e ss (bl o (i + 1) r) hlen] at ih
      have en : ((i + 1 : Nat) : Int) = (i : Int) + 1 := rfl
      rw [en] at ih
      simp only [wt_first_wrong_1, wb_first_wrong_1] at ih
      simp [whD, wt_first_wrong_1, hwt', wb_first_wrong_1, ok1, ok2', hExt, zl, ih]
end W48
/-! k48: a row built; the first wrong part told. -/
namespace W48
open PySem PySem.Spec PyProof.Rows L2 DL LT
open LH (VD Goo k_ii k_ib k_tt)
def resI : Option Nat → Int
  | some i => (i : Nat)
  | none => -1
def resD : Option Nat → D
  | some i => .tup [.str "refused", .int (i : Nat)]
  | none => .tup [.str "told", .non]
theorem first_ok {k v : D} {o : Nat → Option D} {wr : Nat → En → Bool} {r : List En} (ho : ∀ i d, o i = some d → pl 7 d = true) (hF : Fits ["program"] r) (hb : bl o 0 r = [v]) (hf : ∀ e ∈ r, flat e) (hn : nls r ≤ 10) (hl : r.length ≤ 1000)
    (hok : ∀ j e, r[j]? = some e → OkAt k o wr j e) : g_first_wrong [k, v, .bl true] = some (.int (resI (fo wr 0 r)), .sh) := by
  obtain ⟨ρ', e⟩ := run_ok (k := k) (v := v) ho hF 0 turns .un .un hf hn hl (Nat.lt_of_le_of_lt hl (by decide)) (fun j e h => by rw [Nat.zero_add]; exact hok j e h)
  rw [hb] at e
  have es : stk ["program"] [v] = [.tup [.str "program", v]] := rfl
  rw [es] at e
  have e0 : ((0 : Nat) : Int) = 0 := rfl
  rw [e0] at e
  cases h : fo wr 0 r with
  | some i =>
    rw [h] at e
    simp [g_first_wrong, h_first_wrong, e, endO, resI]
  | none =>
    rw [h] at e
    simp [g_first_wrong, h_first_wrong, e, endO, resI]
theorem told_ok {k v : D} {b : Bool} {i : Option Nat} (h : g_first_wrong [k, v, .bl true] = some (.int (resI i), .sh)) : g__law_told [k, v, .bl b] = some (resD i, .sh) := by
  unfold g__law_told
  dsimp only
  rw [h]
  cases i with
  | none => rfl
  | some i =>
    simp only [Option.bind_some, resI]
    rw [if_neg (by omega)]
    rfl
/-! ### built -/
def rowD : En → D
  | .ls w n => .tup [.str w, .non, .int (n : Nat)]
  | .nu d => .tup [.str "number", d, .int 0]
  | .tr n => .tup [.str "trace", .non, .int (n : Nat)]
  | .le d => .tup [.str "letter", d, .int 0]
def wordy : En → Prop
  | .ls w _ => w = "plus" ∨ w = "times"
  | _ => True
theorem bl_le (o : Nat → Option D) : ∀ (r : List En) (i : Nat), (bl o i r).length ≤ r.length
  | [], _ => Nat.le_refl _
  | e :: r, i => by
    have z := bl_le o r (i + 1)
    rw [bl, List.length_cons, List.length_cons, List.length_drop]
    omega
theorem fits_drop : ∀ {r : List En} {ss : List Str}, Fits ss r → ∀ k, ∃ ss', Fits ss' (r.drop k)
  | r, ss, h, 0 => ⟨ss, by rw [List.drop_zero]; exact h⟩
  | [], ss, h, k + 1 => ⟨[], .nil⟩
  | e :: r, _, .cons h, k + 1 => by
    rw [List.drop_succ_cons]
    exact fits_drop h k
theorem fits_kn (o : Nat → Option D) {ss : List Str} {e : En} {r : List En} (h : Fits ss (e :: r)) (i : Nat) : kn e ≤ (bl o i r).length := by
  cases h with
  | cons h =>
    rw [fits_len o h, List.length_append, kids_len]
    omega
theorem rng_back (n : Nat) : (rng 0 (n + 1)).reverse = .int (n : Nat) :: (rng 0 n).reverse := by
  unfold rng
  rw [List.range_succ, List.map_append, List.reverse_append]
  simp
theorem lrg_ok {f : EF} {ρ : Rho} {δ δ' : Dr} {k : Kd} {n : Nat} (h : f ρ δ = some (.int (n : Nat), k, δ')) (hn : n ≤ 1000) : fLRg f ρ δ = some (.lst (rng 0 n), .ow, δ') := by
  unfold fLRg
  rw [h]
  have hc : cRng (n : Int) := by
    unfold cRng
    omega
  simp only [Option.bind_some, Int.toNat_natCast]
  rw [if_pos ⟨hc, by omega⟩]
def odF (ds : List (Key × D)) : Nat → Option D := fun i => getD' ds (.inl (i : Nat))
theorem built_step {r : List En} {ds : List (Key × D)} (hF : Fits ["program"] r) (hw : ∀ e ∈ r, wordy e) (hl : r.length ≤ 1000) {k : Nat} {e : En} (hk : r[k]? = some e) (x4 x5 x6 x7 x8 : SV) :
    ∃ y4 y5 y6 y7 y8, fb__law_built_1 [.sh (.lst (r.map rowD)), .sh (.dic ds), .ow (.lst (bl (odF ds) (k + 1) (r.drop (k + 1)))), .sh (.int (k : Nat)), x4, x5, x6, x7, x8] ([], 0) = some (.nx, [.sh (.lst (r.map rowD)), .sh (.dic ds), .ow (.lst (bl (odF ds) k (r.drop k))), .sh (.int (k : Nat)), y4, y5, y6, y7, y8], ([], 0)) := by
  have hlt : k < r.length := (List.getElem?_eq_some_iff.mp hk).1
  have hd : r.drop k = e :: r.drop (k + 1) := by
    rw [List.drop_eq_getElem_cons hlt, (List.getElem?_eq_some_iff.mp hk).2]
  obtain ⟨ss, hs⟩ := fits_drop hF k
  rw [hd] at hs
  have hkn := fits_kn (odF ds) hs (k + 1)
  have hbl := bl_le (odF ds) (r.drop (k + 1)) (k + 1)
  rw [List.length_drop] at hbl
  have a0 : atD (r.map rowD) (k : Int) = some (rowD e) := by rw [atD_nat, List.getElem?_map, hk]; rfl
  rw [hd, bl]
  generalize bl (odF ds) (k + 1) (r.drop (k + 1)) = dn at hkn hbl ⊢
  have c1 := cutD_lo dn hkn
  have c2 := cutD_hi dn hkn
  have hwe := hw e (List.mem_of_getElem? hk)
  have hz : 1 + (dn.length - kn e) ≤ sizeLine := z_line (by omega)
  have ins : oInA (.int (k : Nat)) (.dic ds) = some (.bl (getD' ds (.inl (k : Nat))).isSome, .sh) := rfl
  have w1 : (("plus" : Str) == ("letter" : Str)) = false := by decide
  have w2 : (("times" : Str) == ("letter" : Str)) = false := by decide
  have w3 : (("plus" : Str) == ("number" : Str)) = false := by decide
  have w4 : (("times" : Str) == ("number" : Str)) = false := by decide
  have w5 : (("number" : Str) == ("letter" : Str)) = false := by decide
  have w6 : (("trace" : Str) == ("letter" : Str)) = false := by decide
  have w7 : (("trace" : Str) == ("number" : Str)) = false := by decide
  have g0 : odF ds k = getD' ds (.inl (k : Nat)) := rfl
  rw [g0]
  cases e with
  | ls w n =>
    simp only [kn] at c1 c2 hz
    rcases hwe with rfl | rfl <;> cases ho : getD' ds (.inl (k : Nat)) <;> simp [fb__law_built_1, a0, rowD, oEq_s, w1, w2, w3, w4, ins, ho, c1, c2, hz, mkE, kn]
  | nu d =>
    simp only [kn] at c1 c2 hz
    have c1' : DL.cutD dn none (some 0) = dn.take 0 := c1
    have c2' : DL.cutD dn (some 0) none = dn.drop 0 := c2
    rw [Nat.sub_zero] at hz
    cases ho : getD' ds (.inl (k : Nat)) <;> simp [fb__law_built_1, a0, rowD, oEq_s, w5, ins, ho, c1', c2', hz, mkE, kn]
  | tr n =>
    simp only [kn] at c1 c2 hz
    cases ho : getD' ds (.inl (k : Nat)) <;> simp [fb__law_built_1, a0, rowD, oEq_s, w6, w7, ins, ho, c1, c2, hz, mkE, kn]
  | le d =>
    simp only [kn] at c1 c2 hz
    have c1' : DL.cutD dn none (some 0) = dn.take 0 := c1
    have c2' : DL.cutD dn (some 0) none = dn.drop 0 := c2
    rw [Nat.sub_zero] at hz
    cases ho : getD' ds (.inl (k : Nat)) <;> simp [fb__law_built_1, a0, rowD, oEq_s, ins, ho, c1', c2', hz, mkE, kn]
theorem built_ok {r : List En} {ds : List (Key × D)} (hF : Fits ["program"] r) (hw : ∀ e ∈ r, wordy e) (hl : r.length ≤ 1000) : ∃ v, bl (odF ds) 0 r = [v] ∧ g__law_built [.lst (r.map rowD), .dic ds] = some (v, .sh) := by
  have hlen := fits_len (odF ds) hF 0
  obtain ⟨v, hv⟩ : ∃ v, bl (odF ds) 0 r = [v] := by
    cases h : bl (odF ds) 0 r with
    | nil => rw [h] at hlen; cases hlen
    | cons v l =>
      rw [h] at hlen
      cases l with
      | nil => exact ⟨v, rfl⟩
      | cons x l => simp at hlen
  refine ⟨v, hv, ?_⟩
  have lr : fLRg (fCall oLen (rCons (fVar 0) rNil)) [.sh (.lst (r.map rowD)), .sh (.dic ds), .ow (.lst []), .un, .un, .un, .un, .un, .un] ([], 0) = some (.lst (rng 0 r.length), .ow, ([], 0)) := by
    refine lrg_ok (k := .sh) (n := r.length) ?_ hl
    simp
  obtain ⟨ρ', δ', e, k, x3, x4, x5, x6, x7, x8, hx, hk, rfl, rfl⟩ := forD_inv (b := bName 3) (h := fb__law_built_1) (ds := (rng 0 r.length).reverse) (ρ := [.sh (.lst (r.map rowD)), .sh (.dic ds), .ow (.lst []), .un, .un, .un, .un, .un, .un]) (δ := ([], 0))
    (fun xs ρ δ => ∃ k x3 x4 x5 x6 x7 x8, xs = (rng 0 k).reverse ∧ k ≤ r.length ∧ ρ = [.sh (.lst (r.map rowD)), .sh (.dic ds), .ow (.lst (bl (odF ds) k (r.drop k))), x3, x4, x5, x6, x7, x8] ∧ δ = ([], 0)) (fun x xs ρ δ I => by
      obtain ⟨k, x3, x4, x5, x6, x7, x8, hx, hk, rfl, rfl⟩ := I
      cases k with
      | zero => cases hx
      | succ k =>
        rw [rng_back] at hx
        obtain ⟨rfl, rfl⟩ := List.cons.inj hx
        have hg : r[k]? = some r[k] := List.getElem?_eq_getElem (by omega)
        obtain ⟨y4, y5, y6, y7, y8, e⟩ := built_step (ds := ds) hF hw hl hg x4 x5 x6 x7 x8
        exact ⟨_, _, _, bName_e, e, k, _, _, _, _, _, _, rfl, by omega, rfl, rfl⟩) ⟨r.length, _, _, _, _, _, _, rfl, Nat.le_refl _, by rw [List.drop_length]; rfl, rfl⟩
  have hk0 : k = 0 := by
    cases k with
    | zero => rfl
    | succ k => rw [rng_back] at hx; cases hx
  subst hk0
  rw [List.drop_zero, hv] at e
  simp [g__law_built, h__law_built, lr, e, atD0]
end W48
/-! k48: the draws. -/
namespace W48
open PySem PySem.Spec PyProof.Rows L2 DL LT
open LH (VD Goo k_ii k_ib k_tt)
theorem any_is : g__law_any = LH.g__law_any := rfl
theorem of_is : g__law_of = LH.g__law_of := rfl
theorem any_nat {δ : Dr} {n : Nat} (v : VD δ) (hn : 0 < n) (hl : n ≤ 1000000) : ∃ (r : Nat) (δ' : Dr), g__law_any [.int (n : Nat)] δ = some (.int (r : Nat), .sh, δ') ∧ r < n ∧ VD δ' := by
  obtain ⟨r, δ', e, h1, h2, v'⟩ := LH.any_ok (b := (n : Int)) v (by omega) (Nat.lt_of_le_of_lt (by omega : (n : Int).natAbs ≤ 1000000) (Nat.lt_of_lt_of_le (by decide : 1000000 < 2 ^ 20) (Nat.pow_le_pow_right (by decide) (by decide))))
  refine ⟨r.toNat, δ', ?_, by omega, v'⟩
  rw [any_is, e, Int.toNat_of_nonneg h1]
theorem perm_map_ex {α β : Type} {f : α → β} {L M : List β} (p : L.Perm M) : ∀ l : List α, M = l.map f → ∃ l' : List α, L = l'.map f ∧ l'.Perm l := by
  induction p with
  | nil => intro l h; exact ⟨l, h, .refl _⟩
  | cons x p ih =>
    intro l h
    cases l with
    | nil => cases h
    | cons y l =>
      obtain ⟨rfl, h2⟩ := List.cons.inj h
      obtain ⟨l', e, q⟩ := ih l h2
      exact ⟨y :: l', by rw [e]; rfl, q.cons y⟩
  | swap x y l0 =>
    intro l h
    cases l with
    | nil => cases h
    | cons a l =>
      cases l with
      | nil => cases h
      | cons b l =>
        simp only [List.map_cons, List.cons.injEq] at h
        obtain ⟨rfl, rfl, rfl⟩ := h
        exact ⟨b :: a :: l, rfl, .swap ..⟩
  | trans p q ih1 ih2 =>
    intro l h
    obtain ⟨l1, e1, q1⟩ := ih2 l h
    obtain ⟨l2, e2, q2⟩ := ih1 l1 e1
    exact ⟨l2, e2, q2.trans q1⟩
theorem erase_map {α β : Type} (f : α → β) : ∀ (l : List α) (i : Nat), (l.map f).eraseIdx i = (l.eraseIdx i).map f
  | [], _ => rfl
  | x :: l, 0 => rfl
  | x :: l, i + 1 => by
    show f x :: (l.map f).eraseIdx i = f x :: (l.eraseIdx i).map f
    rw [erase_map f l i]
theorem erase_perm {α : Type} : ∀ (l : List α) (i : Nat) (h : i < l.length), (l[i] :: l.eraseIdx i).Perm l
  | [], _, h => by cases h
  | x :: l, 0, _ => .refl _
  | x :: l, i + 1, h => by
    have hi : i < l.length := by simpa using h
    have z := erase_perm l i hi
    show (l[i]'(by simpa using h) :: x :: l.eraseIdx i).Perm (x :: l)
    exact (List.Perm.swap ..).trans (z.cons x)
theorem mixed_ok {α : Type} {f : α → D} {l : List α} {δ : Dr} (v : VD δ) (hl : l.length ≤ 1000) : ∃ (l' : List α) (δ' : Dr), g__law_mixed [.lst (l.map f)] δ = some (.lst (l'.map f), .ow, δ') ∧ l'.Perm l ∧ VD δ' := by
  have r0 : sRng1k ([.int ((l.map f).length : Nat)], δ) = some (rng 0 l.length, .sh, δ) := by
    rw [List.length_map]
    exact sRng1k_ok (by omega)
  obtain ⟨ρ', δ', e, left, found, x4, rfl, hp, hn, v'⟩ := forD_inv (b := bName 4) (h := fb__law_mixed_1) (ds := rng 0 l.length) (ρ := [.dl, .sh (.lst (l.map f)), .ow (.lst (l.map f)), .ow (.lst []), .un]) (δ := δ)
    (fun xs ρ δ => ∃ (left found : List α) (x4 : SV), ρ = [.dl, .sh (.lst (l.map f)), .ow (.lst (left.map f)), .ow (.lst (found.map f)), x4] ∧ (found ++ left).Perm l ∧ left.length = xs.length ∧ VD δ) (fun x xs ρ δ I => by
      obtain ⟨left, found, x4, rfl, hp, hn, v⟩ := I
      rw [List.length_cons] at hn
      have hle : found.length + left.length = l.length := by rw [← List.length_append]; exact hp.length_eq
      obtain ⟨r, δ', e, hr, v'⟩ := any_nat (n := left.length) v (by omega) (by omega)
      have g : left[r]? = some left[r] := List.getElem?_eq_getElem hr
      refine ⟨_, [.dl, .sh (.lst (l.map f)), .ow (.lst ((left.eraseIdx r).map f)), .ow (.lst ((found ++ [left[r]]).map f)), .sh x], δ', bName_e, ?_, left.eraseIdx r, found ++ [left[r]], _, rfl, ?_, ?_, v'⟩
      · have i1 : ixN left.length (r : Int) = some r := by
          unfold ixN
          rw [if_pos (by omega)]
          simp [hr]
        have z1 : found.length < sizeLine := Nat.lt_of_le_of_lt (show found.length ≤ 1000 by omega) (by decide)
        have z2 : left.length ≤ sizeLine := z_line (by omega)
        simp [fb__law_mixed_1, hAppPop, e, i1, z1, z2, g, erase_map]
      · rw [List.append_assoc]
        refine List.Perm.trans ?_ hp
        exact List.Perm.append_left _ (erase_perm left r hr)
      · rw [List.length_eraseIdx, if_pos hr]
        omega) ⟨l, [], .un, rfl, .refl _, by unfold rng; simp, v⟩
  have hl0 : left = [] := List.length_eq_zero_iff.mp hn
  subst hl0
  rw [List.append_nil] at hp
  refine ⟨found, δ', ?_, hp, v'⟩
  have r1 : sRng1k ([.int ((l.length : Nat) : Int)], δ) = some (rng 0 l.length, .sh, δ) := by rw [List.length_map] at r0; exact r0
  simp [g__law_mixed, h__law_mixed, r1, e]
/-! ### names, the kind -/
def ten : List Str := ["a", "b", "x", "y", "k", "to", "red", "knows", "mother", "eightlet"]
theorem ten_nd : ten.Nodup := by decide +kernel
theorem names_ok {n : Nat} {δ : Dr} (v : VD δ) (hn : n ≤ 10) : ∃ (l : List Str) (δ' : Dr), g__law_names [.int (n : Nat)] δ = some (.lst (sD l), .ow, δ') ∧ l.length = n ∧ l.Nodup ∧ (∀ x ∈ l, x ∈ ten) ∧ VD δ' := by
  obtain ⟨l, δ', e, hp, v'⟩ := mixed_ok (f := D.str) (l := ten) v (by decide)
  have hl : l.length = 10 := hp.length_eq
  refine ⟨l.take n, δ', ?_, by rw [List.length_take]; omega, (hp.nodup_iff.mpr ten_nd).sublist (List.take_sublist ..), fun x hx => hp.mem_iff.mp (List.mem_of_mem_take hx), v'⟩
  have e' : g__law_mixed [.lst [.str "a", .str "b", .str "x", .str "y", .str "k", .str "to", .str "red", .str "knows", .str "mother", .str "eightlet"]] δ = some (.lst (l.map .str), .ow, δ') := e
  have c := cutD_lo (l.map D.str) (i := n) (by rw [List.length_map]; omega)
  simp [g__law_names, h__law_names, e', c, sD]
theorem srt_strs (l : List Str) (hl : l.length ≤ 1000) : srtC (sD l) = true := by
  unfold srtC
  simp only [Bool.and_eq_true, decide_eq_true_eq, List.all_eq_true, Bool.or_eq_true]
  refine ⟨⟨⟨z_line (by unfold sD; rw [List.length_map]; omega), fun x hx => ?_⟩, fun x hx y hy => ?_⟩, .inr fun x hx => ?_⟩
  · obtain ⟨u, _, rfl⟩ := List.mem_map.mp hx
    rfl
  · obtain ⟨u, _, rfl⟩ := List.mem_map.mp hx
    obtain ⟨w, _, rfl⟩ := List.mem_map.mp hy
    rfl
  · obtain ⟨u, _, rfl⟩ := List.mem_map.mp hx
    rfl
theorem sort_strs (l : List Str) (hl : l.length ≤ 1000) : ∃ l' : List Str, oSorted [.lst (sD l)] = some (.lst (sD l'), .ow) ∧ l'.Perm l := by
  obtain ⟨l', e, hp⟩ := perm_map_ex (f := D.str) (List.mergeSort_perm (sD l) fun x y => !ltD y x) l rfl
  refine ⟨l', ?_, hp⟩
  show (if srtC (sD l) = true then some (D.lst (sortD (sD l)), Kd.ow) else none) = _
  rw [if_pos (srt_strs l hl)]
  have e2 : sortD (sD l) = sD l' := e
  rw [e2]
/-- names of a kind -/
structure Nms (m t a : List Str) : Prop where
  nd : (m ++ (t ++ a)).Nodup
  sub : ∀ x ∈ m ++ (t ++ a), x ∈ ten
  ne : 0 < t.length + a.length
def nD (m t a : List Str) : D := .tup [.tup (sD m), .tup (sD t), .tup (sD a)]
theorem cutD_mid (xs : List D) {i j : Nat} (hi : i ≤ j) (h : j ≤ xs.length) : DL.cutD xs (some (i : Int)) (some (j : Int)) = (xs.take j).drop i := by
  unfold DL.cutD sI
  rw [HT.sIx_nat, HT.sIx_nat, Nat.min_eq_left h, Nat.min_eq_left (Nat.le_trans hi h), List.drop_take]
def sorts : List Int := [5, 6, 3, 2, 0, 1, 9, 4]
theorem kind_ok {s : Int} (hs : s ∈ sorts) {δ : Dr} (v : VD δ) : ∃ (m t a : List Str) (δ' : Dr), g__law_kind [.int s] δ = some (nD m t a, .sh, δ') ∧ Nms m t a ∧ VD δ' := by
  obtain ⟨T, A, e0, hT, hTA⟩ : ∃ T A : Nat, hAsg (bTup (bCons (bName 2) (bCons (bName 3) bNil))) (fBin oIx (fLst (aCons (fTup (aCons (fC (.int 1)) (aCons (fC (.int 0)) aNil))) (aCons (fTup (aCons (fC (.int 0)) (aCons (fC (.int 1)) aNil))) (aCons (fTup (aCons (fC (.int 1)) (aCons (fC (.int 1)) aNil))) (aCons (fTup (aCons (fC (.int 0)) (aCons (fC (.int 2)) aNil))) (aCons (fTup (aCons (fC (.int 2)) (aCons (fC (.int 0)) aNil))) (aCons (fTup (aCons (fC (.int 1)) (aCons (fC (.int 2)) aNil))) (aCons (fTup (aCons (fC (.int 2)) (aCons (fC (.int 1)) aNil))) (aCons (fTup (aCons (fC (.int 0)) (aCons (fC (.int 0)) aNil))) (aCons (fTup (aCons (fC (.int 3)) (aCons (fC (.int 0)) aNil))) (aCons (fTup (aCons (fC (.int 0)) (aCons (fC (.int 3)) aNil))) aNil))))))))))) (fVar 1)) [.dl, .sh (.int s), .un, .un, .un, .un] δ = some (.nx, [.dl, .sh (.int s), .sh (.int (T : Nat)), .sh (.int (A : Nat)), .un, .un], δ) ∧ 0 < T + A ∧ T + A ≤ 3 := by
    simp only [sorts, List.mem_cons, List.not_mem_nil, or_false] at hs
    rcases hs with rfl | rfl | rfl | rfl | rfl | rfl | rfl | rfl
    · exact ⟨1, 2, by kernel_rfl, by decide, by decide⟩
    · exact ⟨2, 1, by kernel_rfl, by decide, by decide⟩
    · exact ⟨0, 2, by kernel_rfl, by decide, by decide⟩
    · exact ⟨1, 1, by kernel_rfl, by decide, by decide⟩
    · exact ⟨1, 0, by kernel_rfl, by decide, by decide⟩
    · exact ⟨0, 1, by kernel_rfl, by decide, by decide⟩
    · exact ⟨0, 3, by kernel_rfl, by decide, by decide⟩
    · exact ⟨2, 0, by kernel_rfl, by decide, by decide⟩
  obtain ⟨M, δ1, e1, hM, v1⟩ := any_nat (n := 3) v (by decide) (by decide)
  obtain ⟨l, δ2, e2, hl, hnd, hsub, v2⟩ := names_ok (n := M + T + A) v1 (by omega)
  have e1' : g__law_any [.int 3] δ = some (.int (M : Nat), .sh, δ1) := e1
  have e2' : g__law_names [.int ((M : Int) + (T : Int) + (A : Int))] δ1 = some (.lst (sD l), .ow, δ2) := e2
  obtain ⟨m, s1, p1⟩ := sort_strs (l.take M) (by rw [List.length_take]; omega)
  obtain ⟨t, s2, p2⟩ := sort_strs ((l.take (M + T)).drop M) (by rw [List.length_drop, List.length_take]; omega)
  obtain ⟨a, s3, p3⟩ := sort_strs (l.drop (M + T)) (by rw [List.length_drop]; omega)
  have sl : (sD l).length = l.length := List.length_map ..
  have c1 : DL.cutD (sD l) none (some (M : Int)) = sD (l.take M) := (cutD_lo _ (by omega)).trans List.map_take.symm
  have c2 : DL.cutD (sD l) (some (M : Int)) (some ((M : Int) + (T : Int))) = sD ((l.take (M + T)).drop M) := (cutD_mid (sD l) (i := M) (j := M + T) (by omega) (by omega)).trans (by unfold sD; rw [List.map_drop, List.map_take])
  have c3 : DL.cutD (sD l) (some ((M : Int) + (T : Int))) none = sD (l.drop (M + T)) := (cutD_hi (sD l) (i := M + T) (by omega)).trans List.map_drop.symm
  have split : l.take M ++ ((l.take (M + T)).drop M ++ l.drop (M + T)) = l := by
    rw [← List.append_assoc]
    have z : l.take M ++ (l.take (M + T)).drop M = l.take (M + T) := by
      have := List.take_append_drop M (l.take (M + T))
      rw [List.take_take, Nat.min_eq_left (Nat.le_add_right ..)] at this
      exact this
    rw [z, List.take_append_drop]
  have pp : (m ++ (t ++ a)).Perm l := by
    have z := p1.append (p2.append p3)
    rw [split] at z
    exact z
  refine ⟨m, t, a, δ2, ?_, ⟨pp.nodup_iff.mpr hnd, fun x hx => hsub x (pp.mem_iff.mp hx), ?_⟩, v2⟩
  · rw [g__law_kind, fnW, if_pos (by rfl : ([D.int s] : List D).length = 1), h__law_kind]
    show endD (hSeq _ _ [.dl, .sh (.int s), .un, .un, .un, .un] δ) = _
    rw [hSeq_e, e0]
    simp [e1', e2', c1, c2, c3, s1, s2, s3, nD]
  · have q2 := p2.length_eq
    have q3 := p3.length_eq
    rw [List.length_drop, List.length_take] at q2
    rw [List.length_drop] at q3
    omega
end W48
/-! k48: links and letters drawn. -/
namespace W48
open PySem PySem.Spec PyProof.Rows L2 DL LT
open LH (VD Goo k_ii k_ib k_tt)
/-! ### the order of pairs -/
def all30 : List (Str × Str) := [("a", "in"), ("a", "out"), ("a", "with"), ("b", "in"), ("b", "out"), ("b", "with"), ("eightlet", "in"), ("eightlet", "out"), ("eightlet", "with"), ("k", "in"), ("k", "out"), ("k", "with"), ("knows", "in"), ("knows", "out"), ("knows", "with"), ("mother", "in"), ("mother", "out"), ("mother", "with"), ("red", "in"), ("red", "out"), ("red", "with"), ("to", "in"), ("to", "out"), ("to", "with"), ("x", "in"), ("x", "out"), ("x", "with"), ("y", "in"), ("y", "out"), ("y", "with")]
def rk (p : Str × Str) : Nat := all30.idxOf p
theorem rk_lt : ∀ p ∈ all30, ∀ q ∈ all30, ltD (pD p) (pD q) = decide (rk p < rk q) := by decide +kernel
theorem rk_inj : ∀ p ∈ all30, ∀ q ∈ all30, rk p = rk q → p = q := by decide +kernel
theorem in30 : ∀ x ∈ ten, ∀ w ∈ tags, (x, w) ∈ all30 := by decide +kernel
theorem srt_ps (l : List (Str × Str)) (hl : l.length ≤ 1000) : srtC (psD l) = true := by
  unfold srtC
  simp only [Bool.and_eq_true, decide_eq_true_eq, List.all_eq_true, Bool.or_eq_true]
  refine ⟨⟨⟨z_line (by rw [psD_len]; omega), fun x hx => ?_⟩, fun x hx y hy => ?_⟩, .inl fun x hx => ?_⟩
  · obtain ⟨u, _, rfl⟩ := List.mem_map.mp hx
    rfl
  · obtain ⟨u, _, rfl⟩ := List.mem_map.mp hx
    obtain ⟨w, _, rfl⟩ := List.mem_map.mp hy
    rfl
  · obtain ⟨u, _, rfl⟩ := List.mem_map.mp hx
    rfl
theorem sort_ps {l : List (Str × Str)} (hl : l.length ≤ 1000) (h : ∀ p ∈ l, p ∈ all30) (nd : l.Nodup) : ∃ l' : List (Str × Str), oSorted [.lst (psD l)] = some (.lst (psD l'), .ow) ∧ l'.Perm l ∧ Asc l' := by
  have e := List.map_mergeSort (l := l) (r := fun p q => decide (rk p ≤ rk q)) (s := fun x y => !ltD y x) (f := pD) (fun p hp q hq => by
    rw [rk_lt q (h q hq) p (h p hp)]
    by_cases z : rk p ≤ rk q
    · rw [decide_eq_true z, decide_eq_false (by omega)]
      rfl
    · rw [decide_eq_false z, decide_eq_true (by omega)]
      rfl)
  have pm := List.mergeSort_perm l fun p q => decide (rk p ≤ rk q)
  refine ⟨l.mergeSort fun p q => decide (rk p ≤ rk q), ?_, pm, fun i p q h1 h2 => ?_⟩
  · show (if srtC (psD l) = true then some (D.lst (sortD (psD l)), Kd.ow) else none) = _
    rw [if_pos (srt_ps l hl)]
    have e2 : sortD (psD l) = psD (l.mergeSort fun p q => decide (rk p ≤ rk q)) := e.symm
    rw [e2]
  · have pw := List.pairwise_mergeSort (le := fun p q => decide (rk p ≤ rk q)) (fun a b c h1 h2 => by simp only [decide_eq_true_eq] at *; omega) (fun a b => by simp only [Bool.or_eq_true, decide_eq_true_eq]; omega) l
    generalize l.mergeSort (fun p q => decide (rk p ≤ rk q)) = l' at pm h1 h2 pw
    have nd' := pm.nodup_iff.mpr nd
    obtain ⟨i1, rfl⟩ := List.getElem?_eq_some_iff.mp h1
    obtain ⟨i2, rfl⟩ := List.getElem?_eq_some_iff.mp h2
    have r1 := List.pairwise_iff_getElem.mp pw i (i + 1) i1 i2 (by omega)
    have r2 := List.pairwise_iff_getElem.mp nd' i (i + 1) i1 i2 (by omega)
    have m1 := h _ (pm.mem_iff.mp (List.getElem_mem i1))
    have m2 := h _ (pm.mem_iff.mp (List.getElem_mem i2))
    rw [rk_lt _ m1 _ m2]
    rw [decide_eq_true_eq] at r1
    refine decide_eq_true ?_
    have : rk l'[i] ≠ rk l'[i + 1] := fun z => r2 (rk_inj _ m1 _ m2 z)
    omega
/-! ### the facts that a kind has -/
def facts (t a : List Str) : List (Str × Str) := t.map (fun x => ((x, "with") : Str × Str)) ++ a.map (fun x => ((x, "out") : Str × Str)) ++ a.map (fun x => ((x, "in") : Str × Str))
def fD (q : (Str × Str) × Int × Int) : D := .tup [pD q.1, .tup [.str q.1.1, .tup [.int q.2.1, .int q.2.2]]]
def facts0 (t a : List Str) : List ((Str × Str) × Int × Int) := t.map (fun x => (((x, "with"), 0, 1) : (Str × Str) × Int × Int)) ++ a.map (fun x => (((x, "out"), 0, 1) : (Str × Str) × Int × Int)) ++ a.map (fun x => (((x, "in"), 1, 0) : (Str × Str) × Int × Int))
theorem facts0_fst (t a : List Str) : (facts0 t a).map (·.1) = facts t a := by simp [facts0, facts, Function.comp_def]
theorem facts_len (t a : List Str) : (facts t a).length = t.length + a.length + a.length := by simp [facts]; omega
theorem srt_fs (l : List ((Str × Str) × Int × Int)) (hl : l.length ≤ 1000) : srtC (l.map fD) = true := by
  unfold srtC
  simp only [Bool.and_eq_true, decide_eq_true_eq, List.all_eq_true, Bool.or_eq_true]
  refine ⟨⟨⟨z_line (by rw [List.length_map]; omega), fun x hx => ?_⟩, fun x hx y hy => ?_⟩, .inl fun x hx => ?_⟩
  · obtain ⟨u, _, rfl⟩ := List.mem_map.mp hx
    rfl
  · obtain ⟨u, _, rfl⟩ := List.mem_map.mp hx
    obtain ⟨w, _, rfl⟩ := List.mem_map.mp hy
    rfl
  · obtain ⟨u, _, rfl⟩ := List.mem_map.mp hx
    rfl
section
variable {m t a : List Str}
theorem link_facts_ok (hl : t.length + a.length ≤ 100) : ∃ L : List ((Str × Str) × Int × Int), g__law_link_facts [nD m t a, .int 0, .int 1] = some (.lst (L.map fD), .ow) ∧ L.Perm (facts0 t a) := by
  obtain ⟨L, e, hp⟩ := perm_map_ex (f := fD) (List.mergeSort_perm ((facts0 t a).map fD) fun x y => !ltD y x) (facts0 t a) rfl
  refine ⟨L, ?_, hp⟩
  have hlen : (facts0 t a).length ≤ 1000 := by simp [facts0]; omega
  have so : oSorted [.lst ((facts0 t a).map fD)] = some (.lst (L.map fD), .ow) := by
    show (if srtC ((facts0 t a).map fD) = true then some (D.lst (sortD ((facts0 t a).map fD)), Kd.ow) else none) = _
    rw [if_pos (srt_fs _ hlen)]
    have e2 : sortD ((facts0 t a).map fD) = L.map fD := e
    rw [e2]
  have z1 : (sD t).length ≤ sizeLine := z_line (by unfold sD; rw [List.length_map]; omega)
  have z2 : (sD a).length ≤ sizeLine := z_line (by unfold sD; rw [List.length_map]; omega)
  have mm : ∀ (f : Str → D) (g : D → D), (∀ x, g (.str x) = f x) → ∀ l : List Str, (sD l).map g = l.map f := fun f g h l => by
    unfold sD
    rw [List.map_map]
    exact List.map_congr_left fun x _ => h x
  have m1 := lcD_map (b := bName 4) (f := ce__law_link_facts_1) (g := fun d => match d with | .str x => fD ((x, "with"), 0, 1) | d => d) (ds := sD t) (ρ := wip [.sh (nD m t a), .sh (.int 0), .sh (.int 1), .un, .un, .un] [4]) (δ := ([], 0)) (fun x hx => by
    obtain ⟨u, _, rfl⟩ := List.mem_map.mp hx
    exact ⟨_, .sh, bName_e, by kernel_rfl, by decide⟩)
  have m2 := fun r3 => lcD_map (b := bName 5) (f := ce__law_link_facts_2) (g := fun d => match d with | .str x => fD ((x, "out"), 0, 1) | d => d) (ds := sD a) (ρ := wip [.sh (nD m t a), .sh (.int 0), .sh (.int 1), .ow r3, .un, .un] [5]) (δ := ([], 0)) (fun x hx => by
    obtain ⟨u, _, rfl⟩ := List.mem_map.mp hx
    exact ⟨_, .sh, bName_e, by kernel_rfl, by decide⟩)
  have m3 := fun r3 => lcD_map (b := bName 5) (f := ce__law_link_facts_3) (g := fun d => match d with | .str x => fD ((x, "in"), 1, 0) | d => d) (ds := sD a) (ρ := wip [.sh (nD m t a), .sh (.int 0), .sh (.int 1), .ow r3, .un, .un] [5]) (δ := ([], 0)) (fun x hx => by
    obtain ⟨u, _, rfl⟩ := List.mem_map.mp hx
    exact ⟨_, .sh, bName_e, by kernel_rfl, by decide⟩)
  rw [mm (fun x => fD ((x, "with"), 0, 1)) _ (fun x => rfl)] at m1
  have m2' := fun r3 => (m2 r3).trans (by rw [mm (fun x => fD ((x, "out"), 0, 1)) _ (fun x => rfl)])
  have m3' := fun r3 => (m3 r3).trans (by rw [mm (fun x => fD ((x, "in"), 1, 0)) _ (fun x => rfl)])
  have i1 : atD [D.tup (sD m), .tup (sD t), .tup (sD a)] 1 = some (.tup (sD t)) := atD1 ..
  have i2 : atD [D.tup (sD m), .tup (sD t), .tup (sD a)] 2 = some (.tup (sD a)) := by simpa using atD_nat [D.tup (sD m), .tup (sD t), .tup (sD a)] 2
  have ad1 := oAdd_lz (x := t.map fun x => fD ((x, "with"), 0, 1)) (y := a.map fun x => fD ((x, "out"), 0, 1)) (by rw [List.length_map]; omega) (by rw [List.length_map]; omega)
  have ad2 := oAdd_lz (x := (t.map fun x => fD ((x, "with"), 0, 1)) ++ a.map fun x => fD ((x, "out"), 0, 1)) (y := a.map fun x => fD ((x, "in"), 1, 0)) (by rw [List.length_append, List.length_map, List.length_map]; omega) (by rw [List.length_map]; omega)
  have fin : (t.map fun x => fD ((x, "with"), 0, 1)) ++ (a.map fun x => fD ((x, "out"), 0, 1)) ++ (a.map fun x => fD ((x, "in"), 1, 0)) = (facts0 t a).map fD := by simp [facts0, Function.comp_def]
  rw [← fin] at so
  rw [g__law_link_facts, fnP, if_pos (by rfl : ([nD m t a, D.int 0, .int 1] : List D).length = 3), h__law_link_facts]
  show (endD (hSeq _ _ [.sh (nD m t a), .sh (.int 0), .sh (.int 1), .un, .un, .un] ([], 0))).map _ = _
  have s1 : hSet 3 (fLc (sSeq (fBin oIx (fVar 0) (fC (.int 1)))) (bName 4) fYes ce__law_link_facts_1 [4]) [.sh (nD m t a), .sh (.int 0), .sh (.int 1), .un, .un, .un] ([], 0) = some (.nx, [.sh (nD m t a), .sh (.int 0), .sh (.int 1), .ow (.lst (t.map fun x => fD ((x, "with"), 0, 1))), .un, .un], ([], 0)) := by
    simp [nD, i1, z1] at m1 ⊢
    simp [m1]
  have s2 : hSet 3 (fBin oAdd (fVar 3) (fLc (sSeq (fBin oIx (fVar 0) (fC (.int 2)))) (bName 5) fYes ce__law_link_facts_2 [5])) [.sh (nD m t a), .sh (.int 0), .sh (.int 1), .ow (.lst (t.map fun x => fD ((x, "with"), 0, 1))), .un, .un] ([], 0) =
      some (.nx, [.sh (nD m t a), .sh (.int 0), .sh (.int 1), .ow (.lst ((t.map fun x => fD ((x, "with"), 0, 1)) ++ a.map fun x => fD ((x, "out"), 0, 1))), .un, .un], ([], 0)) := by
    have q := m2' (.lst (t.map fun x => fD ((x, "with"), 0, 1)))
    simp only [nD, wip, List.set_cons_succ, List.set_cons_zero] at q ⊢
    simp only [hSet_e, fBin_e, fVar_e, List.getElem?_cons_succ, List.getElem?_cons_zero, fVarK_ow, Option.bind_some, fBin1_e, fLc_e, sSeq_e, fVarK_sh, fC_e, fBin2_e, oIx_t, i2, Option.map_some, sSeq1_t, fLc1_e, z2, if_true, wip, List.set_cons_succ, List.set_cons_zero, q, ad1, hSet1_ow]
  have s3 : hRet (fCall oSorted (rCons (fBin oAdd (fVar 3) (fLc (sSeq (fBin oIx (fVar 0) (fC (.int 2)))) (bName 5) fYes ce__law_link_facts_3 [5])) rNil)) [.sh (nD m t a), .sh (.int 0), .sh (.int 1), .ow (.lst ((t.map fun x => fD ((x, "with"), 0, 1)) ++ a.map fun x => fD ((x, "out"), 0, 1))), .un, .un] ([], 0) =
      some (.rt (.lst (L.map fD)) .ow, [.sh (nD m t a), .sh (.int 0), .sh (.int 1), .ow (.lst ((t.map fun x => fD ((x, "with"), 0, 1)) ++ a.map fun x => fD ((x, "out"), 0, 1))), .un, .un], ([], 0)) := by
    have q := m3' (.lst ((t.map fun x => fD ((x, "with"), 0, 1)) ++ a.map fun x => fD ((x, "out"), 0, 1)))
    simp only [nD, wip, List.set_cons_succ, List.set_cons_zero] at q ⊢
    simp only [hRet_e, fCall_e, rCons_e, fBin_e, fVar_e, List.getElem?_cons_succ, List.getElem?_cons_zero, fVarK_ow, Option.bind_some, fBin1_e, fLc_e, sSeq_e, fVarK_sh, fC_e, fBin2_e, oIx_t, i2, Option.map_some, sSeq1_t, fLc1_e, z2, if_true, wip, List.set_cons_succ, List.set_cons_zero, q, ad2, rCons1_e, rNil_e, fCall1_e, so]
    rfl
  rw [hSeq_e, s1, Option.bind_some, hSeq1_nx, hSeq_e, s2, Option.bind_some, hSeq1_nx, s3]
  rfl
end
end W48
/-! k48: letters drawn. -/
namespace W48
open PySem PySem.Spec PyProof.Rows L2 DL LT
open LH (VD Goo k_ii k_ib k_tt)
section
variable {m t a : List Str}
theorem facts_all (h : Nms m t a) : ∀ p ∈ facts t a, p ∈ all30 ∧ p.2 ∈ tags ∧ pairOk t a p = true := fun p hp => by
  have sub : ∀ x ∈ t ++ a, x ∈ ten := fun x hx => h.sub x (List.mem_append_right _ hx)
  simp only [facts, List.mem_append, List.mem_map] at hp
  have d1 : ¬ (("out" : Str) = ("with" : Str)) := by decide
  have d2 : ¬ (("in" : Str) = ("with" : Str)) := by decide
  rcases hp with (⟨x, hx, rfl⟩ | ⟨x, hx, rfl⟩) | ⟨x, hx, rfl⟩
  · exact ⟨in30 x (sub x (List.mem_append_left _ hx)) _ (by decide), List.mem_of_elem_eq_true rfl, by simp [pairOk, hx]⟩
  · exact ⟨in30 x (sub x (List.mem_append_right _ hx)) _ (by decide), List.mem_of_elem_eq_true rfl, by simp [pairOk, hx, d1]⟩
  · exact ⟨in30 x (sub x (List.mem_append_right _ hx)) _ (by decide), List.mem_of_elem_eq_true rfl, by simp [pairOk, hx, d2]⟩
theorem map_nd {α : Type} {β : Type} {f : α → β} (hf : ∀ x y, f x = f y → x = y) {l : List α} (h : l.Nodup) : (l.map f).Nodup := by
  refine List.pairwise_map.mpr (h.imp fun hxy e => hxy (hf _ _ e))
theorem facts_nd (h : Nms m t a) : (facts t a).Nodup := by
  have h2 := (List.nodup_append.mp h.nd).2.1
  obtain ⟨nt, na, _⟩ := List.nodup_append.mp h2
  unfold facts
  refine List.nodup_append.mpr ⟨List.nodup_append.mpr ⟨map_nd (fun x y e => (Prod.mk.inj e).1) nt, map_nd (fun x y e => (Prod.mk.inj e).1) na, ?_⟩, map_nd (fun x y e => (Prod.mk.inj e).1) na, ?_⟩
  · intro p hp q hq e
    obtain ⟨x, _, rfl⟩ := List.mem_map.mp hp
    obtain ⟨y, _, rfl⟩ := List.mem_map.mp hq
    exact absurd (Prod.mk.inj e).2 (by decide)
  · intro p hp q hq e
    obtain ⟨y, _, rfl⟩ := List.mem_map.mp hq
    rcases List.mem_append.mp hp with hp | hp
    · obtain ⟨x, _, rfl⟩ := List.mem_map.mp hp
      exact absurd (Prod.mk.inj e).2 (by decide)
    · obtain ⟨x, _, rfl⟩ := List.mem_map.mp hp
      exact absurd (Prod.mk.inj e).2 (by decide)
theorem nms_len (h : Nms m t a) : m.length + (t.length + a.length) ≤ 10 := by
  have z := h.nd.length_le_of_subset (l₂ := ten) fun x hx => h.sub x hx
  rw [List.length_append, List.length_append] at z
  exact z
/-- a letter that is right for the kind, and for a kind without names wrong -/
structure LetOk (m t a : List Str) (d : D) : Prop where
  ok : g_is_part [kN m t a, .str "letter", d, .bl true] = some (.bl true, .sh)
  no : g_is_part [kN [] [] [], .str "letter", d, .bl true] = some (.bl false, .sh)
  inn : g_inner_parts [.str "letter", d] = some (.lst [], .ow)
  pl : pl 5 d = true
theorem let_mark {x : Str} (h : x ∈ m) : LetOk m t a (.tup [.str "mark", .str x]) := ⟨by rw [part_mark, decide_eq_true h], by rw [part_mark]; rfl, inner_mark, rfl⟩
theorem let_facts (h : Nms m t a) {ps : List (Str × Str)} (h0 : ps ≠ []) (hl : ps.length ≤ 1000) (hs : ∀ p ∈ ps, p ∈ facts t a) (ha : Asc ps) : LetOk m t a (.tup [.str "facts", .tup (psD ps)]) :=
  ⟨facts_ok h0 hl (fun p hp => (facts_all h p (hs p hp)).2) ha, facts_none h0 hl fun p hp => (facts_all h p (hs p hp)).2.1, inner_facts, pl_facts ps 1⟩
theorem flats_p : ∀ l : List (Str × Str), flats (psD l) = true
  | [] => rfl
  | p :: l => by
    show (DL.flat (pD p) && flats (psD l)) = true
    rw [flats_p l]
    rfl
theorem okR_p (x : D × Kd) (l : List (Str × Str)) : okR [x] (.lst (psD l)) .ow = true := by
  unfold okR
  rw [show flatK (.lst (psD l)) .ow = flats (psD l) from rfl, flats_p, Bool.or_true]
theorem link_ok (h : Nms m t a) {δ : Dr} (v : VD δ) : ∃ (ps : List (Str × Str)) (δ' : Dr), g__law_link [nD m t a] δ = some (.tup (psD ps), .sh, δ') ∧ ps ≠ [] ∧ ps.length ≤ 1000 ∧ (∀ p ∈ ps, p ∈ facts t a) ∧ Asc ps ∧ VD δ' := by
  have hn := nms_len h
  obtain ⟨L, e0, p0⟩ := link_facts_ok (m := m) (t := t) (a := a) (by omega)
  have hLen : L.length = t.length + a.length + a.length := by rw [p0.length_eq, ← facts_len, ← facts0_fst, List.length_map]
  have pf : (L.map (·.1)).Perm (facts t a) := by
    have z := p0.map (·.1)
    rw [facts0_fst] at z
    exact z
  have hF : (L.map (·.1)).length = L.length := List.length_map ..
  have hpos : 0 < L.length := by have := h.ne; omega
  have m1 := lcD_map (b := bTup (bCons (bName 4) (bCons (bName 5) bNil))) (f := fVar 4) (g := fun d => match d with | .tup (p :: _) => p | d => d) (ds := L.map fD) (ρ := wip [.dl, .sh (nD m t a), .un, .un, .un, .un] [4, 5]) (δ := δ) (fun x hx => by
    obtain ⟨u, _, rfl⟩ := List.mem_map.mp hx
    exact ⟨[.dl, .sh (nD m t a), .un, .un, .sh (pD u.1), .sh (.tup [.str u.1.1, .tup [.int u.2.1, .int u.2.2]])], .sh, by kernel_rfl, by kernel_rfl, by decide⟩)
  have mm : (L.map fD).map (fun d => match d with | .tup (p :: _) => p | d => d) = psD (L.map (·.1)) := by
    unfold psD
    rw [List.map_map, List.map_map]
    rfl
  rw [mm] at m1
  have zl : (L.map fD).length ≤ sizeLine := z_line (by rw [List.length_map]; omega)
  have s1 : hSet 2 (fLc (sSeq (fCallP g__law_link_facts (vCons (fVar 1) (vCons (fC (.int 0)) (vCons (fC (.int 1)) vNil))))) (bTup (bCons (bName 4) (bCons (bName 5) bNil))) fYes (fVar 4) [4, 5]) [.dl, .sh (nD m t a), .un, .un, .un, .un] δ = some (.nx, [.dl, .sh (nD m t a), .ow (.lst (psD (L.map (·.1)))), .un, .un, .un], δ) := by
    simp only [wip, List.set_cons_succ, List.set_cons_zero] at m1
    simp only [hSet_e, fLc_e, sSeq_e, fCallP_e, vCons_e, fVar_e, List.getElem?_cons_succ, List.getElem?_cons_zero, fVarK_sh, Option.bind_some, vCons1_e, fC_e, vNil_e, Option.map_some, fCallP1_e, List.map_cons, List.map_nil, e0, fCallP2_e, okR_sh, okR_nil, if_true, sSeq1_l, fLc1_e, zl, wip, List.set_cons_succ, List.set_cons_zero, m1, hSet1_ow]
  have hm1 := hF
  generalize hFF : L.map (·.1) = FF at pf s1 hF
  clear m1 mm zl e0 hFF
  have hn2 : FF.length = L.length := hF
  have s2 : ∃ (c : Nat) (δ2 : Dr), hSet 3 (fIf (asB (fBin oGt (fCallW 0 g__law_any (vCons (fC (.int 3)) vNil)) (fC (.int 0)))) (fBin oAdd (fC (.int 1)) (fCallW 0 g__law_any (vCons (fCall oLen (rCons (fVar 2) rNil)) vNil))) (fCall oLen (rCons (fVar 2) rNil))) [.dl, .sh (nD m t a), .ow (.lst (psD FF)), .un, .un, .un] δ =
      some (.nx, [.dl, .sh (nD m t a), .ow (.lst (psD FF)), .sh (.int (c : Nat)), .un, .un], δ2) ∧ 1 ≤ c ∧ c ≤ FF.length ∧ VD δ2 := by
    obtain ⟨r, δ1, e1, hr, v1⟩ := any_nat (n := 3) v (by decide) (by decide)
    have e1' : g__law_any [.int 3] δ = some (.int (r : Nat), .sh, δ1) := e1
    by_cases h0 : 0 < r
    · obtain ⟨r2, δ2, e2, hr2, v2⟩ := any_nat (n := FF.length) v1 (by omega) (by omega)
      refine ⟨1 + r2, δ2, ?_, by omega, by omega, v2⟩
      have d : decide ((0 : Int) < (r : Int)) = true := decide_eq_true (by omega)
      simp [e1', h0, psD_len, e2]
    · refine ⟨FF.length, δ1, ?_, by omega, Nat.le_refl _, v1⟩
      have h00 : r = 0 := by omega
      subst h00
      simp [e1', psD_len]
  obtain ⟨c, δ2, s2, hc1, hc2, v2⟩ := s2
  obtain ⟨l', δ3, e3, p3, v3⟩ := mixed_ok (f := pD) (l := FF) v2 (by omega)
  have e3' : g__law_mixed [.lst (psD FF)] δ2 = some (.lst (psD l'), .ow, δ3) := e3
  have hl' : l'.length = FF.length := p3.length_eq
  obtain ⟨r, δ4, e4, hr, v4⟩ := any_nat (n := 2) v3 (by decide) (by decide)
  have e4' : g__law_any [.int 2] δ3 = some (.int (r : Nat), .sh, δ4) := e4
  obtain ⟨c', hcc, hcc1, hcc2⟩ : ∃ c' : Nat, (if r = 0 then (c : Int) else 1) = (c' : Nat) ∧ 1 ≤ c' ∧ c' ≤ FF.length := by
    by_cases h0 : r = 0
    · exact ⟨c, by rw [if_pos h0], hc1, hc2⟩
    · exact ⟨1, by rw [if_neg h0]; rfl, Nat.le_refl _, by omega⟩
  have subs : ∀ p ∈ l'.take c', p ∈ facts t a := fun p hp => pf.mem_iff.mp (p3.mem_iff.mp (List.mem_of_mem_take hp))
  have ndl : (l'.take c').Nodup := ((p3.trans pf).nodup_iff.mpr (facts_nd h)).sublist (List.take_sublist ..)
  obtain ⟨ps, s4, p4, asc⟩ := sort_ps (l := l'.take c') (by rw [List.length_take]; omega) (fun p hp => (facts_all h p (subs p hp)).1) ndl
  have hps : ps.length = c' := by rw [p4.length_eq, List.length_take]; omega
  refine ⟨ps, δ4, ?_, ?_, by omega, fun p hp => subs p (p4.mem_iff.mp hp), asc, v4⟩
  · have cut : DL.cutD (psD l') none (some (c' : Int)) = psD (l'.take c') := (cutD_lo _ (by rw [psD_len]; omega)).trans List.map_take.symm
    rw [g__law_link, fnW, if_pos (by rfl : ([nD m t a] : List D).length = 1), h__law_link]
    show endD (hSeq _ _ [.dl, .sh (nD m t a), .un, .un, .un, .un] δ) = _
    rw [hSeq_e, s1, Option.bind_some, hSeq1_nx, hSeq_e, s2, Option.bind_some, hSeq1_nx]
    by_cases h0 : r = 0
    · rw [if_pos h0] at hcc
      rw [← hcc] at cut
      subst h0
      simp [e3', e4', cut, s4, okR_p]
    · rw [if_neg h0] at hcc
      rw [← hcc] at cut
      have h00 : ¬ ((r : Int) = 0) := by omega
      simp [e3', e4', cut, s4, h0, okR_p]
  · intro z
    rw [z] at hps
    simp at hps
    omega
end
end W48
/-! k48: letters, rows drawn. -/
namespace W48
open PySem PySem.Spec PyProof.Rows L2 DL LT
open LH (VD Goo k_ii k_ib k_tt)
section
variable {m t a : List Str}
theorem letter_step (h : Nms m t a) {δ : Dr} (v : VD δ) {n : D} {fs : List D} (hl : fs.length ≤ 1000) (x4 x5 : SV) : ∃ (d : D) (y5 : SV) (δ' : Dr), fb__law_letters_1 [.dl, .sh (nD m t a), .sh n, .ow (.lst fs), x4, x5] δ = some (.nx, [.dl, .sh (nD m t a), .sh n, .ow (.lst (fs ++ [d])), x4, y5], δ') ∧ LetOk m t a d ∧ VD δ' := by
  have i0 : atD [D.tup (sD m), .tup (sD t), .tup (sD a)] 0 = some (.tup (sD m)) := atD0 ..
  have zl : fs.length < sizeLine := Nat.lt_of_le_of_lt hl (by decide)
  have lm : (sD m).length = m.length := List.length_map ..
  have viaLink : ∀ {δ : Dr}, VD δ → ∃ (d : D) (δ' : Dr), g__law_link [nD m t a] δ = some (d, .sh, δ') ∧ LetOk m t a (.tup [.str "facts", d]) ∧ VD δ' := fun v => by
    obtain ⟨ps, δ', e, h0, hl, hs, ha, v'⟩ := link_ok h v
    exact ⟨_, δ', e, let_facts h h0 hl hs ha, v'⟩
  have e5 : ∃ (b : Bool) (δ1 : Dr), hSet 5 (fAndV (asB (fBin oGt (fCall oLen (rCons (fBin oIx (fVar 1) (fC (.int 0))) rNil)) (fC (.int 0)))) (fBin oEq (fCallW 0 g__law_any (vCons (fC (.int 3)) vNil)) (fC (.int 0)))) [.dl, .sh (nD m t a), .sh n, .ow (.lst fs), x4, x5] δ = some (.nx, [.dl, .sh (nD m t a), .sh n, .ow (.lst fs), x4, .sh (.bl b)], δ1) ∧ (b = true → m ≠ []) ∧ VD δ1 := by
    by_cases hm : m = []
    · refine ⟨false, δ, ?_, (fun z => by cases z), v⟩
      subst hm
      have l0 : (sD ([] : List Str)).length = 0 := rfl
      simp [nD, atD0, l0]
    · obtain ⟨r, δ1, e1, hr, v1⟩ := any_nat (n := 3) v (by decide) (by decide)
      have e1' : g__law_any [.int 3] δ = some (.int (r : Nat), .sh, δ1) := e1
      refine ⟨decide ((r : Int) = 0), δ1, ?_, fun _ => hm, v1⟩
      have hp : 0 < m.length := List.length_pos_iff.mpr hm
      simp [nD, atD0, lm, hp, e1']
  obtain ⟨b, δ1, e5, hb, v1⟩ := e5
  cases b with
  | true =>
    have hm := hb rfl
    obtain ⟨d, δ2, e2, hd, v2⟩ := LH.of_ok (ds := sD m) v1 (by intro z; exact hm (List.map_eq_nil_iff.mp z)) (by rw [lm]; have := nms_len h; omega)
    obtain ⟨x, hx, rfl⟩ := List.mem_map.mp hd
    rw [← of_is] at e2
    refine ⟨.tup [.str "mark", .str x], .sh (.bl true), δ2, ?_, let_mark hx, v2⟩
    rw [fb__law_letters_1, hSeq_e, e5]
    simp [nD, atD0, e2, zl]
  | false =>
    obtain ⟨d, δ2, e2, hd, v2⟩ := viaLink v1
    refine ⟨_, .sh (.bl false), δ2, ?_, hd, v2⟩
    rw [fb__law_letters_1, hSeq_e, e5]
    simp [e2, zl]
theorem letters_ok (h : Nms m t a) {δ : Dr} (v : VD δ) {n : Nat} (hn : n ≤ 100) : ∃ (ls : List D) (δ' : Dr), g__law_letters [nD m t a, .int (n : Nat)] δ = some (.tup ls, .sh, δ') ∧ ls.length = n ∧ (∀ d ∈ ls, LetOk m t a d) ∧ VD δ' := by
  have r0 : sRng1k ([.int (n : Nat)], δ) = some (rng 0 n, .sh, δ) := sRng1k_ok (by omega)
  obtain ⟨ρ', δ', e, fs, x4, x5, rfl, hf, hl, v'⟩ := forD_inv (b := bName 4) (h := fb__law_letters_1) (ds := rng 0 n) (ρ := [.dl, .sh (nD m t a), .sh (.int (n : Nat)), .ow (.lst []), .un, .un]) (δ := δ)
    (fun xs ρ δ => ∃ (fs : List D) (x4 x5 : SV), ρ = [.dl, .sh (nD m t a), .sh (.int (n : Nat)), .ow (.lst fs), x4, x5] ∧ (∀ d ∈ fs, LetOk m t a d) ∧ fs.length + xs.length = n ∧ VD δ) (fun x xs ρ δ I => by
      obtain ⟨fs, x4, x5, rfl, hf, hl, v⟩ := I
      rw [List.length_cons] at hl
      obtain ⟨d, y5, δ', e, hd, v'⟩ := letter_step h v (n := .int (n : Nat)) (fs := fs) (by omega) (.sh x) x5
      exact ⟨_, _, δ', bName_e, e, fs ++ [d], _, _, rfl, fun y hy => (List.mem_append.mp hy).elim (hf y) (fun z => by rw [List.mem_singleton.mp z]; exact hd), by rw [List.length_append]; simp only [List.length_cons, List.length_nil]; omega, v'⟩) ⟨[], .un, .un, rfl, (fun d hd => by cases hd), by unfold rng; simp, v⟩
  refine ⟨fs, δ', ?_, by simpa using hl, hf, v'⟩
  simp [g__law_letters, h__law_letters, r0, e]
/-! ### a row drawn -/
/-- a part is right for the names -/
def EnOk (m t a : List Str) : En → Prop
  | .ls w n => (w = "plus" ∨ w = "times") ∧ 2 ≤ n
  | .nu d => g_is_fraction [d] = some (.bl true, .sh) ∧ pl 5 d = true
  | .tr _ => True
  | .le d => LetOk m t a d
/-- n programs are still awaited behind r -/
def Pre (r : List En) (n : Nat) : Prop := ∀ r', Fits (List.replicate n "program") r' → Fits ["program"] (r ++ r')
theorem pre_0 : Pre [] 1 := fun r' h => h
theorem pre_list {r : List En} {n k : Nat} {w : Str} (h : Pre r (n + 1)) : Pre (r ++ [.ls w k]) (k + n) := fun r' h' => by
  rw [List.append_assoc]
  refine h _ ?_
  show Fits ("program" :: List.replicate n "program") (.ls w k :: r')
  refine Fits.cons (e := .ls w k) ?_
  show Fits (List.replicate k ("program" : Str) ++ List.replicate n ("program" : Str)) r'
  rw [List.replicate_append_replicate]
  exact h'
theorem pre_num {r : List En} {n : Nat} {d : D} (h : Pre r (n + 1)) : Pre (r ++ [.nu d]) n := fun r' h' => by
  rw [List.append_assoc]
  refine h _ ?_
  show Fits ("program" :: List.replicate n "program") (.nu d :: r')
  exact Fits.cons (e := .nu d) h'
theorem fits_letters {ss : List Str} {r' : List En} (h : Fits ss r') : ∀ ls : List D, Fits (List.replicate ls.length ("letter" : Str) ++ ss) (ls.map .le ++ r')
  | [] => h
  | d :: ls => by
    show Fits ("letter" :: (List.replicate ls.length ("letter" : Str) ++ ss)) (.le d :: (ls.map .le ++ r'))
    exact Fits.cons (e := .le d) (fits_letters h ls)
theorem pre_trace {r : List En} {n : Nat} {ls : List D} (h : Pre r (n + 1)) : Pre (r ++ (.tr ls.length :: ls.map .le)) n := fun r' h' => by
  rw [List.append_assoc]
  refine h _ ?_
  show Fits ("program" :: List.replicate n "program") (.tr ls.length :: (ls.map .le ++ r'))
  exact Fits.cons (e := .tr ls.length) (fits_letters h' ls)
theorem nls_app (r s : List En) : nls (r ++ s) = nls r + nls s := by
  induction r with
  | nil => simp [nls]
  | cons e r ih => cases e <;> simp [nls, ih] <;> omega
theorem nls_le (r : List En) : nls r ≤ r.length := by
  induction r with
  | nil => simp [nls]
  | cons e r ih => cases e <;> simp [nls] <;> omega
theorem nls_let (ls : List D) : nls (ls.map .le) = 0 := by
  induction ls with
  | nil => rfl
  | cons d ls ih => exact ih
/-- what is drawn so far: left programs are awaited -/
structure RI (m t a : List Str) (r : List En) (left : Nat) : Prop where
  pre : Pre r left
  ok : ∀ e ∈ r, EnOk m t a e
  ls : nls r ≤ 6
  len : r.length + 8 * (left + 4 * (6 - min r.length 6)) ≤ 200
theorem ri_0 : RI m t a [] 1 := ⟨pre_0, (fun e he => by cases he), by decide, by decide⟩
theorem ri_list {r : List En} {n k : Nat} {w : Str} (h : RI m t a r (n + 1)) (hw : w = "plus" ∨ w = "times") (hk : 2 ≤ k) (hk3 : k ≤ 3) (hl : r.length < 6) : RI m t a (r ++ [.ls w k]) (k + n) where
  pre := pre_list h.pre
  ok := fun e he => (List.mem_append.mp he).elim (h.ok e) fun z => by rw [List.mem_singleton.mp z]; exact ⟨hw, hk⟩
  ls := by
    rw [nls_app]
    have := nls_le r
    show nls r + 1 ≤ 6
    omega
  len := by
    have := h.len
    rw [List.length_append]
    simp only [List.length_cons, List.length_nil]
    omega
theorem ri_num {r : List En} {n : Nat} {d : D} (h : RI m t a r (n + 1)) (hf : g_is_fraction [d] = some (.bl true, .sh)) (hp : pl 5 d = true) : RI m t a (r ++ [.nu d]) n where
  pre := pre_num h.pre
  ok := fun e he => (List.mem_append.mp he).elim (h.ok e) fun z => by rw [List.mem_singleton.mp z]; exact ⟨hf, hp⟩
  ls := by
    rw [nls_app]
    exact h.ls
  len := by
    have := h.len
    rw [List.length_append]
    simp only [List.length_cons, List.length_nil]
    omega
theorem ri_trace {r : List En} {n : Nat} {ls : List D} (h : RI m t a r (n + 1)) (hd : ∀ d ∈ ls, LetOk m t a d) (hl : ls.length ≤ 7) : RI m t a (r ++ (.tr ls.length :: ls.map .le)) n where
  pre := pre_trace h.pre
  ok := fun e he => (List.mem_append.mp he).elim (h.ok e) fun z => by
    rcases List.mem_cons.mp z with rfl | z
    · trivial
    · obtain ⟨d, hd', rfl⟩ := List.mem_map.mp z
      exact hd d hd'
  ls := by
    rw [nls_app]
    show nls r + nls (ls.map .le) ≤ 6
    rw [nls_let]
    exact h.ls
  len := by
    have := h.len
    rw [List.length_append, List.length_cons, List.length_map]
    omega
end
end W48
/-! k48: a row drawn whole. -/
namespace W48
open PySem PySem.Spec PyProof.Rows L2 DL LT
open LH (VD Goo k_ii k_ib k_tt)
section
variable {m t a : List Str}
theorem low_ok2 {δ : Dr} (v : VD δ) : ∃ (d : D) (δ' : Dr), fCallP g__law_low (vCons (fBin oSub (fCallW 0 g__law_any (vCons (fC (.int 9)) vNil)) (fC (.int 4))) (vCons (fBin oAdd (fC (.int 1)) (fCallW 0 g__law_any (vCons (fC (.int 3)) vNil))) vNil)) (.dl :: ρ0) δ = some (d, .sh, δ') ∧ g_is_fraction [d] = some (.bl true, .sh) ∧ pl 5 d = true ∧ VD δ' := by
  obtain ⟨i, δ1, e1, hi, v1⟩ := any_nat (n := 9) v (by decide) (by decide)
  obtain ⟨j, δ2, e2, hj, v2⟩ := any_nat (n := 3) v1 (by decide) (by decide)
  have e1' : g__law_any [.int 9] δ = some (.int (i : Nat), .sh, δ1) := e1
  have e2' : g__law_any [.int 3] δ1 = some (.int (j : Nat), .sh, δ2) := e2
  have hi' : (i : Int) ∈ ([0, 1, 2, 3, 4, 5, 6, 7, 8] : List Int) := by
    simp only [List.mem_cons, List.not_mem_nil, or_false]
    omega
  have hj' : (j : Int) ∈ ([0, 1, 2] : List Int) := by
    simp only [List.mem_cons, List.not_mem_nil, or_false]
    omega
  obtain ⟨l1, l2⟩ := low_ok _ hi' _ hj'
  refine ⟨_, δ2, ?_, l2, rfl, v2⟩
  simp [e1', e2', l1]
theorem row_step (h : Nms m t a) {r : List En} {n : Nat} (I : RI m t a r (n + 1)) {δ : Dr} (v : VD δ) (x4 x5 x6 x7 : SV) : ∃ (r' : List En) (n' : Nat) (y4 y5 y6 y7 : SV) (δ' : Dr), wb__law_row_of_1 [.dl, .sh (nD m t a), .ow (.lst (r.map rowD)), .sh (.int ((n + 1 : Nat) : Int)), x4, x5, x6, x7] δ = some (.nx, [.dl, .sh (nD m t a), .ow (.lst (r'.map rowD)), .sh (.int (n' : Nat)), y4, y5, y6, y7], δ') ∧ RI m t a r' n' ∧ n' + 4 * (6 - min r'.length 6) < n + 1 + 4 * (6 - min r.length 6) ∧ VD δ' := by
  have hlen := I.len
  have rl : (r.map rowD).length = r.length := List.length_map ..
  have z1000 : (r.map rowD).length < sizeLine := Nat.lt_of_le_of_lt (by rw [rl]; omega : (r.map rowD).length ≤ 1000) (by decide)
  have z' : r.length < sizeLine := by rw [← rl]; exact z1000
  have s1 : hSet 3 (fBin oSub (fVar 3) (fC (.int 1))) [.dl, .sh (nD m t a), .ow (.lst (r.map rowD)), .sh (.int ((n + 1 : Nat) : Int)), x4, x5, x6, x7] δ = some (.nx, [.dl, .sh (nD m t a), .ow (.lst (r.map rowD)), .sh (.int (n : Nat)), x4, x5, x6, x7], δ) := by
    have e : ((n + 1 : Nat) : Int) - 1 = (n : Int) := by omega
    simp only [hSet_e, fBin_e, fVar_e, List.getElem?_cons_succ, List.getElem?_cons_zero, fVarK_sh, Option.bind_some, fBin1_e, fC_e, fBin2_e, oSub_i, Option.map_some, hSet1_sh, List.set_cons_succ, List.set_cons_zero, e]
  have s2 : ∃ (z : Nat) (δ1 : Dr), hSet 4 (fIf (asB (fBin oLt (fCall oLen (rCons (fVar 2) rNil)) (fC (.int 8)))) (fCallW 0 g__law_any (vCons (fC (.int 6)) vNil)) (fC (.int 5))) [.dl, .sh (nD m t a), .ow (.lst (r.map rowD)), .sh (.int (n : Nat)), x4, x5, x6, x7] δ = some (.nx, [.dl, .sh (nD m t a), .ow (.lst (r.map rowD)), .sh (.int (n : Nat)), .sh (.int (z : Nat)), x5, x6, x7], δ1) ∧ VD δ1 := by
    by_cases c : r.length < 8
    · obtain ⟨z, δ1, e1, _, v1⟩ := any_nat (n := 6) v (by decide) (by decide)
      have e1' : g__law_any [.int 6] δ = some (.int (z : Nat), .sh, δ1) := e1
      have d : ((r.length : Int) < 8) := by omega
      exact ⟨z, δ1, by simp [rl, d, e1'], v1⟩
    · have d : ¬ ((r.length : Int) < 8) := by omega
      exact ⟨5, δ, by simp [rl, d], v⟩
  obtain ⟨z, δ1, s2, v1⟩ := s2
  rw [wb__law_row_of_1, hSeq_e, s1, Option.bind_some, hSeq1_nx, hSeq_e, s2, Option.bind_some, hSeq1_nx]
  clear s1 s2
  by_cases c1 : z < 2 ∧ r.length < 6
  · obtain ⟨c, c'⟩ := c1
    obtain ⟨k, δ2, e2, hk, v2⟩ := any_nat (n := 2) v1 (by decide) (by decide)
    have e2' : g__law_any [.int 2] δ1 = some (.int (k : Nat), .sh, δ2) := e2
    obtain ⟨w, δ3, e3, hw, v3⟩ := LH.of_ok (ds := [.str "plus", .str "times"]) v2 (by simp) (by decide)
    rw [← of_is] at e3
    obtain ⟨ws, rfl, hws⟩ : ∃ ws : Str, w = .str ws ∧ (ws = "plus" ∨ ws = "times") := by
      simp only [List.mem_cons, List.not_mem_nil, or_false] at hw
      rcases hw with rfl | rfl
      · exact ⟨_, rfl, .inl rfl⟩
      · exact ⟨_, rfl, .inr rfl⟩
    have d1 : (z : Int) < 2 := by omega
    have d2 : (r.length : Int) < 6 := by omega
    refine ⟨r ++ [.ls ws (2 + k)], 2 + k + n, .sh (.int (z : Nat)), .sh (.int (2 + (k : Int))), x6, x7, δ3, ?_, ri_list I hws (by omega) (by omega) c', ?_, v3⟩
    · have en : ((2 + k + n : Nat) : Int) = (n : Int) + (2 + (k : Int)) := by omega
      rw [en]
      simp [d1, d2, e2', e3, z', rowD]
    · rw [List.length_append]
      simp only [List.length_cons, List.length_nil]
      omega
  · have nc : fAnd (asB (fBin oLt (fVar 4) (fC (.int 2)))) (asB (fBin oLt (fCall oLen (rCons (fVar 2) rNil)) (fC (.int 6)))) [.dl, .sh (nD m t a), .ow (.lst (r.map rowD)), .sh (.int (n : Nat)), .sh (.int (z : Nat)), x5, x6, x7] δ1 = some (false, δ1) := by
      by_cases c : z < 2
      · have d1 : (z : Int) < 2 := by omega
        have d2 : ¬ ((r.length : Int) < 6) := by omega
        simp [d1, d2, rl, c]
      · have d1 : ¬ ((z : Int) < 2) := by omega
        simp [d1, c]
    rw [hIf_e, nc, Option.bind_some, hIf1_f]
    clear nc c1
    by_cases c2 : z = 2
    · subst c2
      obtain ⟨d, δ2, e2, hf, hp, v2⟩ := low_ok2 (ρ0 := [.sh (nD m t a), .ow (.lst (r.map rowD)), .sh (.int (n : Nat)), .sh (.int (2 : Nat)), x5, x6, x7]) v1
      refine ⟨r ++ [.nu d], n, .sh (.int (2 : Nat)), x5, x6, x7, δ2, ?_, ri_num I hf hp, ?_, v2⟩
      · have c : asB (fBin oEq (fVar 4) (fC (.int 2))) [.dl, .sh (nD m t a), .ow (.lst (r.map rowD)), .sh (.int (n : Nat)), .sh (.int (2 : Nat)), x5, x6, x7] δ1 = some (true, δ1) := by simp
        rw [hIf_e, c, Option.bind_some, hIf1_t, hApp_e]
        simp only [List.getElem?_cons_succ, List.getElem?_cons_zero, hApp1_e, fTup_e, aCons_e, fC_e, Option.bind_some, aCons1_sh, e2, aNil_e, Option.map_some, fTup1_z, List.length_cons, List.length_nil, hApp2_sh, z1000, if_true, List.set_cons_succ, List.set_cons_zero, List.map_append, List.map_cons, List.map_nil, rowD]
        rw [fTup1_z (by simp only [List.length_cons, List.length_nil]; omega), Option.bind_some, hApp2_sh, if_pos z1000]
        rfl
      · rw [List.length_append]
        simp only [List.length_cons, List.length_nil]
        omega
    · obtain ⟨k, δ2, e2, hk, v2⟩ : ∃ (k : Nat) (δ2 : Dr), g__law_any [.int (if r.length < 4 then 8 else 3)] δ1 = some (.int (k : Nat), .sh, δ2) ∧ k < 8 ∧ VD δ2 := by
        by_cases c : r.length < 4
        · obtain ⟨k, δ2, e, hk, v2⟩ := any_nat (n := 8) v1 (by decide) (by decide)
          exact ⟨k, δ2, by rw [if_pos c]; exact e, hk, v2⟩
        · obtain ⟨k, δ2, e, hk, v2⟩ := any_nat (n := 3) v1 (by decide) (by decide)
          exact ⟨k, δ2, by rw [if_neg c]; exact e, by omega, v2⟩
      obtain ⟨ls, δ3, e3, hl, hd, v3⟩ := letters_ok h v2 (n := k) (by omega)
      have rn : (r ++ (En.tr ls.length :: ls.map En.le)).map rowD = r.map rowD ++ [.tup [.str "trace", .non, .int (ls.length : Nat)]] ++ ls.map fun d => .tup [.str "letter", d, .int 0] := by
        simp [rowD, Function.comp_def]
      refine ⟨r ++ (.tr ls.length :: ls.map .le), n, .sh (.int (z : Nat)), x5, .sh (.tup ls), x7, δ3, ?_, ri_trace I hd (by omega), ?_, v3⟩
      · have c : asB (fBin oEq (fVar 4) (fC (.int 2))) [.dl, .sh (nD m t a), .ow (.lst (r.map rowD)), .sh (.int (n : Nat)), .sh (.int (z : Nat)), x5, x6, x7] δ1 = some (false, δ1) := by
          have : ¬ ((z : Int) = 2) := by omega
          simp [this]
        have s6 : hSet 6 (fCallW 0 g__law_letters (vCons (fVar 1) (vCons (fCallW 0 g__law_any (vCons (fIf (asB (fBin oLt (fCall oLen (rCons (fVar 2) rNil)) (fC (.int 4)))) (fC (.int 8)) (fC (.int 3))) vNil)) vNil))) [.dl, .sh (nD m t a), .ow (.lst (r.map rowD)), .sh (.int (n : Nat)), .sh (.int (z : Nat)), x5, x6, x7] δ1 = some (.nx, [.dl, .sh (nD m t a), .ow (.lst (r.map rowD)), .sh (.int (n : Nat)), .sh (.int (z : Nat)), x5, .sh (.tup ls), x7], δ3) := by
          by_cases c4 : r.length < 4
          · have c4' : (r.length : Int) < 4 := by omega
            rw [if_pos c4] at e2
            simp [rl, c4, c4', e2, e3]
          · have c4' : ¬ (r.length : Int) < 4 := by omega
            rw [if_neg c4] at e2
            simp [rl, c4, c4', e2, e3]
        have zt : ls.length ≤ sizeLine := z_line (by omega)
        have m1 := lcD_map (b := bName 7) (f := ce__law_row_of_1) (g := fun d => .tup [.str "letter", d, .int 0]) (ds := ls) (ρ := wip [.dl, .sh (nD m t a), .ow (.lst (r.map rowD ++ [.tup [.str "trace", .non, .int (ls.length : Nat)]])), .sh (.int (n : Nat)), .sh (.int (z : Nat)), x5, .sh (.tup ls), x7] [7]) (δ := δ3) (fun x hx => ⟨_, .sh, bName_e, by simp [ce__law_row_of_1, wip], by decide⟩)
        have ad := oAdd_lz (x := r.map rowD ++ [.tup [.str "trace", .non, .int (ls.length : Nat)]]) (y := ls.map fun d => .tup [.str "letter", d, .int 0]) (by rw [List.length_append, rl]; simp only [List.length_cons, List.length_nil]; omega) (by rw [List.length_map]; omega)
        rw [rn, hIf_e, c, Option.bind_some, hIf1_f, hSeq_e, s6, Option.bind_some, hSeq1_nx]
        simp only [wip, List.set_cons_succ, List.set_cons_zero] at m1
        simp [z', zt, wip, m1, ad]
      · rw [List.length_append, List.length_cons]
        omega
theorem row_ok (h : Nms m t a) {δ : Dr} (v : VD δ) : ∃ (r : List En) (δ' : Dr), g__law_row_of [nD m t a] δ = some (.lst (r.map rowD), .ow, δ') ∧ Fits ["program"] r ∧ (∀ e ∈ r, EnOk m t a e) ∧ nls r ≤ 6 ∧ r.length ≤ 200 ∧ 0 < r.length ∧ VD δ' := by
  obtain ⟨ρ', δ', e, r, y4, y5, y6, y7, rfl, I, v'⟩ := whD_inv (c := wt__law_row_of_1) (h := wb__law_row_of_1) (fun ρ δ => ∃ (r : List En) (n : Nat) (y4 y5 y6 y7 : SV), ρ = [.dl, .sh (nD m t a), .ow (.lst (r.map rowD)), .sh (.int (n : Nat)), y4, y5, y6, y7] ∧ RI m t a r n ∧ VD δ)
    (fun ρ _ => match (ρ[2]? : Option SV), (ρ[3]? : Option SV) with | some (SV.ow (D.lst xs)), some (SV.sh (D.int l)) => l.toNat + 4 * (6 - min xs.length 6) | _, _ => 0)
    (fun ρ δ => ∃ (r : List En) (y4 y5 y6 y7 : SV), ρ = [.dl, .sh (nD m t a), .ow (.lst (r.map rowD)), .sh (.int (0 : Nat)), y4, y5, y6, y7] ∧ RI m t a r 0 ∧ VD δ) (fun ρ δ i => by
      obtain ⟨r, n, y4, y5, y6, y7, rfl, I, v⟩ := i
      cases n with
      | zero => exact .inl ⟨δ, by simp [wt__law_row_of_1], r, _, _, _, _, rfl, I, v⟩
      | succ n =>
        obtain ⟨r', n', z4, z5, z6, z7, δ', e, I', hm, v'⟩ := row_step h I v y4 y5 y6 y7
        refine .inr ⟨δ, _, δ', ?_, e, ⟨r', n', _, _, _, _, rfl, I', v'⟩, ?_⟩
        · have : (0 : Int) < ((n + 1 : Nat) : Int) := by omega
          simp only [wt__law_row_of_1, asB_e, fBin_e, fVar_e, List.getElem?_cons_succ, List.getElem?_cons_zero, fVarK_sh, Option.bind_some, fBin1_e, fC_e, fBin2_e, oGt_i, this, decide_true, Option.map_some, asB1_e]
        · show Int.toNat (n' : Int) + 4 * (6 - min (r'.map rowD).length 6) < Int.toNat ((n + 1 : Nat) : Int) + 4 * (6 - min (r.map rowD).length 6)
          rw [List.length_map, List.length_map]
          omega) (n := turns) (ρ := [.dl, .sh (nD m t a), .ow (.lst []), .sh (.int (1 : Nat)), .un, .un, .un, .un]) (δ := δ) ⟨[], 1, _, _, _, _, rfl, ri_0, v⟩ (by show (25 : Nat) < turns; decide)
  refine ⟨r, δ', ?_, ?_, I.ok, I.ls, by have := I.len; omega, ?_, v'⟩
  · have e' : whD wt__law_row_of_1 wb__law_row_of_1 turns [.dl, .sh (nD m t a), .ow (.lst []), .sh (.int 1), .un, .un, .un, .un] δ = _ := e
    simp [g__law_row_of, h__law_row_of, e']
  · have z := I.pre [] .nil
    rw [List.append_nil] at z
    exact z
  · cases r with
    | nil =>
      have z := fits_le (I.pre [] .nil)
      exact absurd z (by decide)
    | cons e r => simp
end
end W48
/-! k48: the odd parts. -/
namespace W48
open PySem PySem.Spec PyProof.Rows L2 DL LT
open LH (VD Goo k_ii k_ib k_tt)
section
variable {m t a : List Str}
theorem lc_str {ρ : Rho} {δ : Dr} {i : Int} {j : Nat} {ce : EF} {l : List Str} {f : Str → D} (h2 : ρ[2]? = some (.sh (nD m t a))) (hi : atD [D.tup (sD m), .tup (sD t), .tup (sD a)] i = some (.tup (sD l))) (hl : l.length ≤ 1000)
    (hce : ∀ x, ce ((wip ρ [j]).set j (.sh (.str x))) δ = some (f x, .sh, δ)) : fLc (sSeq (fBin oIx (fVar 2) (fC (.int i)))) (bName j) fYes ce [j] ρ δ = some (.lst (l.map f), .ow, δ) := by
  have zl : (sD l).length ≤ sizeLine := z_line (by unfold sD; rw [List.length_map]; omega)
  have m1 := lcD_map (b := bName j) (f := ce) (g := fun d => match d with | .str x => f x | d => d) (ds := sD l) (ρ := wip ρ [j]) (δ := δ) (fun x hx => by
    obtain ⟨u, _, rfl⟩ := List.mem_map.mp hx
    exact ⟨_, .sh, bName_e, hce u, by decide⟩)
  have mm : (sD l).map (fun d => match d with | .str x => f x | d => d) = l.map f := by
    unfold sD
    rw [List.map_map]
    rfl
  rw [mm] at m1
  have ix : oIx (nD m t a) (.int i) = some (.tup (sD l), .sh) := by
    show (atD [D.tup (sD m), .tup (sD t), .tup (sD a)] i).map _ = _
    rw [hi]
    rfl
  simp only [fLc_e, sSeq_e, fBin_e, fVar_e, h2, fVarK_sh, Option.bind_some, fBin1_e, fC_e, fBin2_e, ix, Option.map_some, sSeq1_t, fLc1_e, zl, if_true, m1]
def mkF (ps : List (Str × Str)) : D := .tup [.str "facts", .tup (psD ps)]
def oL0 : List D := [.non, .int 0, .str "mark", .tup [], .tup [.str "mark", .str "nomark"], .tup [.str "mark", .tup [.str "red"]], .tup [.str "mark"], .tup [.str "facts", .tup []], mkF [("nofact", "with")],
  .tup [.str "facts", .lst [.tup [.str "k", .str "with"]]], .tup [.str "not", .tup [.str "facts", .tup []]], .tup [.str "number", .tup [.int 1, .int 1]], .tup [.str "trace", .tup []], .tup [.str "one"]]
def oL1 (t a : List Str) : List D := oL0 ++ t.map (fun x => mkF [(x, "out")]) ++ a.map (fun x => mkF [(x, "with")])
def oL2 (m t a : List Str) : List D := oL1 t a ++ a.map (fun x => mkF [(x, "out"), (x, "in")]) ++ m.map (fun x => mkF [(x, "with")]) ++ t.map (fun x => .tup [.str "mark", .str x])
def oL3 (m t a : List Str) : List D := oL2 m t a ++ a.map (fun x => mkF [(x, "in"), (x, "in")])
/-- a part that is wrong in its place -/
structure Odd (m t a : List Str) (s : Str) (d : D) : Prop where
  no : g_is_part [kN m t a, .str s, d, .bl true] = some (.bl false, .sh)
  pl : pl 7 d = true
theorem oddP_pl : ∀ d ∈ oddP, pl 7 d = true := by
  intro d hd
  simp only [oddP, List.mem_cons, List.not_mem_nil, or_false] at hd
  rcases hd with rfl | rfl | rfl | rfl | rfl | rfl | rfl | rfl | rfl | rfl | rfl | rfl | rfl | rfl <;> rfl
theorem oddL0_pl : ∀ d ∈ oddL0, pl 7 d = true := by
  intro d hd
  simp only [oddL0, List.mem_cons, List.not_mem_nil, or_false] at hd
  rcases hd with rfl | rfl | rfl | rfl | rfl | rfl | rfl | rfl | rfl | rfl | rfl | rfl <;> rfl
theorem odd_p (d : D) (h : d ∈ oddP) : Odd m t a "program" d := ⟨oddP_no _ _ _ d h, oddP_pl d h⟩
theorem lt_oi : ∀ x ∈ ten, ltD (pD (x, "out")) (pD (x, "in")) = false := by decide +kernel
theorem lt_ii : ∀ x ∈ ten, ltD (pD (x, "in")) (pD (x, "in")) = false := by decide +kernel
theorem mem_tag {p : Str × Str} {w : Str} (h : p.2 = w) (hw : w ∈ tags) : p.2 ∈ tags := by rw [h]; exact hw
theorem t_with : ("with" : Str) ∈ tags := by decide
theorem t_out : ("out" : Str) ∈ tags := by decide
theorem t_in : ("in" : Str) ∈ tags := by decide
theorem odd_pair {p : Str × Str} (hp : p.2 ∈ tags) (h : pairOk t a p = false) : Odd m t a "letter" (mkF [p]) := ⟨by
  have z := one_pair (m := m) (t := t) (a := a) p hp
  rw [h] at z
  exact z, pl_facts [p] 3⟩
theorem odd_two {p q : Str × Str} (hp : p.2 ∈ tags) (hq : q.2 ∈ tags) (h : ltD (pD p) (pD q) = false) : Odd m t a "letter" (mkF [p, q]) := ⟨two_pairs p q hp hq h, pl_facts [p, q] 3⟩
theorem odd_mark {x : Str} (h : x ∉ m) : Odd m t a "letter" (.tup [.str "mark", .str x]) := ⟨by rw [part_mark, decide_eq_false h], rfl⟩
theorem not_ow : ¬ (("out" : Str) = ("with" : Str)) := by decide
theorem odd_l (h : Nms m t a) : ∀ d ∈ oL3 m t a, Odd m t a "letter" d := fun d hd => by
  obtain ⟨_, nd2, dm⟩ := List.nodup_append.mp h.nd
  obtain ⟨_, _, dta⟩ := List.nodup_append.mp nd2
  have subm : ∀ x ∈ m, x ∈ ten := fun x hx => h.sub x (List.mem_append_left _ hx)
  have subt : ∀ x ∈ t, x ∈ ten := fun x hx => h.sub x (List.mem_append_right _ (List.mem_append_left _ hx))
  have suba : ∀ x ∈ a, x ∈ ten := fun x hx => h.sub x (List.mem_append_right _ (List.mem_append_right _ hx))
  simp only [oL3, oL2, oL1, List.mem_append, List.mem_map] at hd
  rcases hd with ((((((hd | ⟨x, hx, rfl⟩) | ⟨x, hx, rfl⟩) | ⟨x, hx, rfl⟩) | ⟨x, hx, rfl⟩) | ⟨x, hx, rfl⟩) | ⟨x, hx, rfl⟩)
  · have h0 : d ∈ oddL0 ∨ d = .tup [.str "mark", .str "nomark"] ∨ d = mkF [("nofact", "with")] := by
      simp only [oL0, oddL0, List.mem_cons, List.not_mem_nil, or_false] at hd ⊢
      rcases hd with hd | hd | hd | hd | hd | hd | hd | hd | hd | hd | hd | hd | hd | hd <;> simp [hd]
    rcases h0 with h0 | rfl | rfl
    · exact ⟨oddL0_no _ _ _ d h0, oddL0_pl d h0⟩
    · exact odd_mark fun z => absurd (subm _ z) (by decide)
    · exact odd_pair t_with (by
        have z : ("nofact" : Str) ∉ t := fun z => absurd (subt _ z) (by decide)
        simp [pairOk, z])
  · exact odd_pair t_out (by
      have z : x ∉ a := fun z => dta x hx x z rfl
      simp [pairOk, z, not_ow])
  · exact odd_pair t_with (by
      have z : x ∉ t := fun z => dta x z x hx rfl
      simp [pairOk, z])
  · exact odd_two t_out t_in (lt_oi x (suba x hx))
  · exact odd_pair t_with (by
      have z : x ∉ t := fun z => dm x hx x (List.mem_append_left _ z) rfl
      simp [pairOk, z])
  · exact odd_mark fun z => dm x z x (List.mem_append_left _ hx) rfl
  · exact odd_two t_in t_in (lt_ii x (suba x hx))
end
end W48
/-! k48: the odd parts drawn. -/
namespace W48
open PySem PySem.Spec PyProof.Rows L2 DL LT
open LH (VD Goo k_ii k_ib k_tt)
section
variable {m t a : List Str}
theorem odd_split : ∃ A B L1 L2 : HF', h__law_odd = hSeq A (hSeq B (hSeq (hIf (asB (fBin oEq (fVar 1) (fC (.str "letter")))) (hSeq L1 (hSeq L2 (hSeq (hSet 3 (fBin oAdd (fBin oAdd (fVar 3) (fLc (sSeq (fBin oIx (fVar 2) (fC (.int 1)))) (bName 4) fYes ce__law_odd_1 [4])) (fLc (sSeq (fBin oIx (fVar 2) (fC (.int 2)))) (bName 5) fYes ce__law_odd_2 [5])))
    (hSeq (hSet 3 (fBin oAdd (fBin oAdd (fBin oAdd (fVar 3) (fLc (sSeq (fBin oIx (fVar 2) (fC (.int 2)))) (bName 5) fYes ce__law_odd_3 [5])) (fLc (sSeq (fBin oIx (fVar 2) (fC (.int 0)))) (bName 6) fYes ce__law_odd_4 [6])) (fLc (sSeq (fBin oIx (fVar 2) (fC (.int 1)))) (bName 4) fYes ce__law_odd_5 [4])))
    (hRet (fCallW 0 g__law_of (vCons (fBin oAdd (fVar 3) (fLc (sSeq (fBin oIx (fVar 2) (fC (.int 2)))) (bName 5) fYes ce__law_odd_6 [5])) vNil))))))) hNil) (hFrz 3 (hRet (fCallW 0 g__law_of (vCons (fVar 3) vNil)))))) ∧
    ∃ y1, (∀ (w n : D) (δ : Dr), A [.dl, .sh w, .sh n, .un, .un, .un, .un] δ = some (.nx, [.dl, .sh w, .sh n, y1, .un, .un, .un], δ)) ∧ (∀ (w n : D) (δ : Dr), B [.dl, .sh w, .sh n, y1, .un, .un, .un] δ = some (.nx, [.dl, .sh w, .sh n, .ow (.lst oddP), .un, .un, .un], δ)) ∧
    ∃ y2, (∀ (w n : D) (y : SV) (δ : Dr), L1 [.dl, .sh w, .sh n, y, .un, .un, .un] δ = some (.nx, [.dl, .sh w, .sh n, y2, .un, .un, .un], δ)) ∧ (∀ (w n : D) (δ : Dr), L2 [.dl, .sh w, .sh n, y2, .un, .un, .un] δ = some (.nx, [.dl, .sh w, .sh n, .ow (.lst oL0), .un, .un, .un], δ)) :=
  ⟨_, _, _, _, rfl, .ow (.lst (oddP.take 10)), fun _ _ _ => by kernel_rfl, fun _ _ _ => by kernel_rfl, .ow (.lst (oL0.take 9)), fun _ _ _ _ => by kernel_rfl, fun _ _ _ => by kernel_rfl⟩
theorem of_flat {δ : Dr} {ds : List D} (v : VD δ) (hn : ds ≠ []) (hl : ds.length ≤ 1000) : ∃ d δ', g__law_of [.lst ds] δ = some (d, .sh, δ') ∧ d ∈ ds ∧ VD δ' := by
  rw [of_is]
  exact LH.of_ok v hn (Nat.lt_of_le_of_lt hl (by decide))
theorem odd_ok_p {w : Str} (hw : w ≠ "letter") {δ : Dr} (v : VD δ) (n : D) : ∃ d δ', g__law_odd [.str w, n] δ = some (d, .sh, δ') ∧ d ∈ oddP ∧ VD δ' := by
  obtain ⟨A, B, L1, L2, e, y1, hA, hB, y2, hL1, hL2⟩ := odd_split
  obtain ⟨d, δ', e1, hd, v'⟩ := of_flat (ds := oddP) v (by simp [oddP]) (by decide)
  refine ⟨d, δ', ?_, hd, v'⟩
  rw [g__law_odd, fnW, if_pos (by rfl : ([D.str w, n] : List D).length = 2), e]
  show endD (hSeq _ _ [.dl, .sh (.str w), .sh n, .un, .un, .un, .un] δ) = _
  have c : (w == ("letter" : Str)) = false := by simpa using hw
  rw [hSeq_e, hA, Option.bind_some, hSeq1_nx, hSeq_e, hB, Option.bind_some, hSeq1_nx]
  simp [oEq_s, c, e1, hFrz]
theorem odd_ok_l (h : Nms m t a) {δ : Dr} (v : VD δ) : ∃ d δ', g__law_odd [.str "letter", nD m t a] δ = some (d, .sh, δ') ∧ d ∈ oL3 m t a ∧ VD δ' := by
  obtain ⟨A, B, L1, L2, e, y1, hA, hB, y2, hL1, hL2⟩ := odd_split
  have hn := nms_len h
  have i0 : atD [D.tup (sD m), .tup (sD t), .tup (sD a)] 0 = some (.tup (sD m)) := atD0 ..
  have i1 : atD [D.tup (sD m), .tup (sD t), .tup (sD a)] 1 = some (.tup (sD t)) := atD1 ..
  have i2 : atD [D.tup (sD m), .tup (sD t), .tup (sD a)] 2 = some (.tup (sD a)) := by simpa using atD_nat [D.tup (sD m), .tup (sD t), .tup (sD a)] 2
  have l0 : oL0.length = 14 := rfl
  have l1 : (oL1 t a).length = 14 + t.length + a.length := by simp only [oL1, List.length_append, List.length_map, l0]
  have l2 : (oL2 m t a).length = 14 + t.length + a.length + a.length + m.length + t.length := by simp only [oL2, List.length_append, List.length_map, l1]
  have l3 : (oL3 m t a).length = 14 + t.length + a.length + a.length + m.length + t.length + a.length := by simp only [oL3, List.length_append, List.length_map, l2]
  obtain ⟨d, δ', e1, hd, v'⟩ := of_flat (ds := oL3 m t a) v (by intro z; rw [z] at l3; simp only [List.length_nil] at l3; omega) (by omega)
  refine ⟨d, δ', ?_, hd, v'⟩
  let R : SV → Rho := fun y => [.dl, .sh (.str "letter"), .sh (nD m t a), y, .un, .un, .un]
  have c1 := fun y => lc_str (ρ := R y) (δ := δ) (i := 1) (j := 4) (ce := ce__law_odd_1) (l := t) (f := fun x => mkF [(x, "out")]) rfl i1 (by omega) (fun x => by kernel_rfl)
  have c2 := fun y => lc_str (ρ := R y) (δ := δ) (i := 2) (j := 5) (ce := ce__law_odd_2) (l := a) (f := fun x => mkF [(x, "with")]) rfl i2 (by omega) (fun x => by kernel_rfl)
  have c3 := fun y => lc_str (ρ := R y) (δ := δ) (i := 2) (j := 5) (ce := ce__law_odd_3) (l := a) (f := fun x => mkF [(x, "out"), (x, "in")]) rfl i2 (by omega) (fun x => by kernel_rfl)
  have c4 := fun y => lc_str (ρ := R y) (δ := δ) (i := 0) (j := 6) (ce := ce__law_odd_4) (l := m) (f := fun x => mkF [(x, "with")]) rfl i0 (by omega) (fun x => by kernel_rfl)
  have c5 := fun y => lc_str (ρ := R y) (δ := δ) (i := 1) (j := 4) (ce := ce__law_odd_5) (l := t) (f := fun x => .tup [.str "mark", .str x]) rfl i1 (by omega) (fun x => by kernel_rfl)
  have c6 := fun y => lc_str (ρ := R y) (δ := δ) (i := 2) (j := 5) (ce := ce__law_odd_6) (l := a) (f := fun x => mkF [(x, "in"), (x, "in")]) rfl i2 (by omega) (fun x => by kernel_rfl)
  have ad : ∀ (x : List D) (l : List Str) (f : Str → D), x.length ≤ 1000 → l.length ≤ 100 → oAdd (.lst x) (.lst (l.map f)) = some (.lst (x ++ l.map f), .ow) := fun x l f hx hl => oAdd_lz (by omega) (by rw [List.length_map]; omega)
  have s5 : hSet 3 (fBin oAdd (fBin oAdd (fVar 3) (fLc (sSeq (fBin oIx (fVar 2) (fC (.int 1)))) (bName 4) fYes ce__law_odd_1 [4])) (fLc (sSeq (fBin oIx (fVar 2) (fC (.int 2)))) (bName 5) fYes ce__law_odd_2 [5])) (R (.ow (.lst oL0))) δ = some (.nx, R (.ow (.lst (oL1 t a))), δ) := by
    have v3 : fVar 3 (R (.ow (.lst oL0))) δ = some (.lst oL0, .br, δ) := rfl
    rw [hSet_e, fBin_e, fBin_e, v3, Option.bind_some, fBin1_e, c1, Option.bind_some, fBin2_e, ad _ _ _ (by omega) (by omega), Option.map_some, Option.bind_some, fBin1_e, c2, Option.bind_some, fBin2_e, ad _ _ _ (by rw [List.length_append, List.length_map]; omega) (by omega), Option.map_some, Option.bind_some, hSet1_ow]
    rfl
  have s6 : hSet 3 (fBin oAdd (fBin oAdd (fBin oAdd (fVar 3) (fLc (sSeq (fBin oIx (fVar 2) (fC (.int 2)))) (bName 5) fYes ce__law_odd_3 [5])) (fLc (sSeq (fBin oIx (fVar 2) (fC (.int 0)))) (bName 6) fYes ce__law_odd_4 [6])) (fLc (sSeq (fBin oIx (fVar 2) (fC (.int 1)))) (bName 4) fYes ce__law_odd_5 [4])) (R (.ow (.lst (oL1 t a)))) δ = some (.nx, R (.ow (.lst (oL2 m t a))), δ) := by
    have v3 : fVar 3 (R (.ow (.lst (oL1 t a)))) δ = some (.lst (oL1 t a), .br, δ) := rfl
    rw [hSet_e, fBin_e, fBin_e, fBin_e, v3, Option.bind_some, fBin1_e, c3, Option.bind_some, fBin2_e, ad _ _ _ (by omega) (by omega), Option.map_some, Option.bind_some, fBin1_e, c4, Option.bind_some, fBin2_e, ad _ _ _ (by rw [List.length_append, List.length_map]; omega) (by omega), Option.map_some, Option.bind_some, fBin1_e, c5, Option.bind_some, fBin2_e, ad _ _ _ (by rw [List.length_append, List.length_append, List.length_map, List.length_map]; omega) (by omega), Option.map_some, Option.bind_some, hSet1_ow]
    rfl
  have s7 : hRet (fCallW 0 g__law_of (vCons (fBin oAdd (fVar 3) (fLc (sSeq (fBin oIx (fVar 2) (fC (.int 2)))) (bName 5) fYes ce__law_odd_6 [5])) vNil)) (R (.ow (.lst (oL2 m t a)))) δ = some (.rt d .sh, R (.ow (.lst (oL2 m t a))), δ') := by
    have v3 : fVar 3 (R (.ow (.lst (oL2 m t a)))) δ = some (.lst (oL2 m t a), .br, δ) := rfl
    have ar : fBin oAdd (fVar 3) (fLc (sSeq (fBin oIx (fVar 2) (fC (.int 2)))) (bName 5) fYes ce__law_odd_6 [5]) (R (.ow (.lst (oL2 m t a)))) δ = some (.lst (oL3 m t a), .ow, δ) := by
      rw [fBin_e, v3, Option.bind_some, fBin1_e, c6, Option.bind_some, fBin2_e, ad _ _ _ (by omega) (by omega), Option.map_some]
      rfl
    have g0 : (R (.ow (.lst (oL2 m t a))))[0]? = some .dl := rfl
    rw [hRet_e, fCallW_e, g0, fCallW0_e, vCons_e, ar]
    simp [e1]
  rw [g__law_odd, fnW, if_pos (by rfl : ([D.str "letter", nD m t a] : List D).length = 2), e]
  show endD (hSeq _ _ [.dl, .sh (.str "letter"), .sh (nD m t a), .un, .un, .un, .un] δ) = _
  have c : asB (fBin oEq (fVar 1) (fC (.str "letter"))) [.dl, .sh (.str "letter"), .sh (nD m t a), .ow (.lst oddP), .un, .un, .un] δ = some (true, δ) := by simp [oEq_s]
  rw [hSeq_e, hA, Option.bind_some, hSeq1_nx, hSeq_e, hB, Option.bind_some, hSeq1_nx, hSeq_e, hIf_e, c, Option.bind_some, hIf1_t, hSeq_e, hL1, Option.bind_some, hSeq1_nx, hSeq_e, hL2, Option.bind_some, hSeq1_nx]
  rw [hSeq_e, s5, Option.bind_some, hSeq1_nx, hSeq_e, s6, Option.bind_some, hSeq1_nx, s7]
  rfl
end
end W48
/-! k48: what is told of a row that is built. -/
namespace W48
open PySem PySem.Spec PyProof.Rows L2 DL LT
open LH (VD Goo k_ii k_ib k_tt)
section
variable {m t a : List Str}
theorem zip_rep (s : Str) : ∀ (l : List D), ((List.replicate l.length s).zip l).map (fun p => D.tup [.str p.1, p.2]) = l.map fun x => .tup [.str s, x]
  | [] => rfl
  | x :: l => by
    rw [List.length_cons, List.replicate_succ, List.zip_cons_cons, List.map_cons, List.map_cons, zip_rep s l]
theorem right_ok {e : En} (he : EnOk m t a e) {l : List D} (hl : l.length = kn e) (hz : kn e ≤ 1000) (hp : pl 38 (mkE e l) = true) :
    g_is_part [kN m t a, .str (srt e), mkE e l, .bl true] = some (.bl true, .sh) ∧ g_inner_parts [.str (srt e), mkE e l] = some (.lst (inD e l), .ow) := by
  have hp40 := pl_mono 38 40 _ (by omega) hp
  cases e with
  | ls w n =>
    have hn : l.length = n := hl
    obtain ⟨hw, h2⟩ := he
    refine ⟨part_list hw hp40 (by omega), ?_⟩
    have z := inner_list (w := w) (l := l) hw (z_line (by rw [hn]; exact Nat.le_trans hz (by decide)))
    have e1 : inD (.ls w n) l = l.map fun x => .tup [.str "program", x] := by
      show ((List.replicate n ("program" : Str)).zip l).map _ = _
      rw [← hn]
      exact zip_rep _ l
    rw [e1]
    exact z
  | nu d =>
    obtain ⟨hf, _⟩ := he
    exact ⟨part_num hp40 hf, inner_num⟩
  | tr n =>
    have hn : l.length = n := hl
    refine ⟨part_trace hp40, ?_⟩
    have z := inner_trace (l := l) (z_line (by rw [hn]; exact Nat.le_trans hz (by decide)))
    have e1 : inD (.tr n) l = l.map fun x => .tup [.str "letter", x] := by
      show ((List.replicate n ("letter" : Str)).zip l).map _ = _
      rw [← hn]
      exact zip_rep _ l
    rw [e1]
    exact z
  | le d => exact ⟨he.ok, he.inn⟩
theorem right_other {e : En} (he : EnOk m t a e) (hle : srt e = "program") {l : List D} (hl : l.length = kn e) (hz : kn e ≤ 1000) (hp : pl 38 (mkE e l) = true) :
    g_is_part [kN [] [] [], .str (srt e), mkE e l, .bl true] = some (.bl true, .sh) ∧ g_inner_parts [.str (srt e), mkE e l] = some (.lst (inD e l), .ow) := by
  cases e with
  | le d => exact absurd (show ("letter" : Str) = "program" from hle) (by decide)
  | ls w n => exact right_ok (m := []) (t := []) (a := []) (e := .ls w n) he hl hz hp
  | nu d => exact right_ok (m := []) (t := []) (a := []) (e := .nu d) he hl hz hp
  | tr n => exact right_ok (m := []) (t := []) (a := []) (e := .tr n) he hl hz hp
/-- a row as it is drawn -/
structure Row (m t a : List Str) (r : List En) : Prop where
  fits : Fits ["program"] r
  ok : ∀ e ∈ r, EnOk m t a e
  ls : nls r ≤ 6
  len : r.length ≤ 200
  pos : 0 < r.length
theorem Row.kn_le {r : List En} (R : Row m t a r) {j : Nat} {e : En} (h : r[j]? = some e) : kn e ≤ 1000 := by
  have hlt : j < r.length := (List.getElem?_eq_some_iff.mp h).1
  obtain ⟨ss, hs⟩ := fits_drop R.fits j
  have hd : r.drop j = e :: r.drop (j + 1) := by rw [List.drop_eq_getElem_cons hlt, (List.getElem?_eq_some_iff.mp h).2]
  rw [hd] at hs
  have z := fits_kn (fun _ => none) hs 0
  have z2 := bl_le (fun _ => none) (r.drop (j + 1)) 0
  have := R.len
  rw [List.length_drop] at z2
  omega
theorem Row.flat {r : List En} (R : Row m t a r) : ∀ e ∈ r, flat e := fun e he => by
  have z := R.ok e he
  cases e with
  | nu d => exact z.2
  | le d => exact z.pl
  | ls w n => trivial
  | tr n => trivial
theorem Row.wordy {r : List En} (R : Row m t a r) : ∀ e ∈ r, wordy e := fun e he => by
  have z := R.ok e he
  cases e with
  | ls w n => exact z.1
  | _ => trivial
/-- odd ones for this row -/
structure Odds (m t a : List Str) (r : List En) (ds : List (Key × D)) : Prop where
  odd : ∀ j e d, r[j]? = some e → odF ds j = some d → Odd m t a (srt e) d
  pl : ∀ j d, odF ds j = some d → pl 7 d = true
theorem odds_nil {r : List En} : Odds m t a r [] := ⟨(fun j e d _ h => by cases h), fun j d h => by cases h⟩
theorem told_odd {r : List En} (R : Row m t a r) {ds : List (Key × D)} (O : Odds m t a r ds) : ∃ v, g__law_built [.lst (r.map rowD), .dic ds] = some (v, .sh) ∧ ∀ b, g__law_told [kN m t a, v, .bl b] = some (resD (fo (fun i _ => (odF ds i).isSome) 0 r), .sh) := by
  have hl := R.len
  obtain ⟨v, hv, e⟩ := built_ok (ds := ds) R.fits R.wordy (by omega)
  refine ⟨v, e, fun b => told_ok (first_ok (o := odF ds) (wr := fun i _ => (odF ds i).isSome) O.pl R.fits hv R.flat (by have := R.ls; omega) (by omega) fun j e hj l hl hp => ?_)⟩
  cases ho : odF ds j with
  | some d =>
    rw [ho] at hp
    show g_is_part _ = some (.bl (!(odF ds j).isSome), .sh) ∧ ((odF ds j).isSome = false → _)
    rw [ho]
    exact ⟨(O.odd j e d hj ho).no, fun z => by cases z⟩
  | none =>
    rw [ho] at hp
    obtain ⟨h1, h2⟩ := right_ok (R.ok e (List.mem_of_getElem? hj)) hl (R.kn_le hj) hp
    show g_is_part _ = some (.bl (!(odF ds j).isSome), .sh) ∧ ((odF ds j).isSome = false → _)
    rw [ho]
    exact ⟨h1, fun _ => h2⟩
def isLet : En → Bool
  | .le _ => true
  | _ => false
theorem told_other {r : List En} (R : Row m t a r) : ∃ v, g__law_built [.lst (r.map rowD), .dic []] = some (v, .sh) ∧ ∀ b, g__law_told [kN [] [] [], v, .bl b] = some (resD (fo (fun _ e => isLet e) 0 r), .sh) := by
  have hl := R.len
  obtain ⟨v, hv, e⟩ := built_ok (ds := []) R.fits R.wordy (by omega)
  refine ⟨v, e, fun b => told_ok (first_ok (o := odF []) (wr := fun _ e => isLet e) (fun j d h => by cases h) R.fits hv R.flat (by have := R.ls; omega) (by omega) fun j e hj l hl hp => ?_)⟩
  have he := R.ok e (List.mem_of_getElem? hj)
  have hk := R.kn_le hj
  cases e with
  | le d => exact ⟨he.no, fun z => by cases z⟩
  | ls w n =>
    obtain ⟨h1, h2⟩ := right_other he rfl hl hk hp
    exact ⟨h1, fun _ => h2⟩
  | nu d =>
    obtain ⟨h1, h2⟩ := right_other he rfl hl hk hp
    exact ⟨h1, fun _ => h2⟩
  | tr n =>
    obtain ⟨h1, h2⟩ := right_other he rfl hl hk hp
    exact ⟨h1, fun _ => h2⟩
/-! ### the first odd place -/
theorem fo_none {wr : Nat → En → Bool} : ∀ (r : List En) (i : Nat), (∀ j e, r[j]? = some e → wr (i + j) e = false) → fo wr i r = none
  | [], _, _ => rfl
  | e :: r, i, h => by
    rw [fo, if_neg (by rw [show wr i e = false from h 0 e rfl]; exact Bool.false_ne_true)]
    exact fo_none r (i + 1) fun j e' hj => by
      rw [show i + 1 + j = i + (j + 1) by omega]
      exact h (j + 1) e' hj
theorem fo_some {wr : Nat → En → Bool} : ∀ (r : List En) (i k : Nat), k < r.length → (∀ e, r[k]? = some e → wr (i + k) e = true) → (∀ j e, j < k → r[j]? = some e → wr (i + j) e = false) → fo wr i r = some (i + k)
  | [], _, _, h, _, _ => by cases h
  | e :: r, i, 0, _, h, _ => by
    rw [fo, if_pos (show wr i e = true from h e rfl)]
    rfl
  | e :: r, i, k + 1, hk, h, hn => by
    rw [fo, if_neg (by rw [show wr i e = false from hn 0 e (by omega) rfl]; exact Bool.false_ne_true)]
    rw [fo_some r (i + 1) k (by simpa using hk) (fun e' he => by
      rw [show i + 1 + k = i + (k + 1) by omega]
      exact h e' he) (fun j e' hj hj' => by
      rw [show i + 1 + j = i + (j + 1) by omega]
      exact hn (j + 1) e' (by omega) hj')]
    congr 1
    omega
theorem odF_1 (k i : Nat) (d : D) : odF [(.inl (k : Nat), d)] i = if i = k then some d else none := by
  by_cases h : i = k
  · subst h
    rw [if_pos rfl]
    exact getD_pos rfl
  · rw [if_neg h]
    have : ¬ ((Sum.inl (k : Int) : Key) = Sum.inl (i : Int)) := fun z => h (by have := Sum.inl.inj z; omega)
    exact getD_neg this
theorem odF_2 (k l i : Nat) (d e : D) : odF [(.inl (k : Nat), d), (.inl (l : Nat), e)] i = if i = k then some d else if i = l then some e else none := by
  by_cases h : i = k
  · subst h
    rw [if_pos rfl]
    exact getD_pos rfl
  · rw [if_neg h]
    have : ¬ ((Sum.inl (k : Int) : Key) = Sum.inl (i : Int)) := fun z => h (by have := Sum.inl.inj z; omega)
    exact (getD_neg this).trans (odF_1 l i e)
theorem fo_1 {r : List En} {k : Nat} {d : D} (hk : k < r.length) : fo (fun i _ => (odF [(.inl (k : Nat), d)] i).isSome) 0 r = some k := by
  have z := fo_some (wr := fun i _ => (odF [(.inl (k : Nat), d)] i).isSome) r 0 k hk (fun e _ => by
    show (odF _ (0 + k)).isSome = true
    rw [odF_1, if_pos (by omega)]
    rfl) (fun j e hj _ => by
    show (odF _ (0 + j)).isSome = false
    rw [odF_1, if_neg (by omega)]
    rfl)
  rw [Nat.zero_add] at z
  exact z
theorem fo_2 {r : List En} {k l : Nat} {d e : D} (hk : k < r.length) (hl : l < r.length) : fo (fun i _ => (odF [(.inl (k : Nat), d), (.inl (l : Nat), e)] i).isSome) 0 r = some (min k l) := by
  have z := fo_some (wr := fun i _ => (odF [(.inl (k : Nat), d), (.inl (l : Nat), e)] i).isSome) r 0 (min k l) (by omega) (fun x _ => by
    show (odF _ (0 + min k l)).isSome = true
    rw [odF_2]
    by_cases h : k ≤ l
    · rw [if_pos (by omega)]
      rfl
    · rw [if_neg (by omega), if_pos (by omega)]
      rfl) (fun j x hj _ => by
    show (odF _ (0 + j)).isSome = false
    rw [odF_2, if_neg (by omega), if_neg (by omega)]
    rfl)
  rw [Nat.zero_add] at z
  exact z
end
end W48
/-! k48: one turn of the law. -/
namespace W48
open PySem PySem.Spec PyProof.Rows L2 DL LT
open LH (VD Goo k_ii k_ib k_tt)
section
variable {m t a : List Str}
def wordS : En → Str
  | .ls w _ => w
  | .nu _ => "number"
  | .tr _ => "trace"
  | .le _ => "letter"
theorem ix_word (e : En) : oIx (rowD e) (.int 0) = some (.str (wordS e), .sh) := by cases e <;> rfl
theorem odd_draw (h : Nms m t a) {e : En} (he : EnOk m t a e) {δ : Dr} (v : VD δ) : ∃ d δ', g__law_odd [.str (wordS e), nD m t a] δ = some (d, .sh, δ') ∧ Odd m t a (srt e) d ∧ VD δ' := by
  have viaP : ∀ w : Str, w ≠ "letter" → ∃ d δ', g__law_odd [.str w, nD m t a] δ = some (d, .sh, δ') ∧ Odd m t a "program" d ∧ VD δ' := fun w hw => by
    obtain ⟨d, δ', e, hd, v'⟩ := odd_ok_p hw v (nD m t a)
    exact ⟨d, δ', e, odd_p d hd, v'⟩
  cases e with
  | ls w n =>
    refine viaP w ?_
    rcases he.1 with rfl | rfl <;> decide
  | nu d => exact viaP "number" (by decide)
  | tr n => exact viaP "trace" (by decide)
  | le d =>
    obtain ⟨d, δ', e, hd, v'⟩ := odd_ok_l h v
    exact ⟨d, δ', e, odd_l h d hd, v'⟩
theorem goo_res (i : Option Nat) : Goo (.tup [resD i, resD i]) := by
  cases i with
  | none => exact ⟨_, rfl, rfl, by simp [resD, LH.nodes, LH.nodess]⟩
  | some i => exact ⟨_, rfl, rfl, by simp [resD, LH.nodes, LH.nodess]⟩
theorem at_row {r : List En} {k : Nat} (hk : k < r.length) : atD (r.map rowD) (k : Int) = some (rowD r[k]) := by
  rw [atD_nat, List.getElem?_map, List.getElem?_eq_getElem hk]
  rfl
theorem odds_1 {r : List En} {k : Nat} (hk : k < r.length) {d : D} (O : Odd m t a (srt r[k]) d) : Odds m t a r [(.inl (k : Nat), d)] where
  odd := fun j e d' hj ho => by
    rw [odF_1] at ho
    split at ho
    · rename_i h
      subst h
      cases ho
      rw [List.getElem?_eq_getElem hk] at hj
      cases hj
      exact O
    · cases ho
  pl := fun j d' ho => by
    rw [odF_1] at ho
    split at ho
    · cases ho
      exact O.pl
    · cases ho
theorem odds_2 {r : List En} {k l : Nat} (hk : k < r.length) (hl : l < r.length) {d e : D} (O : Odd m t a (srt r[k]) d) (O2 : Odd m t a (srt r[l]) e) : Odds m t a r [(.inl (k : Nat), d), (.inl (l : Nat), e)] where
  odd := fun j x d' hj ho => by
    rw [odF_2] at ho
    split at ho
    · rename_i h
      subst h
      cases ho
      rw [List.getElem?_eq_getElem hk] at hj
      cases hj
      exact O
    · split at ho
      · rename_i h
        subst h
        cases ho
        rw [List.getElem?_eq_getElem hl] at hj
        cases hj
        exact O2
      · cases ho
  pl := fun j d' ho => by
    rw [odF_2] at ho
    split at ho
    · cases ho
      exact O.pl
    · split at ho
      · cases ho
        exact O2.pl
      · cases ho
variable {ps : List D} {n turn : Nat} {x3 x4 x5 x6 x7 x8 x9 x10 x11 x12 x13 x14 x15 : SV} {δ : Dr}
theorem min_1 (k : Nat) (d : D) : oMinK [.dic [(.inl (k : Nat), d)]] = some (.int (k : Nat), .sh) := rfl
theorem min_2 (k l : Nat) (d e : D) : oMinK [.dic [(.inl (k : Nat), d), (.inl (l : Nat), e)]] = some (.int (min k l : Nat), .sh) := by
  have z : oMinK [.dic [(.inl (k : Nat), d), (.inl (l : Nat), e)]] = some (.int (min (k : Int) (l : Int)), .sh) := rfl
  rw [z]
  congr 3
  omega
theorem dict_1 (k : Nat) (d : D) : oDict [.lst [.tup [.int (k : Nat), d]]] = some (.dic [(.inl (k : Nat), d)], .ow) := rfl
theorem pairs_1 (k : Nat) (d : D) : DL.pairsOf [.tup [.int (k : Nat), d]] = some [(.inl (k : Nat), d)] := rfl
theorem merge_1 (k : Nat) (d : D) : mergeD [] [((.inl (k : Nat) : Key), d)] = [(.inl (k : Nat), d)] := rfl
theorem put_same (k : Nat) (d e : D) : putD [(.inl (k : Nat), d)] (.inl (k : Nat)) e = [(.inl (k : Nat), e)] := by simp [putD]
theorem put_new {k l : Nat} (h : l ≠ k) (d e : D) : putD [(.inl (k : Nat), d)] (.inl (l : Nat)) e = [(.inl (k : Nat), d), (.inl (l : Nat), e)] := by
  have : ¬ ((k : Int) = (l : Int)) := by omega
  simp [putD, this]
theorem again_step (h : Nms m t a) {r : List En} (R : Row m t a r) (hg : PG ps n) (hn : n + 1 ≤ 100000) (v : VD δ) :
    ∃ (qs : List D) (y8 y9 y10 : SV) (δ' : Dr), fb_law_1 [.un, .dl, .ow (.lst ps), .sh (.int (turn : Nat)), .sh (nD m t a), .sh (kN m t a), .sh (.lst (r.map rowD)), x7, x8, x9, x10, x11, x12, x13, x14, x15] δ =
      some (.nx, [.un, .dl, .ow (.lst qs), .sh (.int (turn : Nat)), .sh (nD m t a), .sh (kN m t a), .sh (.lst (r.map rowD)), x7, y8, y9, y10, x11, x12, x13, x14, x15], δ') ∧ PG qs (n + 1) ∧ VD δ' := by
  have hpos := R.pos
  have hlen := R.len
  have rl : (r.map rowD).length = r.length := List.length_map ..
  obtain ⟨k, δ1, e1, hk, v1⟩ := any_nat (n := r.length) v hpos (by omega)
  obtain ⟨l, δ2, e2, hl, v2⟩ := any_nat (n := r.length) v1 hpos (by omega)
  obtain ⟨d, δ3, e3, O, v3⟩ := odd_draw h (R.ok _ (List.getElem_mem hk)) v2
  obtain ⟨z, δ4, e4, hz, v4⟩ := any_nat (n := 2) v3 (by decide) (by decide)
  have e4' : g__law_any [.int 2] δ3 = some (.int (z : Nat), .sh, δ4) := e4
  have a1 := at_row hk
  have a2 := at_row hl
  have one : 1 < sizeLine := by decide
  have zp : ps.length < sizeLine := Nat.lt_of_le_of_lt (show ps.length ≤ 100000 by have := hg.n; omega) (by decide)
  have s1 : hPar 8 9 (fCallW 1 g__law_any (vCons (fCall oLen (rCons (fVar 6) rNil)) vNil)) (fCallW 1 g__law_any (vCons (fCall oLen (rCons (fVar 6) rNil)) vNil)) [.un, .dl, .ow (.lst ps), .sh (.int (turn : Nat)), .sh (nD m t a), .sh (kN m t a), .sh (.lst (r.map rowD)), x7, x8, x9, x10, x11, x12, x13, x14, x15] δ =
      some (.nx, [.un, .dl, .ow (.lst ps), .sh (.int (turn : Nat)), .sh (nD m t a), .sh (kN m t a), .sh (.lst (r.map rowD)), x7, .sh (.int (k : Nat)), .sh (.int (l : Nat)), x10, x11, x12, x13, x14, x15], δ2) := by
    simp [rl, e1, e2]
  have s2 : hSet 10 (fCall oDict (rCons (fLst (aCons (fTup (aCons (fVar 8) (aCons (fCallW 1 g__law_odd (vCons (fBin oIx (fBin oIx (fVar 6) (fVar 8)) (fC (.int 0))) (vCons (fVar 4) vNil))) aNil))) aNil)) rNil)) [.un, .dl, .ow (.lst ps), .sh (.int (turn : Nat)), .sh (nD m t a), .sh (kN m t a), .sh (.lst (r.map rowD)), x7, .sh (.int (k : Nat)), .sh (.int (l : Nat)), x10, x11, x12, x13, x14, x15] δ2 =
      some (.nx, [.un, .dl, .ow (.lst ps), .sh (.int (turn : Nat)), .sh (nD m t a), .sh (kN m t a), .sh (.lst (r.map rowD)), x7, .sh (.int (k : Nat)), .sh (.int (l : Nat)), .ow (.dic [(.inl (k : Nat), d)]), x11, x12, x13, x14, x15], δ3) := by
    simp [a1, ix_word, e3, pairs_1, merge_1]
  have s3 : ∃ (ds : List (Key × D)) (δ5 : Dr) (i : Nat), hIf (asB (fBin oEq (fCallW 1 g__law_any (vCons (fC (.int 2)) vNil)) (fC (.int 0)))) (hDPut 10 (fVar 9) (fCallW 1 g__law_odd (vCons (fBin oIx (fBin oIx (fVar 6) (fVar 9)) (fC (.int 0))) (vCons (fVar 4) vNil)))) hNil [.un, .dl, .ow (.lst ps), .sh (.int (turn : Nat)), .sh (nD m t a), .sh (kN m t a), .sh (.lst (r.map rowD)), x7, .sh (.int (k : Nat)), .sh (.int (l : Nat)), .ow (.dic [(.inl (k : Nat), d)]), x11, x12, x13, x14, x15] δ3 =
      some (.nx, [.un, .dl, .ow (.lst ps), .sh (.int (turn : Nat)), .sh (nD m t a), .sh (kN m t a), .sh (.lst (r.map rowD)), x7, .sh (.int (k : Nat)), .sh (.int (l : Nat)), .ow (.dic ds), x11, x12, x13, x14, x15], δ5) ∧ Odds m t a r ds ∧ fo (fun i _ => (odF ds i).isSome) 0 r = some i ∧ oMinK [.dic ds] = some (.int (i : Nat), .sh) ∧ VD δ5 := by
    by_cases hz0 : z = 0
    · subst hz0
      obtain ⟨d2, δ5, e5, O2, v5⟩ := odd_draw h (R.ok _ (List.getElem_mem hl)) v4
      by_cases hkl : l = k
      · subst hkl
        exact ⟨[(.inl (l : Nat), d2)], δ5, l, by simp [e4', hDPut, a2, ix_word, e5, DL.keyOf, put_same, one], odds_1 hl O2, fo_1 hl, min_1 l d2, v5⟩
      · exact ⟨[(.inl (k : Nat), d), (.inl (l : Nat), d2)], δ5, min k l, by simp [e4', hDPut, a2, ix_word, e5, DL.keyOf, put_new hkl, one], odds_2 hk hl O O2, fo_2 hk hl, min_2 k l d d2, v5⟩
    · have hzi : ¬ ((z : Int) = 0) := by omega
      exact ⟨[(.inl (k : Nat), d)], δ4, k, by simp [e4', hzi, hz0], odds_1 hk O, fo_1 hk, min_1 k d, v4⟩
  obtain ⟨ds, δ5, i, s3, Od, hfo, hmin, v5⟩ := s3
  obtain ⟨w, hb, ht⟩ := told_odd R Od
  rw [hfo] at ht
  refine ⟨ps ++ [.tup [resD (some i), resD (some i)]], .sh (.int (k : Nat)), .sh (.int (l : Nat)), .sh (.dic ds), δ5, ?_, hg.app (goos_cons (goo_res _) goos_nil) (by simp), v5⟩
  rw [fb_law_1, hSeq_e, s1, Option.bind_some, hSeq1_nx, hSeq_e, s2, Option.bind_some, hSeq1_nx, hSeq_e, s3, Option.bind_some, hSeq1_nx]
  clear s1 s2 s3
  simp [hFrz, hb, ht, hmin, zp, resD]
end
end W48
/-! k48: one turn of the law as a whole. -/
namespace W48
open PySem PySem.Spec PyProof.Rows L2 DL LT
open LH (VD Goo k_ii k_ib k_tt)
section
variable {m t a : List Str}
/-- the places of the letters -/
def lets : Nat → List En → List D
  | _, [] => []
  | i, e :: r => if isLet e = true then .int (i : Nat) :: lets (i + 1) r else lets (i + 1) r
theorem lets_fo : ∀ (r : List En) (i : Nat), match fo (fun _ e => isLet e) i r with | some k => ∃ l, lets i r = .int (k : Nat) :: l | none => lets i r = []
  | [], _ => rfl
  | e :: r, i => by
    rw [fo, lets]
    by_cases h : isLet e = true
    · rw [if_pos h, if_pos h]
      exact ⟨_, rfl⟩
    · rw [if_neg h, if_neg h]
      exact lets_fo r (i + 1)
theorem lets_len : ∀ (r : List En) (i : Nat), (lets i r).length ≤ r.length
  | [], _ => Nat.le_refl _
  | e :: r, i => by
    have := lets_len r (i + 1)
    rw [lets]
    split
    · rw [List.length_cons, List.length_cons]; omega
    · rw [List.length_cons]; omega
def letB : D → Bool
  | .tup [_, .tup (.str w :: _)] => w == "letter"
  | _ => false
def fstD : D → D
  | .tup (x :: _) => x
  | d => d
theorem word_let {e : En} (h : wordy e) : (wordS e == ("letter" : Str)) = isLet e := by
  cases e with
  | ls w n => rcases h with rfl | rfl <;> kernel_rfl
  | nu d => kernel_rfl
  | tr n => kernel_rfl
  | le d => kernel_rfl
theorem letB_row (i : Nat) (e : En) : letB (.tup [.int (i : Nat), rowD e]) = (wordS e == ("letter" : Str)) := by cases e <;> rfl
theorem lets_is : ∀ (r : List En) (i : Nat), (∀ e ∈ r, wordy e) → ((enD i (r.map rowD)).filter letB).map fstD = lets i r
  | [], _, _ => rfl
  | e :: r, i, h => by
    have ih := lets_is r (i + 1) fun x hx => h x (List.mem_cons_of_mem _ hx)
    have hb : letB (.tup [.int (i : Nat), rowD e]) = isLet e := by rw [letB_row, word_let (h e (List.mem_cons_self ..))]
    rw [List.map_cons, enD, List.filter_cons, hb, lets]
    by_cases c : isLet e = true
    · rw [if_pos c, if_pos c, List.map_cons, ih]
      rfl
    · rw [if_neg c, if_neg c, ih]
theorem en_mem {r : List En} {k : Nat} {x : D} (hx : x ∈ enD k (r.map rowD)) : ∃ (i : Nat) (e : En), x = .tup [.int (i : Nat), rowD e] := by
  obtain ⟨j, hj⟩ := List.mem_iff_getElem?.mp hx
  obtain ⟨d, hd, rfl⟩ := enD_get hj
  rw [List.getElem?_map] at hd
  cases h : r[j]? with
  | none => rw [h] at hd; cases hd
  | some e =>
    rw [h] at hd
    cases hd
    exact ⟨_, e, rfl⟩
variable {ps : List D} {n turn : Nat} {x4 x5 x6 x7 x8 x9 x10 x11 x12 x13 x14 x15 : SV} {δ : Dr}
theorem again_ok (h : Nms m t a) {r : List En} (R : Row m t a r) (hg : PG ps n) (hn : n + 12 ≤ 100000) (v : VD δ) :
    ∃ (qs : List D) (y7 y8 y9 y10 : SV) (δ' : Dr), hFor (sRng1 (rCons (fC (.int 12)) rNil)) (bName 7) fb_law_1 [.un, .dl, .ow (.lst ps), .sh (.int (turn : Nat)), .sh (nD m t a), .sh (kN m t a), .sh (.lst (r.map rowD)), x7, x8, x9, x10, x11, x12, x13, x14, x15] δ =
      some (.nx, [.un, .dl, .ow (.lst qs), .sh (.int (turn : Nat)), .sh (nD m t a), .sh (kN m t a), .sh (.lst (r.map rowD)), y7, y8, y9, y10, x11, x12, x13, x14, x15], δ') ∧ PG qs (n + 12) ∧ VD δ' := by
  obtain ⟨ρ', δ', e, qs, k, y7, y8, y9, y10, rfl, hq, hk, v'⟩ := forD_inv (b := bName 7) (h := fb_law_1) (ds := rng 0 12) (ρ := [.un, .dl, .ow (.lst ps), .sh (.int (turn : Nat)), .sh (nD m t a), .sh (kN m t a), .sh (.lst (r.map rowD)), x7, x8, x9, x10, x11, x12, x13, x14, x15]) (δ := δ)
    (fun xs ρ δ => ∃ (qs : List D) (k : Nat) (y7 y8 y9 y10 : SV), ρ = [.un, .dl, .ow (.lst qs), .sh (.int (turn : Nat)), .sh (nD m t a), .sh (kN m t a), .sh (.lst (r.map rowD)), y7, y8, y9, y10, x11, x12, x13, x14, x15] ∧ PG qs k ∧ k + xs.length = n + 12 ∧ VD δ) (fun x xs ρ δ I => by
      obtain ⟨qs, k, y7, y8, y9, y10, rfl, hq, hk, v⟩ := I
      rw [List.length_cons] at hk
      obtain ⟨q2, z8, z9, z10, δ', e, h2, v'⟩ := again_step (turn := turn) (x7 := .sh x) (x8 := y8) (x9 := y9) (x10 := y10) (x11 := x11) (x12 := x12) (x13 := x13) (x14 := x14) (x15 := x15) h R hq (by omega) v
      exact ⟨_, _, δ', bName_e, e, q2, k + 1, _, _, _, _, rfl, h2, by omega, v'⟩) ⟨ps, n, _, _, _, _, rfl, hg, rfl, v⟩
  have hk' : k = n + 12 := by simpa using hk
  subst hk'
  refine ⟨qs, y7, y8, y9, y10, δ', ?_, hq, v'⟩
  have r0 : sRng1k ([.int 12], δ) = some (rng 0 12, .sh, δ) := sRng1k_ok (n := 12) (by decide)
  simp only [hFor_e, sRng1_e, rCons_e, fC_e, Option.bind_some, rCons1_e, rNil_e, Option.map_some, r0, hFor1_sh, e]
theorem sort_at {turn z : Nat} (ht : turn < 8) (hz : z < 7) : ∃ s ∈ sorts, atD [D.int 5, .int 6, .int 3, .int 2, .int 0, .int 1, .int 9, .int (z : Nat)] (turn : Int) = some (.int s) := by
  have hz' : ((z : Nat) : Int) ∈ sorts := by
    simp only [sorts, List.mem_cons, List.not_mem_nil, or_false]
    omega
  rw [atD_nat]
  rcases (by omega : turn = 0 ∨ turn = 1 ∨ turn = 2 ∨ turn = 3 ∨ turn = 4 ∨ turn = 5 ∨ turn = 6 ∨ turn = 7) with rfl | rfl | rfl | rfl | rfl | rfl | rfl | rfl
  · exact ⟨5, by decide, rfl⟩
  · exact ⟨6, by decide, rfl⟩
  · exact ⟨3, by decide, rfl⟩
  · exact ⟨2, by decide, rfl⟩
  · exact ⟨0, by decide, rfl⟩
  · exact ⟨1, by decide, rfl⟩
  · exact ⟨9, by decide, rfl⟩
  · exact ⟨_, hz', rfl⟩
theorem oEq_ii (x y : Int) : oEq (.int x) (.int y) = some (.bl (decide (x = y)), .sh) := oEq_i
theorem turn_ok (hg : PG ps n) (hn : n + 14 ≤ 100000) (ht : turn < 8) (v : VD δ) :
    ∃ (qs : List D) (y4 y5 y6 y7 y8 y9 y10 y11 y12 y13 y14 y15 : SV) (δ' : Dr), fb_law_2 [.un, .dl, .ow (.lst ps), .sh (.int (turn : Nat)), x4, x5, x6, x7, x8, x9, x10, x11, x12, x13, x14, x15] δ =
      some (.nx, [.un, .dl, .ow (.lst qs), .sh (.int (turn : Nat)), y4, y5, y6, y7, y8, y9, y10, y11, y12, y13, y14, y15], δ') ∧ PG qs (n + 14) ∧ VD δ' := by
  obtain ⟨z, δ1, e1, hz, v1⟩ := any_nat (n := 7) v (by decide) (by decide)
  have e1' : g__law_any [.int 7] δ = some (.int (z : Nat), .sh, δ1) := e1
  obtain ⟨s, hs, es⟩ := sort_at ht hz
  obtain ⟨m, t, a, δ2, e2, h, v2⟩ := kind_ok hs v1
  obtain ⟨r, δ3, e3, hF, hok, hls, hlen, hpos, v3⟩ := row_ok h v2
  have R : Row m t a r := ⟨hF, hok, hls, hlen, hpos⟩
  have hp := hg.n
  have s1 : hSet 4 (fCallW 1 g__law_kind (vCons (fBin oIx (fLst (aCons (fC (.int 5)) (aCons (fC (.int 6)) (aCons (fC (.int 3)) (aCons (fC (.int 2)) (aCons (fC (.int 0)) (aCons (fC (.int 1)) (aCons (fC (.int 9)) (aCons (fCallW 1 g__law_any (vCons (fC (.int 7)) vNil)) aNil))))))))) (fVar 3)) vNil)) [.un, .dl, .ow (.lst ps), .sh (.int (turn : Nat)), x4, x5, x6, x7, x8, x9, x10, x11, x12, x13, x14, x15] δ =
      some (.nx, [.un, .dl, .ow (.lst ps), .sh (.int (turn : Nat)), .sh (nD m t a), x5, x6, x7, x8, x9, x10, x11, x12, x13, x14, x15], δ2) := by
    simp [e1', es, e2]
  have s2 : hPar 5 6 (fMk "Kind" ["marks", "ties", "arrows"] (aCons (fBin oIx (fVar 4) (fC (.int 0))) (aCons (fBin oIx (fVar 4) (fC (.int 1))) (aCons (fBin oIx (fVar 4) (fC (.int 2))) aNil)))) (fCallW 1 g__law_row_of (vCons (fVar 4) vNil)) [.un, .dl, .ow (.lst ps), .sh (.int (turn : Nat)), .sh (nD m t a), x5, x6, x7, x8, x9, x10, x11, x12, x13, x14, x15] δ2 =
      some (.nx, [.un, .dl, .ow (.lst ps), .sh (.int (turn : Nat)), .sh (nD m t a), .sh (kN m t a), .ow (.lst (r.map rowD)), x7, x8, x9, x10, x11, x12, x13, x14, x15], δ3) := by
    have mk : fMk "Kind" ["marks", "ties", "arrows"] (aCons (fBin oIx (fVar 4) (fC (.int 0))) (aCons (fBin oIx (fVar 4) (fC (.int 1))) (aCons (fBin oIx (fVar 4) (fC (.int 2))) aNil))) [.un, .dl, .ow (.lst ps), .sh (.int (turn : Nat)), .sh (nD m t a), x5, x6, x7, x8, x9, x10, x11, x12, x13, x14, x15] δ2 = some (kN m t a, .sh, δ2) := by
      have i0 : oIx (nD m t a) (.int 0) = some (.tup (sD m), .sh) := by kernel_rfl
      have i1 : oIx (nD m t a) (.int 1) = some (.tup (sD t), .sh) := by kernel_rfl
      have i2 : oIx (nD m t a) (.int 2) = some (.tup (sD a), .sh) := by kernel_rfl
      unfold fMk
      simp only [aCons_e, fBin_e, fVar_e, List.getElem?_cons_succ, List.getElem?_cons_zero, fVarK_sh, Option.bind_some, fBin1_e, fC_e, fBin2_e, i0, i1, i2, Option.map_some, aCons1_sh, aNil_e]
      rfl
    rw [hPar_e, mk]
    simp [e3]
  obtain ⟨w, hb, htl⟩ := told_odd R (odds_nil (m := m) (t := t) (a := a) (r := r))
  rw [fo_none r 0 fun j e _ => rfl] at htl
  obtain ⟨w2, hb2, htl2⟩ := told_other R
  have zp : ps.length < sizeLine := Nat.lt_of_le_of_lt (show ps.length ≤ 100000 by omega) (by decide)
  have s3 : hApp 2 (fTup (aCons (fCallP g__law_told (vCons (fVar 5) (vCons (fCallP g__law_built (vCons (fVar 6) (vCons fDic0 vNil))) (vCons (fBin oEq (fVar 3) (fC (.int 0))) vNil)))) (aCons (fTup (aCons (fC (.str "told")) (aCons (fC .non) aNil))) aNil))) [.un, .dl, .ow (.lst ps), .sh (.int (turn : Nat)), .sh (nD m t a), .sh (kN m t a), .sh (.lst (r.map rowD)), x7, x8, x9, x10, x11, x12, x13, x14, x15] δ3 =
      some (.nx, [.un, .dl, .ow (.lst (ps ++ [.tup [resD none, resD none]])), .sh (.int (turn : Nat)), .sh (nD m t a), .sh (kN m t a), .sh (.lst (r.map rowD)), x7, x8, x9, x10, x11, x12, x13, x14, x15], δ3) := by
    simp [fDic0, hb, htl, zp, resD]
  have hg1 : PG (ps ++ [.tup [resD none, resD none]]) (n + 1) := hg.app (goos_cons (goo_res none) goos_nil) (by simp)
  obtain ⟨qs, y7, y8, y9, y10, δ4, e4, hq, v4⟩ := again_ok (turn := turn) (x7 := x7) (x8 := x8) (x9 := x9) (x10 := x10) (x11 := x11) (x12 := x12) (x13 := x13) (x14 := x14) (x15 := x15) h R hg1 (by omega) v3
  have zq : qs.length < sizeLine := Nat.lt_of_le_of_lt (show qs.length ≤ 100000 by have := hq.n; omega) (by decide)
  have s5 : hSet 11 (fMk "Kind" ["marks", "ties", "arrows"] (aCons (fTup aNil) (aCons (fTup aNil) (aCons (fTup aNil) aNil)))) [.un, .dl, .ow (.lst qs), .sh (.int (turn : Nat)), .sh (nD m t a), .sh (kN m t a), .sh (.lst (r.map rowD)), y7, y8, y9, y10, x11, x12, x13, x14, x15] δ4 =
      some (.nx, [.un, .dl, .ow (.lst qs), .sh (.int (turn : Nat)), .sh (nD m t a), .sh (kN m t a), .sh (.lst (r.map rowD)), y7, y8, y9, y10, .sh (kN [] [] []), x12, x13, x14, x15], δ4) := by kernel_rfl
  have wd := R.wordy
  have m1 := lcD_filter (b := bTup (bCons (bName 8) (bCons (bName 15) bNil))) (t := ct_law_1) (f := fVar 8) (p := letB) (g := fstD) (ds := enD 0 (r.map rowD)) (ρ := wip [.un, .dl, .ow (.lst qs), .sh (.int (turn : Nat)), .sh (nD m t a), .sh (kN m t a), .sh (.lst (r.map rowD)), y7, y8, y9, y10, .sh (kN [] [] []), x12, x13, x14, x15] [8, 15]) (δ := δ4) (fun x hx => by
    obtain ⟨i, e, rfl⟩ := en_mem hx
    refine ⟨[.un, .dl, .ow (.lst qs), .sh (.int (turn : Nat)), .sh (nD m t a), .sh (kN m t a), .sh (.lst (r.map rowD)), y7, .sh (.int (i : Nat)), y9, y10, .sh (kN [] [] []), x12, x13, x14, .sh (rowD e)], by kernel_rfl, ?_, fun _ => ⟨.sh, by kernel_rfl, by decide⟩⟩
    rw [letB_row]
    simp [ct_law_1, ix_word, oEq_s])
  rw [lets_is r 0 wd] at m1
  have zl : (enD 0 (r.map rowD)).length ≤ sizeLine := z_line (by rw [enD_len, List.length_map]; omega)
  have s6 : hSet 12 (fLc (sEnum (fVar 6)) (bTup (bCons (bName 8) (bCons (bName 15) bNil))) ct_law_1 (fVar 8) [8, 15]) [.un, .dl, .ow (.lst qs), .sh (.int (turn : Nat)), .sh (nD m t a), .sh (kN m t a), .sh (.lst (r.map rowD)), y7, y8, y9, y10, .sh (kN [] [] []), x12, x13, x14, x15] δ4 =
      some (.nx, [.un, .dl, .ow (.lst qs), .sh (.int (turn : Nat)), .sh (nD m t a), .sh (kN m t a), .sh (.lst (r.map rowD)), y7, y8, y9, y10, .sh (kN [] [] []), .ow (.lst (lets 0 r)), x13, x14, x15], δ4) := by
    simp only [hSet_e, fLc_e, sEnum_e, fVar_e, List.getElem?_cons_succ, List.getElem?_cons_zero, fVarK_sh, Option.bind_some, sEnum1_l, fLc1_e, zl, if_true, m1, Option.map_some, hSet1_ow, List.set_cons_succ, List.set_cons_zero]
  have s7 : ∃ i : Option Nat, hApp 2 (fTup (aCons (fCallP g__law_told (vCons (fVar 11) (vCons (fCallP g__law_built (vCons (fVar 6) (vCons fDic0 vNil))) (vCons (fC (.bl false)) vNil)))) (aCons (fIf (asB (fBin oGt (fCall oLen (rCons (fVar 12) rNil)) (fC (.int 0)))) (fTup (aCons (fC (.str "refused")) (aCons (fBin oIx (fVar 12) (fC (.int 0))) aNil))) (fTup (aCons (fC (.str "told")) (aCons (fC .non) aNil)))) aNil))) [.un, .dl, .ow (.lst qs), .sh (.int (turn : Nat)), .sh (nD m t a), .sh (kN m t a), .sh (.lst (r.map rowD)), y7, y8, y9, y10, .sh (kN [] [] []), .ow (.lst (lets 0 r)), x13, x14, x15] δ4 =
      some (.nx, [.un, .dl, .ow (.lst (qs ++ [.tup [resD i, resD i]])), .sh (.int (turn : Nat)), .sh (nD m t a), .sh (kN m t a), .sh (.lst (r.map rowD)), y7, y8, y9, y10, .sh (kN [] [] []), .ow (.lst (lets 0 r)), x13, x14, x15], δ4) := by
    have lf := lets_fo r 0
    refine ⟨fo (fun _ e => isLet e) 0 r, ?_⟩
    cases hf : fo (fun _ e => isLet e) 0 r with
    | none =>
      rw [hf] at lf htl2
      have lf' : lets 0 r = [] := lf
      rw [lf']
      simp [fDic0, hb2, htl2, zq, resD]
    | some k =>
      rw [hf] at lf htl2
      obtain ⟨l, lf⟩ := lf
      rw [lf]
      have d0 : (0 : Int) < (l.length : Int) + 1 := by omega
      simp [fDic0, hb2, htl2, zq, resD, atD0, d0]
  obtain ⟨i, s7⟩ := s7
  refine ⟨qs ++ [.tup [resD i, resD i]], .sh (nD m t a), .sh (kN m t a), .sh (.lst (r.map rowD)), y7, y8, y9, y10, .sh (kN [] [] []), .ow (.lst (lets 0 r)), x13, x14, x15, δ4, ?_, (hq.app (m := 1) (goos_cons (goo_res i) goos_nil) (by simp)).mono (by omega), v4⟩
  rw [fb_law_2, hSeq_e, s1, Option.bind_some, hSeq1_nx, hSeq_e, s2, Option.bind_some, hSeq1_nx]
  have fz : ∀ (hh : HF'), hFrz 6 hh [.un, .dl, .ow (.lst ps), .sh (.int (turn : Nat)), .sh (nD m t a), .sh (kN m t a), .ow (.lst (r.map rowD)), x7, x8, x9, x10, x11, x12, x13, x14, x15] δ3 = hh [.un, .dl, .ow (.lst ps), .sh (.int (turn : Nat)), .sh (nD m t a), .sh (kN m t a), .sh (.lst (r.map rowD)), x7, x8, x9, x10, x11, x12, x13, x14, x15] δ3 := fun _ => rfl
  rw [fz, hSeq_e, s3, Option.bind_some, hSeq1_nx, hSeq_e, e4, Option.bind_some, hSeq1_nx, hSeq_e, s5, Option.bind_some, hSeq1_nx, hSeq_e, s6, Option.bind_some, hSeq1_nx, s7]
end
end W48
/-! k48: the law holds. -/
namespace W48
open PySem PySem.Spec PyProof.Rows L2 DL LT
open LH (VD Goo k_ii k_ib k_tt deal_ok)
def K0 : D := kN ["red"] ["k"] ["to"]
def mkM : D := .tup [.str "mark", .str "red"]
theorem fx1 : g__law_told [K0, .non, .bl false] = some (resD (some 0), .sh) := by kernel_rfl
theorem fx2 : g__law_told [K0, .tup [], .bl false] = some (resD (some 0), .sh) := by kernel_rfl
theorem fx3 : g__law_told [K0, .tup [.str "trace", .lst [mkM]], .bl false] = some (resD (some 0), .sh) := by kernel_rfl
theorem fx5 : g__law_told [K0, .tup [.str "total", mkM], .bl false] = some (resD (some 0), .sh) := by kernel_rfl
theorem fx6 : g__law_told [K0, .tup [.str "plus", .lst [.tup [.str "trace", .tup []]]], .bl false] = some (resD (some 0), .sh) := by kernel_rfl
theorem fx7 : g__law_told [K0, .tup [.str "plus", .tup [.tup [.str "trace", .tup []], .tup [.str "facts", .tup [.tup [.str "k", .str "with"]]]]], .bl false] = some (resD (some 2), .sh) := by kernel_rfl
theorem fx9 : g__law_told [K0, .tup [.str "trace", .tup []], .bl false] = some (resD none, .sh) := by kernel_rfl
def F4 : D := mkF [("to", "out"), ("k", "with")]
def F8 : D := mkF [("k", "with"), ("to", "in"), ("to", "out")]
theorem n0 : Nms ["red"] ["k"] ["to"] := ⟨by decide +kernel, by decide +kernel, by decide⟩
theorem mark0 : LetOk ["red"] ["k"] ["to"] mkM := let_mark (by decide)
theorem tr_ok {l : List D} (hp : pl 38 (.tup [.str "trace", .tup l]) = true) (h2 : l.length = 2) : g_is_part [K0, .str "program", .tup [.str "trace", .tup l], .bl true] = some (.bl true, .sh) ∧ g_inner_parts [.str "program", .tup [.str "trace", .tup l]] = some (.lst (inD (.tr 2) l), .ow) :=
  right_ok (m := ["red"]) (t := ["k"]) (a := ["to"]) (e := .tr 2) trivial h2 (by decide) hp
theorem fits2 (x y : D) : Fits ["program"] [.tr 2, .le x, .le y] := Fits.cons (e := .tr 2) (Fits.cons (e := .le x) (Fits.cons (e := .le y) .nil))
theorem two_told {x y : D} (hx : LetOk ["red"] ["k"] ["to"] x) (b : Bool) (hy : g_is_part [K0, .str "letter", y, .bl true] = some (.bl (!b), .sh)) (hi : g_inner_parts [.str "letter", y] = some (.lst [], .ow)) (hpl : pl 5 y = true) :
    g__law_told [K0, .tup [.str "trace", .tup [x, y]], .bl false] = some (resD (if b = true then some 2 else none), .sh) := by
  have z := first_ok (k := K0) (v := .tup [.str "trace", .tup [x, y]]) (o := fun _ => none) (wr := fun i _ => b && i == 2) (r := [.tr 2, .le x, .le y]) (fun i d h => by cases h) (fits2 x y) rfl (fun e he => by
    simp only [List.mem_cons, List.not_mem_nil, or_false] at he
    rcases he with rfl | rfl | rfl
    · trivial
    · exact hx.pl
    · exact hpl) (by show (0 : Nat) ≤ 10; decide) (by show (3 : Nat) ≤ 1000; decide) (fun j e hj l hl hp => by
      match j with
      | 0 =>
        cases hj
        have q := tr_ok hp hl
        refine ⟨?_, fun _ => q.2⟩
        show g_is_part _ = some (.bl (!(b && false)), .sh)
        rw [Bool.and_false]
        exact q.1
      | 1 =>
        cases hj
        refine ⟨?_, fun _ => hx.inn⟩
        show g_is_part _ = some (.bl (!(b && false)), .sh)
        rw [Bool.and_false]
        exact hx.ok
      | 2 =>
        cases hj
        refine ⟨?_, fun _ => hi⟩
        show g_is_part _ = some (.bl (!(b && true)), .sh)
        rw [Bool.and_true]
        exact hy
      | j + 3 => cases hj)
  have e : fo (fun i _ => b && i == 2) 0 [.tr 2, .le x, .le y] = if b = true then some 2 else none := by cases b <;> rfl
  rw [e] at z
  exact told_ok z
theorem fx4 : g__law_told [K0, .tup [.str "trace", .tup [mkM, F4]], .bl false] = some (resD (some 2), .sh) :=
  two_told mark0 true (two_pairs ("to", "out") ("k", "with") t_out t_with (by decide +kernel)) inner_facts (pl_facts _ 1)
theorem asc8 : Asc [("k", "with"), ("to", "in"), ("to", "out")] := fun i p q h1 h2 => by
  match i with
  | 0 => cases h1; cases h2; decide +kernel
  | 1 => cases h1; cases h2; decide +kernel
  | 2 => cases h2
  | i + 3 => cases h1
theorem fx8 : g__law_told [K0, .tup [.str "trace", .tup [F8, mkM]], .bl false] = some (resD none, .sh) :=
  two_told (let_facts n0 (ps := [("k", "with"), ("to", "in"), ("to", "out")]) (by simp) (by simp) (by decide +kernel) asc8) false mark0.ok inner_mark rfl
def wrongs : List D := [.tup [.non, .int 0], .tup [.tup [], .int 0], .tup [.tup [.str "trace", .lst [mkM]], .int 0], .tup [.tup [.str "trace", .tup [mkM, F4]], .int 2], .tup [.tup [.str "total", mkM], .int 0], .tup [.tup [.str "plus", .lst [.tup [.str "trace", .tup []]]], .int 0],
  .tup [.tup [.str "plus", .tup [.tup [.str "trace", .tup []], .tup [.str "facts", .tup [.tup [.str "k", .str "with"]]]]], .int 2]]
theorem wrongs_ok : ∀ d ∈ wrongs, ∃ (v : D) (i : Nat), d = .tup [v, .int (i : Nat)] ∧ g__law_told [K0, v, .bl false] = some (resD (some i), .sh) := by
  intro d hd
  simp only [wrongs, List.mem_cons, List.not_mem_nil, or_false] at hd
  rcases hd with rfl | rfl | rfl | rfl | rfl | rfl | rfl
  · exact ⟨_, 0, rfl, fx1⟩
  · exact ⟨_, 0, rfl, fx2⟩
  · exact ⟨_, 0, rfl, fx3⟩
  · exact ⟨_, 2, rfl, fx4⟩
  · exact ⟨_, 0, rfl, fx5⟩
  · exact ⟨_, 0, rfl, fx6⟩
  · exact ⟨_, 2, rfl, fx7⟩
theorem law_split : ∃ A B C : HF', h_law = hSeq (hFor (sRng1 (rCons (fC (.int 8)) rNil)) (bName 3) fb_law_2) (hSeq A (hSeq B (hSeq C (hSeq (hForV 13 (bTup (bCons (bName 14) (bCons (bName 8) bNil))) fb_law_3) (hSeq (hSet 2 (fBin oAdd (fVar 2) (fLst (aCons (fTup (aCons (fCallP g__law_told (vCons (fVar 5) (vCons (fTup (aCons (fC (.str "trace")) (aCons (fTup (aCons (fTup (aCons (fC (.str "facts")) (aCons (fTup (aCons (fTup (aCons (fC (.str "k")) (aCons (fC (.str "with")) aNil))) (aCons (fTup (aCons (fC (.str "to")) (aCons (fC (.str "in")) aNil))) (aCons (fTup (aCons (fC (.str "to")) (aCons (fC (.str "out")) aNil))) aNil)))) aNil))) (aCons (fTup (aCons (fC (.str "mark")) (aCons (fC (.str "red")) aNil))) aNil))) aNil))) (vCons (fC (.bl false)) vNil)))) (aCons (fTup (aCons (fC (.str "told")) (aCons (fC .non) aNil))) aNil))) aNil)))) (hRet (fCallP g__law_all (vCons (fBin oAdd (fVar 2) (fLst (aCons (fTup (aCons (fCallP g__law_told (vCons (fVar 5) (vCons (fTup (aCons (fC (.str "trace")) (aCons (fTup aNil) aNil))) (vCons (fC (.bl false)) vNil)))) (aCons (fTup (aCons (fC (.str "told")) (aCons (fC .non) aNil))) aNil))) aNil))) vNil)))))))) ∧
    (∀ (ps : D) (x3 x4 x5 x6 x7 x8 x9 x10 x11 x12 x13 x14 x15 : SV) (δ : Dr), A [.un, .dl, .ow ps, x3, x4, x5, x6, x7, x8, x9, x10, x11, x12, x13, x14, x15] δ = some (.nx, [.un, .dl, .ow ps, x3, x4, .sh K0, x6, x7, x8, x9, x10, x11, x12, x13, x14, x15], δ)) ∧
    ∃ y, (∀ (ps : D) (x3 x4 x5 x6 x7 x8 x9 x10 x11 x12 x13 x14 x15 : SV) (δ : Dr), B [.un, .dl, .ow ps, x3, x4, .sh K0, x6, x7, x8, x9, x10, x11, x12, x13, x14, x15] δ = some (.nx, [.un, .dl, .ow ps, x3, x4, .sh K0, x6, x7, x8, x9, x10, x11, x12, y, x14, x15], δ)) ∧
    (∀ (ps : D) (x3 x4 x5 x6 x7 x8 x9 x10 x11 x12 x14 x15 : SV) (δ : Dr), C [.un, .dl, .ow ps, x3, x4, .sh K0, x6, x7, x8, x9, x10, x11, x12, y, x14, x15] δ = some (.nx, [.un, .dl, .ow ps, x3, x4, .sh K0, x6, x7, x8, x9, x10, x11, x12, .ow (.lst wrongs), x14, x15], δ)) :=
  ⟨_, _, _, rfl, fun _ _ _ _ _ _ _ _ _ _ _ _ _ _ _ => by kernel_rfl, .ow (.lst (wrongs.take 4)), fun _ _ _ _ _ _ _ _ _ _ _ _ _ _ _ => by kernel_rfl, fun _ _ _ _ _ _ _ _ _ _ _ _ _ _ => by kernel_rfl⟩
theorem law_says : LawSays := by
  intro ns hns
  obtain ⟨δ, hd, v⟩ := deal_ok (a := 70001) (b := 7919) (salt := 7948) (by decide) (by decide) (by decide) hns
  obtain ⟨A, B, C, e0, hA, y, hB, hC⟩ := law_split
  obtain ⟨ρ1, δ1, e1, v1, _, ps, m, x3, x4, x5, x6, x7, x8, x9, x10, x11, x12, x13, x14, x15, rfl, hg, hm⟩ := forD_inv (b := bName 3) (h := fb_law_2) (ds := rng 0 8) (ρ := [.un, .dl, .ow (.lst []), .un, .un, .un, .un, .un, .un, .un, .un, .un, .un, .un, .un, .un]) (δ := δ)
    (fun ds ρ δ' => VD δ' ∧ (∀ d ∈ ds, ∃ n : Nat, d = .int n ∧ n < 8) ∧ ∃ (ps : List D) (m : Nat) (x3 x4 x5 x6 x7 x8 x9 x10 x11 x12 x13 x14 x15 : SV), ρ = [.un, .dl, .ow (.lst ps), x3, x4, x5, x6, x7, x8, x9, x10, x11, x12, x13, x14, x15] ∧ PG ps m ∧ m + ds.length * 14 = 112) (fun d ds ρ δ' I => by
      obtain ⟨v', hd', ps, m, x3, x4, x5, x6, x7, x8, x9, x10, x11, x12, x13, x14, x15, rfl, hg, hm⟩ := I
      obtain ⟨n, rfl, hn⟩ := hd' d (List.mem_cons_self ..)
      rw [List.length_cons] at hm
      obtain ⟨qs, y4, y5, y6, y7, y8, y9, y10, y11, y12, y13, y14, y15, δ2, e, g2, v2⟩ := turn_ok (turn := n) (x4 := x4) (x5 := x5) (x6 := x6) (x7 := x7) (x8 := x8) (x9 := x9) (x10 := x10) (x11 := x11) (x12 := x12) (x13 := x13) (x14 := x14) (x15 := x15) hg (by omega) hn v'
      exact ⟨_, _, δ2, bName_e, e, v2, fun d h => hd' d (List.mem_cons_of_mem _ h), qs, m + 14, _, y4, y5, y6, y7, y8, y9, y10, y11, y12, y13, y14, y15, rfl, g2, by omega⟩)
    ⟨v, fun d hd => by
      obtain ⟨i, hi, rfl⟩ := List.mem_map.mp hd
      exact ⟨i, by rw [Int.zero_add], List.mem_range.mp hi⟩, [], 0, .un, .un, .un, .un, .un, .un, .un, .un, .un, .un, .un, .un, .un, rfl, PG.nil, by decide⟩
  have hm' : m = 112 := by simpa using hm
  subst hm'
  have s1 : hFor (sRng1 (rCons (fC (.int 8)) rNil)) (bName 3) fb_law_2 [.un, .dl, .ow (.lst []), .un, .un, .un, .un, .un, .un, .un, .un, .un, .un, .un, .un, .un] δ = some (.nx, [.un, .dl, .ow (.lst ps), x3, x4, x5, x6, x7, x8, x9, x10, x11, x12, x13, x14, x15], δ1) := by
    have hrg : sRng1k ([.int 8], δ) = some (rng 0 8, .sh, δ) := sRng1k_ok (n := 8) (by decide)
    simp only [hFor_e, sRng1_e, rCons_e, fC_e, Option.bind_some, rCons1_e, rNil_e, Option.map_some, hrg, hFor1_sh]
    exact e1
  obtain ⟨ρ2, δ2, e2, hw, qs, m2, z8, z14, rfl, hq, hm2, rfl⟩ := forD_inv (b := bTup (bCons (bName 14) (bCons (bName 8) bNil))) (h := fb_law_3) (ds := wrongs) (ρ := [.un, .dl, .ow (.lst ps), x3, x4, .sh K0, x6, x7, x8, x9, x10, x11, x12, .sh (.lst wrongs), x14, x15]) (δ := δ1)
    (fun ds ρ δ' => (∀ d ∈ ds, ∃ (v : D) (i : Nat), d = .tup [v, .int (i : Nat)] ∧ g__law_told [K0, v, .bl false] = some (resD (some i), .sh)) ∧ ∃ (qs : List D) (m : Nat) (z8 z14 : SV), ρ = [.un, .dl, .ow (.lst qs), x3, x4, .sh K0, x6, x7, z8, x9, x10, x11, x12, .sh (.lst wrongs), z14, x15] ∧ PG qs m ∧ m + ds.length = 119 ∧ δ' = δ1) (fun d ds ρ δ' I => by
      obtain ⟨hd', qs, m, z8, z14, rfl, hq, hm, rfl⟩ := I
      obtain ⟨v, i, rfl, ht⟩ := hd' d (List.mem_cons_self ..)
      rw [List.length_cons] at hm
      have zq : qs.length < sizeLine := Nat.lt_of_le_of_lt (show qs.length ≤ 100000 by have := hq.n; omega) (by decide)
      refine ⟨[.un, .dl, .ow (.lst qs), x3, x4, .sh K0, x6, x7, .sh (.int (i : Nat)), x9, x10, x11, x12, .sh (.lst wrongs), .sh v, x15], [.un, .dl, .ow (.lst (qs ++ [.tup [resD (some i), resD (some i)]])), x3, x4, .sh K0, x6, x7, .sh (.int (i : Nat)), x9, x10, x11, x12, .sh (.lst wrongs), .sh v, x15], δ', by kernel_rfl, ?_, fun d h => hd' d (List.mem_cons_of_mem _ h), _, m + 1, _, _, rfl, hq.app (goos_cons (goo_res _) goos_nil) (by simp), by omega, rfl⟩
      simp [fb_law_3, ht, zq, resD]) ⟨wrongs_ok, ps, 112, x8, x14, rfl, hg, rfl, rfl⟩
  have hm2' : m2 = 119 := by simpa using hm2
  subst hm2'
  have g3 := hq.app (m := 1) (ds := [.tup [resD none, resD none]]) (goos_cons (goo_res none) goos_nil) (by simp)
  have g4 := g3.app (m := 1) (ds := [.tup [resD none, resD none]]) (goos_cons (goo_res none) goos_nil) (by simp)
  have ha := LH.all_ok g4.g (z_line (by have := g4.n; omega))
  have e_all : g__law_all = LH.g__law_all := rfl
  have zq : qs.length ≤ 100000 := by have := hq.n; omega
  have z3 : (qs ++ [D.tup [resD none, resD none]]).length ≤ 100000 := by have := g3.n; omega
  have f8 : g__law_told [K0, .tup [.str "trace", .tup [.tup [.str "facts", .tup [.tup [.str "k", .str "with"], .tup [.str "to", .str "in"], .tup [.str "to", .str "out"]]], .tup [.str "mark", .str "red"]]], .bl false] = some (resD none, .sh) := fx8
  have ad1 := oAdd_lz (x := qs) (y := [.tup [resD none, resD none]]) zq (by simp)
  have ad2 := oAdd_lz (x := qs ++ [.tup [resD none, resD none]]) (y := [.tup [resD none, resD none]]) z3 (by simp)
  have fin : Wp (h_law [.un, .dl, .ow (.lst []), .un, .un, .un, .un, .un, .un, .un, .un, .un, .un, .un, .un, .un] δ) fun z => z.1 = .rt (.bl true) .sh := by
    rw [e0]
    refine wp_nx s1 (wp_nx (hA ..) (wp_nx (hB (.lst ps) x3 x4 x5 x6 x7 x8 x9 x10 x11 x12 x13 x14 x15 δ2) (wp_nx (hC (.lst ps) x3 x4 x5 x6 x7 x8 x9 x10 x11 x12 x14 x15 δ2) (wp_nx (ρ' := [.un, .dl, .ow (.lst qs), x3, x4, .sh K0, x6, x7, z8, x9, x10, x11, x12, .sh (.lst wrongs), z14, x15]) (δ' := δ2) ?_ ?_))))
    · rw [hForV_e]
      simp only [List.getElem?_cons_succ, List.getElem?_cons_zero, hForV1_ow, List.set_cons_succ, List.set_cons_zero]
      exact e2
    · refine wp_nx (ρ' := [.un, .dl, .ow (.lst (qs ++ [.tup [resD none, resD none]])), x3, x4, .sh K0, x6, x7, z8, x9, x10, x11, x12, .sh (.lst wrongs), z14, x15]) (δ' := δ2) ?_ ?_
      · simp [f8, resD] at ad1 ⊢
        simp [ad1]
      · exact wp_ret (d := .bl true) (δ' := δ2) (by
          simp [fx9, resD, e_all] at ad2 ha ⊢
          simp [ad2, ha]) rfl
  obtain ⟨ρ', δ'', e3⟩ := says_of fin
  exact ⟨δ, ρ', δ'', hd, e3⟩
end W48
open PySem PySem.W PyProof.Rows
set_option maxHeartbeats 0 in
theorem PySem.Challenge.cw_eachtongue_k48_trace_programs_refused_at_holds : PySem.Challenge.rw_eachtongue_k48_trace_programs_refused_at.Holds := by
  w_on; o_law; k_head; (case hw => w_witness2)
  k_fill
  refine L2.walk_of (l := PySem.Challenge.rw_eachtongue_k48_trace_programs_refused_at) (n := 63) (k := 10) (x := "script") (CX := fun _ => L2.CX0) (sp := fun w => DL.spL _) rfl (by decide) rfl ⟨rfl, by decide, by decide⟩ (fun w h Y => PySem.W.kIn_of Y) ?F (fun _ _ a ns hl hO hS => ⟨a, ns, rfl, DL.wl_of hO hS, hl, fun _ => rfl⟩) (fun _ _ _ _ _ h => h)
  case F =>
    intro w mg fa h KX G hmg
    refine' W48.all_mk KX G hmg ?a0 ?l0 ?c0 ?k0 ?a1 ?l1 ?c1 ?k1 ?a2 ?l2 ?c2 ?k2 ?a3 ?l3 ?c3 ?k3 ?a4 ?l4 ?c4 ?k4 ?a5 ?l5 ?c5 ?k5 ?a6 ?l6 ?c6 ?k6 ?a7 ?l7 ?c7 ?k7 ?a8 ?l8 ?c8 ?k8 ?a9 ?l9 ?c9 ?k9 ?a10 ?l10 ?c10 ?k10 ?a11 ?l11 ?c11 ?k11 ?a12 ?l12 ?c12 ?k12 ?a13 ?l13 ?c13 ?k13 ?a14 ?l14 ?c14 ?k14 ?a15 ?l15 ?c15 ?k15 ?a16 ?l16 ?c16 ?k16 ?a17 ?l17 ?c17 ?k17 ?a18 ?l18 ?c18 ?k18 ?a19 ?l19 ?c19 ?k19 ?a20 ?l20 ?c20 ?k20 ?a21 ?l21 ?c21 ?k21 ?a22 ?l22 ?c22 ?k22 ?a23 ?l23 ?c23 ?k23 ?a24 ?l24 ?c24 ?k24 ?a25 ?l25 ?c25 ?k25 ?a26 ?l26 ?c26 ?k26 ?a27 ?l27 ?c27 ?k27 ?a28 ?l28 ?c28 ?k28 ?a29 ?l29 ?c29 ?k29 ?a30 ?l30 ?c30 ?k30 ?a31 ?l31 ?c31 ?k31 ?a32 ?l32 ?c32 ?k32 ?a33 ?l33 ?c33 ?k33 ?a34 ?l34 ?c34 ?k34 ?a35 ?l35 ?c35 ?k35 ?a36 ?l36 ?c36 ?k36 ?a37 ?l37 ?c37 ?k37 ?a38 ?l38 ?c38 ?k38 ?a39 ?l39 ?c39 ?k39 ?z_abs ?z_bool ?z_dict ?z_enumerate ?z_int ?z_isinstance ?z_len ?z_list ?z_max ?z_min ?z_range ?z_sorted ?z_str ?z_tuple ?z_zip ?ca_Kind ?ci_Kind ?cf_Kind ?cl_Kind ?cc_Kind ?ck_Kind ?cp_Kind ?ch_Kind ?co_Kind ?cs_Kind ?cm_Kind ?cy_Kind ?cn_Kind_0 ?cn_Kind_1 ?cn_Kind_2 ?xa ?xd ?xl ?xsa ?xga ?xgg ?xno ?xin ?xti ?xli ?xci ?xk ?xe ?xt ?xh ?xi ?xs ?xid ?xtd ?xsd ?xca ?xsg ?xtk ?xob ?n_WITH ?n_OUT ?n_IN ?n_PROGRAM ?n_ROW ?n_MATRIX ?n_LETTER ?n_NUMBER ?n_TOTAL ?n_PLUS ?n_TIMES ?n_MARK ?n_APPLIED ?n_CORNER ?n_WHOLE ?n_FACTS ?n_ONE ?n_ALL ?n_PRODUCT ?n_TURNED ?n_SCALED ?n_SPREAD ?n_CELLS ?n_TRACE W48.law_says
    (case a0 => k_is); (case l0 => k_is); (case c0 => k_is); (case k0 => k_is); (case a1 => k_is); (case l1 => k_is); (case c1 => k_is); (case k1 => k_is); (case a2 => k_is); (case l2 => k_is); (case c2 => k_is); (case k2 => k_is); (case a3 => k_is); (case l3 => k_is); (case c3 => k_is); (case k3 => k_is); (case a4 => k_is); (case l4 => k_is); (case c4 => k_is); (case k4 => k_is); (case a5 => k_is); (case l5 => k_is); (case c5 => k_is); (case k5 => k_is); (case a6 => k_is); (case l6 => k_is); (case c6 => k_is); (case k6 => k_is); (case a7 => k_is); (case l7 => k_is); (case c7 => k_is); (case k7 => k_is); (case a8 => k_is); (case l8 => k_is); (case c8 => k_is); (case k8 => k_is); (case a9 => k_is); (case l9 => k_is); (case c9 => k_is); (case k9 => k_is); (case a10 => k_is); (case l10 => k_is); (case c10 => k_is); (case k10 => k_is); (case a11 => k_is); (case l11 => k_is); (case c11 => k_is); (case k11 => k_is); (case a12 => k_is); (case l12 => k_is); (case c12 => k_is); (case k12 => k_is); (case a13 => k_is); (case l13 => k_is); (case c13 => k_is); (case k13 => k_is); (case a14 => k_is); (case l14 => k_is); (case c14 => k_is); (case k14 => k_is); (case a15 => k_is); (case l15 => k_is); (case c15 => k_is); (case k15 => k_is); (case a16 => k_is); (case l16 => k_is); (case c16 => k_is); (case k16 => k_is); (case a17 => k_is); (case l17 => k_is); (case c17 => k_is); (case k17 => k_is); (case a18 => k_is); (case l18 => k_is); (case c18 => k_is); (case k18 => k_is); (case a19 => k_is); (case l19 => k_is); (case c19 => k_is); (case k19 => k_is); (case a20 => k_is); (case l20 => k_is); (case c20 => k_is); (case k20 => k_is); (case a21 => k_is); (case l21 => k_is); (case c21 => k_is); (case k21 => k_is); (case a22 => k_is); (case l22 => k_is); (case c22 => k_is); (case k22 => k_is); (case a23 => k_is); (case l23 => k_is); (case c23 => k_is); (case k23 => k_is); (case a24 => k_is); (case l24 => k_is); (case c24 => k_is); (case k24 => k_is); (case a25 => k_is); (case l25 => k_is); (case c25 => k_is); (case k25 => k_is); (case a26 => k_is); (case l26 => k_is); (case c26 => k_is); (case k26 => k_is); (case a27 => k_is); (case l27 => k_is); (case c27 => k_is); (case k27 => k_is); (case a28 => k_is); (case l28 => k_is); (case c28 => k_is); (case k28 => k_is); (case a29 => k_is); (case l29 => k_is); (case c29 => k_is); (case k29 => k_is); (case a30 => k_is); (case l30 => k_is); (case c30 => k_is); (case k30 => k_is); (case a31 => k_is); (case l31 => k_is); (case c31 => k_is); (case k31 => k_is); (case a32 => k_is); (case l32 => k_is); (case c32 => k_is); (case k32 => k_is); (case a33 => k_is); (case l33 => k_is); (case c33 => k_is); (case k33 => k_is); (case a34 => k_is); (case l34 => k_is); (case c34 => k_is); (case k34 => k_is); (case a35 => k_is); (case l35 => k_is); (case c35 => k_is); (case k35 => k_is); (case a36 => k_is); (case l36 => k_is); (case c36 => k_is); (case k36 => k_is); (case a37 => k_is); (case l37 => k_is); (case c37 => k_is); (case k37 => k_is); (case a38 => k_is); (case l38 => k_is); (case c38 => k_is); (case k38 => k_is); (case a39 => k_is); (case l39 => k_is); (case c39 => k_is); (case k39 => k_is); (case z_abs => k_is); (case z_bool => k_is); (case z_dict => k_is); (case z_enumerate => k_is); (case z_int => k_is); (case z_isinstance => k_is); (case z_len => k_is); (case z_list => k_is); (case z_max => k_is); (case z_min => k_is); (case z_range => k_is); (case z_sorted => k_is); (case z_str => k_is); (case z_tuple => k_is); (case z_zip => k_is); (case ca_Kind => k_is); (case ci_Kind => k_is); (case cf_Kind => k_is); (case cl_Kind => k_is); (case cc_Kind => k_is); (case ck_Kind => k_is); (case cp_Kind => k_is); (case ch_Kind => k_is); (case co_Kind => k_is); (case cs_Kind => k_is); (case cm_Kind => k_is); (case cy_Kind => k_is); (case cn_Kind_0 => k_is); (case cn_Kind_1 => k_is); (case cn_Kind_2 => k_is); (case xa => k_is); (case xd => k_is); (case xl => k_is); (case xsa => k_is); (case xga => k_is); (case xgg => k_is); (case xno => k_is); (case xin => k_is); (case xti => k_is); (case xli => k_is); (case xci => k_is); (case xk => k_is); (case xe => k_is); (case xt => k_is); (case xh => k_is); (case xi => k_is); (case xs => k_is); (case xid => k_is); (case xtd => k_is); (case xsd => k_is); (case xca => k_is); (case xsg => k_is); (case xtk => k_is); (case xob => k_is); (case n_WITH => k_is); (case n_OUT => k_is); (case n_IN => k_is); (case n_PROGRAM => k_is); (case n_ROW => k_is); (case n_MATRIX => k_is); (case n_LETTER => k_is); (case n_NUMBER => k_is); (case n_TOTAL => k_is); (case n_PLUS => k_is); (case n_TIMES => k_is); (case n_MARK => k_is); (case n_APPLIED => k_is); (case n_CORNER => k_is); (case n_WHOLE => k_is); (case n_FACTS => k_is); (case n_ONE => k_is); (case n_ALL => k_is); (case n_PRODUCT => k_is); (case n_TURNED => k_is); (case n_SCALED => k_is); (case n_SPREAD => k_is); (case n_CELLS => k_is); (case n_TRACE => k_is)
