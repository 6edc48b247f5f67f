import PyProof.Rows.All
import Wide.All
import OpenK.AllK
import Wide.FinOn
import HandS.ForMost
import HandS.Wide
import HandS.IsInst
import HandS.TupAny
import HandS.Style
import HandS.Conv
import HandS.Deep
import HandS.SortInts
import HandS.TupSets
import HandS.More
import HandS.Zip
import HandS.Lambda
import KE.GoesMore
import KE.SortKeyHeap
import HandS.EndTab
import KE.KSortKey
import PySem.Challenge.RW_needleroll_k07_whole_light_comes_through
set_option Elab.async false
set_option linter.all false
set_option maxRecDepth 100000
set_option maxHeartbeats 4000000
/-! N66, the data layer: values as trees, changeable objects as numbered cells. -/
namespace N66
open PySem PySem.Spec L2

/-- data: trees that never change; bad: not known -/
inductive D where
  | non | bl (b : Bool) | int (i : Int) | str (x : Str) | lst (ds : List D) | tup (ds : List D) | iset (ns : List Int) | bad
/-- what a slot holds: a datum, or the k-th changeable object -/
inductive S where
  | d (d : D) | o (k : Nat)
/-- a changeable object -/
inductive O where
  | lst (ds : List D) | dK (kvs : List (Int × D)) | dT (kvs : List (List Int × D)) | scr (ns : List Int) | tbl (P : Addr) (q : Str)
/-- what an expression gives: a datum, a known object, or a new object of which nobody else knows -/
inductive R where
  | val (d : D) | obj (k : Nat) | new (o : O) | tup (ss : List S)
def R.s : R → S
  | .val d => .d d
  | .obj k => .o k
  | .new (.lst ds) => .d (.lst ds)
  | .new _ => .d .bad
  | .tup _ => .d .bad
abbrev Env := List (Option S)
/-- an object's addresses: its own, and those of its parts -/
abbrev Fp := Addr × List Addr
abbrev fp (p : Fp) : List Addr := p.1 :: p.2

mutual
inductive Rep (B : Hp) : V → D → Prop
  | non : Rep B .non .non
  | bl (b : Bool) : Rep B (.bl b) (.bl b)
  | int (i : Int) : Rep B (.int i) (.int i)
  | str (x : Str) : Rep B (.str x) (.str x)
  | lst {a : Addr} {xs : List V} {ds : List D} : B a = some (.lst xs) → RepAll B xs ds → Rep B (.ref a) (.lst ds)
  | tup {a : Addr} {xs : List V} {ds : List D} : B a = some (.tup xs) → RepAll B xs ds → Rep B (.ref a) (.tup ds)
  | iset {a : Addr} {S : Int → Bool} {n : Nat} {ns : List Int} : B a = some (.set S n) → (∀ i, S i = decide (i ∈ ns)) → n = ns.length → ns.Nodup → Rep B (.ref a) (.iset ns)
  | bad (v : V) : Rep B v .bad
inductive RepAll (B : Hp) : List V → List D → Prop
  | nil : RepAll B [] []
  | cons {v : V} {vs : List V} {d : D} {ds : List D} : Rep B v d → RepAll B vs ds → RepAll B (v :: vs) (d :: ds)
end
mutual
theorem Rep.mono {B B' : Hp} (e : Same B B') : ∀ {v : V} {d : D}, Rep B v d → Rep B' v d
  | _, _, .non => .non
  | _, _, .bl b => .bl b
  | _, _, .int i => .int i
  | _, _, .str x => .str x
  | _, _, .lst h r => .lst (e _ _ h) (RepAll.mono e r)
  | _, _, .tup h r => .tup (e _ _ h) (RepAll.mono e r)
  | _, _, .iset h1 h2 h3 h4 => .iset (e _ _ h1) h2 h3 h4
  | _, _, .bad v => .bad v
theorem RepAll.mono {B B' : Hp} (e : Same B B') : ∀ {vs : List V} {ds : List D}, RepAll B vs ds → RepAll B' vs ds
  | _, _, .nil => .nil
  | _, _, .cons h r => .cons (Rep.mono e h) (RepAll.mono e r)
end
section
variable {B : Hp}
theorem RepAll.length : ∀ {vs : List V} {ds : List D}, RepAll B vs ds → vs.length = ds.length
  | _, _, .nil => rfl
  | _, _, .cons _ r => by rw [List.length_cons, List.length_cons, RepAll.length r]
theorem RepAll.get : ∀ {vs : List V} {ds : List D} {i : Nat} {d : D}, RepAll B vs ds → ds[i]? = some d → ∃ v, vs[i]? = some v ∧ Rep B v d
  | _, _, _, _, .nil, e => by simp at e
  | _, _, 0, _, .cons h _, e => by simp at e; subst e; exact ⟨_, rfl, h⟩
  | _, _, i + 1, _, .cons _ r, e => by
    obtain ⟨v, h1, h2⟩ := RepAll.get (i := i) r (by simpa using e)
    exact ⟨v, by simpa using h1, h2⟩
theorem RepAll.getV : ∀ {vs : List V} {ds : List D} {i : Nat} {v : V}, RepAll B vs ds → vs[i]? = some v → ∃ d, ds[i]? = some d ∧ Rep B v d
  | _, _, _, _, .nil, e => by simp at e
  | _, _, 0, _, .cons h _, e => by simp at e; subst e; exact ⟨_, rfl, h⟩
  | _, _, i + 1, _, .cons _ r, e => by
    obtain ⟨v, h1, h2⟩ := RepAll.getV (i := i) r (by simpa using e)
    exact ⟨v, by simpa using h1, h2⟩
theorem RepAll.app : ∀ {vs ws : List V} {ds es : List D}, RepAll B vs ds → RepAll B ws es → RepAll B (vs ++ ws) (ds ++ es)
  | _, _, _, _, .nil, r => r
  | _, _, _, _, .cons h t, r => .cons h (RepAll.app t r)
theorem RepAll.one {v : V} {d : D} (h : Rep B v d) : RepAll B [v] [d] := .cons h .nil
theorem RepAll.take : ∀ {vs : List V} {ds : List D} (n : Nat), RepAll B vs ds → RepAll B (vs.take n) (ds.take n)
  | _, _, 0, _ => by simp; exact .nil
  | _, _, _ + 1, .nil => by simp; exact .nil
  | _, _, n + 1, .cons h r => by simp only [List.take_succ_cons]; exact .cons h (RepAll.take n r)
theorem RepAll.drop : ∀ {vs : List V} {ds : List D} (n : Nat), RepAll B vs ds → RepAll B (vs.drop n) (ds.drop n)
  | _, _, 0, r => by simpa using r
  | _, _, _ + 1, .nil => by simp; exact .nil
  | _, _, n + 1, .cons h r => by simp only [List.drop_succ_cons]; exact RepAll.drop n r
theorem RepAll.set : ∀ {vs : List V} {ds : List D} (n : Nat) {v : V} {d : D}, RepAll B vs ds → Rep B v d → RepAll B (vs.set n v) (ds.set n d)
  | _, _, _, _, _, .nil, _ => by simp; exact .nil
  | _, _, 0, _, _, .cons _ r, h => by simp only [List.set_cons_zero]; exact .cons h r
  | _, _, n + 1, _, _, .cons q r, h => by simp only [List.set_cons_succ]; exact .cons q (RepAll.set n r h)
theorem RepAll.dropLast {vs : List V} {ds : List D} (r : RepAll B vs ds) : RepAll B vs.dropLast ds.dropLast := by
  rw [List.dropLast_eq_take, List.dropLast_eq_take, r.length]
  exact r.take _
theorem RepAll.rev : ∀ {vs : List V} {ds : List D}, RepAll B vs ds → RepAll B vs.reverse ds.reverse
  | _, _, .nil => by simp; exact .nil
  | _, _, .cons h r => by simp only [List.reverse_cons]; exact (RepAll.rev r).app (.one h)
theorem RepAll.ints : ∀ {vs : List V} {ns : List Int}, RepAll B vs (ns.map D.int) → vs = ns.map V.int
  | _, [], h => by cases h; rfl
  | _, n :: ns, h => by
    cases h with
    | cons h r =>
      cases h
      rw [List.map_cons, RepAll.ints r]
theorem RepAll.ofInts : ∀ (ns : List Int), RepAll B (ns.map V.int) (ns.map D.int)
  | [] => .nil
  | n :: ns => .cons (.int n) (RepAll.ofInts ns)
theorem RepAll.bls : ∀ {vs : List V} {bs : List Bool}, RepAll B vs (bs.map D.bl) → vs = bs.map V.bl
  | _, [], h => by cases h; rfl
  | _, n :: ns, h => by
    cases h with
    | cons h r =>
      cases h
      rw [List.map_cons, RepAll.bls r]
end

/-- what a changeable object is, in the heap H -/
def ObjAt (B H : Hp) (p : Fp) : O → Prop
  | .lst ds => p.2 = [] ∧ ∃ vs, H p.1 = some (.lst vs) ∧ RepAll B vs ds
  | .dK kvs => p.2 = [] ∧ ∃ ws : List (Key × V), H p.1 = some (.dK ws) ∧ ws.map (·.1) = kvs.map (fun q => Sum.inl q.1) ∧ RepAll B (ws.map (·.2)) (kvs.map (·.2))
  | .dT kvs => p.2 = [] ∧ ∃ ws : List (List Key × V), H p.1 = some (.dT ws) ∧ ws.map (·.1) = kvs.map (fun q => q.1.map Sum.inl) ∧ RepAll B (ws.map (·.2)) (kvs.map (·.2))
  | .scr ns => p.2 = [] ∧ Rd H p.1 (.lst (ns.map V.int))
  | .tbl P q => (p.2 = [] ∧ p.1 = P) ∧ ∃ ps : Array Value, H p.1 = some (.tbl ps) ∧ TriplesOk ps.toList ∧ ∀ (pos : Pos) (cv : Value), codeAmong pos ps.toList = some cv → ∃ c, cv = .ref c ∧ B c = some (LamX.CodeO c q)
theorem ObjAt.mono {B B' H H' : Hp} {p : Fp} (e : Same B B') (h : ∀ b ∈ fp p, H' b = H b) : ∀ {o : O}, ObjAt B H p o → ObjAt B' H' p o
  | .lst _, ⟨e1, vs, q, r⟩ => ⟨e1, vs, (h p.1 (List.mem_cons_self ..)).trans q, r.mono e⟩
  | .dK _, ⟨e1, vs, q, k, r⟩ => ⟨e1, vs, (h p.1 (List.mem_cons_self ..)).trans q, k, r.mono e⟩
  | .dT _, ⟨e1, vs, q, k, r⟩ => ⟨e1, vs, (h p.1 (List.mem_cons_self ..)).trans q, k, r.mono e⟩
  | .scr ns, ⟨e1, q⟩ => ⟨e1, by
    unfold Rd at *
    rw [h p.1 (List.mem_cons_self ..)]
    exact q⟩
  | .tbl P q, ⟨e1, ps, k1, k2, k3⟩ => ⟨e1, ps, (h p.1 (List.mem_cons_self ..)).trans k1, k2, fun pos cv hc => by
    obtain ⟨c, z1, z2⟩ := k3 pos cv hc
    exact ⟨c, z1, e _ _ z2⟩⟩
theorem ObjAt.isS {B H : Hp} {p : Fp} : ∀ {o : O}, ObjAt B H p o → ∀ b ∈ fp p, ∃ u, H b = some u
  | .lst _, ⟨e, _, q, _⟩, b, hb => by rw [fp, e, List.mem_singleton] at hb; subst hb; exact ⟨_, q⟩
  | .dK _, ⟨e, _, q, _⟩, b, hb => by rw [fp, e, List.mem_singleton] at hb; subst hb; exact ⟨_, q⟩
  | .dT _, ⟨e, _, q, _⟩, b, hb => by rw [fp, e, List.mem_singleton] at hb; subst hb; exact ⟨_, q⟩
  | .scr _, ⟨e, q⟩, b, hb => by
    rw [fp, e, List.mem_singleton] at hb; subst hb
    rcases q with q | ⟨o, q⟩
    · exact ⟨_, q⟩
    · exact ⟨_, q⟩
  | .tbl _ _, ⟨e, _, q, _⟩, b, hb => by rw [fp, e.1, List.mem_singleton] at hb; subst hb; exact ⟨_, q⟩
/-- never a tuple -/
theorem ObjAt.noTup {B H : Hp} {p : Fp} : ∀ {o : O}, ObjAt B H p o → ∀ b ∈ fp p, ∀ xs, H b ≠ some (.tup xs)
  | .lst _, ⟨e, _, q, _⟩, b, hb, xs, z => by rw [fp, e, List.mem_singleton] at hb; subst hb; rw [q] at z; cases z
  | .dK _, ⟨e, _, q, _⟩, b, hb, xs, z => by rw [fp, e, List.mem_singleton] at hb; subst hb; rw [q] at z; cases z
  | .dT _, ⟨e, _, q, _⟩, b, hb, xs, z => by rw [fp, e, List.mem_singleton] at hb; subst hb; rw [q] at z; cases z
  | .scr _, ⟨e, q⟩, b, hb, xs, z => by
    rw [fp, e, List.mem_singleton] at hb; subst hb
    rcases q with q | ⟨o, q⟩
    · rw [q] at z; cases z
    · rw [q] at z; cases z
  | .tbl _ _, ⟨e, _, q, _⟩, b, hb, xs, z => by rw [fp, e.1, List.mem_singleton] at hb; subst hb; rw [q] at z; cases z

def Out (α : List Fp) (b : Addr) : Prop := ∀ (k : Nat) (p : Fp), α[k]? = some p → b ∉ fp p
/-- the heap: B what never changes any more, α the addresses of the changeable objects -/
structure HS (H : Hp) (os : List O) (B : Hp) (α : List Fp) : Prop where
  ex : Same B H
  len : α.length = os.length
  sep : ∀ (k j : Nat) (p q : Fp), α[k]? = some p → α[j]? = some q → k ≠ j → ∀ b ∈ fp p, b ∉ fp q
  out : ∀ (k : Nat) (p : Fp), α[k]? = some p → ∀ b ∈ fp p, B b = none
  obj : ∀ (k : Nat) (p : Fp) (o : O), α[k]? = some p → os[k]? = some o → ObjAt B H p o
/-- a slot's value -/
def RepS (B : Hp) (α : List Fp) (v : V) : S → Prop
  | .d d => Rep B v d
  | .o k => ∃ p : Fp, α[k]? = some p ∧ v = .ref p.1
inductive RepSs (B : Hp) (α : List Fp) : List V → List S → Prop
  | nil : RepSs B α [] []
  | cons {v : V} {vs : List V} {s : S} {ss : List S} : RepS B α v s → RepSs B α vs ss → RepSs B α (v :: vs) (s :: ss)
structure ES (B : Hp) (α : List Fp) (σ : St) (env : Env) : Prop where
  len : σ.length = env.length
  get : ∀ (i : Nat) (s : S), env[i]? = some (some s) → ∃ v, σ[i]? = some (some v) ∧ RepS B α v s
def Pre (α α' : List Fp) : Prop := ∃ β, α' = α ++ β
theorem Pre.refl (α : List Fp) : Pre α α := ⟨[], by simp⟩
theorem Pre.trans {α β γ : List Fp} (h : Pre α β) (h' : Pre β γ) : Pre α γ := by
  obtain ⟨x, rfl⟩ := h
  obtain ⟨y, rfl⟩ := h'
  exact ⟨x ++ y, by simp⟩
theorem Pre.get {α α' : List Fp} {k : Nat} {a : Fp} (h : Pre α α') (e : α[k]? = some a) : α'[k]? = some a := by
  obtain ⟨β, rfl⟩ := h
  rw [List.getElem?_append_left (List.getElem?_eq_some_iff.mp e).1]
  exact e
theorem Pre.out {α α' : List Fp} {b : Addr} (h : Pre α α') (e : Out α' b) : Out α b := fun k p q => e k p (h.get q)
theorem Pre.len {α α' : List Fp} (h : Pre α α') : α.length ≤ α'.length := by
  obtain ⟨β, rfl⟩ := h
  simp
theorem Pre.back {α α' : List Fp} {k : Nat} {a : Fp} (h : Pre α α') (hk : k < α.length) (e : α'[k]? = some a) : α[k]? = some a := by
  obtain ⟨β, rfl⟩ := h
  rw [List.getElem?_append_left hk] at e
  exact e
structure Ext (H B : Hp) (α : List Fp) (H' B' : Hp) (α' : List Fp) : Prop where
  same : Same B B'
  pre : Pre α α'
  frm : ∀ b o, H b = some o → Out α b → H' b = some o
  grow : ∀ b, H b ≠ none → H' b ≠ none
  new : ∀ (k : Nat) (p : Fp), α'[k]? = some p → α.length ≤ k → ∀ b ∈ fp p, H b = none
  lay : ∀ (b : Addr) (xs : List V), H b = some (.lst xs) → Out α b → B b = none → B' b = none
theorem Ext.refl (H B : Hp) (α : List Fp) : Ext H B α H B α := ⟨Same.refl B, Pre.refl α, fun _ _ h _ => h, fun _ h => h, fun k p e h => by
  have := (List.getElem?_eq_some_iff.mp e).1
  omega, fun _ _ _ _ h => h⟩
theorem Ext.trans {H H1 H2 B B1 B2 : Hp} {α α1 α2 : List Fp} (h : Ext H B α H1 B1 α1) (h' : Ext H1 B1 α1 H2 B2 α2) : Ext H B α H2 B2 α2 := by
  have out : ∀ b o, H b = some o → Out α b → Out α1 b := fun b o e u k p q hb => by
    by_cases hk : k < α.length
    · exact u k p (h.pre.back hk q) hb
    · rw [h.new k p q (by omega) b hb] at e
      cases e
  refine ⟨h.same.trans h'.same, h.pre.trans h'.pre, fun b o e u => h'.frm b o (h.frm b o e u) (out b o e u), fun b e => h'.grow b (h.grow b e), fun k p e hk b hb => ?_, fun b xs e u z => h'.lay b xs (h.frm b _ e u) (out b _ e u) (h.lay b xs e u z)⟩
  · by_cases hk1 : k < α1.length
    · exact h.new k p (h'.pre.back hk1 e) hk b hb
    · have := h'.new k p e (by omega) b hb
      cases z : H b with
      | none => rfl
      | some o => exact absurd this (h.grow b (by rw [z]; simp))
def Res (H0 H B : Hp) (α : List Fp) (v : V) : R → Prop
  | .val d => Rep B v d
  | .obj k => ∃ p : Fp, α[k]? = some p ∧ v = .ref p.1
  | .new o => ∃ p : Fp, v = .ref p.1 ∧ (∀ b ∈ fp p, H0 b = none ∧ B b = none ∧ Out α b) ∧ ObjAt B H p o
  | .tup ss => ∃ a vs, v = .ref a ∧ B a = some (.tup vs) ∧ RepSs B α vs ss

section
variable {H H' B B' : Hp} {os : List O} {α α' : List Fp} {σ : St} {env : Env}
theorem RepS.mono {v : V} {s : S} (e : Same B B') (p : Pre α α') (h : RepS B α v s) : RepS B' α' v s := by
  cases s with
  | d d => exact Rep.mono e h
  | o k => obtain ⟨a, h1, h2⟩ := h; exact ⟨a, p.get h1, h2⟩
theorem RepSs.mono (e : Same B B') (p : Pre α α') : ∀ {vs : List V} {ss : List S}, RepSs B α vs ss → RepSs B' α' vs ss
  | _, _, .nil => .nil
  | _, _, .cons h r => .cons (h.mono e p) (RepSs.mono e p r)
theorem RepSs.length : ∀ {vs : List V} {ss : List S}, RepSs B α vs ss → vs.length = ss.length
  | _, _, .nil => rfl
  | _, _, .cons _ r => by rw [List.length_cons, List.length_cons, RepSs.length r]
theorem ES.mono (s : ES B α σ env) (e : Ext H B α H' B' α') : ES B' α' σ env := ⟨s.len, fun i d h => by
  obtain ⟨v, h1, h2⟩ := s.get i d h
  exact ⟨v, h1, h2.mono e.same e.pre⟩⟩
theorem ES.set (s : ES B α σ env) {i : Nat} {v : V} {d : S} (h : RepS B α v d) : ES B α (σ.set i (some v)) (env.set i (some d)) := by
  refine ⟨by rw [List.length_set, List.length_set, s.len], fun j e hj => ?_⟩
  by_cases hij : i = j
  · subst hij
    by_cases hl : i < env.length
    · rw [List.getElem?_set_self hl] at hj
      cases hj
      exact ⟨v, List.getElem?_set_self (by rw [s.len]; exact hl), h⟩
    · rw [List.getElem?_eq_none (by rw [List.length_set]; omega)] at hj
      cases hj
  · rw [List.getElem?_set_ne hij] at hj
    obtain ⟨w, h1, h2⟩ := s.get j e hj
    exact ⟨w, by rw [List.getElem?_set_ne hij]; exact h1, h2⟩
theorem ES.wipe1 (s : ES B α σ env) (i : Nat) : ES B α (σ.set i none) (env.set i none) := by
  refine ⟨by rw [List.length_set, List.length_set, s.len], fun j e hj => ?_⟩
  by_cases hij : i = j
  · subst hij
    by_cases hl : i < env.length
    · rw [List.getElem?_set_self hl] at hj
      cases hj
    · rw [List.getElem?_eq_none (by rw [List.length_set]; omega)] at hj
      cases hj
  · rw [List.getElem?_set_ne hij] at hj
    obtain ⟨w, h1, h2⟩ := s.get j e hj
    exact ⟨w, by rw [List.getElem?_set_ne hij]; exact h1, h2⟩
theorem HS.has (s : HS H os B α) {k : Nat} {p : Fp} (h : α[k]? = some p) : ∃ o, os[k]? = some o ∧ ObjAt B H p o := by
  have hlt : k < os.length := by rw [← s.len]; exact (List.getElem?_eq_some_iff.mp h).1
  exact ⟨_, List.getElem?_eq_getElem hlt, s.obj k p _ h (List.getElem?_eq_getElem hlt)⟩
theorem HS.at (s : HS H os B α) {k : Nat} {o : O} (h : os[k]? = some o) : ∃ p, α[k]? = some p ∧ ObjAt B H p o := by
  have hlt : k < α.length := by rw [s.len]; exact (List.getElem?_eq_some_iff.mp h).1
  exact ⟨_, List.getElem?_eq_getElem hlt, s.obj k _ o (List.getElem?_eq_getElem hlt) h⟩
theorem HS.outB (s : HS H os B α) {b : Addr} {u : HO} (h : B b = some u) : Out α b := fun k p e hb => by rw [s.out k p e b hb] at h; cases h
theorem HS.outN (s : HS H os B α) {b : Addr} (h : H b = none) : Out α b := fun k p e hb => by
  obtain ⟨o, _, q⟩ := s.has e
  obtain ⟨u, hu⟩ := q.isS b hb
  rw [h] at hu; cases hu
/-- an object that nobody else knows joins what never changes -/
theorem HS.lay {a : Addr} {o : HO} (s : HS H os B α) (hn : B a = none) (ha : Out α a) (h : H a = some o) : HS H os (upd B a o) α ∧ Same B (upd B a o) := by
  have e : Same B (upd B a o) := fun b u q => by rw [upd_ne (ne_of_none q hn)]; exact q
  refine ⟨⟨fun b u q => ?_, s.len, s.sep, fun k p h1 b hb => ?_, fun k b u q1 q2 => (s.obj k b u q1 q2).mono e fun _ _ => rfl⟩, e⟩
  · by_cases hb : b = a
    · subst hb; rw [upd_same] at q; cases q; exact h
    · rw [upd_ne hb] at q; exact s.ex b u q
  · rw [upd_ne (fun (z : b = a) => ha k p h1 (z ▸ hb))]; exact s.out k p h1 b hb
/-- a new object in the heap that nobody tracks yet -/
theorem HS.grow {a : Addr} {o : HO} (s : HS H os B α) (hn : H a = none) : HS (upd H a o) os B α ∧ Ext H B α (upd H a o) B α ∧ B a = none ∧ Out α a := by
  have hB : B a = none := s.ex.free hn
  have hα : Out α a := s.outN hn
  refine ⟨⟨fun b u q => ?_, s.len, s.sep, s.out, fun k p u q1 q2 => (s.obj k p u q1 q2).mono (Same.refl B) fun b hb => ?_⟩, ⟨Same.refl _, Pre.refl _, fun b u q _ => ?_, fun b q => ?_, (Ext.refl H B α).new, fun _ _ _ _ h => h⟩, hB, hα⟩
  · rw [upd_ne (ne_of_none q hB)]; exact s.ex b u q
  · exact upd_ne (fun (z : b = a) => hα k p q1 (z ▸ hb))
  · rw [upd_ne (ne_of_none q hn)]; exact q
  · rw [upd_ne (fun (z : b = a) => q (by rw [z]; exact hn))]; exact q
/-- made and laid -/
theorem HS.make {a : Addr} {o : HO} (s : HS H os B α) (hn : H a = none) : HS (upd H a o) os (upd B a o) α ∧ Ext H B α (upd H a o) (upd B a o) α ∧ upd B a o a = some o := by
  obtain ⟨s1, e1, hB, hα⟩ := s.grow (o := o) hn
  obtain ⟨s2, e2⟩ := s1.lay hB hα upd_same
  exact ⟨s2, ⟨e2, Pre.refl _, e1.frm, e1.grow, e1.new, fun b xs h u z => by
    rw [upd_ne (fun (q : b = a) => by rw [q, hn] at h; cases h)]
    exact z⟩, upd_same⟩
/-- a list that is new since H0 joins what never changes -/
theorem HS.layNew {H0 B0 : Hp} {α0 : List Fp} {a : Addr} {o : HO} (s : HS H os B α) (e0 : Ext H0 B0 α0 H B α) (hn : B a = none) (ha : Out α a) (h : H a = some o) (h0 : H0 a = none) : HS H os (upd B a o) α ∧ Ext H0 B0 α0 H (upd B a o) α := by
  obtain ⟨s1, e⟩ := s.lay hn ha h
  exact ⟨s1, e0.same.trans e, e0.pre, e0.frm, e0.grow, e0.new, fun b xs h u z => by
    rw [upd_ne (fun (q : b = a) => by rw [q, h0] at h; cases h)]
    exact e0.lay b xs h u z⟩
/-- a result is looked at as what a slot holds -/
theorem Res.freeze {H0 B0 : Hp} {α0 : List Fp} {v : V} {r : R} (s : HS H os B α) (e0 : Ext H0 B0 α0 H B α) (x : Res H0 H B α v r) : ∃ B', HS H os B' α ∧ Ext H0 B0 α0 H B' α ∧ RepS B' α v r.s := by
  cases r with
  | val d => exact ⟨B, s, e0, x⟩
  | obj k => exact ⟨B, s, e0, x⟩
  | tup ss => exact ⟨B, s, e0, .bad v⟩
  | new o =>
    cases o with
    | lst ds =>
      obtain ⟨p, rfl, hp, e, vs, hH, hr⟩ := x
      obtain ⟨h0, hB, hα⟩ := hp p.1 (List.mem_cons_self ..)
      obtain ⟨s1, e⟩ := s.layNew e0 hB hα hH h0
      exact ⟨_, s1, e, .lst upd_same (hr.mono (s.lay hB hα hH).2)⟩
    | _ => exact ⟨B, s, e0, .bad v⟩
theorem Res.back {H0 B0 H1 B1 : Hp} {α0 α1 : List Fp} {v : V} {r : R} (e : Ext H0 B0 α0 H1 B1 α1) (x : Res H1 H B α v r) : Res H0 H B α v r := by
  cases r with
  | val d => exact x
  | obj k => exact x
  | tup ss => exact x
  | new o =>
    obtain ⟨p, e1, hp, ho⟩ := x
    refine ⟨p, e1, fun b hb => ?_, ho⟩
    obtain ⟨h0, h1⟩ := hp b hb
    refine ⟨?_, h1⟩
    cases z : H0 b with
    | none => rfl
    | some u => exact absurd h0 (e.grow b (by rw [z]; simp))
/-- a new object takes its number -/
theorem Res.number {H0 B0 : Hp} {α0 : List Fp} {v : V} {o : O} (s : HS H os B α) (e0 : Ext H0 B0 α0 H B α) (x : Res H0 H B α v (.new o)) : ∃ p, HS H (os ++ [o]) B (α ++ [p]) ∧ Ext H0 B0 α0 H B (α ++ [p]) ∧ RepS B (α ++ [p]) v (.o os.length) := by
  obtain ⟨p, rfl, hp', ho⟩ := x
  have hp : ∀ b ∈ fp p, B b = none ∧ Out α b := fun b hb => (hp' b hb).2
  have key : ∀ (k : Nat) (q : Fp), (α ++ [p])[k]? = some q → α[k]? = some q ∧ k < α.length ∨ k = α.length ∧ q = p := fun k q e => by
    by_cases hk : k < α.length
    · rw [List.getElem?_append_left hk] at e
      exact .inl ⟨e, hk⟩
    · rw [List.getElem?_append_right (by omega)] at e
      have h0 : k - α.length < 1 := by
        have := (List.getElem?_eq_some_iff.mp e).1
        simpa using this
      have h1 : k = α.length := by omega
      subst h1
      simp at e
      exact .inr ⟨rfl, e.symm⟩
  refine ⟨p, ⟨s.ex, by simp [s.len], fun k j q q' h1 h2 hkj b hb hb' => ?_, fun k q h1 b hb => ?_, fun k q u h1 h2 => ?_⟩, ⟨e0.same, e0.pre.trans ⟨[p], rfl⟩, e0.frm, e0.grow, fun k q h1 hk b hb => ?_, e0.lay⟩, ⟨p, ?_, rfl⟩⟩
  · rcases key _ _ h1 with ⟨g1, _⟩ | ⟨g1, e1⟩
    · rcases key _ _ h2 with ⟨g2, _⟩ | ⟨g2, e2⟩
      · exact s.sep k j q q' g1 g2 hkj b hb hb'
      · exact (hp b (e2 ▸ hb')).2 k q g1 hb
    · rcases key _ _ h2 with ⟨g2, _⟩ | ⟨g2, e2⟩
      · exact (hp b (e1 ▸ hb)).2 j q' g2 hb'
      · omega
  · rcases key _ _ h1 with ⟨h1, _⟩ | ⟨h1, rfl⟩
    · exact s.out k q h1 b hb
    · exact (hp b hb).1
  · rcases key _ _ h1 with ⟨h1, hk⟩ | ⟨rfl, rfl⟩
    · rw [List.getElem?_append_left (by rw [← s.len]; exact hk)] at h2
      exact s.obj k q u h1 h2
    · rw [s.len, List.getElem?_append_right (Nat.le_refl _)] at h2
      simp at h2
      subst h2
      exact ho
  · rcases key _ _ h1 with ⟨h1, _⟩ | ⟨h1, e1⟩
    · exact e0.new k q h1 hk b hb
    · exact (hp' b (e1 ▸ hb)).1
  · rw [← s.len, List.getElem?_append_right (Nat.le_refl _)]
    simp
/-- a changeable object is changed -/
theorem HS.put {k : Nat} {p : Fp} {o : O} {H' : Hp} (s : HS H os B α) (h : α[k]? = some p) (hH : ∀ b, b ∉ fp p → H' b = H b) (ho : ObjAt B H' p o) : HS H' (os.set k o) B α ∧ Ext H B α H' B α := by
  refine ⟨⟨fun b u q => ?_, by rw [List.length_set]; exact s.len, s.sep, s.out, fun j q u h1 h2 => ?_⟩, Same.refl _, Pre.refl _, fun b u q z => ?_, fun b q => ?_, (Ext.refl H B α).new, fun _ _ _ _ h => h⟩
  · rw [hH b fun hb => by rw [s.out k p h b hb] at q; cases q]
    exact s.ex b u q
  · by_cases hkj : k = j
    · subst hkj
      rw [h] at h1
      cases h1
      rw [List.getElem?_set_self (by rw [← s.len]; exact (List.getElem?_eq_some_iff.mp h).1)] at h2
      cases h2
      exact ho
    · rw [List.getElem?_set_ne hkj] at h2
      exact (s.obj j q u h1 h2).mono (Same.refl _) fun b hb => hH b (s.sep j k q p h1 h (Ne.symm hkj) b hb)
  · rw [hH b (z k p h)]; exact q
  · by_cases hb : b ∈ fp p
    · obtain ⟨u, hu⟩ := ho.isS b hb
      rw [hu]; simp
    · rw [hH b hb]; exact q
/-- only the first n objects are kept -/
theorem HS.cut (s : HS H os B α) (n : Nat) : HS H (os.take n) B (α.take n) := by
  have key : ∀ (k : Nat) (q : Fp), (α.take n)[k]? = some q → α[k]? = some q ∧ k < n := fun k q e => by
    rw [List.getElem?_take] at e
    split at e
    · exact ⟨e, by assumption⟩
    · cases e
  refine ⟨s.ex, by rw [List.length_take, List.length_take, s.len], fun k j p q h1 h2 => s.sep k j p q (key _ _ h1).1 (key _ _ h2).1, fun k p h1 => s.out k p (key _ _ h1).1, fun k p o h1 h2 => ?_⟩
  obtain ⟨h1, hk⟩ := key _ _ h1
  rw [List.getElem?_take_of_lt hk] at h2
  exact s.obj k p o h1 h2
end

/-! ### a value looked at -/
def Lk (B H : Hp) (v : V) : D → Prop
  | .lst ds => ∃ a vs, v = .ref a ∧ Rd H a (.lst vs) ∧ RepAll B vs ds
  | d => Rep B v d
/-- a slot's value, looked at -/
def rsv (os : List O) : S → D
  | .d d => d
  | .o k => match os[k]? with
    | some (.lst ds) => .lst ds
    | some (.scr ns) => .lst (ns.map D.int)
    | _ => .bad
section
variable {H B : Hp} {os : List O} {α : List Fp} {v : V} {d : D}
theorem Rep.lk (s : HS H os B α) (r : Rep B v d) : Lk B H v d := by
  cases r with
  | lst h q => exact ⟨_, _, rfl, .inl (s.ex _ _ h), q⟩
  | non => exact .non
  | bl b => exact .bl b
  | int i => exact .int i
  | str x => exact .str x
  | tup h q => exact .tup h q
  | iset a b c e => exact .iset a b c e
  | bad v => exact .bad v
theorem RepS.lk {x : S} (s : HS H os B α) (r : RepS B α v x) : Lk B H v (rsv os x) := by
  cases x with
  | d d => exact Rep.lk s r
  | o k =>
    obtain ⟨p, h, rfl⟩ := r
    obtain ⟨o, e, q⟩ := s.has h
    unfold rsv
    simp only [e]
    cases o with
    | lst ds => obtain ⟨_, vs, h1, h2⟩ := q; exact ⟨_, vs, rfl, .inl h1, h2⟩
    | scr ns => exact ⟨_, _, rfl, q.2, RepAll.ofInts ns⟩
    | dK _ => exact .bad _
    | dT _ => exact .bad _
    | tbl _ _ => exact .bad _
theorem Lk.l {ds : List D} (h : Lk B H v (.lst ds)) : ∃ a vs, v = .ref a ∧ Rd H a (.lst vs) ∧ RepAll B vs ds := h
theorem Lk.t {ds : List D} (h : Lk B H v (.tup ds)) : ∃ a vs, v = .ref a ∧ B a = some (.tup vs) ∧ RepAll B vs ds := by
  cases h with
  | tup h q => exact ⟨_, _, rfl, h, q⟩
theorem Lk.i {i : Int} (h : Lk B H v (.int i)) : v = .int i := by cases h; rfl
theorem Lk.b {i : Bool} (h : Lk B H v (.bl i)) : v = .bl i := by cases h; rfl
theorem Lk.n (h : Lk B H v .non) : v = .non := by cases h; rfl
theorem rep_int {i : Int} (r : Rep B v (.int i)) : v = .int i := by cases r; rfl
theorem rep_bl {i : Bool} (r : Rep B v (.bl i)) : v = .bl i := by cases r; rfl
theorem rep_non (r : Rep B v .non) : v = .non := by cases r; rfl
end

/-! ### readings of data, and what they are over the heap -/
abbrev DE := Env → List O → (R → List O → Prop) → Prop
abbrev DT := Env → List O → (Bool → List O → Prop) → Prop
abbrev DA := Env → List O → (List S → List O → Prop) → Prop
abbrev DI := Env → List O → (List D → List O → Prop) → Prop
structure DEnds where
  nx : Env → List O → Prop
  rt : R → List O → Prop
  bk : Env → List O → Prop := fun _ _ => False
  ct : Env → List O → Prop := fun _ _ => False
abbrev DS := DEnds → Env → List O → Prop

def Mo {β : Type} (t : Env → List O → (β → List O → Prop) → Prop) : Prop := ∀ ⦃env : Env⦄ ⦃os : List O⦄ ⦃Q Q' : β → List O → Prop⦄, t env os Q → (∀ r os', Q r os' → Q' r os') → t env os Q'
def MoS (t : DS) : Prop := ∀ ⦃env : Env⦄ ⦃os : List O⦄ ⦃P Q : DEnds⦄, t P env os → (∀ e o, P.nx e o → Q.nx e o) → (∀ r o, P.rt r o → Q.rt r o) → (∀ e o, P.bk e o → Q.bk e o) → (∀ e o, P.ct e o → Q.ct e o) → t Q env os

def liftE (t : DE) : TE := fun σ H Q => ∃ env os B α, HS H os B α ∧ ES B α σ env ∧
  t env os fun r os' => ∀ v H' B', Ext H B α H' B' α → HS H' os' B' α → Res H H' B' α v r → Q v H'
def liftT (t : DT) : TT := fun σ H Q => ∃ env os B α, HS H os B α ∧ ES B α σ env ∧
  t env os fun b os' => ∀ H' B', Ext H B α H' B' α → HS H' os' B' α → Q b H'
def liftA (t : DA) : TA := fun σ H Q => ∃ env os B α, HS H os B α ∧ ES B α σ env ∧
  t env os fun ds os' => ∀ vs H' B', Ext H B α H' B' α → HS H' os' B' α → RepSs B' α vs ds → Q vs H'
def liftS (t : DS) : TS := fun D σ H => ∃ env os B α, HS H os B α ∧ ES B α σ env ∧
  t { nx := fun env' os' => ∀ σ' H' B' α', Ext H B α H' B' α' → HS H' os' B' α' → ES B' α' σ' env' → D.nx σ' H',
      rt := fun r os' => ∀ v H' B' α', Ext H B α H' B' α' → HS H' os' B' α' → Res H H' B' α' v r → D.rt v H',
      bk := fun env' os' => ∀ σ' H' B' α', Ext H B α H' B' α' → HS H' os' B' α' → ES B' α' σ' env' → D.bk σ' H',
      ct := fun env' os' => ∀ σ' H' B' α', Ext H B α H' B' α' → HS H' os' B' α' → ES B' α' σ' env' → D.ct σ' H' } env os

theorem _root_.L2.PE.mono {X : Cx} {e : Expr} {t t' : TE} (h : PE X e t) (m : ∀ σ H Q, t' σ H Q → t σ H Q) : PE X e t' := ⟨fun pins s σ H Q I q => h.run pins s σ H Q I (m σ H Q q)⟩
theorem _root_.L2.PT.mono {X : Cx} {e : Expr} {t t' : TT} (h : PT X e t) (m : ∀ σ H Q, t' σ H Q → t σ H Q) : PT X e t' := ⟨fun pins s σ H Q I q => h.run pins s σ H Q I (m σ H Q q)⟩
theorem _root_.L2.PW.mono {X : Cx} {e : Expr} {t t' : TT} (h : PW X e t) (m : ∀ σ H Q, t' σ H Q → t σ H Q) : PW X e t' := ⟨fun wh pins s σ H Q I q => h.run wh pins s σ H Q I (m σ H Q q)⟩
theorem _root_.L2.PA.mono {X : Cx} {e : List Expr} {t t' : TA} (h : PA X e t) (m : ∀ σ H Q, t' σ H Q → t σ H Q) : PA X e t' := ⟨fun pos pins s σ H Q I q => h.run pos pins s σ H Q I (m σ H Q q)⟩
theorem _root_.L2.PS.mono {X : Cx} {e : Stmt} {t t' : TS} (h : PS X e t) (m : ∀ D σ H, t' D σ H → t D σ H) : PS X e t' := ⟨fun pins s σ H D I q => h.run pins s σ H D I (m D σ H q)⟩
theorem _root_.L2.PSs.mono {X : Cx} {e : List Stmt} {t t' : TS} (h : PSs X e t) (m : ∀ D σ H, t' D σ H → t D σ H) : PSs X e t' := ⟨fun pins s σ H D I q => h.run pins s σ H D I (m D σ H q)⟩
theorem _root_.L2.PI.mono {X : Cx} {tg e : Expr} {t t' : TI} (h : PI X tg e t) (m : ∀ σ H Q, t' σ H Q → t σ H Q) : PI X tg e t' := ⟨fun pins s σ H R I q => h.run pins s σ H R I (m σ H R q)⟩

/-- the main step: a lifted reading, its result looked at -/
theorem lift_then {t : DE} (mt : Mo t) {σ : St} {H B : Hp} {env : Env} {os : List O} {α : List Fp} {Q : R → List O → Prop} {Q' : VK} (hs : HS H os B α) (es : ES B α σ env) (h : t env os Q)
    (k : ∀ r os' v H' B', Q r os' → Ext H B α H' B' α → HS H' os' B' α → ES B' α σ env → RepS B' α v r.s → Q' v H') : liftE t σ H Q' := by
  refine ⟨env, os, B, α, hs, es, mt h fun r os' q v H' B' e s x => ?_⟩
  obtain ⟨B'', s', e2, x'⟩ := x.freeze s e
  exact k r os' v H' B'' q e2 s' (es.mono e2) x'
end N66

/-! N66, the position-free syntax and its weakest preconditions over data. -/
namespace N66
open PySem PySem.Spec L2

inductive Tg where
  | nm (i : Nat) | tp (js : List Nat)
/-- built-in functions -/
inductive Fn where
  | len | isi (ty : String) | sorted | tuple | list | min | min2 | all | any | set | int | str
mutual
inductive Xp where
  | var (i : Nat) | cst (d : D) | dct (o : O)
  | bin (op : Operator) (a b : Xp) | neg (a : Xp) | not (a : Xp)
  | cmp (op : CmpOp) (a b : Xp) | cmp2 (o1 o2 : CmpOp) (a b c : Xp)
  | and (a b : Xp) | or (a b : Xp) | ite (c : Ts) (a b : Xp)
  | tup (es : Xs) | lst (es : Xs)
  | idx (a b : Xp) | slc (a : Xp) (lo hi : Op) | rev (a : Xp)
  | fn (f : Fn) (es : Xs) | call (i : Nat) (es : Xs)
  | lc (elt : Xp) (tg : Tg) (src : Src) (c : Ts) (own : List Nat)
  | srtK (i : Nat) | tupR (lo hi st : Xp) | setC (r c : Nat) (a : Xp) (own : List Nat)
inductive Op where
  | none | some (a : Xp)
inductive Xs where
  | nil | cons (a : Xp) (r : Xs)
inductive Ts where
  | tt | and (a b : Ts) | or (a b : Ts) | not (a : Ts) | val (a : Xp) | nonempty (i : Nat)
inductive Src where
  | seq (a : Xp) | rng (lo hi : Xp) | enm (a : Xp) | zip (es : Xs) | keys (i : Nat)
end
mutual
inductive Sm where
  | set (i : Nat) (a : Xp) | setO (i : Nat) (a : Xp)
  | unp (js : List Nat) (a : Xp) | par (ps : Ps)
  | aug (i : Nat) (op : Operator) (a : Xp) | ext (i : Nat) (a : Xp)
  | iff (c : Ts) (a b : Ss) | for_ (tg : Tg) (src : Src) (b : Ss) | whl (c : Ts) (b : Ss)
  | ret (a : Xp) | app (i : Nat) (a : Xp) | pop (i : Nat) | stL (i : Nat) (k v : Xp) | stD (i : Nat) (k v : Xp)
  | appN (e : Xp) (d : Xp) | popN (e : Xp) | drop (a : Xp) | cont | brk
  | stD2 (i j : Nat) (k : Nat) (v : D)
inductive Ps where
  | nil | cons (i : Nat) (o : Bool) (a : Xp) (r : Ps)
inductive Ss where
  | nil | cons (s : Sm) (r : Ss)
end

/-! ### slots -/
def getS : Env → Nat → Option S
  | [], _ => none
  | x :: _, 0 => x
  | _ :: r, i + 1 => getS r i
theorem getS_iff {d : S} : ∀ {env : Env} {i : Nat}, getS env i = some d ↔ env[i]? = some (some d)
  | [], i => by simp [getS]
  | x :: r, 0 => by simp [getS]
  | x :: r, i + 1 => by simp only [getS, List.getElem?_cons_succ]; exact getS_iff
def setS : Env → Nat → S → Env
  | [], _, _ => []
  | _ :: r, 0, d => some d :: r
  | x :: r, i + 1, d => x :: setS r i d
theorem setS_eq {d : S} : ∀ {env : Env} {i : Nat}, setS env i d = env.set i (some d)
  | [], i => by simp [setS]
  | x :: r, 0 => by simp [setS]
  | x :: r, i + 1 => by simp only [setS, List.set_cons_succ, setS_eq]
def wipeS : Env → Nat → Env
  | [], _ => []
  | _ :: r, 0 => none :: r
  | x :: r, i + 1 => x :: wipeS r i
theorem wipeS_eq : ∀ {env : Env} {i : Nat}, wipeS env i = env.set i none
  | [], i => by simp [wipeS]
  | x :: r, 0 => by simp [wipeS]
  | x :: r, i + 1 => by simp only [wipeS, List.set_cons_succ, wipeS_eq]
def wipeA (env : Env) : List Nat → Env
  | [] => env
  | v :: vs => wipeS (wipeA env vs) v
/-- a target takes a datum -/
def setAll : Env → List Nat → List D → Option Env
  | env, [], [] => some env
  | env, i :: js, d :: ds => setAll (setS env i (.d d)) js ds
  | _, _, _ => none
def bindT (tg : Tg) (d : D) (env : Env) (Q : Env → Prop) : Prop := match tg with
  | .nm i => Q (setS env i (.d d))
  | .tp js => match d with
    | .tup ds => match setAll env js ds with
      | some e => Q e
      | none => False
    | _ => False

/-! ### data -/
/-- at most n deep, all known -/
def Flat : Nat → D → Prop
  | _, .non => True
  | _, .bl _ => True
  | _, .int _ => True
  | _, .str x => PyData.strOk x = true
  | n + 1, .lst ds => ∀ d ∈ ds, Flat n d
  | n + 1, .tup ds => ∀ d ∈ ds, Flat n d
  | _, _ => False
mutual
def eqD : D → D → Bool
  | .non, .non => true
  | .bl a, .bl b => a == b
  | .bl a, .int j => (if a then 1 else 0) == j
  | .int i, .bl b => i == (if b then 1 else 0)
  | .int i, .int j => i == j
  | .str x, .str y => x == y
  | .lst xs, .lst ys => eqDs xs ys
  | .tup xs, .tup ys => eqDs xs ys
  | _, _ => false
def eqDs : List D → List D → Bool
  | [], [] => true
  | x :: xs, y :: ys => eqD x y && eqDs xs ys
  | _, _ => false
end
def lim : Nat := 100000
def MulOk (i j : Int) : Prop := CMul i j ∨ CMulW i j
def DivOk (j : Int) : Prop := 0 < j ∧ j < 1606938044258990275541962092341162602522202993782792835301376
def binW (op : Operator) (a b : D) (Q : R → Prop) : Prop := match op with
  | .Add => match a, b with
    | .int i, .int j => Q (.val (.int (i + j)))
    | .lst xs, .lst ys => (xs.length + ys.length ≤ lim) ∧ Q (.new (.lst (xs ++ ys)))
    | .tup xs, .tup ys => (xs.length + ys.length ≤ lim) ∧ Q (.val (.tup (xs ++ ys)))
    | _, _ => False
  | .Sub => match a, b with
    | .int i, .int j => Q (.val (.int (i - j)))
    | _, _ => False
  | .Mult => match a, b with
    | .int i, .int j => MulOk i j ∧ Q (.val (.int (i * j)))
    | _, _ => False
  | .FloorDiv => match a, b with
    | .int i, .int j => DivOk j ∧ Q (.val (.int (i / j)))
    | _, _ => False
  | .Mod => match a, b with
    | .int i, .int j => 0 < j ∧ Q (.val (.int (i % j)))
    | _, _ => False
  | .Pow => match a, b with
    | .int i, .int j => CPow i j ∧ Q (.val (.int (i ^ j.toNat)))
    | _, _ => False
  | _ => False
def inD (x : D) (ys : List D) : Bool := ys.any fun y => eqD y x
/-- x in c, c a list, a tuple -/
def inW (x c : D) (Q : Bool → Prop) : Prop := match c with
  | .lst ys => Flat 8 x ∧ (∀ y ∈ ys, Flat 8 y) ∧ Q (inD x ys)
  | .tup ys => Flat 0 x ∧ (∀ y ∈ ys, Flat 0 y) ∧ Q (inD x ys)
  | _ => False
def cmpW (op : CmpOp) (a b : D) (Q : Bool → Prop) : Prop := match op with
  | .Eq => Flat 8 a ∧ Flat 8 b ∧ Q (eqD a b)
  | .NotEq => Flat 8 a ∧ Flat 8 b ∧ Q (!eqD a b)
  | .Lt => match a, b with
    | .int i, .int j => Q (decide (i < j))
    | _, _ => False
  | .LtE => match a, b with
    | .int i, .int j => Q (decide (i ≤ j))
    | _, _ => False
  | .Gt => match a, b with
    | .int i, .int j => Q (decide (j < i))
    | _, _ => False
  | .GtE => match a, b with
    | .int i, .int j => Q (decide (j ≤ i))
    | _, _ => False
  | .In => inW a b Q
  | .NotIn => inW a b fun r => Q (!r)
  | .Is => match a, b with
    | .bl x, .bl y => Q (x == y)
    | .non, .non => Q true
    | .int _, .non => Q false
    | .tup _, .non => Q false
    | _, _ => False
  | .IsNot => match a, b with
    | .bl x, .bl y => Q (!(x == y))
    | .non, .non => Q false
    | .int _, .non => Q true
    | .tup _, .non => Q true
    | _, _ => False
def tupI (xs : List Int) : D := .tup (xs.map D.int)
def hasK {κ : Type} [DecidableEq κ] (kvs : List (κ × D)) (k : κ) : Bool := kvs.any fun p => decide (p.1 = k)
/-- a comparison -/
def cmpS (os : List O) (op : CmpOp) (a b : S) (Q : Bool → Prop) : Prop := cmpW op (rsv os a) (rsv os b) Q
def truD (d : D) (Q : Bool → Prop) : Prop := match d with
  | .non => Q false
  | .bl b => Q b
  | .int i => Q (i != 0)
  | .lst ds => Q (!ds.isEmpty)
  | .tup ds => Q (!ds.isEmpty)
  | _ => False
/-- an item -/
def ixD (ds : List D) (i : Int) : Option D := atI ds i
def idxW (a b : D) (Q : R → Prop) : Prop := match a, b with
  | .lst ds, .int i => match ixD ds i with
    | some d => Q (.val d)
    | none => False
  | .tup ds, .int i => match ixD ds i with
    | some d => Q (.val d)
    | none => False
  | _, _ => False
def cutD (ds : List D) (lo hi : Option Int) : List D := (ds.drop (HT.sIx ds.length 0 lo)).take (HT.sIx ds.length ds.length hi - HT.sIx ds.length 0 lo)
def slcW (a : D) (lo hi : Option Int) (Q : R → Prop) : Prop := match a with
  | .lst ds => Q (.new (.lst (cutD ds lo hi)))
  | .tup ds => Q (.val (.tup (cutD ds lo hi)))
  | _ => False
def revW (a : D) (Q : R → Prop) : Prop := match a with
  | .lst ds => Q (.new (.lst ds.reverse))
  | _ => False
def tyD : D → Option String
  | .non => some "NoneType"
  | .bl _ => some "bool"
  | .int _ => some "int"
  | .str _ => some "str"
  | .lst _ => some "list"
  | .tup _ => some "tuple"
  | _ => none
def lexLt (a b : List Int) : Bool := HT.lexLt a b
def pairI (p : Int × List Int) : D := .tup [.int p.1, tupI p.2]
def ltP (p q : Int × List Int) : Bool := if p.1 = q.1 then lexLt p.2 q.2 else decide (p.1 < q.1)
/-- what sorting gives of ints, of tuples of ints, of pairs of an int and a tuple of ints -/
def sortW (ds : List D) (Q : List D → Prop) : Prop :=
  (∃ ns : List Int, ds = ns.map D.int ∧ ∀ ns' : List Int, ns'.Perm ns → ns'.Pairwise (· ≤ ·) → Q (ns'.map D.int)) ∨
  (∃ xs : List (List Int), ds = xs.map tupI ∧ (∀ x ∈ xs, x ≠ []) ∧ ∀ xs' : List (List Int), xs'.Perm xs → xs'.Pairwise (fun a b => lexLt b a = false) → Q (xs'.map tupI)) ∨
  (∃ xs : List (Int × List Int), ds = xs.map pairI ∧ ∀ xs' : List (Int × List Int), xs'.Perm xs → xs'.Pairwise (fun a b => ltP b a = false) → Q (xs'.map pairI))
def minW (ds : List D) (Q : D → Prop) : Prop := ds ≠ [] ∧
  ((∃ ns : List Int, ds = ns.map D.int ∧ ∀ m, m ∈ ns → (∀ y ∈ ns, m ≤ y) → Q (.int m)) ∨
  (∃ xs : List (List Int), ds = xs.map tupI ∧ (∀ x ∈ xs, x ≠ []) ∧ ∀ m, m ∈ xs → (∀ y ∈ xs, lexLt y m = false) → Q (tupI m)) ∨
  (∃ xs : List (Int × List Int), ds = xs.map pairI ∧ ∀ m, m ∈ xs → (∀ y ∈ xs, ltP y m = false) → Q (pairI m)))
def seqD : D → Option (List D)
  | .lst ds => some ds
  | .tup ds => some ds
  | _ => none
/-- what a dict's keys give, sorted or in order; a set's members sorted -/
def keysW (os : List O) (s : S) (Q : O → Prop) : Prop := match s with
  | .o k => match os[k]? with
    | some o => Q o
    | none => False
  | _ => False
def fnW (os : List O) (f : Fn) (args : List S) (Q : R → Prop) : Prop := match f, args with
  | .len, [a] => match seqD (rsv os a) with
    | some ds => Q (.val (.int ds.length))
    | none => False
  | .isi ty, [.d a] => match tyD a with
    | some t => match kitB t ty with
      | some b => Q (.val (.bl b))
      | none => False
    | none => False
  | .sorted, [a] => match rsv os a with
    | .lst ds => ds.length ≤ lim ∧ sortW ds fun r => Q (.new (.lst r))
    | _ => match a with
      | .o k => match os[k]? with
        | some (.dK kvs) => kvs.length < 64 ∧ ∀ ns' : List Int, ns'.Perm (kvs.map (·.1)) → ns'.Pairwise (· ≤ ·) → Q (.new (.lst (ns'.map D.int)))
        | _ => False
      | _ => False
  | .tuple, [a] => match rsv os a with
    | .lst ds => Q (.val (.tup ds))
    | .tup ds => Q (.val (.tup ds))
    | _ => False
  | .list, [a] => match rsv os a with
    | .lst ds => Q (.new (.lst ds))
    | .tup ds => Q (.new (.lst ds))
    | _ => match a with
      | .o k => match os[k]? with
        | some (.dT kvs) => Q (.new (.lst (kvs.map fun p => tupI p.1)))
        | _ => False
      | _ => False
  | .min, [a] => match rsv os a with
    | .lst ds => ∃ ns : List Int, ds = ns.map D.int ∧ ns ≠ [] ∧ ∀ m, m ∈ ns → (∀ y ∈ ns, m ≤ y) → Q (.val (.int m))
    | _ => False
  | .min2, [a, b] => match rsv os a, rsv os b with
    | .int i, .int j => Q (.val (.int (if j < i then j else i)))
    | _, _ => False
  | .all, [a] => match rsv os a with
    | .lst ds => ∃ bs : List Bool, ds = bs.map D.bl ∧ Q (.val (.bl (bs.all id)))
    | _ => False
  | .any, [a] => match rsv os a with
    | .lst ds => ∃ bs : List Bool, ds = bs.map D.bl ∧ Q (.val (.bl (bs.any id)))
    | _ => False
  | .set, [a] => match rsv os a with
    | .tup ds => ∃ ns : List Int, ds = ns.map D.int ∧ ns.length < 64 ∧ ∀ ms : List Int, ms.Pairwise (· < ·) → (∀ i, i ∈ ms ↔ i ∈ ns) → Q (.new (.lst (ms.map D.int)))
    | _ => False
  | .int, [a] => match rsv os a with
    | .bl b => Q (.val (.int (if b then 1 else 0)))
    | .int i => Q (.val (.int i))
    | _ => False
  | .str, [a] => match rsv os a with
    | .int i => i.natAbs.log2 < 1920 ∧ Q (.val (.str (toString i)))
    | _ => False
  | _, _ => False
def rngD (lo hi : Int) : List D := (List.range (hi - lo).toNat).map fun i : Nat => D.int (lo + i)
def enmD (ds : List D) : List D := (List.range ds.length).zipWith (fun (i : Nat) d => D.tup [.int i, d]) ds
def zipD (xs ys : List D) : List D := xs.zipWith (fun x y => D.tup [x, y]) ys
def zip3D (xs ys zs : List D) : List D := (xs.zip ys).zipWith (fun (p : D × D) z => D.tup [p.1, p.2, z]) zs
def zipW (args : List S) (Q : List D → Prop) : Prop := match args with
  | [.d (.lst xs), .d (.lst ys)] => Q (zipD xs ys)
  | [.d (.tup xs), .d (.tup ys)] => Q (zipD xs ys)
  | [.d (.tup xs), .d (.tup ys), .d (.tup zs)] => Q (zip3D xs ys zs)
  | _ => False
/-- sorted(found, key=lambda angle: angle[0] * 10 ** 9 // angle[1]), found a dict of pairs -/
def srtKW (os : List O) (s : S) (Q : R → Prop) : Prop := match s with
  | .o k => match os[k]? with
    | some (.dT kvs) => ∃ ps : List (Int × Int), kvs.map (·.1) = ps.map (fun p => [p.1, p.2]) ∧ (∀ p ∈ ps, 0 ≤ p.1 ∧ p.1 < 2 ^ 60 ∧ 0 < p.2 ∧ p.2 < 2 ^ 29) ∧
        ∀ qs : List (Int × Int), qs.Perm ps → qs.Pairwise (fun a b => a.1 * 1000000000 / a.2 ≤ b.1 * 1000000000 / b.2) → Q (.new (.lst (qs.map fun p => tupI [p.1, p.2])))
    | _ => False
  | _ => False
def allD : List S → Option (List D)
  | [] => some []
  | .d d :: r => match allD r with
    | some ds => some (d :: ds)
    | none => none
  | _ => none

abbrev Fun1 := List S → List O → (R → List O → Prop) → Prop
abbrev Tab := Nat → Fun1
mutual
def wpE (T : Tab) : Xp → DE
  | .var i => fun env os Q => match getS env i with
    | some (.d d) => Q (.val d) os
    | some (.o k) => Q (.obj k) os
    | none => False
  | .cst d => fun _ os Q => Q (.val d) os
  | .dct o => fun _ os Q => Q (.new o) os
  | .bin op a b => fun env os Q => wpE T a env os fun r1 os1 => wpE T b env os1 fun r2 os2 => binW op (rsv os2 r1.s) (rsv os2 r2.s) fun r => Q r os2
  | .neg a => fun env os Q => wpE T a env os fun r os1 => match r.s with
    | .d (.int i) => Q (.val (.int (-i))) os1
    | _ => False
  | .not a => fun env os Q => wpE T a env os fun r os1 => match r.s with
    | .d (.bl b) => Q (.val (.bl (!b))) os1
    | _ => False
  | .cmp op a b => fun env os Q => wpE T a env os fun r1 os1 => wpE T b env os1 fun r2 os2 => cmpS os2 op r1.s r2.s fun b => Q (.val (.bl b)) os2
  | .cmp2 o1 o2 a b c => fun env os Q => wpE T a env os fun r1 os1 => wpE T b env os1 fun r2 os2 => cmpW o1 (rsv os2 r1.s) (rsv os2 r2.s) fun k =>
      if k = true then wpE T c env os2 fun r3 os3 => cmpW o2 (rsv os3 r2.s) (rsv os3 r3.s) fun k2 => Q (.val (.bl k2)) os3 else Q (.val (.bl false)) os2
  | .and a b => fun env os Q => wpE T a env os fun r os1 => match r.s with
    | .d (.bl k) => if k = true then wpE T b env os1 Q else Q (.val (.bl false)) os1
    | _ => False
  | .or a b => fun env os Q => wpE T a env os fun r os1 => match r.s with
    | .d (.bl k) => if k = true then Q (.val (.bl true)) os1 else wpE T b env os1 Q
    | _ => False
  | .ite c a b => fun env os Q => wpT T c env os fun k os1 => if k = true then wpE T a env os1 Q else wpE T b env os1 Q
  | .tup es => fun env os Q => wpEs T es env os fun ss os1 => match allD ss with
    | some ds => ds.length ≤ lim ∧ Q (.val (.tup ds)) os1
    | none => ss.length ≤ lim ∧ Q (.tup ss) os1
  | .lst es => fun env os Q => wpEs T es env os fun ss os1 => match allD ss with
    | some ds => ds.length ≤ lim ∧ Q (.new (.lst ds)) os1
    | none => False
  | .idx a b => fun env os Q => wpE T a env os fun r1 os1 => wpE T b env os1 fun r2 os2 => idxW (rsv os2 r1.s) (rsv os2 r2.s) fun r => Q r os2
  | .slc a lo hi => fun env os Q => wpE T a env os fun r1 os1 => wpO T lo env os1 fun l os2 => wpO T hi env os2 fun h os3 => slcW (rsv os3 r1.s) l h fun r => Q r os3
  | .rev a => fun env os Q => wpE T a env os fun r1 os1 => revW (rsv os1 r1.s) fun r => Q r os1
  | .fn f es => fun env os Q => wpEs T es env os fun ss os1 => fnW os1 f ss fun r => Q r os1
  | .call i es => fun env os Q => wpEs T es env os fun ss os1 => T i ss os1 Q
  | .lc elt tg src c own => fun env os Q => wpI T src env os fun items os1 => ∃ W : Nat → List D → List O → Prop, W 0 [] os1 ∧
      (∀ (i : Nat) (x : D) (acc : List D) (os2 : List O), items[i]? = some x → W i acc os2 → acc.length ≤ i → bindT tg x (wipeA env own) fun env' => wpT T c env' os2 fun k os3 =>
        if k = true then wpE T elt env' os3 fun r os4 => match r.s with
          | .d d => W (i + 1) (acc ++ [d]) os4
          | _ => False
        else W (i + 1) acc os3) ∧
      items.length ≤ lim ∧ ∀ acc os2, W items.length acc os2 → acc.length ≤ items.length → Q (.new (.lst acc)) os2
  | .srtK i => fun env os Q => match getS env i with
    | some s => srtKW os s fun r => Q r os
    | none => False
  | .tupR lo hi st => fun env os Q => wpE T lo env os fun r1 os1 => wpE T hi env os1 fun r2 os2 => wpE T st env os2 fun r3 os3 => match r1.s, r2.s, r3.s with
    | .d (.int a), .d (.int b), .d (.int c) => (0 ≤ a ∧ a ≤ lim) ∧ (0 ≤ b ∧ b ≤ lim) ∧ (0 < c ∧ c ≤ lim) ∧ Q (.val (.tup ((List.range ((b - a + c - 1) / c).toNat).map fun i : Nat => D.int (a + i * c)))) os3
    | _, _, _ => False
  | .setC _ _ a _ => fun env os Q => wpE T a env os fun r os1 => match r.s with
    | .d (.lst rows) => ∃ css : List (D × D × List Int), rows = css.map (fun p => .tup [p.1, p.2.1, tupI p.2.2]) ∧ css.length ≤ lim ∧ (∀ p ∈ css, p.2.2.length ≤ lim) ∧ ∀ ns : List Int, ns.Nodup → (∀ i, i ∈ ns ↔ ∃ p ∈ css, i ∈ p.2.2) → Q (.val (.iset ns)) os1
    | _ => False
def wpO (T : Tab) : Op → Env → List O → (Option Int → List O → Prop) → Prop
  | .none => fun _ os Q => Q none os
  | .some a => fun env os Q => wpE T a env os fun r os1 => match r.s with
    | .d (.int i) => Q (some i) os1
    | _ => False
def wpEs (T : Tab) : Xs → DA
  | .nil => fun _ os Q => Q [] os
  | .cons a r => fun env os Q => wpE T a env os fun x os1 => wpEs T r env os1 fun ss os2 => Q (x.s :: ss) os2
def wpT (T : Tab) : Ts → DT
  | .tt => fun _ os Q => Q true os
  | .and a b => fun env os Q => wpT T a env os fun k os1 => if k = true then wpT T b env os1 Q else Q false os1
  | .or a b => fun env os Q => wpT T a env os fun k os1 => if k = true then Q true os1 else wpT T b env os1 Q
  | .not a => fun env os Q => wpT T a env os fun k os1 => Q (!k) os1
  | .val a => fun env os Q => wpE T a env os fun r os1 => truD (rsv os1 r.s) fun k => Q k os1
  | .nonempty i => fun env os Q => match getS env i with
    | some (.o k) => match os[k]? with
      | some (.dT kvs) => Q (!kvs.isEmpty) os
      | _ => False
    | _ => False
def wpI (T : Tab) : Src → DI
  | .seq a => fun env os Q => wpE T a env os fun r os1 => match r.s with
    | .d (.lst ds) => Q ds os1
    | .d (.tup ds) => Q ds os1
    | _ => False
  | .rng lo hi => fun env os Q => wpE T lo env os fun r1 os1 => wpE T hi env os1 fun r2 os2 => match r1.s, r2.s with
    | .d (.int a), .d (.int b) => (-(2 ^ 62) ≤ a ∧ a < 2 ^ 62 ∧ -(2 ^ 62) ≤ b ∧ b < 2 ^ 62) ∧ Q (rngD a b) os2
    | _, _ => False
  | .enm a => fun env os Q => wpE T a env os fun r os1 => match r.s with
    | .d (.lst ds) => Q (enmD ds) os1
    | _ => False
  | .zip es => fun env os Q => wpEs T es env os fun ss os1 => zipW ss fun items => Q items os1
  | .keys i => fun env os Q => match getS env i with
    | some (.o k) => match os[k]? with
      | some (.dT kvs) => Q (kvs.map fun p => tupI p.1) os
      | _ => False
    | _ => False
end

/-! ### statements -/
/-- a new object takes its number -/
def newW (isO : Bool) (r : R) (os : List O) (Q : S → List O → Prop) : Prop := match isO with
  | false => Q r.s os
  | true => match r with
    | .new o => Q (.o os.length) (os ++ [o])
    | _ => False
def putK {κ : Type} [DecidableEq κ] (kvs : List (κ × D)) (k : κ) (v : D) : List (κ × D) :=
  if (kvs.any fun kv => decide (kv.1 = k)) = true then kvs.map (fun kv => if kv.1 = k then (kv.1, v) else kv) else kvs ++ [(k, v)]
def objAt (env : Env) (i : Nat) (Q : Nat → Prop) : Prop := match getS env i with
  | some (.o k) => Q k
  | _ => False
def lstAt (os : List O) (k : Nat) (Q : List D → Prop) : Prop := match os[k]? with
  | some (.lst ds) => Q ds
  | _ => False
def stDW (os : List O) (k : Nat) (key v : D) (Q : List O → Prop) : Prop := match os[k]? with
  | some (.dK kvs) => match key with
    | .int i => kvs.length < lim ∧ Q (os.set k (.dK (putK kvs i v)))
    | _ => False
  | some (.dT kvs) => ∃ ns : List Int, key = tupI ns ∧ kvs.length < lim ∧ Q (os.set k (.dT (putK kvs ns v)))
  | _ => False
def wpP (T : Tab) : Ps → Env → List O → (List (Nat × S) → List O → Prop) → Prop
  | .nil => fun _ os Q => Q [] os
  | .cons i k a r => fun env os Q => wpE T a env os fun x os1 => newW k x os1 fun d os2 => wpP T r env os2 fun ds os3 => Q ((i, d) :: ds) os3
def setPs (env : Env) : List (Nat × S) → Env
  | [] => env
  | p :: r => setPs (setS env p.1 p.2) r
def augW (op : Operator) (a b : S) (Q : D → Prop) : Prop := match op, a, b with
  | .Add, .d (.int i), .d (.int j) => Q (.int (i + j))
  | .Sub, .d (.int i), .d (.int j) => Q (.int (i - j))
  | .Mult, .d (.int i), .d (.int j) => CMul i j ∧ Q (.int (i * j))
  | _, _, _ => False
mutual
def wpS (T : Tab) : Sm → DS
  | .set i a => fun P env os => wpE T a env os fun r os1 => P.nx (setS env i r.s) os1
  | .setO i a => fun P env os => wpE T a env os fun r os1 => newW true r os1 fun d os2 => P.nx (setS env i d) os2
  | .unp js a => fun P env os => wpE T a env os fun r os1 => match r.s with
    | .d d => bindT (.tp js) d env fun e => P.nx e os1
    | _ => False
  | .par ps => fun P env os => wpP T ps env os fun ds os1 => P.nx (setPs env ds) os1
  | .aug i op a => fun P env os => match getS env i with
    | some x => wpE T a env os fun r os1 => augW op x r.s fun z => P.nx (setS env i (.d z)) os1
    | none => False
  | .ext i a => fun P env os => objAt env i fun k => wpE T a env os fun r os1 => match r.s with
    | .d (.lst es) => lstAt os1 k fun ds => ds.length + es.length ≤ lim ∧ P.nx env (os1.set k (.lst (ds ++ es)))
    | _ => False
  | .iff c a b => fun P env os => wpT T c env os fun k os1 => if k = true then wpSs T a P env os1 else wpSs T b P env os1
  | .for_ tg src b => fun P env os => wpI T src env os fun items os1 => ∃ W : Nat → Env → List O → Prop, W 0 env os1 ∧
      (∀ (i : Nat) (x : D) (env : Env) (os : List O), items[i]? = some x → W i env os → bindT tg x env fun env' => wpSs T b { P with nx := W (i + 1), ct := W (i + 1), bk := P.nx } env' os) ∧
      ∀ env os, W items.length env os → P.nx env os
  | .whl c b => fun P env os => ∃ W : Nat → Env → List O → Prop, (∃ m, W m env os) ∧
      ∀ (m : Nat) (env : Env) (os : List O), W m env os → wpT T c env os fun k os1 => if k = true then
        wpSs T b { P with nx := fun e o => ∃ m', m' < m ∧ W m' e o, ct := fun e o => ∃ m', m' < m ∧ W m' e o, bk := P.nx } env os1 else P.nx env os1
  | .ret a => fun P env os => wpE T a env os fun r os1 => P.rt r os1
  | .app i a => fun P env os => objAt env i fun k => lstAt os k fun _ => wpE T a env os fun r os1 => match r.s with
    | .d d => lstAt os1 k fun ds => ds.length < lim ∧ P.nx env (os1.set k (.lst (ds ++ [d])))
    | _ => False
  | .pop i => fun P env os => objAt env i fun k => lstAt os k fun ds => ds ≠ [] ∧ P.nx env (os.set k (.lst ds.dropLast))
  | .stL i k v => fun P env os => wpE T v env os fun r os1 => objAt env i fun o => wpE T k env os1 fun q os2 => lstAt os2 o fun ds => match q.s, r.s with
    | .d (.int z), .d d => match ixN ds.length z with
      | some j => P.nx env (os2.set o (.lst (ds.set j d)))
      | none => False
    | _, _ => False
  | .stD i k v => fun P env os => wpE T v env os fun r os1 => objAt env i fun o => wpE T k env os1 fun q os2 => match q.s, r.s with
    | .d q, .d d => stDW os2 o q d fun os3 => P.nx env os3
    | _, _ => False
  | .appN e d => fun P env os => wpE T e env os fun r os1 => match r with
    | .new (.lst ds) => ds.length < lim ∧ wpE T d env os1 fun _ os2 => P.nx env os2
    | _ => False
  | .popN e => fun P env os => wpE T e env os fun r os1 => match r with
    | .new (.lst ds) => ds ≠ [] ∧ P.nx env os1
    | _ => False
  | .drop a => fun P env os => wpE T a env os fun _ os1 => P.nx env os1
  | .cont => fun P env os => P.ct env os
  | .brk => fun P env os => P.bk env os
  | .stD2 i j k v => fun P env os => objAt env i fun o => objAt env j fun o' => match getS env k with
    | some (.d q) => stDW os o q v fun os2 => stDW os2 o' q v fun os3 => P.nx env os3
    | _ => False
def wpSs (T : Tab) : Ss → DS
  | .nil => fun P env os => P.nx env os
  | .cons s r => fun P env os => wpS T s { P with nx := fun e o => wpSs T r P e o } env os
end
end N66

/-! N66, operations on values: what they are on data. -/
namespace N66
open PySem PySem.Spec L2

/-- what follows an operation that leaves the changeable objects as they are -/
def Kont (H : Hp) (os : List O) (B : Hp) (α : List Fp) (Q0 : R → Prop) (Q : VK) : Prop := ∀ r v H' B', Ext H B α H' B' α → HS H' os B' α → Res H H' B' α v r → Q0 r → Q v H'
section
variable {H B : Hp} {os : List O} {α : List Fp} {Q0 : R → Prop} {Q : VK}
theorem Kont.val (k : Kont H os B α Q0 Q) (s : HS H os B α) {v : V} {d : D} (r : Rep B v d) (q : Q0 (.val d)) : Q v H := k (.val d) v H B (Ext.refl _ _ _) s r q
theorem Kont.new (k : Kont H os B α Q0 Q) (s : HS H os B α) {vs : List V} {ds : List D} {p : Addr} (hp : H p = none) (r : RepAll B vs ds) (q : Q0 (.new (.lst ds))) : Q (.ref p) (upd H p (.lst vs)) := by
  obtain ⟨s1, e, h1, h2⟩ := s.grow (o := .lst vs) hp
  refine k (.new (.lst ds)) _ _ B e s1 ⟨(p, []), rfl, fun b hb => ?_, rfl, vs, upd_same, r⟩ q
  rw [fp, List.mem_singleton] at hb
  subst hb
  exact ⟨hp, h1, h2⟩
theorem Kont.tup (k : Kont H os B α Q0 Q) (s : HS H os B α) {vs : List V} {ds : List D} {p : Addr} (hp : H p = none) (r : RepAll B vs ds) (q : Q0 (.val (.tup ds))) : Q (.ref p) (upd H p (.tup vs)) := by
  obtain ⟨s1, e, h1⟩ := s.make (o := .tup vs) hp
  exact k (.val (.tup ds)) _ _ _ e s1 (.tup h1 (r.mono e.same)) q
end
theorem lim_size {n : Nat} (h : n ≤ lim) : n ≤ sizeLine := Nat.le_trans h (by decide)
theorem lim_lt {n : Nat} (h : n < lim) : n < sizeLine := Nat.lt_of_lt_of_le h (by decide)

section
variable {X : Cx}
/-- list + list, what is read -/
def rCatR : R2 := fun x y H Q => ∃ l b xs zs, x = .ref l ∧ y = .ref b ∧ Rd H l (.lst xs) ∧ Rd H b (.lst zs) ∧ xs.length + zs.length ≤ sizeLine ∧ ∀ p, H p = none → Q (.ref p) (upd H p (.lst (xs ++ zs)))
theorem op_catR : OpR X (binaryOp .Add) rCatR := by
  intro pins s σ H x y v u Q I rx ry h
  obtain ⟨l, b, xs, zs, rfl, rfl, hH, hB, hz, q⟩ := h
  cases rx
  cases ry
  obtain ⟨z, its, n, r, e⟩ := hH.ok I.hok
  obtain ⟨z2, its2, n2, r2, e2⟩ := hB.ok I.hok
  have l1 := r.length
  have l2 := r2.length
  refine PySem.P.add_list e e2 ?_ (by rw [List.size_toArray, List.size_toArray]; omega)
  have ea : its.toArray ++ its2.toArray = (its ++ its2).toArray := by simp
  rw [ea]
  exact ⟨.ref _, _, I.lnew (t' := s.toks) (r.append r2) (by rw [List.length_append]; omega), rfl, q _ I.fresh⟩
/-- all of one operator -/
def BinS (X : Cx) (op : Operator) : Prop := ∃ r : R2, OpR X (binaryOp op) r ∧ ∀ {H : Hp} {os : List O} {B : Hp} {α : List Fp} {v1 v2 : V} {d1 d2 : D} {Q0 : R → Prop} {Q : VK},
  HS H os B α → Lk B H v1 d1 → Lk B H v2 d2 → binW op d1 d2 Q0 → Kont H os B α Q0 Q → r v1 v2 H Q
theorem divW {j : Int} (h : DivOk j) : CDivW 0 j := by
  obtain ⟨h1, h2⟩ := h
  exact wide_div (b := 200) h1 (by
    have e : (2 : Nat) ^ 200 = 1606938044258990275541962092341162602522202993782792835301376 := by decide
    rw [e]
    omega) (by decide) (by decide)
theorem bin_add : BinS X .Add := by
  refine ⟨_, op_add.or (op_catR.or op_catA), fun {H os B α v1 v2 d1 d2 Q0 Q} s r1 r2 h k => ?_⟩
  unfold binW at h
  simp only at h
  split at h
  · rename_i i j
    exact .inl ⟨i, j, r1.i, r2.i, k.val s (.int _) h⟩
  · rename_i xs ys
    obtain ⟨a, vs, rfl, h1, q1⟩ := r1.l
    obtain ⟨b, ws, rfl, h2, q2⟩ := r2.l
    exact .inr (.inl ⟨a, b, vs, ws, rfl, rfl, h1, h2, by rw [q1.length, q2.length]; exact lim_size h.1, fun p hp => k.new s hp (q1.app q2) h.2⟩)
  · rename_i xs ys
    obtain ⟨a, vs, rfl, h1, q1⟩ := r1.t
    obtain ⟨b, ws, rfl, h2, q2⟩ := r2.t
    have r1' : Rep B (.ref a) (.tup xs) := .tup h1 q1
    have r2' : Rep B (.ref b) (.tup ys) := .tup h2 q2
    refine .inr (.inr ⟨a, b, vs, ws, rfl, rfl, SqT.of (s.ex _ _ h1), SqT.of (s.ex _ _ h2), by rw [q1.length, q2.length]; exact lim_size h.1, fun e => ?_, fun _ e => ?_, fun _ _ p hp => k.tup s hp (q1.app q2) h.2⟩)
    · subst e
      have : xs = [] := by cases q1; rfl
      subst this
      exact k.val s r2' h.2
    · subst e
      have : ys = [] := by cases q2; rfl
      subst this
      have h2 := h.2
      rw [List.append_nil] at h2
      exact k.val s r1' h2
  · exact h.elim
theorem bin_sub : BinS X .Sub := by
  refine ⟨_, op_sub, fun {H os B α v1 v2 d1 d2 Q0 Q} s r1 r2 h k => ?_⟩
  unfold binW at h
  simp only at h
  split at h
  · rename_i i j
    exact ⟨i, j, r1.i, r2.i, k.val s (.int _) h⟩
  · exact h.elim
theorem bin_mul : BinS X .Mult := by
  refine ⟨_, op_mul.or op_mulW, fun {H os B α v1 v2 d1 d2 Q0 Q} s r1 r2 h k => ?_⟩
  unfold binW at h
  simp only at h
  split at h
  · rename_i i j
    rcases h with ⟨m | m, h⟩
    · exact .inl ⟨i, j, r1.i, r2.i, m, k.val s (.int _) h⟩
    · exact .inr ⟨i, j, r1.i, r2.i, m, k.val s (.int _) h⟩
  · exact h.elim
theorem bin_div : BinS X .FloorDiv := by
  refine ⟨_, op_fdivW, fun {H os B α v1 v2 d1 d2 Q0 Q} s r1 r2 h k => ?_⟩
  unfold binW at h
  simp only at h
  split at h
  · rename_i i j
    exact ⟨i, j, r1.i, r2.i, divW h.1, k.val s (.int _) h.2⟩
  · exact h.elim
theorem bin_mod : BinS X .Mod := by
  refine ⟨_, op_mod, fun {H os B α v1 v2 d1 d2 Q0 Q} s r1 r2 h k => ?_⟩
  unfold binW at h
  simp only at h
  split at h
  · rename_i i j
    exact ⟨i, j, r1.i, r2.i, h.1, k.val s (.int _) h.2⟩
  · exact h.elim
theorem bin_pow : BinS X .Pow := by
  refine ⟨_, op_pow, fun {H os B α v1 v2 d1 d2 Q0 Q} s r1 r2 h k => ?_⟩
  unfold binW at h
  simp only at h
  split at h
  · rename_i i j
    exact ⟨i, j, r1.i, r2.i, h.1, k.val s (.int _) h.2⟩
  · exact h.elim
theorem bin_all : ∀ op : Operator, BinS X op := by
  intro op
  have no : ∀ op : Operator, (∀ a b Q, binW op a b Q → False) → BinS X op := fun op h =>
    ⟨fun _ _ _ _ => False, fun _ _ _ _ _ _ _ _ _ _ _ _ h => h.elim, fun _ _ _ q _ => (h _ _ _ q).elim⟩
  cases op with
  | Add => exact bin_add
  | Sub => exact bin_sub
  | Mult => exact bin_mul
  | FloorDiv => exact bin_div
  | Mod => exact bin_mod
  | Pow => exact bin_pow
  | _ => exact no _ fun _ _ _ h => h
end

/-! ### comparisons -/
mutual
def toPy : D → PyData
  | .non => .none
  | .bl b => .bool b
  | .int i => .int i
  | .str x => .str x
  | .lst ds => .list (toPys ds)
  | .tup ds => .tuple (toPys ds)
  | .iset _ => .none
  | .bad => .none
def toPys : List D → List PyData
  | [] => []
  | d :: ds => toPy d :: toPys ds
end
theorem Flat.up : ∀ {n : Nat} {d : D}, Flat n d → Flat (n + 1) d
  | _, .non, _ => by simp only [Flat]
  | _, .bl _, _ => by simp only [Flat]
  | _, .int _, _ => by simp only [Flat]
  | _, .str _, h => by simpa only [Flat] using h
  | 0, .lst _, h => by simp only [Flat] at h
  | 0, .tup _, h => by simp only [Flat] at h
  | n + 1, .lst ds, h => by
    simp only [Flat] at h ⊢
    exact fun d hd => Flat.up (h d hd)
  | n + 1, .tup ds, h => by
    simp only [Flat] at h ⊢
    exact fun d hd => Flat.up (h d hd)
  | n, .iset _, h => by cases n <;> simp only [Flat] at h
  | n, .bad, h => by cases n <;> simp only [Flat] at h
theorem Flat.le {n m : Nat} {d : D} (h : Flat n d) (l : n ≤ m) : Flat m d := by
  induction l with
  | refl => exact h
  | step _ ih => exact ih.up
mutual
theorem Rep.dp {K : PySem.W.Frag} {B H : Hp} (e : Same B H) : ∀ {v : V} {d : D} {n : Nat}, Rep B v d → Flat n d → Dp K H v (toPy d)
  | _, _, _, .non, _ => by simp only [toPy]; exact .non
  | _, _, _, .bl b, _ => by simp only [toPy]; exact .bl b
  | _, _, _, .int i, _ => by simp only [toPy]; exact .int i
  | _, _, _, .str x, _ => by simp only [toPy]; exact .str x
  | _, _, 0, .lst h r, f => by simp only [Flat] at f
  | _, _, 0, .tup h r, f => by simp only [Flat] at f
  | _, _, n + 1, .lst h r, f => by
    simp only [toPy]
    simp only [Flat] at f
    exact .lst (SqL.of (e _ _ h)) (RepAll.dp e r f)
  | _, _, n + 1, .tup h r, f => by
    simp only [toPy]
    simp only [Flat] at f
    exact .tup (SqT.of (e _ _ h)) (RepAll.dp e r f)
  | _, _, n, .iset _ _ _ _, f => by cases n <;> simp only [Flat] at f
  | _, _, n, .bad _, f => by cases n <;> simp only [Flat] at f
theorem RepAll.dp {K : PySem.W.Frag} {B H : Hp} (e : Same B H) : ∀ {vs : List V} {ds : List D} {n : Nat}, RepAll B vs ds → (∀ d ∈ ds, Flat n d) → DpAll K H vs (toPys ds)
  | _, _, _, .nil, _ => by simp only [toPys]; exact .nil
  | _, _, n, .cons h r, f => by
    simp only [toPys]
    exact .cons (Rep.dp e h (f _ (List.mem_cons_self ..))) (RepAll.dp e r fun d hd => f d (List.mem_cons_of_mem _ hd))
end
theorem canLay_of : ∀ {n : Nat} {d : D}, Flat n d → (toPy d).canLay0 = true ∧ (toPy d).depth ≤ n := by
  intro n
  induction n with
  | zero =>
    intro d h
    cases d <;> simp only [Flat] at h <;> simp [toPy, PyData.canLay0, PyData.depth, h]
  | succ n ih =>
    have all : ∀ ds : List D, (∀ d ∈ ds, Flat n d) → PyData.canLayAll0 (toPys ds) = true ∧ PyData.depthAll (toPys ds) ≤ n := by
      intro ds
      induction ds with
      | nil => intro _; simp [toPys, PyData.canLayAll0, PyData.depthAll]
      | cons d ds ih2 =>
        intro h
        obtain ⟨a1, a2⟩ := ih (h d (List.mem_cons_self ..))
        obtain ⟨b1, b2⟩ := ih2 fun x hx => h x (List.mem_cons_of_mem _ hx)
        simp only [toPys, PyData.canLayAll0, PyData.depthAll, a1, b1, Bool.and_self, true_and]
        omega
    intro d h
    cases d with
    | lst ds =>
      simp only [Flat] at h
      obtain ⟨a, b⟩ := all ds h
      simp only [toPy, PyData.canLay0, PyData.depth, a, true_and]
      omega
    | tup ds =>
      simp only [Flat] at h
      obtain ⟨a, b⟩ := all ds h
      simp only [toPy, PyData.canLay0, PyData.depth, a, true_and]
      omega
    | _ => simp only [Flat] at h <;> simp [toPy, PyData.canLay0, PyData.depth, h]
theorem shaped_of {d : D} (h : Flat 8 d) : SeqAt.shaped (toPy d) = true := by
  obtain ⟨a, b⟩ := canLay_of h
  unfold SeqAt.shaped
  rw [a, decide_eq_true (by omega)]
  rfl
theorem eqv_of : ∀ {n : Nat} {d e : D}, Flat n d → Flat n e → PyData.eqv (toPy d) (toPy e) = eqD d e := by
  intro n
  induction n with
  | zero =>
    intro d e h h'
    cases d <;> simp only [Flat] at h <;> cases e <;> simp only [Flat] at h' <;> simp [toPy, PyData.eqv, eqD]
  | succ n ih =>
    have all : ∀ ds es : List D, (∀ d ∈ ds, Flat n d) → (∀ d ∈ es, Flat n d) → PyData.eqvAll (toPys ds) (toPys es) = eqDs ds es := by
      intro ds
      induction ds with
      | nil => intro es _ _; cases es <;> simp [toPys, PyData.eqvAll, eqDs]
      | cons d ds ih2 =>
        intro es h h'
        cases es with
        | nil => simp [toPys, PyData.eqvAll, eqDs]
        | cons e es =>
          simp only [toPys, PyData.eqvAll, eqDs]
          rw [ih (h d (List.mem_cons_self ..)) (h' e (List.mem_cons_self ..)), ih2 es (fun x hx => h x (List.mem_cons_of_mem _ hx)) fun x hx => h' x (List.mem_cons_of_mem _ hx)]
    intro d e h h'
    cases d <;> simp only [Flat] at h <;> cases e <;> simp only [Flat] at h' <;> simp only [toPy, PyData.eqv, eqD] <;> exact all _ _ h h'
theorem HS.dp {K : PySem.W.Frag} {H B : Hp} {os : List O} {α : List Fp} {v : V} {d : D} (s : HS H os B α) (r : Lk B H v d) {n : Nat} (f : Flat n d) : Dp K H v (toPy d) := by
  cases d with
  | lst ds =>
    obtain ⟨a, vs, rfl, h1, h2⟩ := r
    cases n with
    | zero => simp only [Flat] at f
    | succ n =>
      simp only [Flat] at f
      simp only [toPy]
      exact .lst (.inl h1) (RepAll.dp s.ex h2 f)
  | _ => exact Rep.dp s.ex r f
theorem any_eqv {x : D} {n : Nat} (f : Flat n x) : ∀ {ys : List D}, (∀ y ∈ ys, Flat n y) → ((toPys ys).any fun z => PyData.eqv z (toPy x)) = inD x ys
  | [], _ => by simp [toPys, inD]
  | y :: ys, h => by
    have ih := any_eqv f (ys := ys) fun z hz => h z (List.mem_cons_of_mem _ hz)
    unfold inD at ih ⊢
    simp only [toPys, List.any_cons]
    rw [ih, eqv_of (h y (List.mem_cons_self ..)) f]
theorem flat0_V {B : Hp} {v : V} {d : D} (r : Rep B v d) (f : Flat 0 d) : flatV v = true := by
  cases r <;> simp only [Flat] at f <;> rfl
theorem eqV_eq {B : Hp} {v w : V} {d e : D} (r : Rep B v d) (r' : Rep B w e) (f : Flat 0 d) (f' : Flat 0 e) : eqV v w = eqD d e := by
  cases r <;> simp only [Flat] at f <;> cases r' <;> simp only [Flat] at f' <;> simp [eqV, eqD]
theorem inV_eq {B : Hp} {v : V} {d : D} (r : Rep B v d) (f : Flat 0 d) : ∀ {vs : List V} {ds : List D}, RepAll B vs ds → (∀ y ∈ ds, Flat 0 y) → inV v vs = inD d ds ∧ vs.all flatV = true
  | _, _, .nil, _ => by simp [inV, inD]
  | _, _, .cons h t, g => by
    obtain ⟨a, b⟩ := inV_eq r f t fun z hz => g z (List.mem_cons_of_mem _ hz)
    have f0 := g _ (List.mem_cons_self ..)
    unfold inV inD at a ⊢
    simp only [List.any_cons, List.all_cons, a, b, eqV_eq h r f0 f, flat0_V h f0]
    simp

/-- all of one comparison -/
def CmpS (X : Cx) (op : CmpOp) : Prop := ∃ r : R2, OpR X (compareOp op) r ∧ ∀ {H : Hp} {os : List O} {B : Hp} {α : List Fp} {v1 v2 : V} {d1 d2 : D} {Q0 : Bool → Prop} {Q : VK},
  HS H os B α → Lk B H v1 d1 → Lk B H v2 d2 → cmpW op d1 d2 Q0 → (∀ b, Q0 b → Q (.bl b) H) → r v1 v2 H Q
section
variable {X : Cx}
theorem cmp_all {k : Nat} (hr : Room k X.A) : ∀ op : CmpOp, CmpS X op := by
  have hu : X.A.units + 64 < cLine := hr.units
  have hu5 : X.A.units + 65 < cLine := by have := hr.un; omega
  intro op
  cases op with
  | Eq =>
    refine ⟨_, op_eqD hu, fun {H os B α v1 v2 d1 d2 Q0 Q} s r1 r2 h k => ?_⟩
    obtain ⟨f1, f2, q⟩ := h
    exact ⟨_, _, s.dp r1 f1, s.dp r2 f2, shaped_of f1, shaped_of f2, k _ (by rw [eqv_of f1 f2]; exact q)⟩
  | NotEq =>
    refine ⟨_, op_neD hu, fun {H os B α v1 v2 d1 d2 Q0 Q} s r1 r2 h k => ?_⟩
    obtain ⟨f1, f2, q⟩ := h
    exact ⟨_, _, s.dp r1 f1, s.dp r2 f2, shaped_of f1, shaped_of f2, k _ (by rw [eqv_of f1 f2]; exact q)⟩
  | Lt =>
    refine ⟨_, op_lt, fun {H os B α v1 v2 d1 d2 Q0 Q} s r1 r2 h k => ?_⟩
    unfold cmpW at h
    simp only at h
    split at h
    · rename_i i j
      exact ⟨i, j, r1.i, r2.i, k _ h⟩
    · exact h.elim
  | LtE =>
    refine ⟨_, op_le, fun {H os B α v1 v2 d1 d2 Q0 Q} s r1 r2 h k => ?_⟩
    unfold cmpW at h
    simp only at h
    split at h
    · rename_i i j
      exact ⟨i, j, r1.i, r2.i, k _ h⟩
    · exact h.elim
  | Gt =>
    refine ⟨_, op_gt, fun {H os B α v1 v2 d1 d2 Q0 Q} s r1 r2 h k => ?_⟩
    unfold cmpW at h
    simp only at h
    split at h
    · rename_i i j
      exact ⟨i, j, r1.i, r2.i, k _ h⟩
    · exact h.elim
  | GtE =>
    refine ⟨_, op_ge, fun {H os B α v1 v2 d1 d2 Q0 Q} s r1 r2 h k => ?_⟩
    unfold cmpW at h
    simp only at h
    split at h
    · rename_i i j
      exact ⟨i, j, r1.i, r2.i, k _ h⟩
    · exact h.elim
  | In =>
    refine ⟨_, (op_inD hu5).or op_in_seq, fun {H os B α v1 v2 d1 d2 Q0 Q} s r1 r2 h k => ?_⟩
    unfold cmpW inW at h
    simp only at h
    split at h
    · rename_i ys
      obtain ⟨f, g, q⟩ := h
      have g8 : Flat 9 (.lst ys) := by simp only [Flat]; exact g
      have dl := s.dp (K := X.K) r2 g8
      simp only [toPy] at dl
      obtain ⟨c1, c2⟩ := canLay_of g8
      refine .inl ⟨_, toPys ys, s.dp r1 f, dl, shaped_of f, ?_, k _ ?_⟩
      · unfold SeqAt.shaped
        simp only [toPy] at c1 c2
        rw [c1, decide_eq_true (by omega)]
        rfl
      · rw [any_eqv f g]
        exact q
    · rename_i ys
      obtain ⟨f, g, q⟩ := h
      obtain ⟨a, vs, rfl, h1, h2⟩ := r2.t
      have r1' : Rep B v1 d1 := by
        cases d1 with
        | lst ds => simp only [Flat] at f
        | _ => exact r1
      obtain ⟨i1, i2⟩ := inV_eq r1' f h2 g
      exact .inr ⟨a, vs, rfl, .inr (SqT.of (s.ex _ _ h1)), flat0_V r1' f, i2, k _ (by rw [if_neg Bool.false_ne_true, i1]; exact q)⟩
    · exact h.elim
  | NotIn =>
    refine ⟨_, (op_notInD hu5).or op_notIn_seq, fun {H os B α v1 v2 d1 d2 Q0 Q} s r1 r2 h k => ?_⟩
    unfold cmpW inW at h
    simp only at h
    split at h
    · rename_i ys
      obtain ⟨f, g, q⟩ := h
      have g8 : Flat 9 (.lst ys) := by simp only [Flat]; exact g
      have dl := s.dp (K := X.K) r2 g8
      simp only [toPy] at dl
      obtain ⟨c1, c2⟩ := canLay_of g8
      refine .inl ⟨_, toPys ys, s.dp r1 f, dl, shaped_of f, ?_, k _ ?_⟩
      · unfold SeqAt.shaped
        simp only [toPy] at c1 c2
        rw [c1, decide_eq_true (by omega)]
        rfl
      · rw [any_eqv f g]
        exact q
    · rename_i ys
      obtain ⟨f, g, q⟩ := h
      obtain ⟨a, vs, rfl, h1, h2⟩ := r2.t
      have r1' : Rep B v1 d1 := by
        cases d1 with
        | lst ds => simp only [Flat] at f
        | _ => exact r1
      obtain ⟨i1, i2⟩ := inV_eq r1' f h2 g
      exact .inr ⟨a, vs, rfl, .inr (SqT.of (s.ex _ _ h1)), flat0_V r1' f, i2, k _ (by rw [if_pos rfl, i1]; exact q)⟩
    · exact h.elim
  | Is =>
    refine ⟨_, op_isBl.or op_isN, fun {H os B α v1 v2 d1 d2 Q0 Q} s r1 r2 h k => ?_⟩
    unfold cmpW at h
    simp only at h
    split at h
    · rename_i i j
      refine .inl ⟨i, j, r1.b, r2.b, k _ ?_⟩
      rw [show decide (i = j) = (i == j) by cases i <;> cases j <;> rfl]
      exact h
    · refine .inr ⟨r2.n, k _ ?_⟩
      rw [r1.n]
      exact h
    · refine .inr ⟨r2.n, k _ ?_⟩
      rw [r1.i]
      exact h
    · obtain ⟨a, vs, rfl, _⟩ := r1.t
      exact .inr ⟨r2.n, k _ h⟩
    · exact h.elim
  | IsNot =>
    refine ⟨_, op_notBl.or op_notN, fun {H os B α v1 v2 d1 d2 Q0 Q} s r1 r2 h k => ?_⟩
    unfold cmpW at h
    simp only at h
    split at h
    · rename_i i j
      refine .inl ⟨i, j, r1.b, r2.b, k _ ?_⟩
      rw [show decide (i = j) = (i == j) by cases i <;> cases j <;> rfl]
      exact h
    · refine .inr ⟨r2.n, k _ ?_⟩
      rw [r1.n]
      exact h
    · refine .inr ⟨r2.n, k _ ?_⟩
      rw [r1.i]
      exact h
    · obtain ⟨a, vs, rfl, _⟩ := r1.t
      exact .inr ⟨r2.n, k _ h⟩
    · exact h.elim
end
end N66

/-! N66, sorting: ints, tuples of ints, pairs of an int and a tuple of ints; any number. -/
namespace N66
open PySem PySem.Spec L2

/-! ### orders -/
theorem lex_refl : ∀ a : List Int, HT.lexLt a a = false
  | [] => rfl
  | x :: a => by rw [HT.lexLt_cons, if_pos rfl]; exact lex_refl a
theorem lex_asym : ∀ a b : List Int, HT.lexLt a b = true → HT.lexLt b a = false
  | [], [], h => by cases h
  | [], _ :: _, _ => rfl
  | _ :: _, [], h => by cases h
  | x :: a, y :: b, h => by
    rw [HT.lexLt_cons] at h ⊢
    by_cases e : x = y
    · rw [if_pos e] at h
      rw [if_pos e.symm]
      exact lex_asym a b h
    · rw [if_neg e, decide_eq_true_eq] at h
      rw [if_neg (Ne.symm e)]
      exact decide_eq_false (by omega)
theorem lex_tr : ∀ x y z : List Int, HT.lexLt y x = false → HT.lexLt z y = false → HT.lexLt z x = false
  | [], [], [], _, _ => rfl
  | [], [], _ :: _, _, _ => rfl
  | [], _ :: _, [], _, h => by cases h
  | [], _ :: _, _ :: _, _, _ => rfl
  | _ :: _, [], _, h, _ => by cases h
  | _ :: _, _ :: _, [], _, h => by cases h
  | a :: x, b :: y, c :: z, h1, h2 => by
    rw [HT.lexLt_cons] at h1 h2 ⊢
    by_cases e1 : b = a
    · rw [if_pos e1] at h1
      by_cases e2 : c = b
      · rw [if_pos e2] at h2
        rw [if_pos (e2.trans e1)]
        exact lex_tr x y z h1 h2
      · rw [if_neg e2, decide_eq_false_iff_not] at h2
        rw [if_neg (by omega)]
        exact decide_eq_false (by omega)
    · rw [if_neg e1, decide_eq_false_iff_not] at h1
      by_cases e2 : c = b
      · rw [if_neg (by omega)]
        exact decide_eq_false (by omega)
      · rw [if_neg e2, decide_eq_false_iff_not] at h2
        rw [if_neg (by omega)]
        exact decide_eq_false (by omega)
theorem ltP_asym (a b : Int × List Int) (h : ltP a b = true) : ltP b a = false := by
  unfold ltP lexLt at *
  by_cases e : a.1 = b.1
  · rw [if_pos e] at h
    rw [if_pos e.symm]
    exact lex_asym _ _ h
  · rw [if_neg e, decide_eq_true_eq] at h
    rw [if_neg (Ne.symm e)]
    exact decide_eq_false (by omega)
theorem ltP_tr (x y z : Int × List Int) (h1 : ltP y x = false) (h2 : ltP z y = false) : ltP z x = false := by
  unfold ltP lexLt at *
  by_cases e1 : y.1 = x.1
  · rw [if_pos e1] at h1
    by_cases e2 : z.1 = y.1
    · rw [if_pos e2] at h2
      rw [if_pos (e2.trans e1)]
      exact lex_tr _ _ _ h1 h2
    · rw [if_neg e2, decide_eq_false_iff_not] at h2
      rw [if_neg (by omega)]
      exact decide_eq_false (by omega)
  · rw [if_neg e1, decide_eq_false_iff_not] at h1
    by_cases e2 : z.1 = y.1
    · rw [if_neg (by omega)]
      exact decide_eq_false (by omega)
    · rw [if_neg e2, decide_eq_false_iff_not] at h2
      rw [if_neg (by omega)]
      exact decide_eq_false (by omega)

section
variable {prog : Program} {w : World} {A : Around} {E : Value → Shared → Prop} {s : Shared} {Q : Bool → Shared → Prop}
theorem lex_any {b : Bool} {fin : Bool} {xs ys : List Value} {ns ms : List Int} (i : Nat) (hx : PyProof.Rows.IntsAre xs ns) (hy : PyProof.Rows.IntsAre ys ms) (hf : fin = decide (ns.length < ms.length)) (h : Q (HT.lexLt ns ms) s) : PySem.W.KatLex prog w A b fin Q (xs.zip ys) i s := by
  induction hx generalizing ys ms i with
  | nil =>
    cases hy with
    | nil => subst hf; exact PySem.W.kat_nil h
    | cons q u hy => subst hf; exact PySem.W.kat_nil h
  | @cons p t xs ns hx ih =>
    cases hy with
    | nil => subst hf; exact PySem.W.kat_nil h
    | @cons q u ys ms hy =>
      show PySem.W.KatLex prog w A b fin Q ((Value.int p t, Value.int q u) :: xs.zip ys) i s
      refine PySem.W.kat_cons (wpAny_eqBool_int ?_)
      have hf' : fin = decide (ns.length < ms.length) := by
        rw [hf]
        exact decide_eq_decide.mpr (by rw [List.length_cons, List.length_cons]; omega)
      by_cases e : p = q
      · subst e
        rw [beq_self_eq_true]
        rw [HT.lexLt_cons, if_pos rfl] at h
        refine PySem.W.kat_yes ?_
        first
          | exact ih (i + 1) hy hf' h
          | exact ih _ _ (i + 1) hy hf' h
      · rw [show (p == q) = false from beq_eq_false_iff_ne.mpr e]
        rw [HT.lexLt_cons, if_neg e] at h
        exact PySem.W.kat_no (TS.oneLt_ints _ h)
/-- a tuple of an int and a tuple of ints -/
def TPr (h : Heap) (v : Value) (p : Int × List Int) : Prop := ∃ a o n t b, v = .ref a ∧ h.get? a = some o ∧ o.cls = .type "tuple" ∧ o.data = .seq #[.int p.1 t, .ref b] n ∧ TS.TupInts h (.ref b) p.2
theorem TPr.keeps {h h' : Heap} {v : Value} {p : Int × List Int} (x : TPr h v p) (k : ∀ b o, h.get? b = some o → o.cls = .type "tuple" → h'.get? b = some o) : TPr h' v p := by
  obtain ⟨a, o, n, t, b, e, ho, hc, hd, r⟩ := x
  exact ⟨a, o, n, t, b, e, k _ _ ho hc, hc, hd, r.keeps k⟩
theorem reads_ints : ∀ {us : List Value} {ns : List Int}, PyProof.Rows.IntsAre us ns → ∀ h : Heap, ∃ as, ReadsAll h us (ns.map PyData.int) as
  | _, _, .nil, _ => ⟨_, ReadsAll.nil⟩
  | _, _, .cons p t r, h => by
    obtain ⟨as, q⟩ := reads_ints r h
    exact ⟨_, ReadsAll.cons (Reads.int p t) q⟩
theorem lay_ints : ∀ ns : List Int, PyData.canLayAll0 (ns.map PyData.int) = true ∧ PyData.depthAll (ns.map PyData.int) = 0 ∧ ∀ ms : List Int, PyData.eqvAll (ns.map PyData.int) (ms.map PyData.int) = decide (ns = ms)
  | [] => ⟨by simp [PyData.canLayAll0], by simp [PyData.depthAll], fun ms => by cases ms <;> simp [PyData.eqvAll]⟩
  | n :: ns => by
    obtain ⟨a, b, c⟩ := lay_ints ns
    refine ⟨by simp [PyData.canLayAll0, PyData.canLay0, a], by simp [PyData.depthAll, PyData.depth, b], fun ms => ?_⟩
    cases ms with
    | nil => simp [PyData.eqvAll]
    | cons m ms =>
      simp only [List.map_cons, PyData.eqvAll, PyData.eqv, c]
      by_cases e : n = m <;> by_cases f : ns = ms <;> simp [e, f]
theorem eq_tups {p q : Value} {ns ms : List Int} (h1 : TS.TupInts s.heap p ns) (h2 : TS.TupInts s.heap q ms) (hu : A.units + 2 < cLine) (h : Q (decide (ns = ms)) s) : wpAny (model prog w) A (eqBool p q) Q E s := by
  obtain ⟨a, xs, rfl, ⟨o, ho, hc, n, hd⟩, i1⟩ := h1
  obtain ⟨b, ys, rfl, ⟨o', ho', hc', n', hd'⟩, i2⟩ := h2
  obtain ⟨as, r1⟩ := reads_ints i1 s.heap
  obtain ⟨bs, r2⟩ := reads_ints i2 s.heap
  obtain ⟨l1, l2, l3⟩ := lay_ints ns
  obtain ⟨m1, m2, m3⟩ := lay_ints ms
  have k := SeqAt.eqAt_reads (.tuple (ns.map PyData.int)) (.tuple (ms.map PyData.int)) A s (.ref a) (.ref b) _ _ (Reads.tuple ho hc hd r1) (Reads.tuple ho' hc' hd' r2) (by simp only [PyData.canLay0]; exact l1) (by simp only [PyData.canLay0]; exact m1) (by
    simp only [PyData.depth, l2, m2]
    show A.units + min 1 1 < cLine
    omega)
  refine k prog w E Q ?_
  simp only [PyData.eqv, l3]
  exact h
theorem tup_cmp {vs : List Value} {k : Value → List Int} (hp : ∀ v ∈ vs, TS.TupInts s.heap v (k v)) : SrtO.Cmp prog w A s (PyProof.Rows.tuples' true) (fun p => p.1 ∈ vs) (SrtO.lt2 fun v u => HT.lexLt (k v) (k u)) := by
  intro p q hm hm'
  have h1 := hp _ hm
  have h2 := hp _ hm'
  show wpAny (model prog w) A (PyProof.Rows.keyLt' (PyProof.Rows.tuples' true) p.1 q.1) (fun r s' => s' = s ∧ r = HT.lexLt (k p.1) (k q.1)) (fun _ _ => False) s
  generalize k p.1 = x at h1 ⊢
  generalize k q.1 = y at h2 ⊢
  obtain ⟨a, xs, e, ⟨o, ho, hc, n, hd⟩, i1⟩ := h1
  obtain ⟨a', xs', e', ⟨o', ho', hc', n', hd'⟩, i2⟩ := h2
  rw [e, e']
  refine PySem.W.kat_lt ho hd ho' hd' (lex_any 0 i1 i2 ?_ ⟨rfl, rfl⟩)
  rw [← i1.length, ← i2.length]
  simp
theorem par_cmp {vs : List Value} {k : Value → Int × List Int} (hu : A.units + 2 < cLine) (hp : ∀ v ∈ vs, TPr s.heap v (k v)) : SrtO.Cmp prog w A s (PyProof.Rows.tuples' true) (fun p => p.1 ∈ vs) (SrtO.lt2 fun v u => ltP (k v) (k u)) := by
  intro p q hm hm'
  have h1 := hp _ hm
  have h2 := hp _ hm'
  show wpAny (model prog w) A (PyProof.Rows.keyLt' (PyProof.Rows.tuples' true) p.1 q.1) (fun r s' => s' = s ∧ r = ltP (k p.1) (k q.1)) (fun _ _ => False) s
  unfold ltP lexLt
  generalize k p.1 = x at h1 ⊢
  generalize k q.1 = y at h2 ⊢
  obtain ⟨a, o, n, t, b, e, ho, hc, hd, r1⟩ := h1
  obtain ⟨a', o', n', t', b', e', ho', hc', hd', r2⟩ := h2
  rw [e, e']
  refine PySem.W.kat_lt ho hd ho' hd' ?_
  show PySem.W.KatLex prog w A true (decide (2 < 2)) _ [(.int x.1 t, .int y.1 t'), (.ref b, .ref b')] 0 s
  refine PySem.W.kat_cons (SeqAt.EqAt.int_int x.1 t y.1 t' prog w _ _ ?_)
  refine PySem.W.kat_go (fun e1 => ?_) (fun e1 => ?_)
  · have ex : x.1 = y.1 := by simpa using e1
    rw [if_pos ex]
    refine PySem.W.kat_yes (PySem.W.kat_cons (eq_tups r1 r2 hu ?_))
    refine PySem.W.kat_go (fun e2 => ?_) (fun e2 => ?_)
    · have ey : x.2 = y.2 := of_decide_eq_true e2
      exact PySem.W.kat_yes (PySem.W.kat_nil ⟨rfl, by rw [ey, lex_refl]; rfl⟩)
    · obtain ⟨c, xs, ec, t1, i1⟩ := r1
      obtain ⟨c', xs', ec', t2, i2⟩ := r2
      cases ec
      cases ec'
      refine PySem.W.kat_no (PySem.W.kat_one _ _ (HT.lt_tupInts t1 t2 i1 i2 (by omega) ?_))
      exact (show s = s ∧ HT.lexLt x.2 y.2 = HT.lexLt x.2 y.2 from ⟨rfl, rfl⟩)
  · have ex : ¬ x.1 = y.1 := by simpa using e1
    rw [if_neg ex]
    exact PySem.W.kat_no (PyProof.Rows.oneLt_int ⟨rfl, rfl⟩)
theorem tup_firsts {h : Heap} : ∀ vs : List Value, (∀ v ∈ vs, ∃ ns : List Int, TS.TupInts h v ns ∧ ns ≠ []) → ∃ fs, PySem.W.KatTups h vs fs ∧ fs.length = vs.length ∧ ∀ f ∈ fs, ∃ n t, f = Value.int n t
  | [], _ => ⟨[], PySem.W.KatTups.nil, rfl, fun f hf => by simp at hf⟩
  | v :: vs, x => by
    obtain ⟨fs, k, hl, hi⟩ := tup_firsts vs fun u hu => x u (List.mem_cons_of_mem _ hu)
    obtain ⟨ns, ⟨a, xs, rfl, ⟨o, ho, hc, n, hdt⟩, i⟩, hne⟩ := x v (List.mem_cons_self ..)
    obtain ⟨xl, rfl⟩ : ∃ l : List Value, xs = l.toArray := ⟨xs.toList, by simp⟩
    cases i' : ns with
    | nil => exact absurd i' hne
    | cons m ms =>
      subst i'
      have i2 : PyProof.Rows.IntsAre xl (m :: ms) := by simpa using i
      cases i2 with
      | cons _ t r => exact ⟨.int m t :: fs, PySem.W.KatTups.cons ho hc hdt rfl k, by rw [List.length_cons, List.length_cons, hl], fun f hm => by
          rcases List.mem_cons.mp hm with rfl | hm
          · exact ⟨m, t, rfl⟩
          · exact hi f hm⟩
theorem par_firsts {h : Heap} : ∀ vs : List Value, (∀ v ∈ vs, ∃ p : Int × List Int, TPr h v p) → ∃ fs, PySem.W.KatTups h vs fs ∧ fs.length = vs.length ∧ ∀ f ∈ fs, ∃ n t, f = Value.int n t
  | [], _ => ⟨[], PySem.W.KatTups.nil, rfl, fun f hf => by simp at hf⟩
  | v :: vs, x => by
    obtain ⟨fs, k, hl, hi⟩ := par_firsts vs fun u hu => x u (List.mem_cons_of_mem _ hu)
    obtain ⟨p, a, o, n, t, b, rfl, ho, hc, hd, _⟩ := x v (List.mem_cons_self ..)
    exact ⟨.int p.1 t :: fs, PySem.W.KatTups.cons ho hc hd rfl k, by rw [List.length_cons, List.length_cons, hl], fun f hm => by
      rcases List.mem_cons.mp hm with rfl | hm
      · exact ⟨_, t, rfl⟩
      · exact hi f hm⟩
theorem kind_of {κf : List Value} {vs fs : List Value} {Q : PyProof.Rows.SortKind → Shared → Prop} (h1 : PySem.W.KatTups s.heap vs fs) (h2 : 0 < fs.length) (h3 : ∀ f ∈ fs, ∃ n t, f = Value.int n t) (hq : Q (PyProof.Rows.tuples' true) s) : wpAny (model prog w) A (PyProof.Rows.keyKind' vs.toArray) Q E s := by
  refine PySem.W.kat_kind (T := .type "int") h1 h2 (fun f hm => ?_) (by rfl) ?_
  · obtain ⟨x, t, rfl⟩ := h3 f hm
    exact PySem.W.Looks.now
  · have e : (Value.type "int" != Value.type "tuple") = true := by first | decide +kernel | rfl | decide
    rw [e]
    exact hq
theorem tup_sortable {a : Addr} {vs : List Value} {k : Value → List Int} (h0 : 0 < vs.length) (hp : ∀ v ∈ vs, TS.TupInts s.heap v (k v) ∧ k v ≠ []) (ha : ∀ o, s.heap.get? a = some o → o.cls ≠ .type "tuple") : SrtO.SortableO prog w A s a vs fun v u => HT.lexLt (k v) (k u) := by
  intro h' keep
  have hp' : ∀ v ∈ vs, TS.TupInts h' v (k v) := fun v hm => (hp v hm).1.keeps fun b o e c => keep b o (fun z => by subst z; exact ha o e c) e
  obtain ⟨fs, h1, h2, h3⟩ := tup_firsts vs fun v hm => ⟨_, hp' v hm, (hp v hm).2⟩
  exact ⟨PyProof.Rows.tuples' true, fun Q E hq => kind_of (κf := []) h1 (by omega) h3 hq, tup_cmp hp'⟩
theorem par_sortable {a : Addr} {vs : List Value} {k : Value → Int × List Int} (hu : A.units + 2 < cLine) (h0 : 0 < vs.length) (hp : ∀ v ∈ vs, TPr s.heap v (k v)) (ha : ∀ o, s.heap.get? a = some o → o.cls ≠ .type "tuple") : SrtO.SortableO prog w A s a vs fun v u => ltP (k v) (k u) := by
  intro h' keep
  have hp' : ∀ v ∈ vs, TPr h' v (k v) := fun v hm => (hp v hm).keeps fun b o e c => keep b o (fun z => by subst z; exact ha o e c) e
  obtain ⟨fs, h1, h2, h3⟩ := par_firsts vs fun v hm => ⟨_, hp' v hm⟩
  exact ⟨PyProof.Rows.tuples' true, fun Q E hq => kind_of (κf := []) h1 (by omega) h3 hq, par_cmp hu hp'⟩
end

/-! ### as rules of the layer -/
open Classical in
noncomputable def keyBy {β : Type} (P : V → β → Prop) (d : β) (x : V) : β := if h : ∃ b, P x b then h.choose else d
theorem keyBy_spec {β : Type} {P : V → β → Prop} {d : β} {x : V} (h : ∃ b, P x b) : P x (keyBy P d x) := by
  unfold keyBy
  rw [dif_pos h]
  exact h.choose_spec
def PrI (K : PySem.W.Frag) (H : Hp) (x : V) (p : Int × List Int) : Prop := ∃ t u, x = .ref t ∧ SqT K H t [.int p.1, .ref u] ∧ SqT K H u (p.2.map V.int)
/-- sorted(xs), xs a list of tuples of ints, none empty, by k -/
def rSortT (K : PySem.W.Frag) : List V → Hp → VK → Prop := fun vs H Q => ∃ (a : Addr) (xs : List V) (k : V → List Int), vs = [V.ref a] ∧ SqL K H a xs ∧ (∀ x ∈ xs, TupI K H x (k x) ∧ k x ≠ []) ∧
  ∀ (ys : List V) (p : Addr), ys.Perm xs → ys.Pairwise (fun x y => HT.lexLt (k y) (k x) = false) → H p = none → Q (.ref p) (upd H p (.lst ys))
def rSortP (K : PySem.W.Frag) : List V → Hp → VK → Prop := fun vs H Q => ∃ (a : Addr) (xs : List V) (k : V → Int × List Int), vs = [V.ref a] ∧ SqL K H a xs ∧ (∀ x ∈ xs, PrI K H x (k x)) ∧
  ∀ (ys : List V) (p : Addr), ys.Perm xs → ys.Pairwise (fun x y => ltP (k y) (k x) = false) → H p = none → Q (.ref p) (upd H p (.lst ys))
section
variable {X : Cx} {pins : List (Addr × Obj)} {σ : L2.St} {H : Hp} {s : Shared}
theorem prI_raw (I : Inv X pins σ H s) {x : V} {p : Int × List Int} (h : PrI X.K H x p) : ∃ t, x = .ref t ∧ TPr s.heap (.ref t) p := by
  obtain ⟨t, u, rfl, h1, h2⟩ := h
  obtain ⟨its, rv, ⟨o, ho, hc, n, hd⟩, _⟩ := I.tuple h1
  obtain ⟨u1, u2, rfl, r1, r2⟩ := vals2 rv
  obtain ⟨t1, rfl⟩ := r1
  cases r2
  exact ⟨t, rfl, t, o, n, t1, u, rfl, ho, hc, hd, tupI_raw I h2⟩
theorem sort_out (I : Inv X pins σ H s) {xs : List V} {its out : List Value} {a : Addr} {Q : VK} {lt : V → V → Bool} (rv : Vals xs its) (hz : xs.length ≤ sizeLine) (hx : ∀ x ∈ xs, ∃ t, x = V.ref t)
    (hs : SrtO.Srtd (fun v u => lt (bkV v) (bkV u)) out) (hb : SrtO.Stb (fun v u => lt (bkV v) (bkV u)) out its)
    (q : ∀ (ys : List V) (p : Addr), ys.Perm xs → ys.Pairwise (fun x y => lt y x = false) → H p = none → Q (.ref p) (upd H p (.lst ys))) :
    EP X pins σ Q (.ref (s.heap.objs.size + 1)) { s with heap := PyProof.Rows.sortedAll s.heap its out.toArray } := by
  obtain ⟨e1, e2⟩ := bkV_refs rv hx
  obtain ⟨ep, he'⟩ := PyProof.Rows.sortedAll_at s.heap its out.toArray
  have h3 : ∀ u ∈ out, ∃ a, u = Value.ref a := fun u hu => e2 u (hb.perm.mem_iff.mp hu)
  have hp : (out.map bkV).Perm xs := by
    rw [e1]
    exact hb.perm.map bkV
  refine ⟨.ref _, upd H (s.heap.objs.size + 1) (.lst (out.map bkV)), I.laid (t' := s.toks) (fun _ _ => PyProof.Rows.sortedAll_old) (Nat.le_succ _) ⟨by rw [hp.length_eq]; exact hz, out, ep, bkV_vals h3, he'⟩, rfl, q _ _ hp ?_ (I.hok.fresh (Nat.le_succ _))⟩
  rw [List.pairwise_map]
  exact hs
theorem cr_sortTup : CallR X (.builtin "sorted") (rSortT X.K) := by
  intro pins s σ H vs us Q I r h
  obtain ⟨a, xs, k, rfl, hs, hx, q⟩ := h
  obtain ⟨its, rv, hl, hz⟩ := I.list hs
  rw [Vals.ref1 r]
  have hr : ∀ x ∈ xs, ∃ t, x = V.ref t := fun x m => by
    obtain ⟨⟨t, e, _⟩, _⟩ := hx x m
    exact ⟨t, e⟩
  obtain ⟨e1, e2⟩ := bkV_refs rv hr
  have hT : ∀ v ∈ its, TS.TupInts s.heap v (k (bkV v)) ∧ k (bkV v) ≠ [] := fun v hv => by
    obtain ⟨t, rfl⟩ := e2 v hv
    have hm : V.ref t ∈ xs := by
      rw [e1]
      exact List.mem_map.mpr ⟨_, hv, rfl⟩
    obtain ⟨⟨t', e, ht⟩, hn⟩ := hx _ hm
    cases e
    exact ⟨tupI_raw I ht, hn⟩
  refine SrtO.sorted_ord (ltv := fun v u => HT.lexLt (k (bkV v)) (k (bkV u))) ⟨fun x y => lex_asym _ _, fun x y z => lex_tr _ _ _⟩ hl.isList (by rw [← rv.length]; exact hz) (fun h2 h₁ a ha kk => ?_) fun out h1 h2 => sort_out I (lt := fun x y => HT.lexLt (k x) (k y)) (a := a) rv hz hr h1 h2 q
  refine tup_sortable (s := { s with heap := h₁ }) (by omega) (fun v hm => ⟨(hT v hm).1.keeps fun b o e _ => (kk b o e).2, (hT v hm).2⟩) fun o e => ?_
  have e' : some o = some (PyProof.Rows.seqObj "list" its.toArray 0) := e.symm.trans ha
  cases e'
  intro c
  exact absurd (Value.type.inj c) (by decide)
theorem cr_sortPar (hu : X.A.units + 64 < cLine) : CallR X (.builtin "sorted") (rSortP X.K) := by
  intro pins s σ H vs us Q I r h
  obtain ⟨a, xs, k, rfl, hs, hx, q⟩ := h
  obtain ⟨its, rv, hl, hz⟩ := I.list hs
  rw [Vals.ref1 r]
  have hr : ∀ x ∈ xs, ∃ t, x = V.ref t := fun x m => by
    obtain ⟨t, u, e, _⟩ := hx x m
    exact ⟨t, e⟩
  obtain ⟨e1, e2⟩ := bkV_refs rv hr
  have hT : ∀ v ∈ its, TPr s.heap v (k (bkV v)) := fun v hv => by
    obtain ⟨t, rfl⟩ := e2 v hv
    have hm : V.ref t ∈ xs := by
      rw [e1]
      exact List.mem_map.mpr ⟨_, hv, rfl⟩
    obtain ⟨t', e, ht⟩ := prI_raw I (hx _ hm)
    cases e
    exact ht
  refine SrtO.sorted_ord (ltv := fun v u => ltP (k (bkV v)) (k (bkV u))) ⟨fun x y => ltP_asym _ _, fun x y z => ltP_tr _ _ _⟩ hl.isList (by rw [← rv.length]; exact hz) (fun h2 h₁ a ha kk => ?_) fun out h1 h2 => sort_out I (lt := fun x y => ltP (k x) (k y)) (a := a) rv hz hr h1 h2 q
  refine par_sortable (s := { s with heap := h₁ }) (by show X.A.units + 1 + 1 + 2 < cLine; omega) (by omega) (fun v hm => (hT v hm).keeps fun b o e _ => (kk b o e).2) fun o e => ?_
  have e' : some o = some (PyProof.Rows.seqObj "list" its.toArray 0) := e.symm.trans ha
  cases e'
  intro c
  exact absurd (Value.type.inj c) (by decide)
end
end N66

/-! N66, items, slices, truth, built-in functions: what they are on data. -/
namespace N66
open PySem PySem.Spec L2

section
variable {H B : Hp} {os : List O} {α : List Fp}
theorem atI_rep {vs : List V} {ds : List D} {i : Int} {d : D} (r : RepAll B vs ds) (h : atI ds i = some d) : ∃ v, atI vs i = some v ∧ Rep B v d := by
  unfold atI at *
  rw [r.length]
  cases e : ixN ds.length i with
  | none => rw [e] at h; cases h
  | some j =>
    rw [e] at h
    obtain ⟨v, h1, h2⟩ := r.get (show ds[j]? = some d from h)
    exact ⟨v, h1, h2⟩
theorem cut_rep {vs : List V} {ds : List D} {lo hi : Option Int} (r : RepAll B vs ds) : RepAll B (cutV vs lo hi) (cutD ds lo hi) := by
  unfold cutV cutD
  rw [r.length]
  exact (r.drop _).take _
/-- a tuple of the heap joins what never changes -/
theorem HS.layTup (s : HS H os B α) {b : Addr} {xs : List V} (h : H b = some (.tup xs)) : ∃ B', HS H os B' α ∧ Ext H B α H B' α ∧ B' b = some (.tup xs) := by
  cases e : B b with
  | some o =>
    have := s.ex _ _ e
    rw [h] at this
    cases this
    exact ⟨B, s, Ext.refl _ _ _, e⟩
  | none =>
    have hb : Out α b := fun k p hk hb => by
      obtain ⟨o, _, q⟩ := s.has hk
      exact q.noTup b hb xs h
    obtain ⟨s', e'⟩ := s.lay e hb h
    exact ⟨_, s', ⟨e', Pre.refl _, fun _ _ h _ => h, fun _ h => h, (Ext.refl H B α).new, fun c ys hc u z => by
      rw [upd_ne (fun (q : c = b) => by rw [q, h] at hc; cases hc)]
      exact z⟩, upd_same⟩
/-- many tuples of ints of the heap -/
theorem HS.layTups (s : HS H os B α) : ∀ {bs : List Addr} {kss : List (List Int)}, Paired (fun (k : List Int) b => H b = some (.tup (k.map V.int))) kss bs → ∃ B', HS H os B' α ∧ Ext H B α H B' α ∧ RepAll B' (bs.map V.ref) (kss.map tupI)
  | _, _, .nil => ⟨B, s, Ext.refl _ _ _, .nil⟩
  | _, _, .cons h r => by
    obtain ⟨B1, s1, e1, q1⟩ := s.layTups r
    obtain ⟨B2, s2, e2, q2⟩ := s1.layTup h
    exact ⟨B2, s2, e1.trans e2, .cons (.tup q2 (.ofInts _)) (q1.mono e2.same)⟩
end

section
variable {X : Cx}
/-- items -/
theorem idx_snd {H : Hp} {os : List O} {B : Hp} {α : List Fp} {v1 v2 : V} {d1 d2 : D} {Q0 : R → Prop} {Q : VK} (s : HS H os B α) (r1 : Lk B H v1 d1) (r2 : Lk B H v2 d2) (h : idxW d1 d2 Q0) (k : Kont H os B α Q0 Q) :
    rIxL X.K v1 v2 H Q ∨ rIxT X.K v1 v2 H Q := by
  unfold idxW at h
  split at h
  · rename_i ds i
    obtain ⟨a, vs, rfl, h1, q1⟩ := r1.l
    split at h
    · rename_i d e2
      obtain ⟨v, e3, r3⟩ := atI_rep q1 e2
      exact .inl ⟨a, vs, i, v, rfl, r2.i, .inl h1, e3, k.val s r3 h⟩
    · exact h.elim
  · rename_i ds i
    obtain ⟨a, vs, rfl, h1, q1⟩ := r1.t
    split at h
    · rename_i d e2
      obtain ⟨v, e3, r3⟩ := atI_rep q1 e2
      exact .inr ⟨a, vs, i, v, rfl, r2.i, SqT.of (s.ex _ _ h1), e3, k.val s r3 h⟩
    · exact h.elim
  · exact h.elim
theorem slc_snd {H : Hp} {os : List O} {B : Hp} {α : List Fp} {v1 : V} {d1 : D} {lo hi : Option Int} {Q0 : R → Prop} {Q : VK} (s : HS H os B α) (r1 : Lk B H v1 d1) (h : slcW d1 lo hi Q0) (k : Kont H os B α Q0 Q) :
    rSlL X.K v1 lo hi H Q ∨ rSlA X.K v1 lo hi H Q := by
  unfold slcW at h
  split at h
  · rename_i ds
    obtain ⟨a, vs, rfl, h1, q1⟩ := r1.l
    exact .inl ⟨a, vs, rfl, .inl h1, fun p hp => k.new s hp (cut_rep q1) h⟩
  · rename_i ds
    obtain ⟨a, vs, rfl, h1, q1⟩ := r1.t
    refine .inr ⟨a, vs, rfl, SqT.of (s.ex _ _ h1), fun hw => ?_, fun _ p hp => k.tup s hp (cut_rep q1) h⟩
    have e : cutD ds lo hi = ds := by
      unfold cutD
      rw [← q1.length, hw.1, hw.2]
      simp [q1.length]
    rw [e] at h
    exact k.val s (.tup h1 q1) h
  · exact h.elim
theorem rev_snd {H : Hp} {os : List O} {B : Hp} {α : List Fp} {v1 : V} {ds : List D} {Q0 : R → Prop} {Q : VK} (s : HS H os B α) (r1 : Lk B H v1 (.lst ds)) (h : Q0 (.new (.lst ds.reverse))) (k : Kont H os B α Q0 Q) :
    ∃ a xs, v1 = .ref a ∧ SqL X.K H a xs ∧ ∀ p, H p = none → Q (.ref p) (upd H p (.lst xs.reverse)) := by
  obtain ⟨a, vs, rfl, h1, q1⟩ := r1.l
  exact ⟨a, vs, rfl, .inl h1, fun p hp => k.new s hp q1.rev h⟩
/-- truth -/
theorem tru_snd {H : Hp} {os : List O} {B : Hp} {α : List Fp} {v : V} {d : D} {Q0 : Bool → Prop} (s : HS H os B α) (r : Lk B H v d) (h : truD d Q0) : ∃ k, TruV X.K v H k ∧ Q0 k := by
  cases d with
  | non => rw [r.n]; exact ⟨false, rfl, h⟩
  | bl b => rw [r.b]; exact ⟨b, rfl, h⟩
  | int i => rw [r.i]; exact ⟨i != 0, rfl, h⟩
  | str x => exact h.elim
  | lst ds =>
    obtain ⟨a, vs, rfl, h1, q1⟩ := r.l
    refine ⟨!vs.isEmpty, .inl ⟨vs, .inl h1, rfl⟩, ?_⟩
    have e : vs.isEmpty = ds.isEmpty := by cases q1 <;> rfl
    rw [e]
    exact h
  | tup ds =>
    obtain ⟨a, vs, rfl, h1, q1⟩ := r.t
    refine ⟨!vs.isEmpty, .inr (.inl ⟨vs, SqT.of (s.ex _ _ h1), rfl⟩), ?_⟩
    have e : vs.isEmpty = ds.isEmpty := by cases q1 <;> rfl
    rw [e]
    exact h
  | iset _ => exact h.elim
  | bad => exact h.elim

/-- a built-in on data: id its name, ty whether it is a class -/
def FnS (X : Cx) (v : Value) (f : Fn) : Prop := ∃ r, CallR X v r ∧ ∀ {H : Hp} {os : List O} {B : Hp} {α : List Fp} {vs : List V} {ds : List S} {Q0 : R → Prop} {Q : VK},
  HS H os B α → RepSs B α vs ds → fnW os f ds Q0 → Kont H os B α Q0 Q → r vs H Q
theorem fn_one {v : Value} {f : Fn} {r : List V → Hp → VK → Prop} (c : CallR X v r) (no : ∀ os Q, fnW os f [] Q → False) (no2 : ∀ os a b l Q, fnW os f (a :: b :: l) Q → False)
    (h : ∀ {H : Hp} {os : List O} {B : Hp} {α : List Fp} {x : V} {d : S} {Q0 : R → Prop} {Q : VK}, HS H os B α → RepS B α x d → Lk B H x (rsv os d) → fnW os f [d] Q0 → Kont H os B α Q0 Q → r [x] H Q) : FnS X v f := by
  refine ⟨r, c, fun {H os B α vs ds Q0 Q} s q w k => ?_⟩
  cases q with
  | nil => exact (no _ _ w).elim
  | cons q1 q2 =>
    cases q2 with
    | nil => exact h s q1 (q1.lk s) w k
    | cons _ _ => exact (no2 _ _ _ _ _ w).elim
theorem fn_len : FnS X (.builtin "len") .len := by
  refine fn_one call_len_seq (fun _ _ h => h) (fun _ _ _ _ _ h => h) fun {H os B α x d Q0 Q} s r0 r h k => ?_
  simp only [fnW] at h
  generalize rsv os d = d at r h
  split at h
  · rename_i ds e
    unfold seqD at e
    split at e
    · cases e
      obtain ⟨a, vs, rfl, h1, q1⟩ := r.l
      exact ⟨a, vs, rfl, .inl (.inl h1), by rw [q1.length]; exact k.val s (.int _) h⟩
    · cases e
      obtain ⟨a, vs, rfl, h1, q1⟩ := r.t
      exact ⟨a, vs, rfl, .inr (SqT.of (s.ex _ _ h1)), by rw [q1.length]; exact k.val s (.int _) h⟩
    · cases e
  · exact h.elim
theorem tyX_of {H : Hp} {os : List O} {B : Hp} {α : List Fp} {v : V} {d : D} {t : String} (s : HS H os B α) (r : Rep B v d) (e : tyD d = some t) : TyX X.K H v (.type t) := by
  cases r with
  | non => cases e; exact .base .non
  | bl b => cases e; exact .base (.bl b)
  | int i => cases e; exact .base (.int i)
  | str x => cases e; exact .base (.str x)
  | lst h _ => cases e; exact .base (.lst (s.ex _ _ h))
  | tup h _ => cases e; exact .base (.tup (s.ex _ _ h))
  | iset _ _ _ _ => cases e
  | bad _ => cases e
theorem isi_snd {H : Hp} {os : List O} {B : Hp} {α : List Fp} {v : V} {d : D} {ty : String} {Q0 : R → Prop} {Q : VK} (s : HS H os B α) (r : Rep B v d) (h : fnW os (.isi ty) [.d d] Q0) (k : Kont H os B α Q0 Q) : rIsi X.K [v, .ty ty] H Q := by
  simp only [fnW] at h
  split at h
  · rename_i t e
    split at h
    · rename_i b e2
      exact ⟨v, .ty ty, .type t, .type ty, b, rfl, .ty ty, tyX_of s r e, kit_ty e2, k.val s (.bl b) h⟩
    · exact h.elim
  · exact h.elim
theorem fn_sorted {n : Nat} (hc : X.calm = true) (hr : Room n X.A) : FnS X (.builtin "sorted") .sorted := by
  refine fn_one (CallR.or (cr_sortedI.or (cr_sortTup.or (cr_sortPar hr.units))) (call_sortedDI hc)) (fun _ _ h => h) (fun _ _ _ _ _ h => h) fun {H os B α x d Q0 Q} s r0 r h k => ?_
  simp only [fnW] at h
  split at h
  · rename_i ds e
    rw [e] at r
    refine .inl ?_
    obtain ⟨a, vs, rfl, h1, q1⟩ := r.l
    obtain ⟨hl, h⟩ := h
    rcases h with ⟨ns, rfl, h⟩ | ⟨xs, rfl, hne, h⟩ | ⟨xs, rfl, h⟩
    · have e2 := q1.ints
      subst e2
      exact .inl ⟨a, ns, rfl, .inl h1, fun ns' p hp hs hn => k.new s hn (.ofInts ns') (h ns' hp hs)⟩
    · have hT : ∀ x ∈ vs, ∃ ns, TupI X.K H x ns ∧ ns ≠ [] ∧ Rep B x (tupI ns) := fun x hx => by
        obtain ⟨i, hi⟩ := List.getElem?_of_mem hx
        obtain ⟨d', hd, rd⟩ := q1.getV hi
        rw [List.getElem?_map] at hd
        cases en : xs[i]? with
        | none => rw [en] at hd; cases hd
        | some ns =>
          rw [en] at hd
          cases hd
          refine ⟨ns, ?_, hne ns (List.mem_of_getElem? en), rd⟩
          cases rd with
          | @tup t ws _ h2 q2 =>
            have e3 := q2.ints
            subst e3
            exact ⟨t, rfl, SqT.of (s.ex _ _ h2)⟩
      have hk : ∀ x ∈ vs, TupI X.K H x (keyBy (fun x ns => TupI X.K H x ns ∧ ns ≠ [] ∧ Rep B x (tupI ns)) [] x) ∧ keyBy (fun x ns => TupI X.K H x ns ∧ ns ≠ [] ∧ Rep B x (tupI ns)) [] x ≠ [] ∧ Rep B x (tupI (keyBy (fun x ns => TupI X.K H x ns ∧ ns ≠ [] ∧ Rep B x (tupI ns)) [] x)) := fun x hx => keyBy_spec (P := fun x ns => TupI X.K H x ns ∧ ns ≠ [] ∧ Rep B x (tupI ns)) (d := []) (hT x hx)
      generalize keyBy (fun x ns => TupI X.K H x ns ∧ ns ≠ [] ∧ Rep B x (tupI ns)) [] = kf at hk
      have hmap : ∀ (ws : List V), (∀ x ∈ ws, Rep B x (tupI (kf x))) → RepAll B ws ((ws.map kf).map tupI) := fun ws => by
        induction ws with
        | nil => intro _; exact .nil
        | cons w ws ih => intro hw; exact .cons (hw w (List.mem_cons_self ..)) (ih fun x hx => hw x (List.mem_cons_of_mem _ hx))
      have inj : ∀ {v : V} {a b : List Int}, Rep B v (tupI a) → Rep B v (tupI b) → a = b := fun {v a b} h1 h2 => by
        cases h1 with
        | tup g1 q1 =>
          cases h2 with
          | tup g2 q2 =>
            rw [g1] at g2
            cases g2
            have e1 := q1.ints
            have e2 := q2.ints
            rw [e1] at e2
            exact (List.map_inj_right (fun _ _ h => V.int.inj h)).mp e2
      have exs : ∀ (ws : List V) (ys : List (List Int)), RepAll B ws (ys.map tupI) → (∀ x ∈ ws, Rep B x (tupI (kf x))) → ws.map kf = ys := fun ws => by
        induction ws with
        | nil => intro ys h _; cases ys with
          | nil => rfl
          | cons y ys => cases h
        | cons w ws ih => intro ys h hw; cases ys with
          | nil => cases h
          | cons y ys =>
            cases h with
            | cons h1 h2 =>
              rw [List.map_cons, ih ys h2 fun x hx => hw x (List.mem_cons_of_mem _ hx), inj (hw w (List.mem_cons_self ..)) h1]
      have ex := exs vs xs q1 fun x hx => (hk x hx).2.2
      refine .inr (.inl ⟨a, vs, kf, rfl, .inl h1, fun x hx => ⟨(hk x hx).1, (hk x hx).2.1⟩, fun ys p hp hs hn => k.new s hn (hmap ys fun x hx => (hk x (hp.mem_iff.mp hx)).2.2) (h _ ?_ ?_)⟩)
      · rw [← ex]
        exact hp.map kf
      · rw [List.pairwise_map]
        exact hs
    · have hT : ∀ x ∈ vs, ∃ p, PrI X.K H x p ∧ Rep B x (pairI p) := fun x hx => by
        obtain ⟨i, hi⟩ := List.getElem?_of_mem hx
        obtain ⟨d', hd, rd⟩ := q1.getV hi
        rw [List.getElem?_map] at hd
        cases en : xs[i]? with
        | none => rw [en] at hd; cases hd
        | some p =>
          rw [en] at hd
          cases hd
          refine ⟨p, ?_, rd⟩
          cases rd with
          | @tup t ws _ h2 q2 =>
            cases q2 with
            | cons g1 q2 =>
              cases q2 with
              | cons g2 q2 =>
                cases q2
                cases g1
                cases g2 with
                | @tup u zs _ h3 q3 =>
                  have e3 := q3.ints
                  subst e3
                  exact ⟨t, u, rfl, SqT.of (s.ex _ _ h2), SqT.of (s.ex _ _ h3)⟩
      have hk : ∀ x ∈ vs, PrI X.K H x (keyBy (fun x p => PrI X.K H x p ∧ Rep B x (pairI p)) (0, []) x) ∧ Rep B x (pairI (keyBy (fun x p => PrI X.K H x p ∧ Rep B x (pairI p)) (0, []) x)) := fun x hx => keyBy_spec (P := fun x p => PrI X.K H x p ∧ Rep B x (pairI p)) (d := (0, [])) (hT x hx)
      generalize keyBy (fun x p => PrI X.K H x p ∧ Rep B x (pairI p)) (0, []) = kf at hk
      have hmap : ∀ (ws : List V), (∀ x ∈ ws, Rep B x (pairI (kf x))) → RepAll B ws ((ws.map kf).map pairI) := fun ws => by
        induction ws with
        | nil => intro _; exact .nil
        | cons w ws ih => intro hw; exact .cons (hw w (List.mem_cons_self ..)) (ih fun x hx => hw x (List.mem_cons_of_mem _ hx))
      have inj : ∀ {v : V} {a b : Int × List Int}, Rep B v (pairI a) → Rep B v (pairI b) → a = b := fun {v a b} h1 h2 => by
        obtain ⟨a1, a2⟩ := a
        obtain ⟨b1, b2⟩ := b
        cases h1 with
        | tup g1 q1 =>
          cases h2 with
          | tup g2 q2 =>
            rw [g1] at g2
            cases g2
            cases q1 with
            | cons i1 q1 =>
              cases q1 with
              | cons i2 q1 =>
                cases q2 with
                | cons j1 q2 =>
                  cases q2 with
                  | cons j2 q2 =>
                    have e1 : a1 = b1 := by
                      have z1 := rep_int i1
                      have z2 := rep_int j1
                      rw [z1] at z2
                      exact V.int.inj z2
                    have e2 : a2 = b2 := by
                      cases i2 with
                      | tup g3 q3 =>
                        cases j2 with
                        | tup g4 q4 =>
                          rw [g3] at g4
                          cases g4
                          have e1 := q3.ints
                          have e2 := q4.ints
                          rw [e1] at e2
                          exact (List.map_inj_right (fun _ _ h => V.int.inj h)).mp e2
                    rw [e1, e2]
      have exs : ∀ (ws : List V) (ys : List (Int × List Int)), RepAll B ws (ys.map pairI) → (∀ x ∈ ws, Rep B x (pairI (kf x))) → ws.map kf = ys := fun ws => by
        induction ws with
        | nil => intro ys h _; cases ys with
          | nil => rfl
          | cons y ys => cases h
        | cons w ws ih => intro ys h hw; cases ys with
          | nil => cases h
          | cons y ys =>
            cases h with
            | cons h1 h2 =>
              rw [List.map_cons, ih ys h2 fun x hx => hw x (List.mem_cons_of_mem _ hx), inj (hw w (List.mem_cons_self ..)) h1]
      have ex := exs vs xs q1 fun x hx => (hk x hx).2
      refine .inr (.inr ⟨a, vs, kf, rfl, .inl h1, fun x hx => (hk x hx).1, fun ys p hp hs hn => k.new s hn (hmap ys fun x hx => (hk x (hp.mem_iff.mp hx)).2) (h _ ?_ ?_)⟩)
      · rw [← ex]
        exact hp.map kf
      · rw [List.pairwise_map]
        exact hs
  · split at h
    · skip
      split at h
      · rename_i kvs eo
        obtain ⟨p, hp, rfl⟩ := r0
        obtain ⟨_, ws, h1, h2, h3⟩ := s.obj _ p _ hp eo
        refine .inr ⟨p.1, ws, kvs.map (·.1), rfl, .inl h1, ?_, by rw [List.length_map]; exact h.1, fun ns' q hq hs hn => k.new s hn (.ofInts ns') (h.2 ns' hq hs)⟩
        rw [h2, List.map_map]
        rfl
      · exact h.elim
    · exact h.elim
theorem fn_tuple : FnS X (.type "tuple") .tuple := by
  refine fn_one call_tuple_of (fun _ _ h => h) (fun _ _ _ _ _ h => h) fun {H os B α x d Q0 Q} s r0 r h k => ?_
  simp only [fnW] at h
  generalize rsv os d = d at r h
  split at h
  · obtain ⟨a, vs, rfl, h1, q1⟩ := r.l
    exact ⟨a, vs, rfl, .inl ⟨.inl h1, fun p hp => k.tup s hp q1 h⟩⟩
  · obtain ⟨a, vs, rfl, h1, q1⟩ := r.t
    exact ⟨a, vs, rfl, .inr ⟨SqT.of (s.ex _ _ h1), k.val s (.tup h1 q1) h⟩⟩
  · exact h.elim
theorem keys_pair {H : Hp} : ∀ {ws : List (List Key × V)} {bs : List Addr} {kvs : List (List Int × D)}, IsKeys H ws bs → ws.map (·.1) = kvs.map (fun p => p.1.map Sum.inl) → Paired (fun (k : List Int) b => H b = some (.tup (k.map V.int))) (kvs.map (·.1)) bs
  | _, _, [], .nil, _ => .nil
  | _, _, _ :: _, .nil, e => by simp at e
  | _, _, [], .cons _ _, e => by simp at e
  | _, _, p :: kvs, .cons h r, e => by
    simp only [List.map_cons, List.cons.injEq] at e
    refine .cons ?_ (keys_pair r e.2)
    rw [h, e.1, List.map_map]
    rfl
theorem fn_list (hc : X.calm = true) : FnS X (.type "list") .list := by
  refine fn_one (call_list_of.or (call_list_dT hc)) (fun _ _ h => h) (fun _ _ _ _ _ h => h) fun {H os B α x d Q0 Q} s r0 r h k => ?_
  simp only [fnW] at h
  split at h
  · rename_i ds e
    rw [e] at r
    obtain ⟨a, vs, rfl, h1, q1⟩ := r.l
    exact .inl ⟨a, vs, rfl, .inl (.inl h1), fun p hp => k.new s hp q1 h⟩
  · rename_i ds e
    rw [e] at r
    obtain ⟨a, vs, rfl, h1, q1⟩ := r.t
    exact .inl ⟨a, vs, rfl, .inr (SqT.of (s.ex _ _ h1)), fun p hp => k.new s hp q1 h⟩
  · split at h
    · skip
      split at h
      · rename_i kvs eo
        obtain ⟨q, hq, rfl⟩ := r0
        obtain ⟨_, ws, h1, h2, h3⟩ := s.obj _ q _ hq eo
        refine .inr ⟨q.1, ws, rfl, .inl h1, fun p bs hp hk => ?_⟩
        obtain ⟨B', s', e', q'⟩ := s.layTups (keys_pair hk h2)
        obtain ⟨s1, e1, g1, g2⟩ := s'.grow (o := .lst (bs.map V.ref)) hp
        refine k (.new (.lst (kvs.map fun p => tupI p.1))) _ _ B' (e'.trans e1) s1 ⟨(p, []), rfl, fun b hb => ?_, rfl, _, upd_same, ?_⟩ h
        · rw [fp, List.mem_singleton] at hb
          subst hb
          exact ⟨hp, g1, g2⟩
        · rw [List.map_map] at q'
          exact q'
      · exact h.elim
    · exact h.elim
theorem fn_min (hc : X.calm = true) : FnS X (.builtin "min") .min := by
  refine fn_one (cr_min hc) (fun _ _ h => h) (fun _ _ _ _ _ h => h) fun {H os B α x d Q0 Q} s r0 r h k => ?_
  simp only [fnW] at h
  generalize rsv os d = d at r h
  split at h
  · obtain ⟨a, vs, rfl, h1, q1⟩ := r.l
    obtain ⟨ns, rfl, hne, h⟩ := h
    have e2 := q1.ints
    subst e2
    exact ⟨a, ns, rfl, .inl h1, List.length_pos_iff.mpr hne, fun m hm hle => k.val s (.int m) (h m hm hle)⟩
  · exact h.elim
theorem fn_min2 (hc : X.calm = true) : FnS X (.builtin "min") .min2 := by
  refine ⟨_, call_min2 hc, fun {H os B α vs ds Q0 Q} s q w k => ?_⟩
  cases q with
  | nil => exact w.elim
  | cons q1 q2 =>
    cases q2 with
    | nil => exact w.elim
    | cons q2 q3 =>
      cases q3 with
      | nil =>
        have l1 := q1.lk s
        have l2 := q2.lk s
        simp only [fnW] at w
        split at w
        · rename_i e1 e2
          rw [e1] at l1
          rw [e2] at l2
          rw [l1.i, l2.i]
          exact ⟨_, _, rfl, k.val s (.int _) w⟩
        · exact w.elim
      | cons _ _ => exact w.elim
theorem fn_all (hc : X.calm = true) : FnS X (.builtin "all") .all := by
  refine fn_one (cr_all hc) (fun _ _ h => h) (fun _ _ _ _ _ h => h) fun {H os B α x d Q0 Q} s r0 r h k => ?_
  simp only [fnW] at h
  generalize rsv os d = d at r h
  split at h
  · obtain ⟨a, vs, rfl, h1, q1⟩ := r.l
    obtain ⟨bs, rfl, h⟩ := h
    have e2 := q1.bls
    subst e2
    exact ⟨a, bs, rfl, .inl h1, k.val s (.bl _) h⟩
  · exact h.elim
theorem fn_any (hc : X.calm = true) : FnS X (.builtin "any") .any := by
  refine fn_one (cr_any hc) (fun _ _ h => h) (fun _ _ _ _ _ h => h) fun {H os B α x d Q0 Q} s r0 r h k => ?_
  simp only [fnW] at h
  generalize rsv os d = d at r h
  split at h
  · obtain ⟨a, vs, rfl, h1, q1⟩ := r.l
    obtain ⟨bs, rfl, h⟩ := h
    have e2 := q1.bls
    subst e2
    exact ⟨a, bs, rfl, .inl h1, k.val s (.bl _) h⟩
  · exact h.elim
theorem fn_int : FnS X (.type "int") .int := by
  refine fn_one call_int1 (fun _ _ h => h) (fun _ _ _ _ _ h => h) fun {H os B α x d Q0 Q} s r0 r h k => ?_
  simp only [fnW] at h
  generalize rsv os d = d at r h
  split at h
  · rw [r.b]
    exact .inr ⟨_, rfl, k.val s (.int _) h⟩
  · rw [r.i]
    exact .inl ⟨_, rfl, k.val s (.int _) h⟩
  · exact h.elim
theorem fn_str : FnS X (.type "str") .str := by
  refine fn_one call_str_int (fun _ _ h => h) (fun _ _ _ _ _ h => h) fun {H os B α x d Q0 Q} s r0 r h k => ?_
  simp only [fnW] at h
  generalize rsv os d = d at r h
  split at h
  · rw [r.i]
    exact ⟨_, rfl, h.1, k.val s (.str _) h.2⟩
  · exact h.elim
end
end N66

/-! N66, what is wanted less is had. -/
namespace N66
open PySem PySem.Spec L2

section
variable {Q Q' : R → Prop} {q q' : Bool → Prop}
theorem binW_mo {op : Operator} {a b : D} (h : binW op a b Q) (m : ∀ r, Q r → Q' r) : binW op a b Q' := by
  unfold binW at *
  split at h <;> (try exact h.elim) <;> split at h <;> first | exact h.elim | exact m _ h | exact ⟨h.1, m _ h.2⟩
theorem inW_mo {a b : D} (h : inW a b q) (m : ∀ r, q r → q' r) : inW a b q' := by
  unfold inW at *
  split at h
  · exact ⟨h.1, h.2.1, m _ h.2.2⟩
  · exact ⟨h.1, h.2.1, m _ h.2.2⟩
  · exact h.elim
theorem cmpW_mo {op : CmpOp} {a b : D} (h : cmpW op a b q) (m : ∀ r, q r → q' r) : cmpW op a b q' := by
  unfold cmpW at *
  split at h
  · exact ⟨h.1, h.2.1, m _ h.2.2⟩
  · exact ⟨h.1, h.2.1, m _ h.2.2⟩
  all_goals first
    | exact inW_mo h m
    | exact inW_mo h fun r z => m _ z
    | (split at h <;> first | exact m _ h | exact h.elim)
theorem truD_mo {a : D} (h : truD a q) (m : ∀ r, q r → q' r) : truD a q' := by
  unfold truD at *
  split at h <;> first | exact m _ h | exact h.elim
theorem idxW_mo {a b : D} (h : idxW a b Q) (m : ∀ r, Q r → Q' r) : idxW a b Q' := by
  unfold idxW at *
  split at h
  · split at h
    · rename_i e; (try simp only [e]); exact m _ h
    · exact h.elim
  · split at h
    · rename_i e; (try simp only [e]); exact m _ h
    · exact h.elim
  · exact h.elim
theorem slcW_mo {a : D} {lo hi : Option Int} (h : slcW a lo hi Q) (m : ∀ r, Q r → Q' r) : slcW a lo hi Q' := by
  unfold slcW at *
  split at h <;> first | exact m _ h | exact h.elim
theorem revW_mo {a : D} (h : revW a Q) (m : ∀ r, Q r → Q' r) : revW a Q' := by
  unfold revW at *
  split at h <;> first | exact m _ h | exact h.elim
theorem sortW_mo {ds : List D} {Q Q' : List D → Prop} (h : sortW ds Q) (m : ∀ r, Q r → Q' r) : sortW ds Q' := by
  rcases h with ⟨ns, e, h⟩ | ⟨ns, e, n, h⟩ | ⟨ns, e, h⟩
  · exact .inl ⟨ns, e, fun a b c => m _ (h a b c)⟩
  · exact .inr (.inl ⟨ns, e, n, fun a b c => m _ (h a b c)⟩)
  · exact .inr (.inr ⟨ns, e, fun a b c => m _ (h a b c)⟩)
theorem fnW_mo {os : List O} {f : Fn} {ss : List S} (h : fnW os f ss Q) (m : ∀ r, Q r → Q' r) : fnW os f ss Q' := by
  unfold fnW at *
  split at h
  · split at h
    · rename_i e; (try simp only [e]); exact m _ h
    · exact h.elim
  · split at h
    · rename_i e
      (try simp only [e])
      split at h
      · rename_i e; (try simp only [e]); exact m _ h
      · exact h.elim
    · exact h.elim
  · split at h
    · rename_i e; (try simp only [e]); exact ⟨h.1, sortW_mo h.2 fun r z => m _ z⟩
    · rename_i e
      split at h
      · split at h
        · rename_i eo
          have z : rsv os (S.o ‹Nat›) = .bad := by unfold rsv; simp only [eo]
          (try simp only [z, eo])
          exact ⟨h.1, fun a b c => m _ (h.2 a b c)⟩
        · exact h.elim
      · exact h.elim
  · split at h
    · rename_i e; (try simp only [e]); exact m _ h
    · rename_i e; (try simp only [e]); exact m _ h
    · exact h.elim
  · split at h
    · rename_i e; (try simp only [e]); exact m _ h
    · rename_i e; (try simp only [e]); exact m _ h
    · split at h
      · split at h
        · rename_i eo
          have z : rsv os (S.o ‹Nat›) = .bad := by unfold rsv; simp only [eo]
          (try simp only [z, eo])
          exact m _ h
        · exact h.elim
      · exact h.elim
  · split at h
    · rename_i e; (try simp only [e]); obtain ⟨ns, a, b, c⟩ := h; exact ⟨ns, a, b, fun x y z => m _ (c x y z)⟩
    · exact h.elim
  · split at h
    · rename_i e1 e2; (try simp only [e1, e2]); exact m _ h
    · exact h.elim
  · split at h
    · rename_i e; (try simp only [e]); obtain ⟨bs, a, b⟩ := h; exact ⟨bs, a, m _ b⟩
    · exact h.elim
  · split at h
    · rename_i e; (try simp only [e]); obtain ⟨bs, a, b⟩ := h; exact ⟨bs, a, m _ b⟩
    · exact h.elim
  · split at h
    · rename_i e; (try simp only [e]); obtain ⟨bs, a, b, c⟩ := h; exact ⟨bs, a, b, fun x y z => m _ (c x y z)⟩
    · exact h.elim
  · split at h
    · rename_i e; (try simp only [e]); exact m _ h
    · rename_i e; (try simp only [e]); exact m _ h
    · exact h.elim
  · split at h
    · rename_i e; (try simp only [e]); exact ⟨h.1, m _ h.2⟩
    · exact h.elim
  · exact h.elim
theorem zipW_mo {ss : List S} {Q Q' : List D → Prop} (h : zipW ss Q) (m : ∀ r, Q r → Q' r) : zipW ss Q' := by
  unfold zipW at *
  split at h <;> first | exact m _ h | exact h.elim
theorem srtKW_mo {os : List O} {s : S} (h : srtKW os s Q) (m : ∀ r, Q r → Q' r) : srtKW os s Q' := by
  unfold srtKW at *
  split at h
  · split at h
    · rename_i e; (try simp only [e]); obtain ⟨ps, a, b, c⟩ := h; exact ⟨ps, a, b, fun x y z => m _ (c x y z)⟩
    · exact h.elim
  · exact h.elim
theorem bindT_mo {tg : Tg} {d : D} {env : Env} {Q Q' : Env → Prop} (h : bindT tg d env Q) (m : ∀ r, Q r → Q' r) : bindT tg d env Q' := by
  unfold bindT at *
  split at h
  · exact m _ h
  · split at h
    · split at h
      · rename_i e; (try simp only [e]); exact m _ h
      · exact h.elim
    · exact h.elim
theorem newW_mo {b : Bool} {r : R} {os : List O} {Q Q' : S → List O → Prop} (h : newW b r os Q) (m : ∀ a b, Q a b → Q' a b) : newW b r os Q' := by
  unfold newW at *
  split at h
  · exact m _ _ h
  · split at h
    · exact m _ _ h
    · exact h.elim
theorem objAt_mo {env : Env} {i : Nat} {Q Q' : Nat → Prop} (h : objAt env i Q) (m : ∀ r, Q r → Q' r) : objAt env i Q' := by
  unfold objAt at *
  split at h
  · rename_i e; (try simp only [e]); exact m _ h
  · exact h.elim
theorem lstAt_mo {os : List O} {i : Nat} {Q Q' : List D → Prop} (h : lstAt os i Q) (m : ∀ r, Q r → Q' r) : lstAt os i Q' := by
  unfold lstAt at *
  split at h
  · rename_i e; (try simp only [e]); exact m _ h
  · exact h.elim
theorem stDW_mo {os : List O} {i : Nat} {k v : D} {Q Q' : List O → Prop} (h : stDW os i k v Q) (m : ∀ r, Q r → Q' r) : stDW os i k v Q' := by
  unfold stDW at *
  split at h
  · rename_i e
    (try simp only [e])
    split at h
    · exact ⟨h.1, m _ h.2⟩
    · exact h.elim
  · rename_i e
    (try simp only [e])
    obtain ⟨ns, a, b, c⟩ := h
    exact ⟨ns, a, b, m _ c⟩
  · exact h.elim
theorem augW_mo {op : Operator} {a b : S} {Q Q' : D → Prop} (h : augW op a b Q) (m : ∀ r, Q r → Q' r) : augW op a b Q' := by
  unfold augW at *
  split at h <;> first | exact m _ h | exact ⟨h.1, m _ h.2⟩ | exact h.elim
end
def MoTab (T : Tab) : Prop := ∀ (i : Nat) (ss : List S) (os : List O) (Q Q' : R → List O → Prop), T i ss os Q → (∀ r os', Q r os' → Q' r os') → T i ss os Q'
theorem if_mo {c : Prop} [Decidable c] {a b a' b' : Prop} (h : if c then a else b) (h1 : a → a') (h2 : b → b') : if c then a' else b' := by
  split at h
  · rename_i c; rw [if_pos c]; exact h1 h
  · rename_i c; rw [if_neg c]; exact h2 h
section
variable {T : Tab} (hT : MoTab T)
include hT
mutual
theorem moE : ∀ x : Xp, Mo (wpE T x)
  | .var i => fun _ _ _ _ h m => by
    simp only [wpE] at h ⊢
    split at h
    · rename_i e; (try simp only [e]); exact m _ _ h
    · rename_i e; (try simp only [e]); exact m _ _ h
    · exact h.elim
  | .cst d => fun _ _ _ _ h m => by simp only [wpE] at h ⊢; exact m _ _ h
  | .dct d => fun _ _ _ _ h m => by simp only [wpE] at h ⊢; exact m _ _ h
  | .bin op a b => fun _ _ _ _ h m => by
    simp only [wpE] at h ⊢
    exact moE a h fun _ _ h => moE b h fun _ _ h => binW_mo h fun _ => m _ _
  | .neg a => fun _ _ _ _ h m => by
    simp only [wpE] at h ⊢
    refine moE a h fun _ _ h => ?_
    split at h
    · rename_i e; (try simp only [e]); exact m _ _ h
    · exact h.elim
  | .not a => fun _ _ _ _ h m => by
    simp only [wpE] at h ⊢
    refine moE a h fun _ _ h => ?_
    split at h
    · rename_i e; (try simp only [e]); exact m _ _ h
    · exact h.elim
  | .cmp op a b => fun _ _ _ _ h m => by
    simp only [wpE] at h ⊢
    exact moE a h fun _ _ h => moE b h fun _ _ h => cmpW_mo h fun _ => m _ _
  | .cmp2 o1 o2 a b c => fun _ _ _ _ h m => by
    simp only [wpE] at h ⊢
    exact moE a h fun _ _ h => moE b h fun _ _ h => cmpW_mo h fun _ h => if_mo h (fun h => moE c h fun _ _ h => cmpW_mo h fun _ => m _ _) (m _ _)
  | .and a b => fun _ _ _ _ h m => by
    simp only [wpE] at h ⊢
    refine moE a h fun _ _ h => ?_
    split at h
    · rename_i e; (try simp only [e]); exact if_mo h (fun h => moE b h m) (m _ _)
    · exact h.elim
  | .or a b => fun _ _ _ _ h m => by
    simp only [wpE] at h ⊢
    refine moE a h fun _ _ h => ?_
    split at h
    · rename_i e; (try simp only [e]); exact if_mo h (m _ _) (fun h => moE b h m)
    · exact h.elim
  | .ite c a b => fun _ _ _ _ h m => by
    simp only [wpE] at h ⊢
    exact moT c h fun _ _ h => if_mo h (fun h => moE a h m) (fun h => moE b h m)
  | .tup es => fun _ _ _ _ h m => by
    simp only [wpE] at h ⊢
    refine moEs es h fun _ _ h => ?_
    split at h
    · rename_i e; (try simp only [e]); exact ⟨h.1, m _ _ h.2⟩
    · rename_i e; (try simp only [e]); exact ⟨h.1, m _ _ h.2⟩
  | .lst es => fun _ _ _ _ h m => by
    simp only [wpE] at h ⊢
    refine moEs es h fun _ _ h => ?_
    split at h
    · rename_i e; (try simp only [e]); exact ⟨h.1, m _ _ h.2⟩
    · exact h.elim
  | .idx a b => fun _ _ _ _ h m => by
    simp only [wpE] at h ⊢
    exact moE a h fun _ _ h => moE b h fun _ _ h => idxW_mo h fun _ => m _ _
  | .slc a lo hi => fun _ _ _ _ h m => by
    simp only [wpE] at h ⊢
    exact moE a h fun _ _ h => moO lo h fun _ _ h => moO hi h fun _ _ h => slcW_mo h fun _ => m _ _
  | .rev a => fun _ _ _ _ h m => by
    simp only [wpE] at h ⊢
    exact moE a h fun _ _ h => revW_mo h fun _ => m _ _
  | .fn f es => fun _ _ _ _ h m => by
    simp only [wpE] at h ⊢
    exact moEs es h fun _ _ h => fnW_mo h fun _ => m _ _
  | .call i es => fun _ _ _ _ h m => by
    simp only [wpE] at h ⊢
    exact moEs es h fun _ _ h => hT i _ _ _ _ h m
  | .lc elt tg src c own => fun _ _ _ _ h m => by
    simp only [wpE] at h ⊢
    refine moI src h fun _ _ h => ?_
    obtain ⟨W, h0, h1, h2, h3⟩ := h
    exact ⟨W, h0, h1, h2, fun a b c d => m _ _ (h3 a b c d)⟩
  | .srtK i => fun _ _ _ _ h m => by
    simp only [wpE] at h ⊢
    split at h
    · rename_i e; (try simp only [e]); exact srtKW_mo h fun _ => m _ _
    · exact h.elim
  | .tupR a b c => fun _ _ _ _ h m => by
    simp only [wpE] at h ⊢
    refine moE a h fun _ _ h => moE b h fun _ _ h => moE c h fun _ _ h => ?_
    split at h
    · rename_i e1 e2 e3; (try simp only [e1, e2, e3]); exact ⟨h.1, h.2.1, h.2.2.1, m _ _ h.2.2.2⟩
    · exact h.elim
  | .setC _ _ a _ => fun _ _ _ _ h m => by
    simp only [wpE] at h ⊢
    refine moE a h fun _ _ h => ?_
    split at h
    · rename_i e; (try simp only [e]); obtain ⟨css, h0, h1, h2, h3⟩ := h; exact ⟨css, h0, h1, h2, fun a b c => m _ _ (h3 a b c)⟩
    · exact h.elim
theorem moO : ∀ x : Op, Mo (wpO T x)
  | .none => fun _ _ _ _ h m => by simp only [wpO] at h ⊢; exact m _ _ h
  | .some a => fun _ _ _ _ h m => by
    simp only [wpO] at h ⊢
    refine moE a h fun _ _ h => ?_
    split at h
    · rename_i e; (try simp only [e]); exact m _ _ h
    · exact h.elim
theorem moEs : ∀ x : Xs, Mo (wpEs T x)
  | .nil => fun _ _ _ _ h m => by simp only [wpEs] at h ⊢; exact m _ _ h
  | .cons a r => fun _ _ _ _ h m => by
    simp only [wpEs] at h ⊢
    exact moE a h fun _ _ h => moEs r h fun _ _ => m _ _
theorem moT : ∀ x : Ts, Mo (wpT T x)
  | .tt => fun _ _ _ _ h m => by simp only [wpT] at h ⊢; exact m _ _ h
  | .and a b => fun _ _ _ _ h m => by
    simp only [wpT] at h ⊢
    exact moT a h fun _ _ h => if_mo h (fun h => moT b h m) (m _ _)
  | .or a b => fun _ _ _ _ h m => by
    simp only [wpT] at h ⊢
    exact moT a h fun _ _ h => if_mo h (m _ _) (fun h => moT b h m)
  | .not a => fun _ _ _ _ h m => by
    simp only [wpT] at h ⊢
    exact moT a h fun _ _ h => m _ _ h
  | .val a => fun _ _ _ _ h m => by
    simp only [wpT] at h ⊢
    exact moE a h fun _ _ h => truD_mo h fun _ => m _ _
  | .nonempty i => fun _ _ _ _ h m => by
    simp only [wpT] at h ⊢
    split at h
    · rename_i e
      (try simp only [e])
      split at h
      · rename_i e; (try simp only [e]); exact m _ _ h
      · exact h.elim
    · exact h.elim
theorem moI : ∀ x : Src, Mo (wpI T x)
  | .seq a => fun _ _ _ _ h m => by
    simp only [wpI] at h ⊢
    refine moE a h fun _ _ h => ?_
    split at h
    · rename_i e; (try simp only [e]); exact m _ _ h
    · rename_i e; (try simp only [e]); exact m _ _ h
    · exact h.elim
  | .rng a b => fun _ _ _ _ h m => by
    simp only [wpI] at h ⊢
    refine moE a h fun _ _ h => moE b h fun _ _ h => ?_
    split at h
    · rename_i e1 e2; (try simp only [e1, e2]); exact ⟨h.1, m _ _ h.2⟩
    · exact h.elim
  | .enm a => fun _ _ _ _ h m => by
    simp only [wpI] at h ⊢
    refine moE a h fun _ _ h => ?_
    split at h
    · rename_i e; (try simp only [e]); exact m _ _ h
    · exact h.elim
  | .zip es => fun _ _ _ _ h m => by
    simp only [wpI] at h ⊢
    exact moEs es h fun _ _ h => zipW_mo h fun _ => m _ _
  | .keys i => fun _ _ _ _ h m => by
    simp only [wpI] at h ⊢
    split at h
    · rename_i e
      (try simp only [e])
      split at h
      · rename_i e; (try simp only [e]); exact m _ _ h
      · exact h.elim
    · exact h.elim
end
theorem moP : ∀ (x : Ps) {env os} {Q Q' : List (Nat × S) → List O → Prop}, wpP T x env os Q → (∀ r os', Q r os' → Q' r os') → wpP T x env os Q'
  | .nil, _, _, _, _, h, m => by simp only [wpP] at h ⊢; exact m _ _ h
  | .cons i b a r, _, _, _, _, h, m => by
    simp only [wpP] at h ⊢
    exact moE hT a h fun _ _ h => newW_mo h fun _ _ h => moP r h fun _ _ => m _ _
mutual
theorem moS : ∀ x : Sm, MoS (wpS T x)
  | .set i a => fun _ _ _ _ h n r b c => by simp only [wpS] at h ⊢; exact moE hT a h fun _ _ => n _ _
  | .setO i a => fun _ _ _ _ h n r b c => by simp only [wpS] at h ⊢; exact moE hT a h fun _ _ h => newW_mo h fun _ _ => n _ _
  | .unp js a => fun _ _ _ _ h n r b c => by
    simp only [wpS] at h ⊢
    refine moE hT a h fun _ _ h => ?_
    split at h
    · rename_i e; (try simp only [e]); exact bindT_mo h fun _ => n _ _
    · exact h.elim
  | .par ps => fun _ _ _ _ h n r b c => by simp only [wpS] at h ⊢; exact moP hT ps h fun _ _ => n _ _
  | .aug i op a => fun _ _ _ _ h n r b c => by
    simp only [wpS] at h ⊢
    split at h
    · rename_i e; (try simp only [e]); exact moE hT a h fun _ _ h => augW_mo h fun _ => n _ _
    · exact h.elim
  | .ext i a => fun _ _ _ _ h n r b c => by
    simp only [wpS] at h ⊢
    refine objAt_mo h fun _ h => moE hT a h fun _ _ h => ?_
    split at h
    · rename_i e; (try simp only [e]); exact lstAt_mo h fun _ h => ⟨h.1, n _ _ h.2⟩
    · exact h.elim
  | .iff c' a b' => fun _ _ _ _ h n r b c => by
    simp only [wpS] at h ⊢
    exact moT hT c' h fun _ _ h => if_mo h (fun h => moSs a h n r b c) (fun h => moSs b' h n r b c)
  | .for_ tg src b' => fun _ _ _ _ h n r b c => by
    simp only [wpS] at h ⊢
    refine moI hT src h fun _ _ h => ?_
    obtain ⟨W, h0, h1, h2⟩ := h
    exact ⟨W, h0, fun i x env os e w => bindT_mo (h1 i x env os e w) fun env' h => moSs b' h (fun _ _ z => z) r n (fun _ _ z => z), fun e o w => n _ _ (h2 e o w)⟩
  | .whl c' b' => fun _ _ _ _ h n r b c => by
    simp only [wpS] at h ⊢
    obtain ⟨W, h0, h1⟩ := h
    exact ⟨W, h0, fun m env os w => moT hT c' (h1 m env os w) fun _ _ h => if_mo h (fun h => moSs b' h (fun _ _ z => z) r n (fun _ _ z => z)) (n _ _)⟩
  | .ret a => fun _ _ _ _ h n r b c => by simp only [wpS] at h ⊢; exact moE hT a h fun _ _ => r _ _
  | .app i a => fun _ _ _ _ h n r b c => by
    simp only [wpS] at h ⊢
    refine objAt_mo h fun _ h => lstAt_mo h fun _ h => moE hT a h fun _ _ h => ?_
    split at h
    · rename_i e; (try simp only [e]); exact lstAt_mo h fun _ h => ⟨h.1, n _ _ h.2⟩
    · exact h.elim
  | .pop i => fun _ _ _ _ h n r b c => by
    simp only [wpS] at h ⊢
    exact objAt_mo h fun _ h => lstAt_mo h fun _ h => ⟨h.1, n _ _ h.2⟩
  | .stL i k v => fun _ _ _ _ h n r b c => by
    simp only [wpS] at h ⊢
    refine moE hT v h fun _ _ h => objAt_mo h fun _ h => moE hT k h fun _ _ h => lstAt_mo h fun _ h => ?_
    split at h
    · rename_i e1 e2
      (try simp only [e1, e2])
      split at h
      · rename_i e; (try simp only [e]); exact n _ _ h
      · exact h.elim
    · exact h.elim
  | .stD i k v => fun _ _ _ _ h n r b c => by
    simp only [wpS] at h ⊢
    refine moE hT v h fun _ _ h => objAt_mo h fun _ h => moE hT k h fun _ _ h => ?_
    split at h
    · rename_i e1 e2; (try simp only [e1, e2]); exact stDW_mo h fun _ => n _ _
    · exact h.elim
  | .appN e d => fun _ _ _ _ h n r b c => by
    simp only [wpS] at h ⊢
    refine moE hT e h fun _ _ h => ?_
    split at h
    · exact ⟨h.1, moE hT d h.2 fun _ _ => n _ _⟩
    · exact h.elim
  | .popN e => fun _ _ _ _ h n r b c => by
    simp only [wpS] at h ⊢
    refine moE hT e h fun _ _ h => ?_
    split at h
    · exact ⟨h.1, n _ _ h.2⟩
    · exact h.elim
  | .drop a => fun _ _ _ _ h n r b c => by simp only [wpS] at h ⊢; exact moE hT a h fun _ _ => n _ _
  | .cont => fun _ _ _ _ h n r b c => by simp only [wpS] at h ⊢; exact c _ _ h
  | .brk => fun _ _ _ _ h n r b c => by simp only [wpS] at h ⊢; exact b _ _ h
  | .stD2 i j k v => fun _ _ _ _ h n r b c => by
    simp only [wpS] at h ⊢
    refine objAt_mo h fun _ h => objAt_mo h fun _ h => ?_
    split at h
    · rename_i e; (try simp only [e]); exact stDW_mo h fun _ h => stDW_mo h fun _ => n _ _
    · exact h.elim
theorem moSs : ∀ x : Ss, MoS (wpSs T x)
  | .nil => fun _ _ _ _ h n r b c => by simp only [wpSs] at h ⊢; exact n _ _ h
  | .cons s r' => fun _ _ _ _ h n r b c => by
    simp only [wpSs] at h ⊢
    exact moS s h (fun _ _ h => moSs r' h n r b c) r b c
end
end
end N66

/-! N66, expressions: the wp over data holds of the model's evaluation. -/
namespace N66
open PySem PySem.Spec L2

theorem allD_rep {B : Hp} {α : List Fp} : ∀ {vs : List V} {ss : List S} {ds : List D}, RepSs B α vs ss → allD ss = some ds → RepAll B vs ds
  | _, _, _, .nil, e => by cases e; exact .nil
  | _, _, _, .cons (s := .d d) h r, e => by
    unfold allD at e
    split at e
    · rename_i ds e2
      cases e
      exact .cons h (allD_rep r e2)
    · cases e
  | _, _, _, .cons (s := .o k) h r, e => by unfold allD at e; cases e
theorem allD_len : ∀ {ss : List S} {ds : List D}, allD ss = some ds → ds.length = ss.length
  | [], _, e => by cases e; rfl
  | .d d :: r, _, e => by
    unfold allD at e
    split at e
    · rename_i ds e2
      cases e
      rw [List.length_cons, List.length_cons, allD_len e2]
    · cases e
  | .o k :: r, _, e => by unfold allD at e; cases e
/-- a def's promise by its reading over data -/
def spT (t : Fun1) : Sp := fun vs H Q _ => ∃ ss os B α, HS H os B α ∧ RepSs B α vs ss ∧ t ss os fun r os' => ∀ v H' B', Ext H B α H' B' α → HS H' os' B' α → Res H H' B' α v r → Q v H'
def liftO (t : Env → List O → (Option Int → List O → Prop) → Prop) : TO := fun σ H Q => ∃ env os B α, HS H os B α ∧ ES B α σ env ∧
  t env os fun b os' => ∀ H' B', Ext H B α H' B' α → HS H' os' B' α → Q b H'

section
variable {X : Cx} {T : Tab} {a b c : Expr} {ta tb tc : DE} {pos : Pos}
theorem snd_var {i : Nat} {x : Str} (hN : X.N[i]? = some x) (hv : Vis X.env.scope x) (hd : (x == ("__debug__" : Str)) = false) (hcd : (x == ("__classdict__" : Str)) = false) : PE X (.Name x pos) (liftE (wpE T (.var i))) := by
  refine (pe_var hN hv hd hcd).mono fun σ H Q ⟨env, os, B, α, hs, es, h⟩ => ?_
  simp only [wpE] at h
  split at h
  · rename_i d e
    obtain ⟨v, h1, h2⟩ := es.get i _ (getS_iff.mp e)
    exact ⟨v, h1, h v H B (Ext.refl _ _ _) hs h2⟩
  · rename_i d e
    obtain ⟨v, h1, h2⟩ := es.get i _ (getS_iff.mp e)
    exact ⟨v, h1, h v H B (Ext.refl _ _ _) hs h2⟩
  · exact h.elim
theorem snd_cst {v : V} {d : D} (h : PE X a (tC v)) (r : ∀ B, Rep B v d) : PE X a (liftE (wpE T (.cst d))) := by
  refine h.mono fun σ H Q ⟨env, os, B, α, hs, es, h⟩ => ?_
  simp only [wpE] at h
  exact h v H B (Ext.refl _ _ _) hs (r B)
theorem snd_bin (op : Operator) (ha : PE X a (liftE ta)) (hb : PE X b (liftE tb)) (ma : Mo ta) (mb : Mo tb) :
    PE X (.BinOp a op b pos) (liftE fun env os Q => ta env os fun r1 os1 => tb env os1 fun r2 os2 => binW op (rsv os2 r1.s) (rsv os2 r2.s) fun r => Q r os2) := by
  obtain ⟨r, ho, hr⟩ := bin_all (X := X) op
  refine (pe_op ho ha hb).mono fun σ H Q ⟨env, os, B, α, hs, es, h⟩ => ?_
  refine lift_then ma hs es h fun r1 os1 v1 H1 B1 q1 e1 s1 es1 x1 => lift_then mb s1 es1 q1 fun r2 os2 v2 H2 B2 q2 e2 s2 es2 x2 => ?_
  exact hr s2 ((x1.mono e2.same e2.pre).lk s2) (x2.lk s2) q2 fun r v H' B' e s x q => q v H' B' ((e1.trans e2).trans e) s (x.back (e1.trans e2))
theorem snd_neg (ha : PE X a (liftE ta)) (ma : Mo ta) : PE X (.UnaryOp .USub a pos) (liftE fun env os Q => ta env os fun r os1 => match r.s with
    | .d (.int i) => Q (.val (.int (-i))) os1
    | _ => False) := by
  refine (pe_un un_neg ha).mono fun σ H Q ⟨env, os, B, α, hs, es, h⟩ => ?_
  refine lift_then ma hs es h fun r1 os1 v1 H1 B1 q1 e1 s1 es1 x1 => ?_
  split at q1
  · rename_i i e
    rw [e] at x1
    exact ⟨i, rep_int x1, q1 _ _ B1 e1 s1 (.int _)⟩
  · exact q1.elim
theorem snd_not (ha : PE X a (liftE ta)) (ma : Mo ta) : PE X (.UnaryOp .Not a pos) (liftE fun env os Q => ta env os fun r os1 => match r.s with
    | .d (.bl b) => Q (.val (.bl (!b))) os1
    | _ => False) := by
  refine (pe_not ha).mono fun σ H Q ⟨env, os, B, α, hs, es, h⟩ => ?_
  refine lift_then ma hs es h fun r1 os1 v1 H1 B1 q1 e1 s1 es1 x1 => ?_
  split at q1
  · rename_i i e
    rw [e] at x1
    exact ⟨i, rep_bl x1, q1 _ _ B1 e1 s1 (.bl _)⟩
  · exact q1.elim
theorem snd_cmp {k : Nat} (hr : Room k X.A) (op : CmpOp) (ha : PE X a (liftE ta)) (hb : PE X b (liftE tb)) (ma : Mo ta) (mb : Mo tb) (hm : behindInMarks op b = false) :
    PE X (.Compare a [op] [b] pos) (liftE fun env os Q => ta env os fun r1 os1 => tb env os1 fun r2 os2 => cmpS os2 op r1.s r2.s fun b => Q (.val (.bl b)) os2) ∧
    PT X (.Compare a [op] [b] pos) (liftT fun env os Q => ta env os fun r1 os1 => tb env os1 fun r2 os2 => cmpS os2 op r1.s r2.s fun b => Q b os2) := by
  obtain ⟨r, ho, hr⟩ := cmp_all (X := X) hr op
  constructor
  · refine (pe_cmpR ho ha hb hm).mono fun σ H Q ⟨env, os, B, α, hs, es, h⟩ => ?_
    refine lift_then ma hs es h fun r1 os1 v1 H1 B1 q1 e1 s1 es1 x1 => lift_then mb s1 es1 q1 fun r2 os2 v2 H2 B2 q2 e2 s2 es2 x2 => ?_
    exact hr s2 ((x1.mono e2.same e2.pre).lk s2) (x2.lk s2) q2 fun b q => q _ _ B2 (e1.trans e2) s2 (.bl b)
  · refine (pt_cmpR ho ha hb hm).mono fun σ H Q ⟨env, os, B, α, hs, es, h⟩ => ?_
    refine lift_then ma hs es h fun r1 os1 v1 H1 B1 q1 e1 s1 es1 x1 => lift_then mb s1 es1 q1 fun r2 os2 v2 H2 B2 q2 e2 s2 es2 x2 => ?_
    exact hr s2 ((x1.mono e2.same e2.pre).lk s2) (x2.lk s2) q2 fun b q => ⟨b, rfl, q _ B2 (e1.trans e2) s2⟩
theorem snd_cmp2 {k : Nat} (hr : Room k X.A) (op op' : CmpOp) (ha : PE X a (liftE ta)) (hb : PE X b (liftE tb)) (hc : PE X c (liftE tc)) (ma : Mo ta) (mb : Mo tb) (mc : Mo tc) (hm : lastMarks [op, op'] [b, c] = false) :
    PE X (.Compare a [op, op'] [b, c] pos) (liftE fun env os Q => ta env os fun r1 os1 => tb env os1 fun r2 os2 => cmpW op (rsv os2 r1.s) (rsv os2 r2.s) fun k =>
      if k = true then tc env os2 fun r3 os3 => cmpW op' (rsv os3 r2.s) (rsv os3 r3.s) fun k2 => Q (.val (.bl k2)) os3 else Q (.val (.bl false)) os2) ∧
    PT X (.Compare a [op, op'] [b, c] pos) (liftT fun env os Q => ta env os fun r1 os1 => tb env os1 fun r2 os2 => cmpW op (rsv os2 r1.s) (rsv os2 r2.s) fun k =>
      if k = true then tc env os2 fun r3 os3 => cmpW op' (rsv os3 r2.s) (rsv os3 r3.s) fun k2 => Q k2 os3 else Q false os2) := by
  obtain ⟨r, ho, hr1⟩ := cmp_all (X := X) hr op
  obtain ⟨r', ho', hr2⟩ := cmp_all (X := X) hr op'
  constructor
  · refine (pe_chain ho ho' ha hb hc hm).mono fun σ H Q ⟨env, os, B, α, hs, es, h⟩ => ?_
    refine lift_then ma hs es h fun r1 os1 v1 H1 B1 q1 e1 s1 es1 x1 => lift_then mb s1 es1 q1 fun r2 os2 v2 H2 B2 q2 e2 s2 es2 x2 => ?_
    refine hr1 s2 ((x1.mono e2.same e2.pre).lk s2) (x2.lk s2) q2 fun b q => ⟨b, rfl, if_mo q (fun q => ?_) fun q => q _ _ B2 (e1.trans e2) s2 (.bl _)⟩
    refine lift_then mc s2 es2 q fun r3 os3 v3 H3 B3 q3 e3 s3 es3 x3 => ?_
    exact hr2 s3 ((x2.mono e3.same e3.pre).lk s3) (x3.lk s3) q3 fun b q => q _ _ B3 ((e1.trans e2).trans e3) s3 (.bl b)
  · refine (pt_chain ho ho' ha hb hc hm).mono fun σ H Q ⟨env, os, B, α, hs, es, h⟩ => ?_
    refine lift_then ma hs es h fun r1 os1 v1 H1 B1 q1 e1 s1 es1 x1 => lift_then mb s1 es1 q1 fun r2 os2 v2 H2 B2 q2 e2 s2 es2 x2 => ?_
    refine hr1 s2 ((x1.mono e2.same e2.pre).lk s2) (x2.lk s2) q2 fun b q => ⟨b, rfl, if_mo q (fun q => ?_) fun q => ⟨_, rfl, q _ B2 (e1.trans e2) s2⟩⟩
    refine lift_then mc s2 es2 q fun r3 os3 v3 H3 B3 q3 e3 s3 es3 x3 => ?_
    exact hr2 s3 ((x2.mono e3.same e3.pre).lk s3) (x3.lk s3) q3 fun b q => ⟨b, rfl, q _ B3 ((e1.trans e2).trans e3) s3⟩
theorem snd_and {rest : List Expr} (ha : PE X a (liftE ta)) (hb : PE X (.BoolOp .And (b :: rest) pos) (liftE tb)) (ma : Mo ta) (mb : Mo tb) : PE X (.BoolOp .And (a :: b :: rest) pos) (liftE fun env os Q => ta env os fun r os1 => match r.s with
    | .d (.bl k) => if k = true then tb env os1 Q else Q (.val (.bl false)) os1
    | _ => False) := by
  refine (pe_and ha hb).mono fun σ H Q ⟨env, os, B, α, hs, es, h⟩ => ?_
  refine lift_then ma hs es h fun r1 os1 v1 H1 B1 q1 e1 s1 es1 x1 => ?_
  split at q1
  · rename_i i e
    rw [e] at x1
    exact ⟨i, rep_bl x1, if_mo q1 (fun q => ⟨env, os1, B1, α, s1, es1, mb q fun r os' q v H' B' e s x => q v H' B' (e1.trans e) s (x.back e1)⟩) fun q => q _ _ B1 e1 s1 (.bl _)⟩
  · exact q1.elim
theorem snd_or {rest : List Expr} (ha : PE X a (liftE ta)) (hb : PE X (.BoolOp .Or (b :: rest) pos) (liftE tb)) (ma : Mo ta) (mb : Mo tb) : PE X (.BoolOp .Or (a :: b :: rest) pos) (liftE fun env os Q => ta env os fun r os1 => match r.s with
    | .d (.bl k) => if k = true then Q (.val (.bl true)) os1 else tb env os1 Q
    | _ => False) := by
  refine (pe_or ha hb).mono fun σ H Q ⟨env, os, B, α, hs, es, h⟩ => ?_
  refine lift_then ma hs es h fun r1 os1 v1 H1 B1 q1 e1 s1 es1 x1 => ?_
  split at q1
  · rename_i i e
    rw [e] at x1
    exact ⟨i, rep_bl x1, if_mo q1 (fun q => q _ _ B1 e1 s1 (.bl _)) fun q => ⟨env, os1, B1, α, s1, es1, mb q fun r os' q v H' B' e s x => q v H' B' (e1.trans e) s (x.back e1)⟩⟩
  · exact q1.elim
theorem snd_ite {tt : DT} (hc : PT X c (liftT tt)) (ha : PE X a (liftE ta)) (hb : PE X b (liftE tb)) (mc : Mo tt) (ma : Mo ta) (mb : Mo tb) : PE X (.IfExp c a b pos) (liftE fun env os Q => tt env os fun k os1 => if k = true then ta env os1 Q else tb env os1 Q) := by
  refine (pe_ifExp hc ha hb).mono fun σ H Q ⟨env, os, B, α, hs, es, h⟩ => ?_
  refine ⟨env, os, B, α, hs, es, mc h fun k os1 q H1 B1 e1 s1 => if_mo q (fun q => ?_) fun q => ?_⟩
  · exact ⟨env, os1, B1, α, s1, es.mono e1, ma q fun r os' q v H' B' e s x => q v H' B' (e1.trans e) s (x.back e1)⟩
  · exact ⟨env, os1, B1, α, s1, es.mono e1, mb q fun r os' q v H' B' e s x => q v H' B' (e1.trans e) s (x.back e1)⟩
/-! argument lists -/
theorem snd_nil : PA X [] (liftA fun _ os Q => Q [] os) := by
  refine pa_nil.mono fun σ H Q ⟨env, os, B, α, hs, es, h⟩ => ?_
  exact h [] H B (Ext.refl _ _ _) hs .nil
theorem snd_cons {es' : List Expr} {tr : DA} (ha : PE X a (liftE ta)) (hr : PA X es' (liftA tr)) (ma : Mo ta) (mr : Mo tr) (hs : starEach (a :: es') X.env = (false, eval a X.env) :: starEach es' X.env) :
    PA X (a :: es') (liftA fun env os Q => ta env os fun x os1 => tr env os1 fun ss os2 => Q (x.s :: ss) os2) := by
  refine (pa_cons ha hr hs).mono fun σ H Q ⟨env, os, B, α, hs, es, h⟩ => ?_
  refine lift_then ma hs es h fun r1 os1 v1 H1 B1 q1 e1 s1 es1 x1 => ?_
  exact ⟨env, os1, B1, α, s1, es1, mr q1 fun ss os2 q2 vs H2 B2 e2 s2 x2 => q2 (v1 :: vs) H2 B2 (e1.trans e2) s2 (.cons (x1.mono e2.same e2.pre) x2)⟩
theorem snd_tup {es' : List Expr} {k : Nat} {tr : DA} (hr : PA X es' (liftA tr)) (mr : Mo tr) : PE X (.Tuple es' k pos) (liftE fun env os Q => tr env os fun ss os1 => match allD ss with
    | some ds => ds.length ≤ lim ∧ Q (.val (.tup ds)) os1
    | none => ss.length ≤ lim ∧ Q (.tup ss) os1) := by
  refine (pe_tup hr).mono fun σ H Q ⟨env, os, B, α, hs, es, h⟩ => ?_
  refine ⟨env, os, B, α, hs, es, mr h fun ss os1 q1 vs H1 B1 e1 s1 x1 => ?_⟩
  split at q1
  · rename_i ds e
    have q := allD_rep x1 e
    refine ⟨by rw [q.length]; exact lim_size q1.1, fun p hp => ?_⟩
    obtain ⟨s2, e2, h2⟩ := s1.make (o := .tup vs) hp
    exact q1.2 _ _ _ (e1.trans e2) s2 (.tup h2 (q.mono e2.same))
  · refine ⟨by rw [x1.length]; exact lim_size q1.1, fun p hp => ?_⟩
    obtain ⟨s2, e2, h2⟩ := s1.make (o := .tup vs) hp
    exact q1.2 _ _ _ (e1.trans e2) s2 ⟨p, vs, rfl, h2, x1.mono e2.same e2.pre⟩
theorem snd_lst {es' : List Expr} {tr : DA} (hr : PA X es' (liftA tr)) (mr : Mo tr) : PE X (.List es' pos) (liftE fun env os Q => tr env os fun ss os1 => match allD ss with
    | some ds => ds.length ≤ lim ∧ Q (.new (.lst ds)) os1
    | none => False) := by
  refine (pe_lst hr).mono fun σ H Q ⟨env, os, B, α, hs, es, h⟩ => ?_
  refine ⟨env, os, B, α, hs, es, mr h fun ss os1 q1 vs H1 B1 e1 s1 x1 => ?_⟩
  split at q1
  · rename_i ds e
    have q := allD_rep x1 e
    refine ⟨by rw [q.length]; exact lim_size q1.1, fun p hp => ?_⟩
    obtain ⟨s2, e2, h1, h2⟩ := s1.grow (o := .lst vs) hp
    refine q1.2 _ _ B1 (e1.trans e2) s2 (Res.back e1 ⟨(p, []), rfl, fun b hb => ?_, rfl, vs, upd_same, q⟩)
    rw [fp, List.mem_singleton] at hb
    subst hb
    exact ⟨hp, h1, h2⟩
  · exact q1.elim
theorem snd_idx (ha : PE X a (liftE ta)) (hb : PE X b (liftE tb)) (ma : Mo ta) (mb : Mo tb) (hx : PlainIx b) :
    PE X (.Subscript a b pos) (liftE fun env os Q => ta env os fun r1 os1 => tb env os1 fun r2 os2 => idxW (rsv os2 r1.s) (rsv os2 r2.s) fun r => Q r os2) := by
  refine (pe_ix (ix_list.or ix_tup) ha hb hx).mono fun σ H Q ⟨env, os, B, α, hs, es, h⟩ => ?_
  refine lift_then ma hs es h fun r1 os1 v1 H1 B1 q1 e1 s1 es1 x1 => lift_then mb s1 es1 q1 fun r2 os2 v2 H2 B2 q2 e2 s2 es2 x2 => ?_
  exact idx_snd s2 ((x1.mono e2.same e2.pre).lk s2) (x2.lk s2) q2 fun r v H' B' e s x q => q v H' B' ((e1.trans e2).trans e) s (x.back (e1.trans e2))
theorem snd_onone : PO X none (liftO fun _ os Q => Q none os) :=
  ⟨fun pins s σ H Q I ⟨env, os, B, α, hs, es, h⟩ => po_none.run pins s σ H Q I (h H B (Ext.refl _ _ _) hs)⟩
theorem snd_osome (ha : PE X a (liftE ta)) (ma : Mo ta) : PO X (some a) (liftO fun env os Q => ta env os fun r os1 => match r.s with
    | .d (.int i) => Q (some i) os1
    | _ => False) := by
  refine ⟨fun pins s σ H Q I ⟨env, os, B, α, hs, es, h⟩ => (po_some ha).run pins s σ H Q I ?_⟩
  refine lift_then ma hs es h fun r1 os1 v1 H1 B1 q1 e1 s1 es1 x1 => ?_
  split at q1
  · rename_i i e
    rw [e] at x1
    exact ⟨i, rep_int x1, q1 _ B1 e1 s1⟩
  · exact q1.elim
theorem snd_slc {lo hi : Option Expr} {p2 : Pos} {tl th : Env → List O → (Option Int → List O → Prop) → Prop} (ha : PE X a (liftE ta)) (hl : PO X lo (liftO tl)) (hh : PO X hi (liftO th)) (ma : Mo ta) (ml : Mo tl) (mh : Mo th) :
    PE X (.Subscript a (.Slice lo hi none p2) pos) (liftE fun env os Q => ta env os fun r1 os1 => tl env os1 fun l os2 => th env os2 fun h os3 => slcW (rsv os3 r1.s) l h fun r => Q r os3) := by
  refine (pe_slice (sl_list.or sl_tupA) ha hl hh).mono fun σ H Q ⟨env, os, B, α, hs, es, h⟩ => ?_
  refine lift_then ma hs es h fun r1 os1 v1 H1 B1 q1 e1 s1 es1 x1 => ?_
  refine ⟨env, os1, B1, α, s1, es1, ml q1 fun l os2 q2 H2 B2 e2 s2 => ⟨env, os2, B2, α, s2, es1.mono e2, mh q2 fun l os3 q3 H3 B3 e3 s3 => ?_⟩⟩
  exact slc_snd s3 ((x1.mono (e2.trans e3).same (e2.trans e3).pre).lk s3) q3 fun r v H' B' e s x q => q v H' B' ((e1.trans (e2.trans e3)).trans e) s (x.back (e1.trans (e2.trans e3)))
/-! calls -/
theorem snd_call {CX : CXT} {k : Nat} {f : Addr} {fd : FuncData} {ps : List Str} {t : Fun1} {x : Str} {p : Pos} {es' : List Expr} {tr : DA} (F : FnOk X.prog X.w X.K X.mg X.base CX0 k f fd ps (spT t)) (hr : Room k X.A) (hg : Gl X x) (hm : X.mg x = some (.ref f)) (hk : PySem.W.keepIn X.K (.ref f) = true) (hb : Binds X.K fd ps [])
    (ha : PA X es' (liftA tr)) (mr : Mo tr) (hdb : (x == ("__debug__" : Str)) = false) (he : ∀ e r, es' = e :: r → starEach (e :: r) X.env = (false, eval e X.env) :: starEach r X.env) (hpl : ∀ e r, es' = e :: r → (backTo pos (starEach r X.env)).any (·.1) = false)
    (mt : ∀ ss os (Q Q' : R → List O → Prop), t ss os Q → (∀ r os', Q r os' → Q' r os') → t ss os Q') (h0 : es' = [] → tr = fun _ os Q => Q [] os) :
    PE X (.Call (.Name x p) es' [] pos) (liftE fun env os Q => tr env os fun ss os1 => t ss os1 Q) := by
  cases es' with
  | cons e es2 =>
    refine (pe_call F hr hg hm hk hb .nil pass0 ha hdb (he e es2 rfl) (hpl e es2 rfl)).mono fun σ H Q ⟨env, os, B, α, hs, es, h⟩ => ?_
    refine ⟨env, os, B, α, hs, es, mr h fun ss os1 q1 vs H1 B1 e1 s1 x1 => ?_⟩
    show spT t (vs ++ []) H1 Q E0
    rw [List.append_nil]
    exact ⟨ss, os1, B1, α, s1, x1, mt _ _ _ _ q1 fun r os' q v H' B' e s x => q v H' B' (e1.trans e) s (x.back e1)⟩
  | nil =>
    refine (pe_call0 F hr hg hm hk hb .nil pass0 hdb).mono fun σ H Q ⟨env, os, B, α, hs, es, h⟩ => ?_
    rw [h0 rfl] at h
    exact ⟨[], os, B, α, hs, .nil, h⟩
theorem snd_fnB {f : Fn} {id : String} {x : Str} {p : Pos} {e : Expr} {es' : List Expr} {tr : DA} (hf : FnS X (.builtin id) f) (hg : Gl X x) (hm : X.mg x = none) (hv : bootBuiltins x = some (.builtin id)) (ha : PA X (e :: es') (liftA tr)) (mr : Mo tr) (hn : x ≠ "__name__") (hdb : (x == ("__debug__" : Str)) = false)
    (he : starEach (e :: es') X.env = (false, eval e X.env) :: starEach es' X.env) (hpl : (backTo pos (starEach es' X.env)).any (·.1) = false) :
    PE X (.Call (.Name x p) (e :: es') [] pos) (liftE fun env os Q => tr env os fun ss os1 => fnW os1 f ss fun r => Q r os1) := by
  obtain ⟨r, hc, hr⟩ := hf
  refine (pe_callB hc hg hm hv ha hn hdb he hpl).mono fun σ H Q ⟨env, os, B, α, hs, es, h⟩ => ?_
  refine ⟨env, os, B, α, hs, es, mr h fun ss os1 q1 vs H1 B1 e1 s1 x1 => ?_⟩
  exact hr s1 x1 q1 fun r v H' B' e s x q => q v H' B' (e1.trans e) s (x.back e1)
theorem snd_fnT {f : Fn} {id : String} {x : Str} {p : Pos} {e : Expr} {es' : List Expr} {tr : DA} (hf : FnS X (.type id) f) (hg : Gl X x) (hm : X.mg x = none) (hv : bootBuiltins x = some (.type id)) (ha : PA X (e :: es') (liftA tr)) (mr : Mo tr) (hn : x ≠ "__name__") (hdb : (x == ("__debug__" : Str)) = false)
    (he : starEach (e :: es') X.env = (false, eval e X.env) :: starEach es' X.env) (hpl : (backTo pos (starEach es' X.env)).any (·.1) = false) :
    PE X (.Call (.Name x p) (e :: es') [] pos) (liftE fun env os Q => tr env os fun ss os1 => fnW os1 f ss fun r => Q r os1) := by
  obtain ⟨r, hc, hr⟩ := hf
  refine (pe_callTy hc hg hm hv ha hn hdb he hpl).mono fun σ H Q ⟨env, os, B, α, hs, es, h⟩ => ?_
  refine ⟨env, os, B, α, hs, es, mr h fun ss os1 q1 vs H1 B1 e1 s1 x1 => ?_⟩
  exact hr s1 x1 q1 fun r v H' B' e s x q => q v H' B' (e1.trans e) s (x.back e1)
/-- isinstance(e, T) -/
theorem snd_isi {ty : String} {tn : Str} {p p2 : Pos} (ha : PE X a (liftE ta)) (ma : Mo ta) (hg : Gl X "isinstance") (hm : X.mg "isinstance" = none) (hg2 : Gl X tn) (hm2 : X.mg tn = none) (hv2 : bootBuiltins tn = some (.type ty)) (hn : tn ≠ "__name__") (hdb : (tn == ("__debug__" : Str)) = false)
    (he : starEach [a, .Name tn p2] X.env = (false, eval a X.env) :: starEach [.Name tn p2] X.env) :
    PE X (.Call (.Name "isinstance" p) [a, .Name tn p2] [] pos) (liftE fun env os Q => ta env os fun x os1 => fnW os1 (.isi ty) [x.s] fun r => Q r os1) := by
  refine (pe_callB call_isi hg hm (by decide +kernel) (pa_cons ha (pa_cons (pe_bltn (v := .ty ty) hg2 hm2 hv2 rfl hn hdb) pa_nil) he) (by decide) (by decide) he).mono fun σ H Q ⟨env, os, B, α, hs, es, h⟩ => ?_
  refine lift_then ma hs es h fun r1 os1 v1 H1 B1 q1 e1 s1 es1 x1 => ?_
  cases z : r1.s with
  | d d =>
    rw [z] at x1 q1
    exact isi_snd s1 x1 q1 fun r v H' B' e s x q => q v H' B' (e1.trans e) s (x.back e1)
  | o k =>
    rw [z] at q1
    exact q1.elim
/-! tests -/
theorem sndT_val (ha : PE X a (liftE ta)) (ma : Mo ta) (he : ∀ whole, isTrue a X.env whole = (do let v ← whole; standAt a.pos; holding [v] (truthy v))) : PT X a (liftT fun env os Q => ta env os fun r os1 => truD (rsv os1 r.s) fun k => Q k os1) := by
  refine (pt_truth ha he).mono fun σ H Q ⟨env, os, B, α, hs, es, h⟩ => ?_
  refine lift_then ma hs es h fun r1 os1 v1 H1 B1 q1 e1 s1 es1 x1 => ?_
  obtain ⟨k, h1, h2⟩ := tru_snd (X := X) s1 (x1.lk s1) q1
  exact ⟨k, h1, h2 _ B1 e1 s1⟩
theorem sndT_not {t : DT} (ha : PT X a (liftT t)) (ma : Mo t) : PT X (.UnaryOp .Not a pos) (liftT fun env os Q => t env os fun k os1 => Q (!k) os1) := by
  refine (pt_not ha).mono fun σ H Q ⟨env, os, B, α, hs, es, h⟩ => ?_
  exact ⟨env, os, B, α, hs, es, ma h fun k os1 q H1 B1 e1 s1 => q H1 B1 e1 s1⟩
theorem sndT_and {t u : DT} {rest : List Expr} (ha : PT X a (liftT t)) (hb : PW X (.BoolOp .And (b :: rest) pos) (liftT u)) (ma : Mo t) (mb : Mo u) : PW X (.BoolOp .And (a :: b :: rest) pos) (liftT fun env os Q => t env os fun k os1 => if k = true then u env os1 Q else Q false os1) := by
  refine (pw_and ha hb).mono fun σ H Q ⟨env, os, B, α, hs, es, h⟩ => ?_
  refine ⟨env, os, B, α, hs, es, ma h fun k os1 q H1 B1 e1 s1 => if_mo q (fun q => ?_) fun q => q H1 B1 e1 s1⟩
  exact ⟨env, os1, B1, α, s1, es.mono e1, mb q fun r os' q H' B' e s => q H' B' (e1.trans e) s⟩
theorem sndT_or {t u : DT} {rest : List Expr} (ha : PT X a (liftT t)) (hb : PW X (.BoolOp .Or (b :: rest) pos) (liftT u)) (ma : Mo t) (mb : Mo u) : PW X (.BoolOp .Or (a :: b :: rest) pos) (liftT fun env os Q => t env os fun k os1 => if k = true then Q true os1 else u env os1 Q) := by
  refine (pw_or ha hb).mono fun σ H Q ⟨env, os, B, α, hs, es, h⟩ => ?_
  refine ⟨env, os, B, α, hs, es, ma h fun k os1 q H1 B1 e1 s1 => if_mo q (fun q => q H1 B1 e1 s1) fun q => ?_⟩
  exact ⟨env, os1, B1, α, s1, es.mono e1, mb q fun r os' q H' B' e s => q H' B' (e1.trans e) s⟩
end
end N66

/-! N66, what is walked, targets, list comprehensions. -/
namespace N66
open PySem PySem.Spec L2

/-- a place that nobody tracks may change -/
theorem HS.loose {H B : Hp} {os : List O} {α : List Fp} {a : Addr} {o : HO} (s : HS H os B α) (hB : B a = none) (hα : Out α a) : HS (upd H a o) os B α := by
  refine ⟨fun b u q => ?_, s.len, s.sep, s.out, fun k p u q1 q2 => (s.obj k p u q1 q2).mono (Same.refl B) fun b hb => ?_⟩
  · rw [upd_ne (ne_of_none q hB)]; exact s.ex b u q
  · exact upd_ne (fun (z : b = a) => hα k p q1 (z ▸ hb))
/-- J walks the items, as long as B stands -/
structure Wk (B : Hp) (J : It) (items : List D) : Prop where
  go : ∀ (i : Nat) (H : Hp) (x : D), Same B H → items[i]? = some x → J.go i H
  yld : ∀ (i : Nat) (H : Hp) (v : V) (H' : Hp) (x : D) (os : List O) (B1 : Hp) (α : List Fp), Same B B1 → HS H os B1 α → items[i]? = some x → J.yld i H v H' → ∃ B', Ext H B1 α H' B' α ∧ HS H' os B' α ∧ Rep B' v x
  stop : ∀ (i : Nat) (H : Hp), Same B H → items.length ≤ i → i ≤ items.length → J.stop i H
def liftI (t : DI) : TI := fun σ H R => ∃ env os B α, HS H os B α ∧ ES B α σ env ∧ t env os fun items os' => ∀ J H' B', Ext H B α H' B' α → HS H' os' B' α → Wk B' J items → R J H'

section
variable {X : Cx} {T : Tab} {a b c tg : Expr} {ta tb tc : DE} {pos : Pos}
theorem pi_seq {tl : TE} (hl : PE X a tl) : PI X tg a (fun σ H R => tl σ H fun x H1 => (∃ a, x = .ref a ∧ (∃ xs, SqL X.K H1 a xs) ∧ R (Itl X.K a) H1) ∨ ∃ a, x = .ref a ∧ (∃ xs, SqT X.K H1 a xs) ∧ R (Itt X.K a) H1) := by
  refine ⟨fun pins s σ H R I h => ?_⟩
  refine thn (hl.run pins s σ H _ I h) fun v s1 ⟨x, H1, I1, r1, q1⟩ => ?_
  rcases q1 with q1 | q1
  · obtain ⟨a, e, ⟨xs, hq⟩, q⟩ := q1
    subst e
    cases r1
    obtain ⟨its, rv, p, hz⟩ := I1.list hq
    refine wpAny_pyIter_list p.isList ?_
    refine ⟨s1.heap.objs.size, [s1.heap.objs.size], _, _, H1, rfl, I1.kept (t' := s1.toks) fun b o e => Heap.get?_push_of_some _ e, turn_list a _, ⟨_, Heap.get?_push_size _ rfl, rfl, rfl⟩, fun b hb => ?_, q⟩
    have e : b = s1.heap.objs.size := by simpa using hb
    subst e
    exact I1.fpOk (Nat.le_refl _) (I1.hok.fresh (Nat.le_refl _))
  · obtain ⟨a, e, ⟨xs, hq⟩, q⟩ := q1
    subst e
    cases r1
    obtain ⟨its, rv, p, hz⟩ := I1.tuple hq
    refine wpAny_pyIter_tuple (show s1.heap.IsTuple a its.toArray from p) ?_
    refine ⟨s1.heap.objs.size, [s1.heap.objs.size], _, _, H1, rfl, I1.kept (t' := s1.toks) fun b o e => Heap.get?_push_of_some _ e, turn_tuple a _, ⟨_, Heap.get?_push_size _ rfl, rfl, rfl⟩, fun b hb => ?_, q⟩
    have e : b = s1.heap.objs.size := by simpa using hb
    subst e
    exact I1.fpOk (Nat.le_refl _) (I1.hok.fresh (Nat.le_refl _))
theorem wk_list {K : PySem.W.Frag} {B : Hp} {p : Addr} {vs : List V} {ds : List D} (h : B p = some (.lst vs)) (q : RepAll B vs ds) : Wk B (Itl K p) ds := by
  refine ⟨fun i H x e hx => ?_, fun i H v H' x os B1 α e s hx hy => ?_, fun i H e hi _ => ⟨vs, SqL.of (e _ _ h), by rw [q.length]; exact hi⟩⟩
  · obtain ⟨v, hv, _⟩ := q.get hx
    exact ⟨vs, v, SqL.of (e _ _ h), hv⟩
  · obtain ⟨rfl, f⟩ := hy
    obtain ⟨w, hw, r⟩ := q.get hx
    have := f vs (SqL.of (s.ex _ _ (e _ _ h)))
    rw [hw] at this
    cases this
    exact ⟨B1, Ext.refl _ _ _, s, r.mono e⟩
theorem wk_tup {K : PySem.W.Frag} {B : Hp} {p : Addr} {vs : List V} {ds : List D} (h : B p = some (.tup vs)) (q : RepAll B vs ds) : Wk B (Itt K p) ds := by
  refine ⟨fun i H x e hx => ?_, fun i H v H' x os B1 α e s hx hy => ?_, fun i H e hi _ => ⟨vs, SqT.of (e _ _ h), by rw [q.length]; exact hi⟩⟩
  · obtain ⟨v, hv, _⟩ := q.get hx
    exact ⟨vs, v, SqT.of (e _ _ h), hv⟩
  · obtain ⟨rfl, f⟩ := hy
    obtain ⟨w, hw, r⟩ := q.get hx
    have := f vs (SqT.of (s.ex _ _ (e _ _ h)))
    rw [hw] at this
    cases this
    exact ⟨B1, Ext.refl _ _ _, s, r.mono e⟩
theorem sndI_seq (ha : PE X a (liftE ta)) (ma : Mo ta) : PI X tg a (liftI fun env os Q => ta env os fun r os1 => match r.s with
    | .d (.lst ds) => Q ds os1
    | .d (.tup ds) => Q ds os1
    | _ => False) := by
  refine (pi_seq ha).mono fun σ H R ⟨env, os, B, α, hs, es, h⟩ => ?_
  refine lift_then ma hs es h fun r1 os1 v1 H1 B1 q1 e1 s1 es1 x1 => ?_
  split at q1
  · rename_i ds e
    rw [e] at x1
    cases x1 with
    | lst h q => exact .inl ⟨_, rfl, ⟨_, SqL.of (s1.ex _ _ h)⟩, q1 _ _ B1 e1 s1 (wk_list h q)⟩
  · rename_i ds e
    rw [e] at x1
    cases x1 with
    | tup h q => exact .inr ⟨_, rfl, ⟨_, SqT.of (s1.ex _ _ h)⟩, q1 _ _ B1 e1 s1 (wk_tup h q)⟩
  · exact q1.elim
theorem wk_rng {B : Hp} {lo hi : Int} : Wk B (Itr lo (hi - lo).toNat) (rngD lo hi) := by
  refine ⟨fun i H x e hx => ?_, fun i H v H' x os B1 α e s hx hy => ?_, fun i H e hj _ => ?_⟩
  · have := (List.getElem?_eq_some_iff.mp hx).1
    unfold rngD at this
    rw [List.length_map, List.length_range] at this
    exact this
  · obtain ⟨rfl, rfl⟩ := hy
    unfold rngD at hx
    rw [List.getElem?_map] at hx
    have hl : i < (hi - lo).toNat := by
      cases z : (List.range (hi - lo).toNat)[i]? with
      | none => rw [z] at hx; cases hx
      | some j => simpa using (List.getElem?_eq_some_iff.mp z).1
    rw [List.getElem?_range hl] at hx
    cases hx
    exact ⟨B1, Ext.refl _ _ _, s, .int _⟩
  · show (hi - lo).toNat ≤ i
    unfold rngD at hj
    rw [List.length_map, List.length_range] at hj
    exact hj
theorem sndI_rng1 {p : Pos} (ha : PE X a (liftE ta)) (ma : Mo ta) (hg : Gl X "range") (hm : X.mg "range" = none) (hs : starEach [a] X.env = [(false, eval a X.env)]) : PI X tg (.Call (.Name "range" p) [a] [] pos) (liftI fun env os Q => ta env os fun r2 os2 => match r2.s with
    | .d (.int b) => (-(2 ^ 62) ≤ b ∧ b < 2 ^ 62) ∧ Q (rngD 0 b) os2
    | _ => False) := by
  refine (pi_range1 hg hm (pa_cons ha pa_nil hs) hs).mono fun σ H R ⟨env, os, B, α, hs, es, h⟩ => ?_
  refine lift_then ma hs es h fun r1 os1 v1 H1 B1 q1 e1 s1 es1 x1 => ?_
  split at q1
  · rename_i j e
    rw [e] at x1
    rw [rep_int x1]
    refine ⟨j, rfl, q1.1.1, q1.1.2, q1.2 _ _ B1 e1 s1 ?_⟩
    have := wk_rng (B := B1) (lo := 0) (hi := j)
    rw [show (j - 0).toNat = j.toNat by simp] at this
    exact this
  · exact q1.elim
theorem sndI_rng2 {p : Pos} (ha : PE X a (liftE ta)) (hb : PE X b (liftE tb)) (ma : Mo ta) (mb : Mo tb) (hg : Gl X "range") (hm : X.mg "range" = none) (hs : starEach [a, b] X.env = [(false, eval a X.env), (false, eval b X.env)]) (hs2 : starEach [b] X.env = [(false, eval b X.env)]) :
    PI X tg (.Call (.Name "range" p) [a, b] [] pos) (liftI fun env os Q => ta env os fun r1 os1 => tb env os1 fun r2 os2 => match r1.s, r2.s with
    | .d (.int a), .d (.int b) => (-(2 ^ 62) ≤ a ∧ a < 2 ^ 62 ∧ -(2 ^ 62) ≤ b ∧ b < 2 ^ 62) ∧ Q (rngD a b) os2
    | _, _ => False) := by
  refine (pi_range2 hg hm (pa_cons ha (pa_cons hb pa_nil hs2) (by rw [hs, hs2])) hs hs2).mono fun σ H R ⟨env, os, B, α, hs, es, h⟩ => ?_
  refine lift_then ma hs es h fun r1 os1 v1 H1 B1 q1 e1 s1 es1 x1 => lift_then mb s1 es1 q1 fun r2 os2 v2 H2 B2 q2 e2 s2 es2 x2 => ?_
  split at q2
  · rename_i i j e f
    rw [e] at x1
    rw [f] at x2
    rw [rep_int x1, rep_int x2]
    exact ⟨i, j, rfl, q2.1, q2.2 _ _ B2 (e1.trans e2) s2 wk_rng⟩
  · exact q2.elim
theorem enmD_get {ds : List D} {i : Nat} {x : D} (h : (enmD ds)[i]? = some x) : ∃ d, ds[i]? = some d ∧ x = .tup [.int i, d] := by
  unfold enmD at h
  rw [List.getElem?_zipWith] at h
  have hl : i < ds.length := by
    cases z : ds[i]? with
    | none => rw [z] at h; cases q : (List.range ds.length)[i]? <;> rw [q] at h <;> cases h
    | some j => exact (List.getElem?_eq_some_iff.mp z).1
  rw [List.getElem?_range hl, List.getElem?_eq_getElem hl] at h
  exact ⟨ds[i], List.getElem?_eq_getElem hl, by simpa using h.symm⟩
theorem enmD_len {ds : List D} : (enmD ds).length = ds.length := by unfold enmD; simp
theorem wk_enm {K : PySem.W.Frag} {B : Hp} {p : Addr} {vs : List V} {ds : List D} (h : B p = some (.lst vs)) (q : RepAll B vs ds) : Wk B (Ite K p) (enmD ds) := by
  refine ⟨fun i H x e hx => ?_, fun i H v H' x os B1 α e s hx hy => ?_, fun i H e hi _ => ⟨vs, SqL.of (e _ _ h), by rw [q.length, ← enmD_len]; exact hi⟩⟩
  · obtain ⟨d, hd, rfl⟩ := enmD_get hx
    obtain ⟨v, hv, _⟩ := q.get hd
    exact ⟨vs, v, SqL.of (e _ _ h), hv⟩
  · obtain ⟨t, y, rfl, ht, rfl, f⟩ := hy
    obtain ⟨d, hd, rfl⟩ := enmD_get hx
    obtain ⟨w, hw, r⟩ := q.get hd
    have := f vs (SqL.of (s.ex _ _ (e _ _ h)))
    rw [hw] at this
    have this := Option.some.inj this
    subst this
    obtain ⟨s1, e1, h1⟩ := s.make (o := .tup [.int (i : Nat), w]) ht
    exact ⟨_, e1, s1, .tup h1 (.cons (.int _) (.one (r.mono (e.trans e1.same))))⟩
theorem sndI_enm {p tpos : Pos} {elts : List Expr} {kk : Nat} (ha : PE X a (liftE ta)) (ma : Mo ta) (hg : Gl X "enumerate") (hm : X.mg "enumerate" = none) (hs : starEach [a] X.env = [(false, eval a X.env)]) :
    PI X (.Tuple elts kk tpos) (.Call (.Name "enumerate" p) [a] [] pos) (liftI fun env os Q => ta env os fun r os1 => match r.s with
    | .d (.lst ds) => Q (enmD ds) os1
    | _ => False) := by
  refine (pi_enum hg hm (pa_cons ha pa_nil hs) hs).mono fun σ H R ⟨env, os, B, α, hs, es, h⟩ => ?_
  refine lift_then ma hs es h fun r1 os1 v1 H1 B1 q1 e1 s1 es1 x1 => ?_
  split at q1
  · rename_i ds e
    rw [e] at x1
    cases x1 with
    | lst h q => exact ⟨_, _, rfl, SqL.of (s1.ex _ _ h), q1 _ _ B1 e1 s1 (wk_enm h q)⟩
  · exact q1.elim
theorem zipD_get {xs ys : List D} {i : Nat} {x : D} (h : (zipD xs ys)[i]? = some x) : ∃ d e, xs[i]? = some d ∧ ys[i]? = some e ∧ x = .tup [d, e] := by
  unfold zipD at h
  rw [List.getElem?_zipWith] at h
  cases z : xs[i]? with
  | none => rw [z] at h; cases h
  | some d =>
    cases w : ys[i]? with
    | none => rw [z, w] at h; cases h
    | some e => rw [z, w] at h; exact ⟨d, e, rfl, rfl, by simpa using h.symm⟩
theorem zipD_len {xs ys : List D} {i : Nat} (h : (zipD xs ys).length ≤ i) : xs.length ≤ i ∨ ys.length ≤ i := by
  unfold zipD at h
  rw [List.length_zipWith] at h
  omega
theorem wk_zip {K : PySem.W.Frag} {B : Hp} {p p' : Addr} {vs ws : List V} {ds es : List D} (h : B p = some (.lst vs)) (q : RepAll B vs ds) (h' : B p' = some (.lst ws)) (q' : RepAll B ws es) : Wk B (Itz K p p') (zipD ds es) := by
  refine ⟨fun i H x e hx => ?_, fun i H v H' x os B1 α e s hx hy => ?_, fun i H e hi _ => ⟨vs, ws, SqL.of (e _ _ h), SqL.of (e _ _ h'), by rw [q.length, q'.length]; exact zipD_len hi⟩⟩
  · obtain ⟨d, d', hd, hd', rfl⟩ := zipD_get hx
    obtain ⟨v, hv, _⟩ := q.get hd
    obtain ⟨v', hv', _⟩ := q'.get hd'
    exact ⟨vs, ws, v, v', SqL.of (e _ _ h), SqL.of (e _ _ h'), hv, hv'⟩
  · obtain ⟨t, y, z, rfl, ht, rfl, f, f'⟩ := hy
    obtain ⟨d, d', hd, hd', rfl⟩ := zipD_get hx
    obtain ⟨w, hw, r⟩ := q.get hd
    obtain ⟨w', hw', r'⟩ := q'.get hd'
    have g := f vs (SqL.of (s.ex _ _ (e _ _ h)))
    have g' := f' ws (SqL.of (s.ex _ _ (e _ _ h')))
    rw [hw] at g
    rw [hw'] at g'
    have g := Option.some.inj g
    have g' := Option.some.inj g'
    subst g g'
    obtain ⟨s1, e1, h1⟩ := s.make (o := .tup [w, w']) ht
    exact ⟨_, e1, s1, .tup h1 (.cons (r.mono (e.trans e1.same)) (.one (r'.mono (e.trans e1.same))))⟩
theorem wk_zipT {K : PySem.W.Frag} {B : Hp} {p p' : Addr} {vs ws : List V} {ds es : List D} (h : B p = some (.tup vs)) (q : RepAll B vs ds) (h' : B p' = some (.tup ws)) (q' : RepAll B ws es) : Wk B (RZ.ItzT K p p') (zipD ds es) := by
  refine ⟨fun i H x e hx => ?_, fun i H v H' x os B1 α e s hx hy => ?_, fun i H e hi _ => ⟨vs, ws, SqT.of (e _ _ h), SqT.of (e _ _ h'), by rw [q.length, q'.length]; exact zipD_len hi⟩⟩
  · obtain ⟨d, d', hd, hd', rfl⟩ := zipD_get hx
    obtain ⟨v, hv, _⟩ := q.get hd
    obtain ⟨v', hv', _⟩ := q'.get hd'
    exact ⟨vs, ws, v, v', SqT.of (e _ _ h), SqT.of (e _ _ h'), hv, hv'⟩
  · obtain ⟨t, y, z, rfl, ht, rfl, f, f'⟩ := hy
    obtain ⟨d, d', hd, hd', rfl⟩ := zipD_get hx
    obtain ⟨w, hw, r⟩ := q.get hd
    obtain ⟨w', hw', r'⟩ := q'.get hd'
    have g := f vs (SqT.of (s.ex _ _ (e _ _ h)))
    have g' := f' ws (SqT.of (s.ex _ _ (e _ _ h')))
    rw [hw] at g
    rw [hw'] at g'
    have g := Option.some.inj g
    have g' := Option.some.inj g'
    subst g g'
    obtain ⟨s1, e1, h1⟩ := s.make (o := .tup [w, w']) ht
    exact ⟨_, e1, s1, .tup h1 (.cons (r.mono (e.trans e1.same)) (.one (r'.mono (e.trans e1.same))))⟩

/-! ### targets -/
def gList : List Nat → TGs
  | [] => gNil
  | j :: r => gCons (gName j) (gList r)
def gOf (K : PySem.W.Frag) : Tg → TG
  | .nm i => gName i
  | .tp js => gTup K js.length (gList js)
def setV (σ : L2.St) : List Nat → List V → L2.St
  | j :: js, v :: vs => setV (σ.set j (some v)) js vs
  | _, _ => σ
theorem gList_ok : ∀ {js : List Nat} {vs : List V} {ds : List D} {B : Hp} {α : List Fp} {σ : L2.St} {env env' : Env} {H : Hp} {Q : L2.St → Hp → Prop}, RepAll B vs ds → ES B α σ env → setAll env js ds = some env' → (ES B α (setV σ js vs) env' → Q (setV σ js vs) H) → gList js vs σ H Q
  | [], _, _, _, _, _, _, _, _, _, .nil, es, e, q => by cases e; exact ⟨rfl, q es⟩
  | [], _, _, _, _, _, _, _, _, _, .cons _ _, es, e, q => by cases e
  | j :: js, _, _, _, _, _, _, _, _, _, .nil, es, e, q => by cases e
  | j :: js, _, _, _, _, _, env, _, _, _, .cons h r, es, e, q => by
    refine ⟨_, _, rfl, gList_ok r (es.set (i := j) (d := .d _) h) (by rw [← setS_eq]; exact e) q⟩
def setG (σ : L2.St) (tg : Tg) (v : V) (vs : List V) : L2.St := match tg with
  | .nm i => σ.set i (some v)
  | .tp js => setV σ js vs
theorem gOf_ok {K : PySem.W.Frag} {tg : Tg} {d : D} {v : V} {B : Hp} {α : List Fp} {os : List O} {σ : L2.St} {env : Env} {H : Hp} {P : Env → Prop} {Q : L2.St → Hp → Prop} (s : HS H os B α) (r : Rep B v d) (es : ES B α σ env) (h : bindT tg d env P)
    (q : ∀ env' vs, P env' → ES B α (setG σ tg v vs) env' → Q (setG σ tg v vs) H) : gOf K tg v σ H Q := by
  cases tg with
  | nm i =>
    have := es.set (i := i) (d := .d d) r
    rw [← setS_eq] at this
    exact q _ [] h this
  | tp js =>
    unfold bindT at h
    simp only at h
    split at h
    · rename_i ds
      split at h
      · rename_i env' e
        cases r with
        | @tup a vs _ h1 q1 =>
          refine ⟨a, vs, rfl, SqT.of (s.ex _ _ h1), ?_, gList_ok q1 es e fun es' => q env' vs h es'⟩
          have : ∀ {js : List Nat} {ds : List D} {env env' : Env}, setAll env js ds = some env' → ds.length = js.length := by
            intro js
            induction js with
            | nil => intro ds env env' e; cases ds with
              | nil => rfl
              | cons _ _ => cases e
            | cons j js ih => intro ds env env' e; cases ds with
              | nil => cases e
              | cons d ds => rw [List.length_cons, List.length_cons, ih (show setAll (setS env j (.d d)) js ds = some env' from e)]
          rw [q1.length, this e]
      · exact h.elim
    · exact h.elim
theorem wipe_set {σ : L2.St} {j : Nat} {x : Option V} : ∀ {vs : List Nat}, j ∈ vs → wipe (σ.set j x) vs = wipe σ vs
  | v :: vs, h => by
    unfold wipe
    by_cases e : j = v
    · subst e
      by_cases h2 : j ∈ vs
      · rw [wipe_set h2]
      · have key : ∀ {us : List Nat} {τ : L2.St}, j ∉ us → wipe (τ.set j x) us = (wipe τ us).set j x := by
          intro us
          induction us with
          | nil => intro τ _; rfl
          | cons u us ih =>
            intro τ hu
            unfold wipe
            simp only [List.mem_cons, not_or] at hu
            rw [ih hu.2, List.set_comm _ _ hu.1]
        rw [key h2, List.set_set]
    · rw [wipe_set (by
        rcases List.mem_cons.mp h with h | h
        · exact absurd h e
        · exact h)]
theorem wipe_setV {ws : List Nat} : ∀ {js : List Nat} {vs : List V} {σ : L2.St}, (∀ j ∈ js, j ∈ ws) → wipe (setV σ js vs) ws = wipe σ ws
  | [], vs, σ, _ => by unfold setV; rfl
  | j :: js, [], σ, _ => by unfold setV; rfl
  | j :: js, v :: vs, σ, h => by
    unfold setV
    rw [wipe_setV fun k hk => h k (List.mem_cons_of_mem _ hk), wipe_set (h j (List.mem_cons_self ..))]
def tgIn (own : List Nat) : Tg → Bool
  | .nm i => own.contains i
  | .tp js => js.all own.contains
theorem wipe_setG {ws : List Nat} {tg : Tg} {v : V} {vs : List V} {σ : L2.St} (h : tgIn ws tg = true) : wipe (setG σ tg v vs) ws = wipe σ ws := by
  cases tg with
  | nm i => exact wipe_set (by simpa [tgIn] using h)
  | tp js =>
    refine wipe_setV fun j hj => ?_
    have := List.all_eq_true.mp h j hj
    simpa using this
theorem ES.wipeAll {B : Hp} {α : List Fp} {σ : L2.St} {env : Env} (s : ES B α σ env) : ∀ vs : List Nat, ES B α (wipe σ vs) (wipeA env vs)
  | [] => s
  | v :: vs => by
    unfold wipe wipeA
    rw [wipeS_eq]
    exact (s.wipeAll vs).wipe1 v

/-! ### list comprehensions -/
theorem snd_lc_read {wi : DI} {tgd : Tg} {tt : DT} {te : DE} {own : List Nat} (mi : Mo wi) (mt : Mo tt) (me : Mo te) (hin : tgIn own tgd = true) {σ : L2.St} {H : Hp} {Q : VK}
    (h : liftE (fun env os Q => wi env os fun items os1 => ∃ W : Nat → List D → List O → Prop, W 0 [] os1 ∧
      (∀ (i : Nat) (x : D) (acc : List D) (os2 : List O), items[i]? = some x → W i acc os2 → acc.length ≤ i → bindT tgd x (wipeA env own) fun env' => tt env' os2 fun k os3 =>
        if k = true then te env' os3 fun r os4 => match r.s with
          | .d d => W (i + 1) (acc ++ [d]) os4
          | _ => False
        else W (i + 1) acc os3) ∧
      items.length ≤ lim ∧ ∀ acc os2, W items.length acc os2 → acc.length ≤ items.length → Q (.new (.lst acc)) os2) σ H Q) : tLc (liftI wi) (gOf X.K tgd) (liftT tt) (liftE te) own σ H Q := by
  obtain ⟨env, os, B, α, hs, es, h⟩ := h
  refine ⟨env, os, B, α, hs, es, mi h fun items os1 ⟨W, h0, h1, h2, h3⟩ J H1 B1 e1 s1 wk D hD => ?_⟩
  obtain ⟨s1', e1', g1, g2⟩ := s1.grow (o := .lst []) hD
  refine ⟨fun i m H2 => ∃ acc vs os2 B2, Ext H1 B1 α H2 B2 α ∧ HS H2 os2 B2 α ∧ B2 D = none ∧ Out α D ∧ H2 D = some (.lst vs) ∧ RepAll B2 vs acc ∧ W i acc os2 ∧ acc.length ≤ i ∧ i + m = items.length, ⟨items.length, [], [], os1, B1, e1', s1', g1, g2, upd_same, .nil, h0, Nat.le_refl _, by omega⟩, fun i m H2 hW => ?_⟩
  obtain ⟨acc, vs, os2, B2, e2, s2, k1, k2, k3, k4, w, hl, em⟩ := hW
  by_cases hi : i < items.length
  · have hx : items[i]? = some items[i] := List.getElem?_eq_getElem hi
    refine .inr ⟨wk.go i H2 _ (e2.same.trans s2.ex) hx, fun H' => ∃ acc vs os2 B2, Ext H1 B1 α H' B2 α ∧ HS H' os2 B2 α ∧ B2 D = none ∧ Out α D ∧ H' D = some (.lst vs) ∧ RepAll B2 vs acc ∧ W (i + 1) acc os2 ∧ acc.length ≤ i + 1, fun H' hN => ?_, fun x H3 hy => ?_⟩
    · obtain ⟨acc, vs, os2, B2, a1, a2, a3, a4, a5, a6, a7, a8⟩ := hN
      exact ⟨m - 1, by omega, acc, vs, os2, B2, a1, a2, a3, a4, a5, a6, a7, a8, by omega⟩
    · obtain ⟨B3, e3, s3, r3⟩ := wk.yld i H2 x H3 _ os2 B2 α e2.same s2 hx hy
      have d3 : H3 D = some (.lst vs) := e3.frm _ _ k3 k2
      refine gOf_ok s3 r3 (((es.mono e1).mono (e2.trans e3)).wipeAll own) (h1 i _ acc os2 hx w hl) fun env' us h4 es4 => ⟨?_, ?_⟩
      · rw [wipe_setG hin]
        have idem : ∀ (us : List Nat), (∀ u ∈ us, u ∈ own) → wipe (wipe σ us) own = wipe σ own := by
          intro us
          induction us with
          | nil => intro _; rfl
          | cons u us ih =>
            intro hu
            show wipe ((wipe σ us).set u none) own = _
            rw [wipe_set (hu u (List.mem_cons_self ..)), ih fun v hv => hu v (List.mem_cons_of_mem _ hv)]
        exact idem own fun _ h => h
      · refine ⟨env', os2, B3, α, s3, es4, mt h4 fun k os4 h5 H4 B4 e4 s4 => if_mo h5 (fun h5 => ?_) fun h5 => ?_⟩
        · refine lift_then me s4 (es4.mono e4) h5 fun r5 os5 v5 H5 B5 q5 e5 s5 es5 x5 => ?_
          have d4 : H4 D = some (.lst vs) := e4.frm _ _ d3 k2
          have b3 : B3 D = none := e3.lay D vs k3 k2 k1
          have b5 : B5 D = none := e5.lay D vs d4 k2 (e4.lay D vs d3 k2 b3)
          have d5 : H5 D = some (.lst vs) := e5.frm _ _ d4 k2
          split at q5
          · rename_i d ed
            rw [ed] at x5
            have ra := (k4.mono (e3.same.trans (e4.same.trans e5.same))).app (.one x5)
            refine ⟨vs, d5, by rw [k4.length]; exact lim_lt (by omega), acc ++ [d], vs ++ [v5], os5, B5, ?_, ?_, b5, k2, upd_same, ra, q5, by rw [List.length_append, List.length_singleton]; omega⟩
            · have e15 := ((e2.trans e3).trans e4).trans e5
              exact ⟨e15.same, e15.pre, fun b o hb u => by
                rw [upd_ne (fun (z : b = D) => by rw [z, hD] at hb; cases hb)]
                exact e15.frm b o hb u, fun b hb => by
                by_cases z : b = D
                · rw [z, upd_same]; simp
                · rw [upd_ne z]; exact e15.grow b hb, e15.new, e15.lay⟩
            · exact s5.loose b5 k2
          · exact q5.elim
        · have d4 : H4 D = some (.lst vs) := e4.frm _ _ d3 k2
          have b4 : B4 D = none := e4.lay D vs d3 k2 (e3.lay D vs k3 k2 k1)
          exact ⟨acc, vs, os4, B4, (e2.trans e3).trans e4, s4, b4, k2, d4, k4.mono (e3.same.trans e4.same), h5, by omega⟩
  · have ei : i = items.length := by omega
    subst ei
    refine .inl ⟨wk.stop _ H2 (e2.same.trans s2.ex) (Nat.le_refl _) (Nat.le_refl _), h3 acc os2 w hl _ _ B2 (e1.trans e2) s2 ⟨(D, []), rfl, fun b hb => ?_, rfl, vs, k3, k4⟩⟩
    rw [fp, List.mem_singleton] at hb
    subst hb
    refine ⟨?_, k1, k2⟩
    cases z : H b with
    | none => rfl
    | some u => exact absurd hD (e1.grow b (by rw [z]; simp))
end
end N66

/-! N66: zip of three tuples. -/
namespace N66
open PySem PySem.Spec PyProof.Rows L2
/-- three tuples as they stand, the items in new triples -/
def It3 (K : PySem.W.Frag) (a b c : Addr) : It :=
  ⟨fun i H => ∃ (xs ys zs : List V) (x y z : V), (SqT K H a xs ∧ SqT K H b ys ∧ SqT K H c zs) ∧ xs[i]? = some x ∧ ys[i]? = some y ∧ zs[i]? = some z,
    fun i H v H' => ∃ T x y z, v = .ref T ∧ H T = none ∧ H' = upd H T (.tup [x, y, z]) ∧ (∀ xs, SqT K H a xs → xs[i]? = some x) ∧ (∀ ys, SqT K H b ys → ys[i]? = some y) ∧ ∀ zs, SqT K H c zs → zs[i]? = some z,
    fun i H => ∃ xs ys zs : List V, (SqT K H a xs ∧ SqT K H b ys ∧ SqT K H c zs) ∧ (i ≤ xs.length ∧ i ≤ ys.length ∧ i ≤ zs.length) ∧ (i = xs.length ∨ i = ys.length ∨ i = zs.length)⟩
/-- the cells of such a zip lie apart -/
structure Sep3 (z TI TO i1 i2 i3 a b c : Addr) : Prop where
  s : ZipSep3 z TI TO i1 i2 i3 [i1, a] [i2, b] [i3, c]
  a1 : a ≠ i1
  b2 : b ≠ i2
  c3 : c ≠ i3
theorem sep3_of {n a b c : Nat} (ha : a < n) (hb : b < n) (hc : c < n) : Sep3 (n + 5) (n + 3) (n + 4) n (n + 1) (n + 2) a b c := by
  refine ⟨⟨?_, ?_, ?_, ?_, ?_, ?_, ?_, ?_, ?_, ?_, ?_, ?_, ?_, ?_, ?_, ?_, ?_, ?_, ?_, ?_, ?_⟩, ?_, ?_, ?_⟩ <;> first | (simp; done) | (simp; exact Nat.ne_of_gt (by omega)) | (simp; exact Nat.ne_of_lt (by omega)) | exact Nat.ne_of_gt (by omega) | exact Nat.ne_of_lt (by omega)
theorem turn_zip3 {P : Program} {w : World} {K : PySem.W.Frag} {elts : List Expr} {kk : Nat} {tpos : Pos} {a b c z TI TO i1 i2 i3 : Addr} (D : Sep3 z TI TO i1 i2 i3 a b c) :
    Turn P w K (.Tuple elts kk tpos) (It3 K a b c) [z, TI, TO, i1, i2, i3] z (fun i h => IsZip h z TI TO .none ∧ IsTupOf3 h TI (.ref i1) (.ref i2) (.ref i3) ∧ (∃ x y u, IsTupOf3 h TO x y u) ∧ h.IsTupleIter i1 a i ∧ h.IsTupleIter i2 b i ∧ h.IsTupleIter i3 c i) where
  mem := by simp
  obj := fun i h st d hd => by
    obtain ⟨hz, hTI, ⟨x, y, u, hTO⟩, ⟨o1, e1, _, d1⟩, ⟨o2, e2, _, d2⟩, ⟨o3, e3, _, d3⟩⟩ := st
    have e' : d = z ∨ d = TI ∨ d = TO ∨ d = i1 ∨ d = i2 ∨ d = i3 := by simpa using hd
    rcases e' with q | q | q | q | q | q
    · rw [q]; exact ⟨_, hz, fun v q => nomatch q⟩
    · rw [q]; exact ⟨_, hTI, fun v q => nomatch q⟩
    · rw [q]; exact ⟨_, hTO, fun v q => nomatch q⟩
    · rw [q]; exact ⟨o1, e1, fun v q => by rw [d1] at q; cases q⟩
    · rw [q]; exact ⟨o2, e2, fun v q => by rw [d2] at q; cases q⟩
    · rw [q]; exact ⟨o3, e3, fun v q => by rw [d3] at q; cases q⟩
  keep := fun i h h' st k => by
    obtain ⟨hz, hTI, ⟨x, y, u, hTO⟩, h1, h2, h3⟩ := st
    exact ⟨k z (by simp) _ hz, k TI (by simp) _ hTI, ⟨x, y, u, k TO (by simp) _ hTO⟩, h1.at fun o q => k i1 (by simp) o q, h2.at fun o q => k i2 (by simp) o q, h3.at fun o q => k i3 (by simp) o q⟩
  item := by
    intro X hP hw hK hcm i pins s σ H E I hf st hg
    subst hP hw hK
    obtain ⟨hz, hTI, ⟨x0, y0, u0, hTO⟩, h1, h2, h3⟩ := st
    obtain ⟨xs, ys, zs, x, y, u, ⟨qx, qy, qu⟩, hx, hy, hu⟩ := hg
    obtain ⟨t1, rv1, p1, _⟩ := I.tuple qx
    obtain ⟨t2, rv2, p2, _⟩ := I.tuple qy
    obtain ⟨t3, rv3, p3, _⟩ := I.tuple qu
    obtain ⟨m1, hm1, rm1⟩ := rv1.get hx
    obtain ⟨m2, hm2, rm2⟩ := rv2.get hy
    obtain ⟨m3, hm3, rm3⟩ := rv3.get hu
    have hzl : z < s.heap.objs.size := Heap.lt_size hz
    have hh : X.A.handled = none := I.ok.hd hcm
    have S := D.s
    have lt1 := (List.getElem?_eq_some_iff.mp hm1).1
    have lt2 := (List.getElem?_eq_some_iff.mp hm2).1
    have lt3 := (List.getElem?_eq_some_iff.mp hm3).1
    refine wpAny_pyNext_zipD3_item S (Draws.tuple (A := X.A.in1) hh i1 a D.a1 t1.toArray) (Draws.tuple (A := X.A.in1) hh i2 b D.b2 t2.toArray) (Draws.tuple (A := X.A.in1) hh i3 c D.c3 t3.toArray) hz hTI hTO ⟨h1, p1⟩ ⟨h2, p2⟩ ⟨h3, p3⟩ (by simpa using lt1) (by simpa using lt2) (by simpa using lt3) fun y1 y2 y3 h' tk e1 e2 e3 z' TO' g1 g2 g3 hT hsz hk => ?_
    obtain rfl : y1 = m1 := by have e1' : t1.toArray[i]? = some y1 := e1; simp only [List.getElem?_toArray] at e1'; rw [hm1] at e1'; exact (Option.some.inj e1').symm
    obtain rfl : y2 = m2 := by have e1' : t2.toArray[i]? = some y2 := e2; simp only [List.getElem?_toArray] at e1'; rw [hm2] at e1'; exact (Option.some.inj e1').symm
    obtain rfl : y3 = m3 := by have e1' : t3.toArray[i]? = some y3 := e3; simp only [List.getElem?_toArray] at e1'; rw [hm3] at e1'; exact (Option.some.inj e1').symm
    refine ⟨_, rfl, wpAny_letOwnedTupleGo_zip (s := { s with heap := h', toks := tk }) z' fun h'' z'' sb => ?_⟩
    have hT2 : h''.get? s.heap.objs.size = some { cls := .type "tuple", data := .seq #[y1, y2, y3] } := (sb.2 _ (Nat.ne_of_gt hzl)).trans hT
    have new : ObjOk X.prog X.w (upd H s.heap.objs.size (.tup [x, y, u])) h'' s.heap.objs.size (.tup [x, y, u]) :=
      ⟨by show 3 ≤ sizeLine; decide, [y1, y2, y3], .cons rm1 (.cons rm2 (.cons rm3 .nil)), ⟨_, hT2, rfl, _, rfl⟩⟩
    have kk : ∀ d o, d ∉ [z, TI, TO, i1, i2, i3] → s.heap.get? d = some o → h''.get? d = some o := fun d o hd q =>
      (sb.2 d (fun q' => hd (by simp [q']))).trans (hk d o (fun q' => hd (by simp [q'])) (fun q' => hd (by simp [q'])) (fun q' => hd (by simp [q'])) (fun q' => hd (by simp [q'])) (fun q' => hd (by simp [q'])) q)
    have I1 : Inv X pins σ (upd H s.heap.objs.size (.tup [x, y, u])) { s with heap := h'', toks := tk } := I.turnedNew (t' := tk) (ch := [z, TI, TO, i1, i2, i3]) kk hf (Nat.le_refl _) new
    refine ⟨.ref s.heap.objs.size, _, I1, rfl, ⟨_, x, y, u, rfl, I.hok.fresh (Nat.le_refl _), rfl, fun l hl => by rw [I.tuple_inj hl qx]; exact hx, fun l hl => by rw [I.tuple_inj hl qy]; exact hy, fun l hl => by rw [I.tuple_inj hl qu]; exact hu⟩, ⟨z'', ?_, ⟨y1, y2, y3, ?_⟩, ?_, ?_, ?_⟩, fun d hdm => ?_⟩
    · exact (sb.2 _ S.TIz).trans (hk _ _ S.TIz S.TITO S.TIi1 S.TIi2 S.TIi3 hTI)
    · exact (sb.2 _ S.TOz).trans TO'
    · exact g1.1.at fun o q => (sb.2 _ S.zi1.symm).trans q
    · exact g2.1.at fun o q => (sb.2 _ S.zi2.symm).trans q
    · exact g3.1.at fun o q => (sb.2 _ S.zi3.symm).trans q
    · have hlt : d < s.heap.objs.size := by
        have e' : d = z ∨ d = TI ∨ d = TO ∨ d = i1 ∨ d = i2 ∨ d = i3 := by simpa using hdm
        rcases e' with q | q | q | q | q | q
        · rw [q]; exact hzl
        · rw [q]; exact Heap.lt_size hTI
        · rw [q]; exact Heap.lt_size hTO
        · rw [q]; obtain ⟨_, e1, _⟩ := h1; exact Heap.lt_size e1
        · rw [q]; obtain ⟨_, e2, _⟩ := h2; exact Heap.lt_size e2
        · rw [q]; obtain ⟨_, e2, _⟩ := h3; exact Heap.lt_size e2
      rw [upd_ne (Nat.ne_of_lt hlt)]
      exact (hf d hdm).1
  done := by
    intro X hP hw hK hcm i pins s σ H E I hf st hg
    subst hP hw hK
    obtain ⟨hz, hTI, ⟨x0, y0, u0, hTO⟩, h1, h2, h3⟩ := st
    obtain ⟨xs, ys, zs, ⟨qx, qy, qu⟩, ⟨b1, b2, b3⟩, hend⟩ := hg
    obtain ⟨t1, rv1, p1, _⟩ := I.tuple qx
    obtain ⟨t2, rv2, p2, _⟩ := I.tuple qy
    obtain ⟨t3, rv3, p3, _⟩ := I.tuple qu
    have l1 := rv1.length
    have l2 := rv2.length
    have l3 := rv3.length
    have hh : X.A.handled = none := I.ok.hd hcm
    exact wpAny_pyNext_zipD3_end D.s (Draws.tuple (A := X.A.in1) hh i1 a D.a1 t1.toArray) (Draws.tuple (A := X.A.in1) hh i2 b D.b2 t2.toArray) (Draws.tuple (A := X.A.in1) hh i3 c D.c3 t3.toArray) hz hTI hTO ⟨h1, p1⟩ ⟨h2, p2⟩ ⟨h3, p3⟩
      (by simp; omega) (by simp; omega) (by simp; omega) (by simp; omega) fun h' tk hk => ⟨rfl, I.turnedL (t' := tk) (ch := [z, TI, TO, i1, i2, i3]) (fun d o hd q =>
      hk d o (fun q' => hd (by simp [q'])) (fun q' => hd (by simp [q'])) (fun q' => hd (by simp [q'])) (fun q' => hd (by simp [q'])) (fun q' => hd (by simp [q'])) q) hf⟩
  self := fun A i s Q E st h => wpAny_pyIter_zip st.1 h
def iZip3 (K : PySem.W.Frag) (ta : TA) : TI := fun σ H R => ta σ H fun vs H1 => ∃ a b c xs ys zs, vs = [.ref a, .ref b, .ref c] ∧ (SqT K H1 a xs ∧ SqT K H1 b ys ∧ SqT K H1 c zs) ∧ R (It3 K a b c) H1
theorem pi_zip3 {X : Cx} {e e2 e3 : Expr} {ta : TA} {p pos tpos : Pos} {elts : List Expr} {kk : Nat} (hg : Gl X "zip") (hm : X.mg "zip" = none) (ha : PA X [e, e2, e3] ta)
    (hs : starEach [e, e2, e3] X.env = (false, eval e X.env) :: starEach [e2, e3] X.env) (hpl : (backTo pos (starEach [e2, e3] X.env)).any (·.1) = false) :
    PI X (.Tuple elts kk tpos) (.Call (.Name "zip" p) [e, e2, e3] [] pos) (iZip3 X.K ta) := by
  refine ⟨fun pins s σ H R I h => ?_⟩
  refine Call_ (ld_blt I hg hm PyProof.Rows.boot_zip (PyProof.Rows.callWith_type1 (thn (ha.run pos pins s σ H _ I h) fun us s1 ⟨vs, H1, I1, r1, q1⟩ => ?_) hs hpl))
  obtain ⟨a, b, c, xs, ys, zs, ex, ⟨qx, qy, qz⟩, q⟩ := q1
  subst ex
  cases r1 with
  | cons r rr => cases rr with
    | cons r' rr => cases rr with
      | cons r'' rr =>
        cases rr
        cases r
        cases r'
        cases r''
        obtain ⟨t1, rv1, p1, _⟩ := I1.tuple qx
        obtain ⟨t2, rv2, p2, _⟩ := I1.tuple qy
        obtain ⟨t3, rv3, p3, _⟩ := I1.tuple qz
        obtain ⟨o1, ho1, _⟩ := id p1
        obtain ⟨o2, ho2, _⟩ := id p2
        obtain ⟨o3, ho3, _⟩ := id p3
        have fr : ∀ d, d ∈ [s1.heap.objs.size + 5, s1.heap.objs.size + 3, s1.heap.objs.size + 4, s1.heap.objs.size, s1.heap.objs.size + 1, s1.heap.objs.size + 2] → FpOk X pins H1 d := fun d hd => by
          have hle : s1.heap.objs.size ≤ d := by
            simp only [List.mem_cons, List.not_mem_nil, or_false] at hd
            omega
          exact I1.fpOk hle (I1.hok.fresh hle)
        refine zip_begins3 (begins_tuple a t1.toArray) (begins_tuple b t2.toArray) (begins_tuple c t3.toArray) p1 p2 p3 fun h' hz hTI hTO g1 g2 g3 hsz hk => wpAny_pyIter_zip hz ?_
        have I2 : Inv X pins σ H1 { s1 with heap := h' } := I1.kept (t' := s1.toks) hk
        exact ⟨s1.heap.objs.size + 5, _, _, _, H1, rfl, I2, turn_zip3 (sep3_of (Heap.lt_size ho1) (Heap.lt_size ho2) (Heap.lt_size ho3)), ⟨hz, hTI, ⟨_, _, _, hTO⟩, ⟨_, g1, rfl, rfl⟩, ⟨_, g2, rfl, rfl⟩, ⟨_, g3, rfl, rfl⟩⟩, fr, q⟩
theorem zip3D_get {xs ys zs : List D} {i : Nat} {x : D} (h : (zip3D xs ys zs)[i]? = some x) : ∃ d e f, xs[i]? = some d ∧ ys[i]? = some e ∧ zs[i]? = some f ∧ x = .tup [d, e, f] := by
  unfold zip3D at h
  rw [List.getElem?_zipWith, List.zip, List.getElem?_zipWith] at h
  cases z : xs[i]? with
  | none => rw [z] at h; cases h
  | some d =>
    cases w : ys[i]? with
    | none => rw [z, w] at h; cases h
    | some e =>
      cases u : zs[i]? with
      | none => rw [z, w, u] at h; cases h
      | some f => rw [z, w, u] at h; exact ⟨d, e, f, rfl, rfl, rfl, by simpa using h.symm⟩
theorem zip3D_len (xs ys zs : List D) : (zip3D xs ys zs).length = min (min xs.length ys.length) zs.length := by
  unfold zip3D
  rw [List.length_zipWith, List.length_zip]
theorem wk_zip3 {K : PySem.W.Frag} {B : Hp} {p p' p'' : Addr} {vs ws us : List V} {ds es fs : List D} (h : B p = some (.tup vs)) (q : RepAll B vs ds) (h' : B p' = some (.tup ws)) (q' : RepAll B ws es) (h'' : B p'' = some (.tup us)) (q'' : RepAll B us fs) : Wk B (It3 K p p' p'') (zip3D ds es fs) := by
  refine ⟨fun i H x e hx => ?_, fun i H v H' x os B1 α e s hx hy => ?_, fun i H e hi hi2 => ⟨vs, ws, us, ⟨SqT.of (e _ _ h), SqT.of (e _ _ h'), SqT.of (e _ _ h'')⟩, ?_, ?_⟩⟩
  · obtain ⟨d, d', d'', hd, hd', hd'', rfl⟩ := zip3D_get hx
    obtain ⟨v, hv, _⟩ := q.get hd
    obtain ⟨v', hv', _⟩ := q'.get hd'
    obtain ⟨v'', hv'', _⟩ := q''.get hd''
    exact ⟨vs, ws, us, v, v', v'', ⟨SqT.of (e _ _ h), SqT.of (e _ _ h'), SqT.of (e _ _ h'')⟩, hv, hv', hv''⟩
  · obtain ⟨t, y, z, u, rfl, ht, rfl, f, f', f''⟩ := hy
    obtain ⟨d, d', d'', hd, hd', hd'', rfl⟩ := zip3D_get hx
    obtain ⟨w, hw, r⟩ := q.get hd
    obtain ⟨w', hw', r'⟩ := q'.get hd'
    obtain ⟨w'', hw'', r''⟩ := q''.get hd''
    have g := (f vs (SqT.of (s.ex _ _ (e _ _ h)))).symm.trans hw
    have g' := (f' ws (SqT.of (s.ex _ _ (e _ _ h')))).symm.trans hw'
    have g'' := (f'' us (SqT.of (s.ex _ _ (e _ _ h'')))).symm.trans hw''
    cases g
    cases g'
    cases g''
    obtain ⟨s1, e1, h1⟩ := s.make (o := .tup [y, z, u]) ht
    exact ⟨_, e1, s1, .tup h1 (.cons (r.mono (e.trans e1.same)) (.cons (r'.mono (e.trans e1.same)) (.one (r''.mono (e.trans e1.same)))))⟩
  · rw [zip3D_len] at hi hi2
    have := q.length
    have := q'.length
    have := q''.length
    omega
  · rw [zip3D_len] at hi hi2
    have := q.length
    have := q'.length
    have := q''.length
    omega
end N66

/-! N66, statements. -/
namespace N66
open PySem PySem.Spec L2

def endsOf (H B : Hp) (α : List Fp) (D : Ends) : DEnds :=
  { nx := fun env' os' => ∀ σ' H' B' α', Ext H B α H' B' α' → HS H' os' B' α' → ES B' α' σ' env' → D.nx σ' H',
    rt := fun r os' => ∀ v H' B' α', Ext H B α H' B' α' → HS H' os' B' α' → Res H H' B' α' v r → D.rt v H',
    bk := fun env' os' => ∀ σ' H' B' α', Ext H B α H' B' α' → HS H' os' B' α' → ES B' α' σ' env' → D.bk σ' H',
    ct := fun env' os' => ∀ σ' H' B' α', Ext H B α H' B' α' → HS H' os' B' α' → ES B' α' σ' env' → D.ct σ' H' }
/-- a statement's reading goes on from a later state -/
theorem goOn {t : DS} (mt : MoS t) {H B H' B' : Hp} {α α' : List Fp} {D : Ends} {env : Env} {os : List O} (e : Ext H B α H' B' α') (h : t (endsOf H B α D) env os) : t (endsOf H' B' α' D) env os :=
  mt h (fun _ _ h σ' H2 B2 α2 e2 s x => h σ' H2 B2 α2 (e.trans e2) s x) (fun _ _ h v H2 B2 α2 e2 s x => h v H2 B2 α2 (e.trans e2) s (x.back e))
    (fun _ _ h σ' H2 B2 α2 e2 s x => h σ' H2 B2 α2 (e.trans e2) s x) (fun _ _ h σ' H2 B2 α2 e2 s x => h σ' H2 B2 α2 (e.trans e2) s x)
theorem liftS_of {t : DS} (mt : MoS t) {H B H' B' : Hp} {α α' : List Fp} {D : Ends} {σ : L2.St} {env : Env} {os : List O} (e : Ext H B α H' B' α') (hs : HS H' os B' α') (es : ES B' α' σ env) (h : t (endsOf H B α D) env os) : liftS t D σ H' :=
  ⟨env, os, B', α', hs, es, goOn mt e h⟩

section
variable {X : Cx} {T : Tab} {a b c : Expr} {ta tb tc : DE} {pos : Pos} {st : Stmt} {sts : List Stmt} {t u : DS}
theorem sndS_nil : PSs X [] (liftS fun P env os => P.nx env os) :=
  pss_nil.mono fun D σ H ⟨env, os, B, α, hs, es, h⟩ => h σ H B α (Ext.refl _ _ _) hs es
theorem sndS_cons (h1 : PS X st (liftS t)) (h2 : PSs X sts (liftS u)) (mt : MoS t) (mu : MoS u) : PSs X (st :: sts) (liftS fun P env os => t { P with nx := fun e o => u P e o } env os) := by
  refine (pss_cons h1 h2).mono fun D σ H ⟨env, os, B, α, hs, es, h⟩ => ⟨env, os, B, α, hs, es, mt h (fun e o h σ' H' B' α' e2 s2 x2 => ?_) (fun _ _ h => h) (fun _ _ h => h) fun _ _ h => h⟩
  exact liftS_of mu e2 s2 x2 h
theorem sndS_pass : PS X (.Pass pos) (liftS fun P env os => P.nx env os) :=
  ps_pass.mono fun D σ H ⟨env, os, B, α, hs, es, h⟩ => h σ H B α (Ext.refl _ _ _) hs es
theorem sndS_cont : PS X (.Continue pos) (liftS fun P env os => P.ct env os) :=
  ps_continue.mono fun D σ H ⟨env, os, B, α, hs, es, h⟩ => h σ H B α (Ext.refl _ _ _) hs es
theorem sndS_brk : PS X (.Break pos) (liftS fun P env os => P.bk env os) :=
  ps_break.mono fun D σ H ⟨env, os, B, α, hs, es, h⟩ => h σ H B α (Ext.refl _ _ _) hs es
theorem sndS_drop (ha : PE X a (liftE ta)) (ma : Mo ta) (hs : swapsWith a none pos.line X.env = pure false) : PS X (.Expr a pos) (liftS fun P env os => ta env os fun _ os1 => P.nx env os1) := by
  refine (ps_expr ha hs).mono fun D σ H ⟨env, os, B, α, hs, es, h⟩ => ⟨env, os, B, α, hs, es, ma h fun r os1 h v H1 B1 e1 s1 x1 => ?_⟩
  exact h σ H1 B1 α e1 s1 (es.mono e1)
theorem sndS_ret (ha : PE X a (liftE ta)) (ma : Mo ta) : PS X (.Return (some a) pos) (liftS fun P env os => ta env os fun r os1 => P.rt r os1) := by
  refine (ps_ret ha).mono fun D σ H ⟨env, os, B, α, hs, es, h⟩ => ⟨env, os, B, α, hs, es, ma h fun r os1 h v H1 B1 e1 s1 x1 => ?_⟩
  exact h v H1 B1 α e1 s1 x1
theorem sndS_if {x y : List Stmt} {tt : DT} (hc : PT X c (liftT tt)) (ha : PSs X x (liftS t)) (hb : PSs X y (liftS u)) (mc : Mo tt) (mt : MoS t) (mu : MoS u) :
    PS X (.If c x y pos) (liftS fun P env os => tt env os fun k os1 => if k = true then t P env os1 else u P env os1) := by
  refine (ps_if hc ha hb).mono fun D σ H ⟨env, os, B, α, hs, es, h⟩ => ⟨env, os, B, α, hs, es, mc h fun k os1 h H1 B1 e1 s1 => if_mo h (fun h => ?_) fun h => ?_⟩
  · exact liftS_of mt e1 s1 (es.mono e1) h
  · exact liftS_of mu e1 s1 (es.mono e1) h
theorem sndS_while {x : List Stmt} {tt : DT} (hp : PassesOwn (model X.prog X.w) X.A X.env X.xe) (hc : PT X c (liftT tt)) (ha : PSs X x (liftS t)) (mc : Mo tt) (mt : MoS t) :
    PS X (.While c x [] pos) (liftS fun P env os => ∃ W : Nat → Env → List O → Prop, (∃ m, W m env os) ∧
      ∀ (m : Nat) (env : Env) (os : List O), W m env os → tt env os fun k os1 => if k = true then
        t { P with nx := fun e o => ∃ m', m' < m ∧ W m' e o, ct := fun e o => ∃ m', m' < m ∧ W m' e o, bk := P.nx } env os1 else P.nx env os1) := by
  refine (ps_while hp hc ha).mono fun D σ H ⟨env, os, B, α, hs, es, W, ⟨m, h0⟩, h1⟩ => ?_
  refine ⟨fun m σ H' => ∃ env os B' α', Ext H B α H' B' α' ∧ HS H' os B' α' ∧ ES B' α' σ env ∧ W m env os, ⟨m, env, os, B, α, Ext.refl _ _ _, hs, es, h0⟩, fun m σ H' ⟨env, os, B', α', e, s, es, w⟩ => ?_⟩
  refine ⟨env, os, B', α', s, es, mc (h1 m env os w) fun k os1 h H1 B1 e1 s1 => if_mo h (fun h => ⟨_, fun _ _ h => h, ?_⟩) fun h => h σ H1 B1 α' (e.trans e1) s1 (es.mono e1)⟩
  refine ⟨env, os1, B1, α', s1, es.mono e1, mt h (fun e' o h σ2 H2 B2 α2 e2 s2 x2 => ?_) (fun r o h v H2 B2 α2 e2 s2 x2 => h v H2 B2 α2 ((e.trans e1).trans e2) s2 (x2.back (e.trans e1))) (fun e' o h σ2 H2 B2 α2 e2 s2 x2 => h σ2 H2 B2 α2 ((e.trans e1).trans e2) s2 x2) fun e' o h σ2 H2 B2 α2 e2 s2 x2 => ?_⟩
  · obtain ⟨m', hm, w'⟩ := h
    exact ⟨m', hm, e', o, B2, α2, (e.trans e1).trans e2, s2, x2, w'⟩
  · obtain ⟨m', hm, w'⟩ := h
    exact ⟨m', hm, e', o, B2, α2, (e.trans e1).trans e2, s2, x2, w'⟩
theorem sndS_for {iter tg : Expr} {x : List Stmt} {wi : DI} {tgd : Tg} (hp : PassesOwn (model X.prog X.w) X.A X.env X.xe) (hc : X.calm = true) (hi : PI X tg iter (liftI wi)) (hg : PG X tg (gOf X.K tgd)) (ha : PSs X x (liftS t)) (mi : Mo wi) (mt : MoS t) (hf : ∀ x, foldedSetIterable iter X.env x = pure x) :
    PS X (.For tg iter x [] pos) (liftS fun P env os => wi env os fun items os1 => ∃ W : Nat → Env → List O → Prop, W 0 env os1 ∧
      (∀ (i : Nat) (x : D) (env : Env) (os : List O), items[i]? = some x → W i env os → bindT tgd x env fun env' => t { P with nx := W (i + 1), ct := W (i + 1), bk := P.nx } env' os) ∧
      ∀ env os, W items.length env os → P.nx env os) := by
  refine (ps_for hp hc hi hg ha hf).mono fun D σ H ⟨env, os, B, α, hs, es, h⟩ => ?_
  refine ⟨env, os, B, α, hs, es, mi h fun items os1 ⟨W, h0, h1, h2⟩ J H1 B1 e1 s1 wk => ?_⟩
  refine ⟨fun i m σ H' => ∃ env os B' α', Ext H1 B1 α H' B' α' ∧ HS H' os B' α' ∧ ES B' α' σ env ∧ W i env os ∧ i + m = items.length, ⟨items.length, env, os1, B1, α, Ext.refl _ _ _, s1, es.mono e1, h0, by omega⟩, fun i m σ H2 ⟨env, os, B2, α2, e2, s2, es, w, em⟩ => ?_⟩
  by_cases hl : i < items.length
  · have hx : items[i]? = some items[i] := List.getElem?_eq_getElem hl
    refine .inr ⟨wk.go i H2 _ (e2.same.trans s2.ex) hx, fun σ H' => ∃ env os B' α', Ext H1 B1 α H' B' α' ∧ HS H' os B' α' ∧ ES B' α' σ env ∧ W (i + 1) env os, fun σ' H' ⟨env, os, B', α', a1, a2, a3, a4⟩ => ⟨m - 1, by omega, env, os, B', α', a1, a2, a3, a4, by omega⟩, fun v H3 hy => ?_⟩
    obtain ⟨B3, e3, s3, r3⟩ := wk.yld i H2 v H3 _ os B2 α2 e2.same s2 hx hy
    refine gOf_ok s3 r3 (es.mono e3) (h1 i _ env os hx w) fun env' us h4 es4 => ?_
    refine ⟨env', os, B3, α2, s3, es4, mt h4 (fun e' o h σ2 H4 B4 α4 e4 s4 x4 => ?_) (fun r o h v H4 B4 α4 e4 s4 x4 => h v H4 B4 α4 ((e1.trans (e2.trans e3)).trans e4) s4 (x4.back (e1.trans (e2.trans e3)))) (fun e' o h σ2 H4 B4 α4 e4 s4 x4 => h σ2 H4 B4 α4 ((e1.trans (e2.trans e3)).trans e4) s4 x4) fun e' o h σ2 H4 B4 α4 e4 s4 x4 => ?_⟩
    · exact ⟨e', o, B4, α4, (e2.trans e3).trans e4, s4, x4, h⟩
    · exact ⟨e', o, B4, α4, (e2.trans e3).trans e4, s4, x4, h⟩
  · have ei : i = items.length := by omega
    subst ei
    exact .inl ⟨wk.stop _ H2 (e2.same.trans s2.ex) (Nat.le_refl _) (Nat.le_refl _), h2 env os w σ H2 B2 α2 (e1.trans e2) s2 es⟩

/-! ### assignments -/
theorem sndS_set_read {i : Nat} {te : DE} (me : Mo te) {D : Ends} {σ : L2.St} {H : Hp} (h : liftS (fun P env os => te env os fun r os1 => P.nx (setS env i r.s) os1) D σ H) : tAsg (liftE te) (gName i) D σ H := by
  obtain ⟨env, os, B, α, hs, es, h⟩ := h
  refine lift_then me hs es h fun r os1 v H1 B1 q e1 s1 es1 x1 => ?_
  have := es1.set (i := i) x1
  rw [← setS_eq] at this
  exact q _ H1 B1 α e1 s1 this
theorem sndS_setO_read {i : Nat} {te : DE} (me : Mo te) {D : Ends} {σ : L2.St} {H : Hp} (h : liftS (fun P env os => te env os fun r os1 => newW true r os1 fun d os2 => P.nx (setS env i d) os2) D σ H) : tAsg (liftE te) (gName i) D σ H := by
  obtain ⟨env, os, B, α, hs, es, h⟩ := h
  refine ⟨env, os, B, α, hs, es, me h fun r os1 q v H1 B1 e1 s1 x1 => ?_⟩
  simp only [newW] at q
  split at q
  · obtain ⟨p, s2, e2, x2⟩ := x1.number s1 e1
    have := (es.mono e2).set (i := i) x2
    rw [← setS_eq] at this
    exact q _ H1 B1 _ e2 s2 this
  · exact q.elim
theorem sndS_unp {tg : Expr} {js : List Nat} (ha : PE X a (liftE ta)) (ma : Mo ta) (hg : PG X tg (gOf X.K (.tp js))) (hs : swapsWithSole [tg] a pos.line X.env = pure false) (hw : swappedStores [tg] a X.env = pure none) (h1 : (assignEach [tg] X.env).map (·.2) = [assign tg X.env]) :
    PS X (.Assign [tg] a pos) (liftS fun P env os => ta env os fun r os1 => match r.s with
    | .d d => bindT (.tp js) d env fun e => P.nx e os1
    | _ => False) := by
  refine (ps_asg ha hg hs hw h1).mono fun D σ H ⟨env, os, B, α, hs, es, h⟩ => ?_
  refine lift_then ma hs es h fun r os1 v H1 B1 q e1 s1 es1 x1 => ?_
  split at q
  · rename_i d e
    rw [e] at x1
    exact gOf_ok s1 x1 es1 q fun env' us h4 es4 => h4 _ H1 B1 α e1 s1 es4
  · exact q.elim
theorem sndS_aug {i : Nat} {x : Str} {op : Operator} {p : Pos} (ha : PE X a (liftE ta)) (ma : Mo ta) (hN : X.N.Nodup) (hi : X.N[i]? = some x) (hx : Loc X.env.scope x) (hf : X.fn x = true ∨ X.env.scope.names.lookup x = some .local)
    (hop : op = .Add ∨ op = .Sub ∨ op = .Mult) : PS X (.AugAssign (.Name x p) op a pos) (liftS fun P env os => match getS env i with
    | some x => ta env os fun r os1 => augW op x r.s fun z => P.nx (setS env i (.d z)) os1
    | none => False) := by
  have key : ∀ {g : TIp} (ho : PIp X op g) (hg : ∀ {x y : V} {H : Hp} {Q : VK} {m n : Int} {z : D}, x = .int m → y = .int n → augW op (.d (.int m)) (.d (.int n)) (fun z' => z' = z) → (∀ v, (∀ B, Rep B v z) → Q v H) → g x y H Q),
      PS X (.AugAssign (.Name x p) op a pos) (liftS fun P env os => match getS env i with
        | some x => ta env os fun r os1 => augW op x r.s fun z => P.nx (setS env i (.d z)) os1
        | none => False) := fun {g} ho hg => by
    refine (ps_aug hN hi hx ha ho hf).mono fun D σ H ⟨env, os, B, α, hs, es, h⟩ => ?_
    simp only at h
    split at h
    · rename_i s eg
      obtain ⟨v0, hv, r0⟩ := es.get i _ (getS_iff.mp eg)
      refine ⟨v0, hv, lift_then ma hs es h fun r os1 v H1 B1 q e1 s1 es1 x1 => ?_⟩
      have r0' := r0.mono e1.same e1.pre
      obtain ⟨m, n, e3, e4⟩ : ∃ m n, s = .d (.int m) ∧ r.s = .d (.int n) := by
        unfold augW at q
        split at q
        · exact ⟨_, _, rfl, by assumption⟩
        · exact ⟨_, _, rfl, by assumption⟩
        · exact ⟨_, _, rfl, by assumption⟩
        · exact q.elim
      subst e3
      rw [e4] at q x1
      have hz : ∃ z, augW op (.d (.int m)) (.d (.int n)) (fun z' => z' = z) ∧ ∀ σ' H' B' α', Ext H B α H' B' α' → HS H' os1 B' α' → ES B' α' σ' (setS env i (.d z)) → D.nx σ' H' := by
        rcases hop with rfl | rfl | rfl
        · exact ⟨_, rfl, q⟩
        · exact ⟨_, rfl, q⟩
        · exact ⟨_, ⟨q.1, rfl⟩, q.2⟩
      obtain ⟨z, h1, h2⟩ := hz
      refine hg (rep_int r0') (rep_int x1) h1 fun v hv => ?_
      have := es1.set (i := i) (d := .d z) (hv B1)
      rw [← setS_eq] at this
      exact h2 _ H1 B1 α e1 s1 this
    · exact h.elim
  rcases hop with rfl | rfl | rfl
  · refine key ip_add fun {x y H Q m n z} e1 e2 h q => ⟨m, n, e1, e2, q _ fun B => ?_⟩
    cases h
    exact .int _
  · refine key ip_sub fun {x y H Q m n z} e1 e2 h q => ⟨m, n, e1, e2, q _ fun B => ?_⟩
    cases h
    exact .int _
  · have io : PIp X .Mult (rI CMul fun i j => .int (i * j)) := fun pins s σ H v u x y Q I r1 r2 q => iop_mul pins s σ H v u x y Q I r1 r2 q
    refine key io fun {x y H Q m n z} e1 e2 h q => ⟨m, n, e1, e2, h.1, q _ fun B => ?_⟩
    cases h.2
    exact .int _
end
end N66

/-! N66, statements that change an object; several targets; displays of dicts. -/
namespace N66
open PySem PySem.Spec L2

theorem lstAt_iff {os : List O} {k : Nat} {Q : List D → Prop} (h : lstAt os k Q) : ∃ ds, os[k]? = some (.lst ds) ∧ Q ds := by
  unfold lstAt at h
  split at h
  · rename_i ds e; exact ⟨ds, e, h⟩
  · exact h.elim
theorem objAt_iff {env : Env} {i : Nat} {Q : Nat → Prop} (h : objAt env i Q) : ∃ k, env[i]? = some (some (.o k)) ∧ Q k := by
  unfold objAt at h
  split at h
  · rename_i k e; exact ⟨k, getS_iff.mp e, h⟩
  · exact h.elim
/-- a list that is tracked is changed -/
theorem HS.setL {H B : Hp} {os : List O} {α : List Fp} {k : Nat} {p : Fp} {vs : List V} {ds : List D} (s : HS H os B α) (h : α[k]? = some p) (e : p.2 = []) (r : RepAll B vs ds) : HS (upd H p.1 (.lst vs)) (os.set k (.lst ds)) B α ∧ Ext H B α (upd H p.1 (.lst vs)) B α :=
  s.put h (fun b hb => upd_ne (fun (z : b = p.1) => hb (by rw [z]; exact List.mem_cons_self ..))) ⟨e, vs, upd_same, r⟩
section
variable {X : Cx} {T : Tab} {a b c : Expr} {ta tb tc : DE} {pos : Pos} {st : Stmt} {sts : List Stmt} {t u : DS}
theorem sndS_app {i : Nat} {x : Str} {p apos cpos : Pos} (ho : PE X (.Name x p) (tVar i)) (ha : PE X a (liftE ta)) (ma : Mo ta) (hline : (apos.endLine == cpos.line) = true) (hs : starEach [a] X.env = [(false, eval a X.env)]) :
    PS X (.Expr (.Call (.Attribute (.Name x p) "append" apos) [a] [] cpos) pos) (liftS fun P env os => objAt env i fun k => lstAt os k fun _ => ta env os fun r os1 => match r.s with
    | .d d => lstAt os1 k fun ds => ds.length < lim ∧ P.nx env (os1.set k (.lst (ds ++ [d])))
    | _ => False) := by
  refine (ps_expr (pe_bm PySem.F.plainAttrs_list PySem.F.slot_list_append PySem.F.type_list_append mt_append ho (pa_cons ha pa_nil hs) rfl (by rw [hs]; rfl) hline hs)).mono fun D σ H ⟨env, os, B, α, hs, es, h⟩ => ?_
  obtain ⟨k, hk, h⟩ := objAt_iff h
  obtain ⟨ds0, hd0, h⟩ := lstAt_iff h
  obtain ⟨v, hv, q, hq, rfl⟩ := es.get i _ hk
  obtain ⟨_, vs0, hv0, _⟩ := hs.obj k q _ hq hd0
  refine ⟨_, hv, .inl ⟨rfl, vs0, SqL.of hv0⟩, lift_then ma hs es h fun r os1 v1 H1 B1 q1 e1 s1 es1 x1 => ?_⟩
  split at q1
  · rename_i d ed
    rw [ed] at x1
    obtain ⟨ds, hd, hl, q2⟩ := lstAt_iff q1
    obtain ⟨z, vs, hvs, hr⟩ := s1.obj k q _ hq hd
    refine ⟨q.1, vs, v1, rfl, rfl, hvs, by rw [hr.length]; exact lim_lt hl, ?_⟩
    obtain ⟨s2, e2⟩ := s1.setL hq z (hr.app (.one x1))
    exact q2 σ _ B1 α (e1.trans e2) s2 es1
  · exact q1.elim
theorem sndS_pop {i : Nat} {x : Str} {p apos cpos : Pos} (ho : PE X (.Name x p) (tVar i)) (hline : (apos.endLine == cpos.line) = true) :
    PS X (.Expr (.Call (.Attribute (.Name x p) "pop" apos) [] [] cpos) pos) (liftS fun P env os => objAt env i fun k => lstAt os k fun ds => ds ≠ [] ∧ P.nx env (os.set k (.lst ds.dropLast))) := by
  refine (ps_expr (pe_bm0 PySem.F.plainAttrs_list PySem.F.slot_list_pop PySem.F.type_list_pop mt_pop ho rfl hline)).mono fun D σ H ⟨env, os, B, α, hs, es, h⟩ => ?_
  obtain ⟨k, hk, h⟩ := objAt_iff h
  obtain ⟨ds, hd, hne, h⟩ := lstAt_iff h
  obtain ⟨v, hv, q, hq, rfl⟩ := es.get i _ hk
  obtain ⟨z, vs, hvs, hr⟩ := hs.obj k q _ hq hd
  have hl : vs.length - 1 < vs.length := by
    have : 0 < vs.length := by rw [hr.length]; exact List.length_pos_iff.mpr hne
    omega
  refine ⟨_, hv, .inl ⟨rfl, vs, SqL.of hvs⟩, q.1, vs, vs[vs.length - 1], rfl, rfl, hvs, List.getElem?_eq_getElem hl, ?_⟩
  obtain ⟨s2, e2⟩ := hs.setL hq z hr.dropLast
  exact h σ _ B α e2 s2 es
/-- e.append(d), e a new list that is thrown away -/
theorem sndS_appN {apos cpos : Pos} (ha : PE X a (liftE ta)) (hb : PE X b (liftE tb)) (ma : Mo ta) (mb : Mo tb) (hbase : attributeBase a "append" X.env (eval a X.env) = eval a X.env) (hline : (apos.endLine == cpos.line) = true) (hs : starEach [b] X.env = [(false, eval b X.env)]) :
    PS X (.Expr (.Call (.Attribute a "append" apos) [b] [] cpos) pos) (liftS fun P env os => ta env os fun r os1 => match r with
    | .new (.lst ds) => ds.length < lim ∧ tb env os1 fun _ os2 => P.nx env os2
    | _ => False) := by
  refine (ps_expr (pe_bm PySem.F.plainAttrs_list PySem.F.slot_list_append PySem.F.type_list_append mt_append ha (pa_cons hb pa_nil hs) hbase (by rw [hs]; rfl) hline hs)).mono fun D σ H ⟨env, os, B, α, hs, es, h⟩ => ?_
  refine ⟨env, os, B, α, hs, es, ma h fun r os1 q1 v1 H1 B1 e1 s1 x1 => ?_⟩
  split at q1
  · rename_i ds
    obtain ⟨q, rfl, hq, z, vs, hvs, hr⟩ := x1
    obtain ⟨g0, g1, g2⟩ := hq q.1 (List.mem_cons_self ..)
    refine ⟨.inl ⟨rfl, vs, SqL.of hvs⟩, lift_then mb s1 (es.mono e1) q1.2 fun r2 os2 v2 H2 B2 q2 e2 s2 es2 x2 => ?_⟩
    have h2 := e2.frm _ _ hvs g2
    have b2 := e2.lay _ _ hvs g2 g1
    refine ⟨q.1, vs, v2, rfl, rfl, h2, by rw [hr.length]; exact lim_lt q1.1, ?_⟩
    have e12 := e1.trans e2
    refine q2 σ _ B2 α ⟨e12.same, e12.pre, fun b o hb u => ?_, fun b hb => ?_, e12.new, e12.lay⟩ (s2.loose b2 g2) es2
    · rw [upd_ne (fun (z : b = q.1) => by rw [z, g0] at hb; cases hb)]
      exact e12.frm b o hb u
    · rw [upd_ne (fun (z : b = q.1) => hb (by rw [z]; exact g0))]
      exact e12.grow b hb
  · exact q1.elim
theorem sndS_popN {apos cpos : Pos} (ha : PE X a (liftE ta)) (ma : Mo ta) (hbase : attributeBase a "pop" X.env (eval a X.env) = eval a X.env) (hline : (apos.endLine == cpos.line) = true) :
    PS X (.Expr (.Call (.Attribute a "pop" apos) [] [] cpos) pos) (liftS fun P env os => ta env os fun r os1 => match r with
    | .new (.lst ds) => ds ≠ [] ∧ P.nx env os1
    | _ => False) := by
  refine (ps_expr (pe_bm0 PySem.F.plainAttrs_list PySem.F.slot_list_pop PySem.F.type_list_pop mt_pop ha hbase hline)).mono fun D σ H ⟨env, os, B, α, hs, es, h⟩ => ?_
  refine ⟨env, os, B, α, hs, es, ma h fun r os1 q1 v1 H1 B1 e1 s1 x1 => ?_⟩
  split at q1
  · rename_i ds
    obtain ⟨q, rfl, hq, z, vs, hvs, hr⟩ := x1
    obtain ⟨g0, g1, g2⟩ := hq q.1 (List.mem_cons_self ..)
    have hl : vs.length - 1 < vs.length := by
      have : 0 < vs.length := by rw [hr.length]; exact List.length_pos_iff.mpr q1.1
      omega
    refine ⟨.inl ⟨rfl, vs, SqL.of hvs⟩, q.1, vs, vs[vs.length - 1], rfl, rfl, hvs, List.getElem?_eq_getElem hl, ?_⟩
    refine q1.2 σ _ B1 α ⟨e1.same, e1.pre, fun b o hb u => ?_, fun b hb => ?_, e1.new, e1.lay⟩ (s1.loose g1 g2) (es.mono e1)
    · rw [upd_ne (fun (z : b = q.1) => by rw [z, g0] at hb; cases hb)]
      exact e1.frm b o hb u
    · rw [upd_ne (fun (z : b = q.1) => hb (by rw [z]; exact g0))]
      exact e1.grow b hb
  · exact q1.elim
def notSlice : Expr → Bool
  | .Slice _ _ _ _ => false
  | _ => true
theorem assign_sub {o : Expr} {env : PySem.Env} (h : notSlice b = true) (v : Value) : assign (.Subscript o b pos) env v = (do
    let ov ← holding [v] (eval o env)
    let iv ← holding [v, ov] (eval b env)
    standAt pos
    holding [v, ov, iv] (setItem ov iv v)
    release [v, ov, iv] []) := by
  rw [assign]
  cases b <;> first | rfl | (simp [notSlice] at h)
theorem sndS_stL {i : Nat} {x : Str} {p spos : Pos} (ho : PE X (.Name x p) (tVar i)) (ha : PE X a (liftE ta)) (hb : PE X b (liftE tb)) (ma : Mo ta) (mb : Mo tb) (hs : swapsWithSole [.Subscript (.Name x p) b spos] a pos.line X.env = pure false) (hw : swappedStores [.Subscript (.Name x p) b spos] a X.env = pure none) (hns : notSlice b = true) :
    PS X (.Assign [.Subscript (.Name x p) b spos] a pos) (liftS fun P env os => ta env os fun r os1 => objAt env i fun o => tb env os1 fun q os2 => lstAt os2 o fun ds => match q.s, r.s with
    | .d (.int z), .d d => match ixN ds.length z with
      | some j => P.nx env (os2.set o (.lst (ds.set j d)))
      | none => False
    | _, _ => False) := by
  refine (ps_asg ha (pg_sub ho hb set_list (assign_sub hns)) hs hw).mono fun D σ H ⟨env, os, B, α, hs, es, h⟩ => ?_
  refine lift_then ma hs es h fun r os1 v1 H1 B1 q1 e1 s1 es1 x1 => ?_
  obtain ⟨k, hk, q1⟩ := objAt_iff q1
  obtain ⟨v, hv, q, hq, rfl⟩ := es.get i _ hk
  refine ⟨_, hv, lift_then mb s1 es1 q1 fun r2 os2 v2 H2 B2 q2 e2 s2 es2 x2 => ?_⟩
  obtain ⟨ds, hd, q2⟩ := lstAt_iff q2
  split at q2
  · rename_i z d ez ed
    rw [ez] at x2
    rw [ed] at x1
    split at q2
    · rename_i j ej
      obtain ⟨zz, vs, hvs, hr⟩ := s2.obj k q _ hq hd
      refine ⟨q.1, vs, z, j, rfl, rep_int x2, hvs, by rw [hr.length]; exact ej, ?_⟩
      obtain ⟨s3, e3⟩ := s2.setL hq zz (hr.set j (Rep.mono e2.same x1))
      exact q2 σ _ B2 α ((e1.trans e2).trans e3) s3 es2
    · exact q2.elim
  · exact q2.elim
/-! ### dicts -/
theorem putK_any {κ κ' : Type} [DecidableEq κ] [DecidableEq κ'] {f : κ → κ'} (inj : ∀ a b, f a = f b → a = b) {k : κ} : ∀ {ws : List (κ' × V)} {kvs : List (κ × D)}, ws.map (·.1) = kvs.map (fun q => f q.1) → (ws.any fun kv => decide (kv.1 = f k)) = kvs.any fun kv => decide (kv.1 = k)
  | [], [], _ => rfl
  | [], _ :: _, e => by simp at e
  | _ :: _, [], e => by simp at e
  | w :: ws, p :: kvs, e => by
    simp only [List.map_cons, List.cons.injEq] at e
    simp only [List.any_cons, putK_any inj e.2, e.1]
    congr 1
    exact decide_eq_decide.mpr ⟨inj _ _, fun h => by rw [h]⟩
theorem putK_rep {κ κ' : Type} [DecidableEq κ] [DecidableEq κ'] {f : κ → κ'} (inj : ∀ a b, f a = f b → a = b) {B : Hp} {k : κ} {v : V} {d : D} (rv : Rep B v d) {ws : List (κ' × V)} {kvs : List (κ × D)} (e : ws.map (·.1) = kvs.map (fun q => f q.1)) (r : RepAll B (ws.map (·.2)) (kvs.map (·.2))) :
    (L2.putK ws (f k) v).map (·.1) = (putK kvs k d).map (fun q => f q.1) ∧ RepAll B ((L2.putK ws (f k) v).map (·.2)) ((putK kvs k d).map (·.2)) := by
  unfold L2.putK putK
  rw [putK_any inj e]
  by_cases h : (kvs.any fun kv => decide (kv.1 = k)) = true
  · rw [if_pos h, if_pos h]
    clear h
    induction ws generalizing kvs with
    | nil => cases kvs with
      | nil => exact ⟨rfl, .nil⟩
      | cons _ _ => simp at e
    | cons w ws ih => cases kvs with
      | nil => simp at e
      | cons p kvs =>
        simp only [List.map_cons, List.cons.injEq] at e
        simp only [List.map_cons] at r
        cases r with
        | cons r1 r2 =>
          obtain ⟨i1, i2⟩ := ih e.2 r2
          simp only [List.map_cons]
          by_cases hk : p.1 = k
          · rw [if_pos hk, if_pos (by rw [e.1, hk])]
            exact ⟨by rw [i1, e.1], .cons rv i2⟩
          · rw [if_neg hk, if_neg (by rw [e.1]; exact fun z => hk (inj _ _ z))]
            exact ⟨by rw [i1, e.1], .cons r1 i2⟩
  · rw [if_neg h, if_neg h]
    simp only [List.map_append, List.map_cons, List.map_nil]
    exact ⟨by rw [e], r.app (.one rv)⟩
theorem inl_inj : ∀ a b : Int, (Sum.inl a : Key) = Sum.inl b → a = b := fun _ _ h => Sum.inl.inj h
theorem inls_inj : ∀ a b : List Int, a.map (Sum.inl : Int → Key) = b.map Sum.inl → a = b := fun _ _ h => (List.map_inj_right inl_inj).mp h
theorem stD_ok {H B : Hp} {os : List O} {α : List Fp} {k : Nat} {p : Fp} {q d : D} {y v : V} {Q : List O → Prop} (s : HS H os B α) (hp : α[k]? = some p) (ry : Rep B y q) (rv : Rep B v d) (h : stDW os k q d Q) :
    ∃ H' os', DPut H p.1 y v H' ∧ HS H' os' B α ∧ Ext H B α H' B α ∧ Q os' := by
  unfold stDW at h
  split at h
  · rename_i kvs e
    split at h
    · rename_i i
      obtain ⟨z, ws, h1, h2, h3⟩ := s.obj k p _ hp e
      obtain ⟨g1, g2⟩ := putK_rep (f := (Sum.inl : Int → Key)) inl_inj (k := i) rv h2 h3
      have hl : ws.length = kvs.length := by have := congrArg List.length h2; simpa using this
      obtain ⟨s2, e2⟩ := s.put (H' := upd H p.1 (.dK (L2.putK ws (Sum.inl i) v))) hp (fun b hb => upd_ne (fun (z : b = p.1) => hb (by rw [z]; exact List.mem_cons_self ..))) (o := .dK (putK kvs i d)) ⟨z, _, upd_same, g1, g2⟩
      rw [rep_int ry]
      exact ⟨_, _, .inl ⟨ws, Sum.inl i, h1, rfl, by rw [hl]; exact lim_lt h.1, rfl⟩, s2, e2, h.2⟩
    · exact h.elim
  · rename_i kvs e
    obtain ⟨ns, rfl, hl, h⟩ := h
    obtain ⟨z, ws, h1, h2, h3⟩ := s.obj k p _ hp e
    obtain ⟨g1, g2⟩ := putK_rep (f := List.map (Sum.inl : Int → Key)) inls_inj (k := ns) rv h2 h3
    have hl2 : ws.length = kvs.length := by have := congrArg List.length h2; simpa using this
    obtain ⟨s2, e2⟩ := s.put (H' := upd H p.1 (.dT (L2.putK ws (ns.map Sum.inl) v))) hp (fun b hb => upd_ne (fun (z : b = p.1) => hb (by rw [z]; exact List.mem_cons_self ..))) (o := .dT (putK kvs ns d)) ⟨z, _, upd_same, g1, g2⟩
    cases ry with
    | @tup b xs _ hb rb =>
      have ei := rb.ints
      subst ei
      refine ⟨_, _, .inr ⟨ws, ns.map Sum.inl, b, h1, rfl, ?_, by rw [hl2]; exact lim_lt hl, rfl⟩, s2, e2, h⟩
      rw [List.map_map]
      exact s.ex _ _ hb
  · exact h.elim
theorem sndS_stD {k : Nat} (hr : Room k X.A) {i : Nat} {x : Str} {p spos : Pos} (ho : PE X (.Name x p) (tVar i)) (ha : PE X a (liftE ta)) (hb : PE X b (liftE tb)) (ma : Mo ta) (mb : Mo tb) (hs : swapsWith a (some (.Subscript (.Name x p) b spos)) pos.line X.env = pure false) :
    PS X (.Assign [.Subscript (.Name x p) b spos] a pos) (liftS fun P env os => ta env os fun r os1 => objAt env i fun o => tb env os1 fun q os2 => match q.s, r.s with
    | .d q, .d d => stDW os2 o q d fun os3 => P.nx env os3
    | _, _ => False) := by
  refine (ps_dput (hu_of hr) ho hb ha hs).mono fun D σ H ⟨env, os, B, α, hs, es, h⟩ => ?_
  refine lift_then ma hs es h fun r os1 v1 H1 B1 q1 e1 s1 es1 x1 => ?_
  obtain ⟨k, hk, q1⟩ := objAt_iff q1
  obtain ⟨v, hv, q, hq, rfl⟩ := es.get i _ hk
  refine ⟨_, hv, lift_then mb s1 es1 q1 fun r2 os2 v2 H2 B2 q2 e2 s2 es2 x2 => ?_⟩
  split at q2
  · rename_i z d ez ed
    rw [ez] at x2
    rw [ed] at x1
    obtain ⟨H3, os3, hp, s3, e3, q3⟩ := stD_ok s2 hq x2 (Rep.mono e2.same x1) q2
    exact ⟨q.1, H3, rfl, hp, q3 σ H3 B2 α ((e1.trans e2).trans e3) s3 es2⟩
  · exact q2.elim
theorem sndS_ext {i : Nat} {x : Str} {p : Pos} (ha : PE X a (liftE ta)) (ma : Mo ta) (hN : X.N.Nodup) (hi : X.N[i]? = some x) (hx : Loc X.env.scope x) (hf : X.fn x = true ∨ X.env.scope.names.lookup x = some .local) :
    PS X (.AugAssign (.Name x p) .Add a pos) (liftS fun P env os => objAt env i fun k => ta env os fun r os1 => match r.s with
    | .d (.lst es) => lstAt os1 k fun ds => ds.length + es.length ≤ lim ∧ P.nx env (os1.set k (.lst (ds ++ es)))
    | _ => False) := by
  have io : PIp X .Add rExt2 := fun pins s σ H v u x y Q I r1 r2 q => iop_ext pins s σ H v u x y Q I r1 r2 q
  refine (ps_aug hN hi hx ha io hf).mono fun D σ H ⟨env, os, B, α, hs, es, h⟩ => ?_
  obtain ⟨k, hk, h⟩ := objAt_iff h
  obtain ⟨v, hv, q, hq, rfl⟩ := es.get i _ hk
  refine ⟨_, hv, lift_then ma hs es h fun r os1 v1 H1 B1 q1 e1 s1 es1 x1 => ?_⟩
  split at q1
  · rename_i ys ey
    rw [ey] at x1
    obtain ⟨ds, hd, hl, q2⟩ := lstAt_iff q1
    obtain ⟨z, vs, hvs, hr⟩ := s1.obj k q _ hq hd
    cases x1 with
    | @lst b zs _ hb rb =>
      obtain ⟨s2, e2⟩ := s1.setL hq z (hr.app rb)
      refine ⟨q.1, b, vs, zs, rfl, rfl, hvs, s1.ex _ _ hb, by rw [hr.length, rb.length]; exact lim_size hl, ?_⟩
      have es2 := es1.set (i := i) (v := .ref q.1) (d := .o k) ⟨q, hq, rfl⟩
      have ee : env.set i (some (.o k)) = env := by
        apply List.ext_getElem?
        intro j
        by_cases hj : i = j
        · subst hj
          rw [List.getElem?_set_self (List.getElem?_eq_some_iff.mp hk).1, hk]
        · rw [List.getElem?_set_ne hj]
      rw [ee] at es2
      exact q2 _ _ B1 α (e1.trans e2) s2 es2
  · exact q1.elim

/-! ### several targets -/
def liftP (t : Env → List O → (List (Nat × S) → List O → Prop) → Prop) : TA := fun σ H Q => ∃ env os B α, HS H os B α ∧ ES B α σ env ∧
  t env os fun ds os' => ∀ vs H' B' α', Ext H B α H' B' α' → HS H' os' B' α' → RepSs B' α' vs (ds.map (·.2)) → Q vs H'
theorem sndP_nil : PA X [] (liftP fun _ os Q => Q [] os) :=
  pa_nil.mono fun σ H Q ⟨env, os, B, α, hs, es, h⟩ => h [] H B α (Ext.refl _ _ _) hs .nil
theorem sndP_cons {es' : List Expr} {i : Nat} {o : Bool} {tr : Env → List O → (List (Nat × S) → List O → Prop) → Prop} (ha : PE X a (liftE ta)) (hr : PA X es' (liftP tr)) (ma : Mo ta) (mr : Mo tr) (hs : starEach (a :: es') X.env = (false, eval a X.env) :: starEach es' X.env) :
    PA X (a :: es') (liftP fun env os Q => ta env os fun x os1 => newW o x os1 fun d os2 => tr env os2 fun ds os3 => Q ((i, d) :: ds) os3) := by
  refine (pa_cons ha hr hs).mono fun σ H Q ⟨env, os, B, α, hs, es, h⟩ => ⟨env, os, B, α, hs, es, ma h fun r os1 q1 v1 H1 B1 e1 s1 x1 => ?_⟩
  unfold newW at q1
  split at q1
  · obtain ⟨B2, s2, e2, x2⟩ := x1.freeze s1 e1
    exact ⟨env, os1, B2, α, s2, es.mono e2, mr q1 fun ss os2 q2 vs H2 B3 α3 e3 s3 x3 => q2 (v1 :: vs) H2 B3 α3 (e2.trans e3) s3 (.cons (x2.mono e3.same e3.pre) x3)⟩
  · split at q1
    · obtain ⟨p, s2, e2, x2⟩ := x1.number s1 e1
      exact ⟨env, _, B1, _, s2, es.mono e2, mr q1 fun ss os2 q2 vs H2 B3 α3 e3 s3 x3 => q2 (v1 :: vs) H2 B3 α3 (e2.trans e3) s3 (.cons (x2.mono e3.same e3.pre) x3)⟩
    · exact q1.elim
theorem sndS_par2 {i j : Nat} {x y : Str} {px py pt : Pos} {kt k2 pt2} {tr : Env → List O → (List (Nat × S) → List O → Prop) → Prop} (hc : X.calm = true) (hN : X.N.Nodup) (hi : X.N[i]? = some x) (hj : X.N[j]? = some y) (hij : i ≠ j)
    (hx : X.env.scope.names.lookup x = some .local) (hy : X.env.scope.names.lookup y = some .local) (ha : PA X [a, b] (liftP tr)) (mr : Mo tr)
    (hw : swappedStores [.Tuple [.Name x px, .Name y py] kt pt] (.Tuple [a, b] k2 pt2) X.env = pure (some [x, y])) (hn : ∀ env os Q, tr env os Q → tr env os fun ds os' => ds.map (·.1) = [i, j] ∧ Q ds os') :
    PS X (.Assign [.Tuple [.Name x px, .Name y py] kt pt] (.Tuple [a, b] k2 pt2) pos) (liftS fun P env os => tr env os fun ds os1 => P.nx (setPs env ds) os1) := by
  refine (ps_par hc hN hi hj hij hx hy ha hw).mono fun D σ H ⟨env, os, B, α, hs, es, h⟩ => ⟨env, os, B, α, hs, es, mr (hn _ _ _ h) fun ds os1 ⟨hd, q1⟩ vs H1 B1 α1 e1 s1 x1 => ?_⟩
  match ds, hd with
  | [(n1, d1), (n2, d2)], hd =>
    simp only [List.map_cons, List.map_nil, List.cons.injEq, and_true] at hd
    obtain ⟨e1', e2'⟩ := hd
    subst e1'
    subst e2'
    cases x1 with
    | cons x1 r => cases r with
      | cons x2 r =>
        cases r
        refine ⟨_, _, rfl, q1 _ H1 B1 α1 e1 s1 ?_⟩
        have := ((es.mono e1).set (i := n1) x1).set (i := n2) x2
        simp only [setPs, setS_eq]
        exact this
theorem sndS_par3 {i j l : Nat} {x y z : Str} {px py pz pt : Pos} {kt k2 pt2} {tr : Env → List O → (List (Nat × S) → List O → Prop) → Prop} (hc : X.calm = true) (hN : X.N.Nodup) (hi : X.N[i]? = some x) (hj : X.N[j]? = some y) (hl : X.N[l]? = some z) (hij : i ≠ j) (hil : i ≠ l) (hjl : j ≠ l)
    (hx : X.env.scope.names.lookup x = some .local) (hy : X.env.scope.names.lookup y = some .local) (hz : X.env.scope.names.lookup z = some .local) (ha : PA X [a, b, c] (liftP tr)) (mr : Mo tr)
    (hw : swappedStores [.Tuple [.Name x px, .Name y py, .Name z pz] kt pt] (.Tuple [a, b, c] k2 pt2) X.env = pure (some [x, y, z])) (hn : ∀ env os Q, tr env os Q → tr env os fun ds os' => ds.map (·.1) = [i, j, l] ∧ Q ds os') :
    PS X (.Assign [.Tuple [.Name x px, .Name y py, .Name z pz] kt pt] (.Tuple [a, b, c] k2 pt2) pos) (liftS fun P env os => tr env os fun ds os1 => P.nx (setPs env ds) os1) := by
  refine (ps_par3 hc hN hi hj hl hij hil hjl hx hy hz ha hw).mono fun D σ H ⟨env, os, B, α, hs, es, h⟩ => ⟨env, os, B, α, hs, es, mr (hn _ _ _ h) fun ds os1 ⟨hd, q1⟩ vs H1 B1 α1 e1 s1 x1 => ?_⟩
  match ds, hd with
  | [(n1, d1), (n2, d2), (n3, d3)], hd =>
    simp only [List.map_cons, List.map_nil, List.cons.injEq, and_true] at hd
    obtain ⟨e1', e2', e3'⟩ := hd
    subst e1'
    subst e2'
    subst e3'
    cases x1 with
    | cons x1 r => cases r with
      | cons x2 r => cases r with
        | cons x3 r =>
          cases r
          refine ⟨_, _, _, rfl, q1 _ H1 B1 α1 e1 s1 ?_⟩
          have := (((es.mono e1).set (i := n1) x1).set (i := n2) x2).set (i := n3) x3
          simp only [setPs, setS_eq]
          exact this
end
end N66

/-! N66, several targets by a tuple; displays of dicts; what is seen of the syntax. -/
namespace N66
open PySem PySem.Spec L2

def notStar : Expr → Bool
  | .Starred _ _ => false
  | _ => true
def notComp : Expr → Bool
  | .ListComp _ _ _ _ => false
  | .SetComp _ _ _ _ => false
  | .DictComp _ _ _ _ _ => false
  | _ => true
def plainTest : Expr → Bool
  | .UnaryOp .Not _ _ => false
  | .BoolOp _ _ _ => false
  | .IfExp _ _ _ _ => false
  | .Compare _ _ _ _ => false
  | _ => true
theorem star_of {e : Expr} {es : List Expr} {env : PySem.Env} (h : notStar e = true) : starEach (e :: es) env = (false, eval e env) :: starEach es env := by
  rw [starEach]
  intro e' p z
  subst z
  simp [notStar] at h
theorem star_all {env : PySem.Env} : ∀ {es : List Expr}, es.all notStar = true → (starEach es env).any (·.1) = false
  | [], _ => rfl
  | e :: es, h => by
    simp only [List.all_cons, Bool.and_eq_true] at h
    rw [star_of h.1, List.any_cons, star_all h.2]
    rfl
theorem back_any {pos : Pos} {l : List (Bool × Sem Value)} (h : l.any (·.1) = false) : (backTo pos l).any (·.1) = false := by
  unfold backTo
  rw [List.any_map]
  exact h
theorem swap_no {e : Expr} {t : Option Expr} {l : Nat} {env : PySem.Env} (h : notComp e = true) : swapsWith e t l env = pure false := by
  cases e <;> first | rfl | (simp [notComp] at h)
theorem true_of {e : Expr} {env : PySem.Env} {whole : Sem Value} (h : plainTest e = true) : isTrue e env whole = (do let v ← whole; standAt e.pos; holding [v] (truthy v)) := by
  cases e with
  | UnaryOp op a p => cases op <;> first | (rw [PySem.isTrue] <;> (intros; rename_i z; cases z)) | (simp [plainTest] at h)
  | BoolOp _ _ _ => simp [plainTest] at h
  | IfExp _ _ _ _ => simp [plainTest] at h
  | Compare _ _ _ _ => simp [plainTest] at h
  | _ => rw [PySem.isTrue] <;> (intros; rename_i z; cases z)
theorem plainIx_of {b : Expr} (h : notSlice b = true) : PlainIx b := fun o i => by
  unfold subscripted
  cases b <;> first | rfl | (simp [notSlice] at h)
theorem folded_of {e : Expr} {env : PySem.Env} (h : (match e with | .Set _ _ _ => false | _ => true) = true) (x : Value) : foldedSetIterable e env x = pure x := by
  unfold foldedSetIterable
  cases e <;> first | rfl | (simp at h)

section
variable {X : Cx} {T : Tab} {a b c : Expr} {ta tb tc : DE} {pos : Pos} {st : Stmt} {sts : List Stmt} {t u : DS}
theorem gList_okS : ∀ {ds : List (Nat × S)} {vs : List V} {B : Hp} {α : List Fp} {σ : L2.St} {env : Env} {H : Hp} {Q : L2.St → Hp → Prop}, RepSs B α vs (ds.map (·.2)) → ES B α σ env → (∀ σ', ES B α σ' (setPs env ds) → Q σ' H) → gList (ds.map (·.1)) vs σ H Q
  | [], _, _, _, _, _, _, _, .nil, es, q => ⟨rfl, q _ es⟩
  | (n, d) :: ds, _, _, _, σ, env, _, _, .cons h r, es, q => by
    refine ⟨_, _, rfl, gList_okS r (es.set (i := n) h) fun σ' es' => q σ' ?_⟩
    rw [← setS_eq] at es'
    exact es'
/-- (names) = (values), the tuple is made and taken apart -/
theorem sndS_parT {tgs es : List Expr} {js : List Nat} {kt k2 : Nat} {pt pt2 : Pos} {tr : Env → List O → (List (Nat × S) → List O → Prop) → Prop} (hg : PG X (.Tuple tgs kt pt) (gOf X.K (.tp js))) (ha : PA X es (liftP tr)) (mr : Mo tr)
    (hw : swappedStores [.Tuple tgs kt pt] (.Tuple es k2 pt2) X.env = pure none) (hn : ∀ env os Q, tr env os Q → tr env os fun ds os' => ds.map (·.1) = js ∧ Q ds os') (hl : js.length ≤ 100) :
    PS X (.Assign [.Tuple tgs kt pt] (.Tuple es k2 pt2) pos) (liftS fun P env os => tr env os fun ds os1 => P.nx (setPs env ds) os1) := by
  refine (ps_asg (pe_tup ha) hg rfl hw rfl).mono fun D σ H ⟨env, os, B, α, hs, es, h⟩ => ⟨env, os, B, α, hs, es, mr (hn _ _ _ h) fun ds os1 ⟨hd, q1⟩ vs H1 B1 α1 e1 s1 x1 => ?_⟩
  subst hd
  have hvl : vs.length = ds.length := by rw [x1.length, List.length_map]
  rw [List.length_map] at hl
  refine ⟨by rw [hvl]; exact lim_size (Nat.le_trans hl (by decide)), fun p hp => ?_⟩
  obtain ⟨s2, e2, _, _⟩ := s1.grow (o := .tup vs) hp
  exact ⟨p, vs, rfl, SqT.of upd_same, by rw [hvl, List.length_map], gList_okS x1 (es.mono e1) fun σ' es' => q1 σ' _ B1 α1 (e1.trans e2) s2 es'⟩

/-! ### displays -/
theorem new_of {H B : Hp} {os : List O} {α : List Fp} {p : Addr} {u : HO} {o : O} (s : HS H os B α) (hp : H p = none) (h : ∀ B, ObjAt B (upd H p u) (p, []) o) : ∃ H', H' = upd H p u ∧ Ext H B α H' B α ∧ HS H' os B α ∧ Res H H' B α (.ref p) (.new o) := by
  obtain ⟨s1, e, h1, h2⟩ := s.grow (o := u) hp
  refine ⟨_, rfl, e, s1, (p, []), rfl, fun b hb => ?_, h B⟩
  rw [fp, List.mem_singleton] at hb
  subst hb
  exact ⟨hp, h1, h2⟩
theorem snd_dK : PE X (.Dict [] [] pos) (liftE (wpE T (.dct (.dK [])))) := by
  refine pe_dnewK.mono fun σ H Q ⟨env, os, B, α, hs, es, h⟩ => fun p hp => ?_
  simp only [wpE] at h
  obtain ⟨H', rfl, e, s, x⟩ := new_of (u := .dK []) (o := .dK []) hs hp fun B => ⟨rfl, [], upd_same, rfl, .nil⟩
  exact h _ _ B e s x
theorem snd_dT : PE X (.Dict [] [] pos) (liftE (wpE T (.dct (.dT [])))) := by
  refine pe_dnewT.mono fun σ H Q ⟨env, os, B, α, hs, es, h⟩ => fun p hp => ?_
  simp only [wpE] at h
  obtain ⟨H', rfl, e, s, x⟩ := new_of (u := .dT []) (o := .dT []) hs hp fun B => ⟨rfl, [], upd_same, rfl, .nil⟩
  exact h _ _ B e s x
/-- {(..): v}: one key, a tuple -/
theorem pe_disp1 {k v : Expr} {tk tv : TE} (hu0 : X.A.units < cLine) (hk : PE X k tk) (hv : PE X v tv) : PE X (.Dict [some k] [v] pos) (fun σ H Q => ∀ p, H p = none → tk σ (upd H p (.dT [])) fun x H1 => tv σ H1 fun y H2 => ∃ (b : Addr) (ks : List Key), x = .ref b ∧ H2 p = some (.dT []) ∧ H2 b = some (.tup (ks.map kV)) ∧ Q (.ref p) (upd H2 p (.dT [(ks, y)]))) := by
  refine ⟨fun pins s σ H Q I q => ?_⟩
  have hn := I.hok.fresh (Nat.le_refl s.heap.objs.size)
  have I1 := I.laid (a := s.heap.objs.size) (o := .dT []) (h' := s.heap.push { cls := .type "dict", data := .dict #[] }) (t' := s.toks) (fun _ _ q => Heap.get?_push_of_some _ q) (Nat.le_refl _) (dt_empty s.heap I.big)
  refine wpAny_Dict_any rfl rfl (by simp) (by simp) (pairTrees_cons_walk (thn (hk.run pins _ σ _ _ I1 (q _ hn)) fun kv s1 ⟨x, H1, I2, rx, q1⟩ => thn (hv.run pins s1 σ H1 _ I2 q1) fun vv s2 ⟨y, H2, I3, ry, b, ks, ex, hp, hb, q2⟩ => pairTrees_nil_walk ?_))
  subst ex
  cases (show kv = Value.ref b from rx)
  unfold storeAll
  rw [List.forIn_cons]
  obtain ⟨z, hd, xs, rel, dd⟩ := dt_of I3.hok hp
  cases rel
  refine wpAny_bind (wpAny_bind (wpAny_dictSet_heap (hsz := by rw [sizeLine_eq]; simp) (show (tupleKind (mixKind X.prog X.w)).room X.A from by first | exact hu0 | exact tupleKind_room hu0) (key_of I3.hok hb) dd fun h' dd' hs => wpAny_pure ?_))
  simp only [List.forIn_nil]
  refine wpAny_pure ⟨.ref s.heap.objs.size, _, ?_, rfl, q2⟩
  obtain ⟨o', es, ep, hq, h2, h3, h4, _, h5⟩ := dd'
  refine d_write I3 (by rw [hp]; exact True.intro) hs ⟨o', hq⟩ ⟨by rw [sizeLine_eq]; simp, hd, _, (?_ : Paired _ _ _), o', es, ep, hq, h2, h3, h4, h5⟩
  refine .cons ⟨rfl, ?_, ry⟩ .nil
  rw [upd_ne (ne_of hb hp (fun z => nomatch z))]
  exact hb
/-- written ints -/
def cInts : List Expr → Option (List Int)
  | [] => some []
  | .Constant (.int i) _ _ :: r => match cInts r with
    | some l => some (i :: l)
    | none => none
  | _ => none
theorem pa_cInts : ∀ {es : List Expr} {ns : List Int}, cInts es = some ns → PA X es (fun _ H Q => Q (ns.map V.int) H)
  | [], _, h => by cases h; exact pa_nil.mono fun _ _ _ h => h
  | e :: r, ns, h => by
    unfold cInts at h
    split at h
    · rename_i z; cases z
    · rename_i i _ _ r' e
      cases e
      split at h
      · rename_i l e
        cases h
        exact (pa_cons pe_int (pa_cInts e) (star_of rfl)).mono fun _ _ _ h => h
      · cases h
    · cases h
/-- written values -/
def cVal : Expr → Option D
  | .Constant (.int i) _ _ => some (.int i)
  | .Constant (.bool b) _ _ => some (.bl b)
  | .Constant .none _ _ => some .non
  | .Constant (.str x) _ _ => some (.str x)
  | _ => none
theorem snd_cVal {d : D} (h : cVal a = some d) : ∃ v, PE X a (tC v) ∧ ∀ B, Rep B v d := by
  unfold cVal at h
  split at h
  · cases h; exact ⟨_, pe_int, fun B => .int _⟩
  · cases h; exact ⟨_, pe_bl, fun B => .bl _⟩
  · cases h; exact ⟨_, pe_non, fun B => .non⟩
  · cases h; exact ⟨_, pe_str, fun B => .str _⟩
  · cases h
theorem snd_d1 {es : List Expr} {kk : Nat} {p : Pos} {ns : List Int} {v : Expr} {d : D} (hu : X.A.units < cLine) (hk : cInts es = some ns) (hv : cVal v = some d) (hl : ns.length ≤ lim) : PE X (.Dict [some (.Tuple es kk p)] [v] pos) (liftE (wpE T (.dct (.dT [(ns, d)])))) := by
  obtain ⟨w, hw, rw'⟩ := snd_cVal (X := X) hv
  refine (pe_disp1 hu (pe_tup (pa_cInts hk)) hw).mono fun σ H Q ⟨env, os, B, α, hs, es, h⟩ => fun p hp => ?_
  simp only [wpE] at h
  refine ⟨by rw [List.length_map]; exact lim_size hl, fun q hq => ?_⟩
  have hqp : p ≠ q := fun z => by rw [z, upd_same] at hq; cases hq
  refine ⟨q, ns.map Sum.inl, rfl, by rw [upd_ne hqp, upd_same], by rw [upd_same, List.map_map]; rfl, ?_⟩
  obtain ⟨s1, e1, b1, o1⟩ := hs.grow (o := .dT []) hp
  obtain ⟨s2, e2, b2, o2⟩ := s1.grow (o := .tup (ns.map V.int)) hq
  have s3 := s2.loose (o := .dT [(ns.map Sum.inl, w)]) b1 o1
  have e12 := e1.trans e2
  refine h _ _ B ⟨e12.same, e12.pre, fun b o hb u => ?_, fun b hb => ?_, e12.new, e12.lay⟩ s3 ⟨(p, []), rfl, fun b hb => ?_, rfl, _, upd_same, rfl, .one (rw' B)⟩
  · rw [upd_ne (fun (z : b = p) => by rw [z, hp] at hb; cases hb)]
    exact e12.frm b o hb u
  · rw [upd_ne (fun (z : b = p) => hb (by rw [z]; exact hp))]
    exact e12.grow b hb
  · rw [fp, List.mem_singleton] at hb
    subst hb
    exact ⟨hp, b1, o1⟩
end
end N66

/-! N66: tuple(range(n)), sorted(set(t)). -/
namespace N66
open PySem PySem.Spec PyProof.Rows L2
/-- sorted(set(t)), t a tuple of ints -/
def tSrtSet (K : PySem.W.Frag) (ta : TE) : TE := fun σ H Q => ta σ H fun x H1 => ∃ (l : Addr) (ns : List Int), x = .ref l ∧ SqT K H1 l (ns.map V.int) ∧ ns.length < 64 ∧
  ∀ (ms : List Int) (p : Addr), ms.Pairwise (· < ·) → (∀ i, i ∈ ms ↔ i ∈ ns) → H1 p = none → Q (.ref p) (upd H1 p (.lst (ms.map V.int)))
theorem pe_srtSet {X : Cx} {a : Expr} {ta : TE} {p p2 q pos : Pos} (hc : X.calm = true) (hg : Gl X "sorted") (hm : X.mg "sorted" = none) (hg2 : Gl X "set") (hm2 : X.mg "set" = none) (ha : PE X a ta)
    (na : starEach [a] X.env = (false, eval a X.env) :: starEach [] X.env) : PE X (.Call (.Name "sorted" p) [.Call (.Name "set" p2) [a] [] q] [] pos) (tSrtSet X.K ta) := by
  refine ⟨fun pins s σ H Q I h => ?_⟩
  refine Call_ (ld_blt I hg hm PyProof.Rows.boot_sorted ?_)
  refine PyProof.Rows.callWith_builtin1 (PyProof.Rows.args_cons ?_ rfl) rfl rfl
  refine Call_ (ld_blt I hg2 hm2 PyProof.Rows.boot_set ?_)
  refine PyProof.Rows.callWith_type1 (PyProof.Rows.args_cons (thn (ha.run pins s σ H _ I h) fun v s1 ⟨x, H1, I1, r1, q1⟩ => PyProof.Rows.args_nil ?_) na) na rfl
  obtain ⟨l, ns, rfl, hq, hl, q1⟩ := q1
  cases r1
  obtain ⟨its, rv, pt, hz⟩ := I1.tuple hq
  have hi : IntsAre its.toArray.toList ns := ints_of_vals rv
  have hd := I1.ok.hd hc
  refine call_set_tupI ns hd (show s1.heap.IsTuple l its.toArray from pt) hi (by unfold scanBound; omega) fun h' tk c R1 hcn k => ?_
  refine PyProof.Rows.args_nil ?_
  have I2 : Inv X pins σ H1 { s1 with heap := h', toks := tk } := I1.kept (t' := tk) k
  refine sorted_set (s := { s1 with heap := h', toks := tk }) R1 hd (by omega) fun s' p' out c' ms k' g o hp hg' hi' hs' hm' hl' => ?_
  have hlen : (ms.map V.int).length ≤ sizeLine := by rw [List.length_map, hl', sizeLine_eq]; omega
  have hn : H1 p' = none := I2.hok.fresh hp
  have J : Inv X pins σ (upd H1 p' (.lst (ms.map V.int))) { ({ s1 with heap := h', toks := tk } : Shared) with heap := s'.heap, gens := s'.gens, drawn := s'.drawn, toks := s'.toks } :=
    I2.call (ch := []) (Un.laid k' hp hn) (I2.hok.laid k' hp ⟨hlen, out.toList, c', vals_of_ints hi', hg'⟩) (by rw [g]; exact I2.bare) (fun _ z => nomatch z)
  have e : s' = { s1 with heap := s'.heap, gens := s'.gens, drawn := s'.drawn, toks := s'.toks } := by
    cases s'
    cases s1
    cases o
    rfl
  rw [e]
  exact ⟨.ref p', _, J, rfl, q1 ms p' hs' (fun i => by rw [hm' i, decide_eq_true_eq]) hn⟩
theorem snd_srtSet {X : Cx} {a : Expr} {ta : DE} {p p2 q pos : Pos} (hc : X.calm = true) (hg : Gl X "sorted") (hm : X.mg "sorted" = none) (hg2 : Gl X "set") (hm2 : X.mg "set" = none) (ha : PE X a (liftE ta)) (ma : Mo ta)
    (na : starEach [a] X.env = (false, eval a X.env) :: starEach [] X.env) : PE X (.Call (.Name "sorted" p) [.Call (.Name "set" p2) [a] [] q] [] pos) (liftE fun env os Q => ta env os fun x os1 => fnW os1 .set [x.s] fun r => Q r os1) := by
  refine (pe_srtSet hc hg hm hg2 hm2 ha na).mono fun σ H Q ⟨env, os, B, α, hs, es, h⟩ => ?_
  refine lift_then ma hs es h fun r1 os1 v1 H1 B1 q1 e1 s1 es1 x1 => ?_
  have l1 := x1.lk s1
  unfold fnW at q1
  simp only at q1
  split at q1
  · rename_i ds e
    rw [e] at l1
    obtain ⟨ns, rfl, hl, q⟩ := q1
    obtain ⟨t, vs, rfl, ht, hr⟩ := l1.t
    rw [hr.ints] at ht
    have kn : Kont H1 os1 B1 α (fun r => ∀ v H' B', Ext H B α H' B' α → HS H' os1 B' α → Res H H' B' α v r → Q v H') Q := fun r v H' B' e s x q => q v H' B' (e1.trans e) s (x.back e1)
    exact ⟨t, ns, rfl, SqT.of (s1.ex _ _ ht), hl, fun ms p' hs' hm' hp => kn.new s1 hp (RepAll.ofInts ms) (q ms hs' hm')⟩
  · exact q1.elim
/-- tuple(range(n)) -/
theorem snd_tupRg {X : Cx} {a : Expr} {T : Tab} {x : Xp} {p p2 q pos : Pos} (hc : X.calm = true) (hg : Gl X "tuple") (hm : X.mg "tuple" = none) (hg2 : Gl X "range") (hm2 : X.mg "range" = none) (ha : PE X a (liftE (wpE T x))) (ma : Mo (wpE T x))
    (na : starEach [a] X.env = (false, eval a X.env) :: starEach [] X.env) : PE X (.Call (.Name "tuple" p) [.Call (.Name "range" p2) [a] [] q] [] pos) (liftE fun env os Q => wpE T (.cst (.int 0)) env os fun r1 os1 => wpE T x env os1 fun r2 os2 => wpE T (.cst (.int 1)) env os2 fun r3 os3 => match r1.s, r2.s, r3.s with
    | .d (.int a), .d (.int b), .d (.int c) => (0 ≤ a ∧ a ≤ lim) ∧ (0 ≤ b ∧ b ≤ lim) ∧ (0 < c ∧ c ≤ lim) ∧ Q (.val (.tup ((List.range ((b - a + c - 1) / c).toNat).map fun i : Nat => D.int (a + i * c)))) os3
    | _, _, _ => False) := by
  refine (pe_tupRg hc hg hm (prg_1 hg2 hm2 ha na) rfl).mono fun σ H Q ⟨env, os, B, α, hs, es, h⟩ => ?_
  simp only [wpE] at h
  refine lift_then ma hs es h fun r1 os1 v1 H1 B1 q1 e1 s1 es1 x1 => ?_
  split at q1
  · rename_i z1 z2 a b c e2 e3 e4
    cases e2
    cases e4
    rw [show r1.s = _ from e3] at x1
    obtain ⟨⟨k1, k2⟩, ⟨k3, k4⟩, _, q⟩ := q1
    have k4' : b ≤ 100000 := k4
    rw [rep_int x1]
    have kn : Kont H1 os1 B1 α (fun r => ∀ v H' B', Ext H B α H' B' α → HS H' os1 B' α → Res H H' B' α v r → Q v H') Q := fun r v H' B' e s x q => q v H' B' (e1.trans e) s (x.back e1)
    refine ⟨b, rfl, RgOk.of_le (by omega) (by omega) (by omega) k3, fun q' hq' => kn.tup s1 hq' ?_ q⟩
    have e : (b - 0 + 1 - 1) / 1 = b - 0 := by rw [Int.ediv_one]; omega
    rw [e]
    have e5 : (fun i : Nat => D.int (0 + (i : Int) * 1)) = fun i : Nat => D.int (0 + (i : Int)) := by funext i; rw [Int.mul_one]
    rw [e5]
    unfold rgV
    have := RepAll.ofInts (B := B1) ((List.range (b - 0).toNat).map fun i : Nat => (0 + (i : Int)))
    rw [List.map_map, List.map_map] at this
    exact this
  · exact q1.elim
end N66

/-! N66, from the model's syntax to ours: expressions. -/
namespace N66
open PySem PySem.Spec L2

structure Tr where
  N : List Str
  sc : Scope
  raw : Scope
  fs : List (Str × Nat)
  cs : List (Str × Int)
  ts : List (Str × List Int)
  ob : List Str
  tk : List Str
  dk : List Str
  orc : Expr → Option Xp := fun _ => none
def ixOf : List Str → Str → Option Nat
  | [], _ => none
  | y :: r, x => if y = x then some 0 else (ixOf r x).map (· + 1)
theorem ixOf_get : ∀ {N : List Str} {x : Str} {i : Nat}, ixOf N x = some i → N[i]? = some x
  | [], _, _, h => by cases h
  | y :: r, x, i, h => by
    unfold ixOf at h
    split at h
    · rename_i e; cases h; rw [e]; rfl
    · cases z : ixOf r x with
      | none => rw [z] at h; cases h
      | some j => rw [z] at h; cases h; simpa using ixOf_get z
def visB (sc : Scope) (x : Str) : Bool := match sc.names.lookup x with
  | some .local => true
  | some .cell => true
  | some .free => true
  | _ => false
theorem visB_of {sc : Scope} {x : Str} (h : visB sc x = true) : Vis sc x := by
  unfold visB at h
  split at h
  · exact .inl (by assumption)
  · exact .inr (.inl (by assumption))
  · exact .inr (.inr (by assumption))
  · cases h
def stB (sc : Scope) (x : Str) : Bool := match sc.names.lookup x with
  | some .local => true
  | some .cell => true
  | _ => false
def glB (sc : Scope) (x : Str) : Bool := match sc.names.lookup x with
  | some .globalImplicit => !(x == ("__debug__" : Str)) && decide (x ≠ ("__name__" : Str))
  | _ => false
def trVar (r : Tr) (x : Str) : Option Nat := if (x == ("__debug__" : Str)) || (x == ("__classdict__" : Str)) || !visB r.sc x then none else ixOf r.N x
/-- a name that is stored -/
def trSt (r : Tr) (x : Str) : Option Nat := if stB r.raw x then ixOf r.N x else none

def bltNames : List Str := ["len", "isinstance", "sorted", "tuple", "list", "min", "all", "any", "set", "int", "str", "range", "enumerate", "zip", "bool"]
structure Ctx (X : Cx) (r : Tr) (T : Tab) (k : Nat) : Prop where
  scope : X.env.scope = r.sc
  names : X.N = r.N
  nd : r.N.Nodup
  calm : X.calm = true
  room : Room k X.A
  xe : X.xe = fun _ _ => False
  st : ∀ x, stB r.raw x = true → Loc r.sc x ∧ (X.fn x = true ∨ r.sc.names.lookup x = some .local)
  mo : MoTab T
  fn : ∀ x i, r.fs.lookup x = some i → ∃ f fd ps, X.mg x = some (.ref f) ∧ PySem.W.keepIn X.K (.ref f) = true ∧ Binds X.K fd ps [] ∧ FnOk X.prog X.w X.K X.mg X.base CX0 k f fd ps (spT (T i))
  cst : ∀ x n, r.cs.lookup x = some n → ∃ t, X.mg x = some (.int n t)
  tup : ∀ x ns, r.ts.lookup x = some ns → ∃ a, X.mg x = some (.ref a) ∧ ∀ H, SqT X.K H a (ns.map V.int)
  blt : ∀ x ∈ bltNames, X.mg x = none
  kind : r.sc.kind = .function
  orc : ∀ (e : Expr) (x : Xp), r.orc e = some x → PE X e (liftE (wpE T x))

/-- the block of a comprehension -/
def Tr.blk (r : Tr) (scope : Scope) : Tr := { r with sc := relS scope r.sc, raw := scope, orc := fun _ => none }
def ownOf (N : List Str) (scope : Scope) : List (Str × Nat) := scope.names.filterMap fun p => match p.2 with
  | .local => (ixOf N p.1).map fun i => (p.1, i)
  | .cell => (ixOf N p.1).map fun i => (p.1, i)
  | _ => none
theorem Ctx.blk {X : Cx} {r : Tr} {T : Tab} {k : Nat} (h : Ctx X r T k) {scope : Scope} (hk : scope.kind = .function) (s : Shared) (H : Hp) (C : Addr) (cl : List (Str × Addr)) (fp : List Addr) : Ctx (X.blk s H scope (compEnvC scope cl C X.env) fp) (r.blk scope) T k := by
  refine ⟨?_, h.names, h.nd, h.calm, h.room, rfl, fun x hx => ?_, h.mo, h.fn, h.cst, h.tup, h.blt, hk, fun _ _ z => by cases z⟩
  · show relabel scope X.env = relS scope r.sc
    rw [← h.scope]
    rfl
  · have e : scope.names.lookup x = some .local ∨ scope.names.lookup x = some .cell := by
      unfold stB at hx
      split at hx
      · exact .inl (by assumption)
      · exact .inr (by assumption)
      · cases hx
    show Loc (relS scope r.sc) x ∧ ((scope.names.lookup x == some .cell) = true ∨ _)
    rcases e with e | e
    · have z : (relS scope r.sc).names.lookup x = some .local := lookup_relS_keep (by decide) e
      exact ⟨.inl z, .inr z⟩
    · have z : (relS scope r.sc).names.lookup x = some .cell := lookup_relS_keep (by decide) e
      exact ⟨.inr z, .inl (by rw [e]; rfl)⟩
section
variable {X : Cx} {r : Tr} {T : Tab} {k : Nat}
theorem Ctx.gl (h : Ctx X r T k) {x : Str} (e : glB r.sc x = true) : Gl X x ∧ (x == ("__debug__" : Str)) = false ∧ x ≠ "__name__" := by
  unfold glB at e
  split at e
  · rename_i z
    simp only [Bool.and_eq_true, Bool.not_eq_true', decide_eq_true_eq] at e
    refine ⟨?_, e.1, e.2⟩
    show X.env.scope.names.lookup x = some .globalImplicit
    rw [h.scope]
    exact z
  · cases e
theorem Ctx.var (h : Ctx X r T k) {x : Str} {i : Nat} (e : trVar r x = some i) : X.N[i]? = some x ∧ Vis X.env.scope x ∧ (x == ("__debug__" : Str)) = false ∧ (x == ("__classdict__" : Str)) = false := by
  unfold trVar at e
  split at e
  · cases e
  · rename_i z
    simp only [Bool.or_eq_true, not_or, Bool.not_eq_true', Bool.not_eq_false, Bool.not_eq_true] at z
    exact ⟨by rw [h.names]; exact ixOf_get e, by rw [h.scope]; exact visB_of z.2, z.1.1, z.1.2⟩
theorem Ctx.sto (h : Ctx X r T k) {x : Str} {i : Nat} (e : trSt r x = some i) : X.N[i]? = some x ∧ Loc X.env.scope x ∧ (X.fn x = true ∨ X.env.scope.names.lookup x = some .local) := by
  unfold trSt at e
  split at e
  · rename_i z
    obtain ⟨h1, h2⟩ := h.st x z
    rw [h.scope, h.names]
    exact ⟨ixOf_get e, h1, h2⟩
  · cases e
theorem Ctx.nd' (h : Ctx X r T k) : X.N.Nodup := by rw [h.names]; exact h.nd
end

structure TrF where
  E : Tr → Expr → Option Xp
  T : Tr → Expr → Option Ts

def esOf (F : TrF) (r : Tr) : List Expr → Option Xs
  | [] => some .nil
  | e :: es => match F.E r e, esOf F r es with
    | some x, some xs => some (.cons x xs)
    | _, _ => none
def andE (F : TrF) (r : Tr) : List Expr → Option Xp
  | [] => none
  | [a] => F.E r a
  | a :: es => match F.E r a, andE F r es with
    | some x, some y => some (.and x y)
    | _, _ => none
def orE (F : TrF) (r : Tr) : List Expr → Option Xp
  | [] => none
  | [a] => F.E r a
  | a :: es => match F.E r a, orE F r es with
    | some x, some y => some (.or x y)
    | _, _ => none
def andT (F : TrF) (r : Tr) : List Expr → Option Ts
  | [] => none
  | [a] => F.T r a
  | a :: es => match F.T r a, andT F r es with
    | some x, some y => some (.and x y)
    | _, _ => none
def orT (F : TrF) (r : Tr) : List Expr → Option Ts
  | [] => none
  | [a] => F.T r a
  | a :: es => match F.T r a, orT F r es with
    | some x, some y => some (.or x y)
    | _, _ => none
def opOf (F : TrF) (r : Tr) : Option Expr → Option Op
  | none => some .none
  | some e => (F.E r e).map .some
def trSub (F : TrF) (r : Tr) (a : Expr) : Expr → Option Xp
  | .Slice lo hi none _ => match F.E r a, opOf F r lo, opOf F r hi with
    | some x, some l, some h => some (.slc x l h)
    | _, _, _ => none
  | .Slice none none (some (.UnaryOp .USub (.Constant (.int 1) _ _) _)) _ => (F.E r a).map .rev
  | i => match a, i with
    | .Name x _, .Constant (.int j) _ _ => match trVar r x with
      | some n => if notSlice i then some (.idx (.var n) (.cst (.int j))) else none
      | none => if glB r.sc x then match r.ts.lookup x with
          | some ns => (atI ns j).map fun n => .cst (.int n)
          | none => none
        else none
    | _, _ => if notSlice i then match F.E r a, F.E r i with
        | some x, some y => some (.idx x y)
        | _, _ => none
      else none
/-- built-in functions and classes, by name and number of arguments -/
def fnB (x : Str) (n : Nat) : Option Fn :=
  if x = "len" ∧ n = 1 then some .len else if x = "sorted" ∧ n = 1 then some .sorted else if x = "min" ∧ n = 1 then some .min else if x = "min" ∧ n = 2 then some .min2 else if x = "all" ∧ n = 1 then some .all else if x = "any" ∧ n = 1 then some .any else none
def fnT (x : Str) (n : Nat) : Option Fn :=
  if x = "tuple" ∧ n = 1 then some .tuple else if x = "list" ∧ n = 1 then some .list else if x = "int" ∧ n = 1 then some .int else if x = "str" ∧ n = 1 then some .str else none
def tyOf (x : Str) : Option String :=
  if x = "int" then some "int" else if x = "bool" then some "bool" else if x = "tuple" then some "tuple" else if x = "list" then some "list" else none
def trCall (F : TrF) (r : Tr) (x : Str) (es : List Expr) : Option Xp :=
  if !glB r.sc x || !es.all notStar then none else
  match r.fs.lookup x with
  | some i => (esOf F r es).map (.call i)
  | none => if x = "isinstance" then match es with
      | [a, .Name t _] => if glB r.sc t then match F.E r a, tyOf t with
          | some y, some ty => some (.fn (.isi ty) (.cons y .nil))
          | _, _ => none
        else none
      | _ => none
    else match fnB x es.length with
    | some f => (esOf F r es).map (.fn f)
    | none => match fnT x es.length with
      | some f => (esOf F r es).map (.fn f)
      | none => none
def tgJs (r : Tr) : List Expr → Option (List Nat)
  | [] => some []
  | .Name x _ :: es => match trSt r x, tgJs r es with
    | some i, some js => some (i :: js)
    | _, _ => none
  | _ => none
def trTg (r : Tr) : Expr → Option Tg
  | .Name x _ => (trSt r x).map .nm
  | .Tuple es _ _ => (tgJs r es).map .tp
  | _ => none
def isTup : Expr → Bool
  | .Tuple _ _ _ => true
  | _ => false
def trI (F : TrF) (r : Tr) (tg : Expr) : Expr → Option Src
  | .Call (.Name x p) es [] q =>
    if glB r.sc x && es.all notStar && r.fs.lookup x == none then
      (if x = "range" then match es with
        | [a] => (F.E r a).map (.rng (.cst (.int 0)))
        | [a, b] => match F.E r a, F.E r b with
          | some u, some v => some (.rng u v)
          | _, _ => none
        | _ => none
      else if x = "enumerate" then match es with
        | [a] => if isTup tg then (F.E r a).map .enm else none
        | _ => none
      else if x = "zip" then match es with
        | [a, b] => if isTup tg then (esOf F r [a, b]).map .zip else none
        | [a, b, c] => if isTup tg then (esOf F r [a, b, c]).map .zip else none
        | _ => none
      else (F.E r (.Call (.Name x p) es [] q)).map .seq)
    else (F.E r (.Call (.Name x p) es [] q)).map .seq
  | e => (F.E r e).map .seq
def notSet : Expr → Bool
  | .Set _ _ _ => false
  | _ => true
def trLc (F : TrF) (r : Tr) (elt : Expr) (scope : Scope) : List Comprehension → Option Xp
  | [⟨tg, iter, ifs, 0⟩] =>
    let own := ownOf r.N scope
    if blkC r.N r.sc scope own && decide (scope.kind = .function) && notSet iter then
      match trI F r tg iter, trTg (r.blk scope) tg, F.E (r.blk scope) elt with
      | some src, some t, some x => if tgIn (own.map (·.2)) t then match ifs with
          | [] => some (.lc x t src .tt (own.map (·.2)))
          | [c] => (F.T (r.blk scope) c).map fun c => .lc x t src c (own.map (·.2))
          | _ => none
        else none
      | _, _, _ => none
    else none
  | _ => none
def stepE (F : TrF) (r : Tr) : Expr → Option Xp
  | .Name x _ => match trVar r x with
    | some i => some (.var i)
    | none => if glB r.sc x then (r.cs.lookup x).map fun n => .cst (.int n) else none
  | .Constant (.int i) _ _ => some (.cst (.int i))
  | .Constant (.bool b) _ _ => some (.cst (.bl b))
  | .Constant .none _ _ => some (.cst .non)
  | .Constant (.str x) _ _ => some (.cst (.str x))
  | .BinOp a op b _ => match F.E r a, F.E r b with
    | some x, some y => some (.bin op x y)
    | _, _ => none
  | .UnaryOp .USub a _ => (F.E r a).map .neg
  | .UnaryOp .Not a _ => (F.E r a).map .not
  | .Compare a [op] [b] _ => if behindInMarks op b then none else match F.E r a, F.E r b with
    | some x, some y => some (.cmp op x y)
    | _, _ => none
  | .Compare a [o1, o2] [b, c] _ => if lastMarks [o1, o2] [b, c] then none else match F.E r a, F.E r b, F.E r c with
    | some x, some y, some z => some (.cmp2 o1 o2 x y z)
    | _, _, _ => none
  | .BoolOp .And es _ => andE F r es
  | .BoolOp .Or es _ => orE F r es
  | .IfExp c a b _ => match F.T r c, F.E r a, F.E r b with
    | some t, some x, some y => some (.ite t x y)
    | _, _, _ => none
  | .Tuple es _ _ => if es.all notStar then (esOf F r es).map .tup else none
  | .List es _ => if es.all notStar then (esOf F r es).map .lst else none
  | .Subscript a s _ => trSub F r a s
  | .Call (.Name x _) es [] _ => trCall F r x es
  | .ListComp elt gens scope _ => trLc F r elt scope gens
  | .Dict [some (.Tuple es _ _)] [v] _ => match cInts es, cVal v with
    | some ns, some d => if ns.length ≤ lim then some (.dct (.dT [(ns, d)])) else none
    | _, _ => none
  | _ => none
/-- two calls in one: sorted(set(t)), tuple(range(n)) -/
def stepX (F : TrF) (r : Tr) : Expr → Option Xp
  | .Call (.Name f _) [.Call (.Name g _) [a] [] _] [] _ =>
    if glB r.sc f && glB r.sc g then
      if f = "sorted" ∧ g = "set" then (F.E r a).map fun x => .fn .set (.cons x .nil)
      else if f = "tuple" ∧ g = "range" then (F.E r a).map fun x => .tupR (.cst (.int 0)) x (.cst (.int 1))
      else none
    else none
  | _ => none
/-- an expression that is known otherwise goes ahead -/
def stepO (F : TrF) (r : Tr) (e : Expr) : Option Xp := match r.orc e with
  | some x => if notStar e then some x else none
  | none => match stepX F r e with
    | some x => some x
    | none => stepE F r e
def stepT (F : TrF) (r : Tr) (e : Expr) : Option Ts := match e with
  | .BoolOp .And es _ => andT F r es
  | .BoolOp .Or es _ => orT F r es
  | .UnaryOp .Not a _ => (F.T r a).map .not
  | .Compare a [op] [b] _ => if behindInMarks op b then none else match F.E r a, F.E r b with
    | some x, some y => some (.val (.cmp op x y))
    | _, _ => none
  | .Compare a [o1, o2] [b, c] _ => if lastMarks [o1, o2] [b, c] then none else match F.E r a, F.E r b, F.E r c with
    | some x, some y, some z => some (.val (.cmp2 o1 o2 x y z))
    | _, _, _ => none
  | e => if plainTest e then (F.E r e).map .val else none
def trF : Nat → TrF
  | 0 => ⟨fun _ _ => none, fun _ _ => none⟩
  | n + 1 => ⟨stepO (trF n), stepT (trF n)⟩
end N66

/-! N66, the translation of expressions is sound. -/
namespace N66
open PySem PySem.Spec L2

structure Snd (F : TrF) : Prop where
  E : ∀ {r : Tr} {e : Expr} {x : Xp}, F.E r e = some x → ∀ {X : Cx} {T : Tab} {k : Nat}, Ctx X r T k → PE X e (liftE (wpE T x))
  T : ∀ {r : Tr} {e : Expr} {x : Ts}, F.T r e = some x → ∀ {X : Cx} {T : Tab} {k : Nat}, Ctx X r T k → PT X e (liftT (wpT T x))
  star : ∀ {r : Tr} {e : Expr} {x : Xp}, F.E r e = some x → notStar e = true

section
variable {F : TrF} (S : Snd F) {X : Cx} {r : Tr} {T : Tab} {k : Nat} (C : Ctx X r T k)
include S C
theorem esOf_snd : ∀ {es : List Expr} {xs : Xs}, esOf F r es = some xs → PA X es (liftA (wpEs T xs))
  | [], _, h => by cases h; simp only [wpEs]; exact snd_nil
  | e :: es, _, h => by
    unfold esOf at h
    split at h
    · rename_i x xs h1 h2
      cases h
      simp only [wpEs]
      exact snd_cons (S.E h1 C) (esOf_snd h2) (moE C.mo x) (moEs C.mo xs) (star_of (S.star h1))
    · cases h
theorem andE_snd {pos : Pos} : ∀ {es : List Expr} {x : Xp}, andE F r es = some x → PE X (.BoolOp .And es pos) (liftE (wpE T x))
  | [], _, h => by cases h
  | [a], _, h => pe_one (S.E h C)
  | a :: b :: es, _, h => by
    unfold andE at h
    split at h
    · rename_i x y h1 h2
      cases h
      simp only [wpE]
      exact snd_and (S.E h1 C) (andE_snd h2) (moE C.mo x) (moE C.mo y)
    · cases h
theorem orE_snd {pos : Pos} : ∀ {es : List Expr} {x : Xp}, orE F r es = some x → PE X (.BoolOp .Or es pos) (liftE (wpE T x))
  | [], _, h => by cases h
  | [a], _, h => pe_one (S.E h C)
  | a :: b :: es, _, h => by
    unfold orE at h
    split at h
    · rename_i x y h1 h2
      cases h
      simp only [wpE]
      exact snd_or (S.E h1 C) (orE_snd h2) (moE C.mo x) (moE C.mo y)
    · cases h
theorem andT_snd {pos : Pos} : ∀ {es : List Expr} {x : Ts}, andT F r es = some x → PW X (.BoolOp .And es pos) (liftT (wpT T x))
  | [], _, h => by cases h
  | [a], _, h => pw_and1 (S.T h C)
  | a :: b :: es, _, h => by
    unfold andT at h
    split at h
    · rename_i x y h1 h2
      cases h
      simp only [wpT]
      exact sndT_and (S.T h1 C) (andT_snd h2) (moT C.mo x) (moT C.mo y)
    · cases h
theorem orT_snd {pos : Pos} : ∀ {es : List Expr} {x : Ts}, orT F r es = some x → PW X (.BoolOp .Or es pos) (liftT (wpT T x))
  | [], _, h => by cases h
  | [a], _, h => pw_or1 (S.T h C)
  | a :: b :: es, _, h => by
    unfold orT at h
    split at h
    · rename_i x y h1 h2
      cases h
      simp only [wpT]
      exact sndT_or (S.T h1 C) (orT_snd h2) (moT C.mo x) (moT C.mo y)
    · cases h
theorem opOf_snd {e : Option Expr} {o : Op} (h : opOf F r e = some o) : PO X e (liftO (wpO T o)) := by
  unfold opOf at h
  split at h
  · cases h; simp only [wpO]; exact snd_onone
  · rename_i e
    cases z : F.E r e with
    | none => rw [z] at h; cases h
    | some x =>
      rw [z] at h
      cases h
      simp only [wpO]
      exact snd_osome (S.E z C) (moE C.mo x)
omit S in
theorem glTup {x : Str} {p pos : Pos} {ns : List Int} {j n : Int} {kk : Nat} {q : Pos} (hg : glB r.sc x = true) (ht : r.ts.lookup x = some ns) (ha : atI ns j = some n) : PE X (.Subscript (.Name x p) (.Constant (.int j) kk q) pos) (liftE (wpE T (.cst (.int n)))) := by
  obtain ⟨h1, h2, h3⟩ := C.gl hg
  obtain ⟨a, h4, h5⟩ := C.tup x ns ht
  refine (pe_ix ix_tup (pe_glob (v := .ref a) h1 h4 rfl h2) pe_int (fun _ _ => rfl)).mono fun σ H Q ⟨env, os, B, α, hs, es, h⟩ => ?_
  simp only [wpE] at h
  refine ⟨a, ns.map V.int, j, .int n, rfl, rfl, h5 H, ?_, h _ H B (Ext.refl _ _ _) hs (.int n)⟩
  unfold atI at *
  rw [List.length_map]
  cases z : ixN ns.length j with
  | none => rw [z] at ha; cases ha
  | some i =>
    rw [z] at ha
    show (ns.map V.int)[i]? = _
    rw [List.getElem?_map, show ns[i]? = some n from ha]
    rfl
theorem trSub_snd {a s : Expr} {x : Xp} {pos : Pos} (h : trSub F r a s = some x) : PE X (.Subscript a s pos) (liftE (wpE T x)) := by
  unfold trSub at h
  split at h
  · split at h
    · rename_i x l u h1 h2 h3
      cases h
      simp only [wpE]
      exact snd_slc (S.E h1 C) (opOf_snd S C h2) (opOf_snd S C h3) (moE C.mo x) (moO C.mo l) (moO C.mo u)
    · cases h
  · cases z : F.E r a with
    | none => rw [z] at h; cases h
    | some x =>
      rw [z] at h
      cases h
      simp only [wpE]
      refine (pe_revL (S.E z C)).mono fun σ H Q ⟨env, os, B, α, hs, es, h⟩ => ?_
      refine lift_then (moE C.mo x) hs es h fun r1 os1 v1 H1 B1 q1 e1 s1 es1 x1 => ?_
      have l1 := x1.lk s1
      unfold revW at q1
      split at q1
      · rename_i ds e
        rw [e] at l1
        exact rev_snd (Q0 := fun r => ∀ v H' B', Ext H B α H' B' α → HS H' os1 B' α → Res H H' B' α v r → Q v H') s1 l1 q1 fun r v H' B' e s x q => q v H' B' (e1.trans e) s (x.back e1)
      · exact q1.elim
  · split at h
    · split at h
      · rename_i n hn
        split at h
        · cases h
          obtain ⟨a1, a2, a3, a4⟩ := C.var hn
          simp only [wpE]
          exact snd_idx (snd_var (T := T) a1 a2 a3 a4) (snd_cst (T := T) pe_int fun B => .int _) (moE C.mo (.var n)) (moE C.mo (.cst _)) (fun _ _ => rfl)
        · cases h
      · split at h
        · rename_i hg
          split at h
          · rename_i ns hl
            rename_i j _ _ _
            cases z : atI ns _ with
            | none => rw [z] at h; cases h
            | some n => rw [z] at h; cases h; exact glTup C hg hl z
          · cases h
        · cases h
    · split at h
      · rename_i hs
        split at h
        · rename_i x y h1 h2
          cases h
          simp only [wpE]
          exact snd_idx (S.E h1 C) (S.E h2 C) (moE C.mo x) (moE C.mo y) (plainIx_of hs)
        · cases h
      · cases h
end
end N66

/-! N66, the translation of expressions is sound: calls, targets, comprehensions; all. -/
namespace N66
open PySem PySem.Spec L2
def xsLen : Xs → Nat
  | .nil => 0
  | .cons _ r => xsLen r + 1
theorem wpEs_len {T : Tab} (hT : MoTab T) : ∀ (xs : Xs) {env : Env} {os : List O} {Q : List S → List O → Prop}, wpEs T xs env os Q → wpEs T xs env os fun ss os' => ss.length = xsLen xs ∧ Q ss os'
  | .nil, _, _, _, h => by simp only [wpEs] at h ⊢; exact ⟨rfl, h⟩
  | .cons a r, _, _, _, h => by
    simp only [wpEs] at h ⊢
    exact moE hT a h fun _ _ h => moEs hT r (wpEs_len hT r h) fun _ _ h => ⟨by rw [List.length_cons, h.1]; rfl, h.2⟩
theorem esOf_len {F : TrF} {r : Tr} : ∀ {es : List Expr} {xs : Xs}, esOf F r es = some xs → xsLen xs = es.length
  | [], _, h => by cases h; rfl
  | e :: es, _, h => by
    unfold esOf at h
    split at h
    · rename_i x xs h1 h2
      cases h
      rw [xsLen, esOf_len h2, List.length_cons]
    · cases h
theorem tyOf_ok {t : Str} {ty : String} (h2 : tyOf t = some ty) : t ∈ bltNames ∧ bootBuiltins t = some (.type ty) := by
  unfold tyOf at h2
  repeat' split at h2
  all_goals first | (rename_i e; subst e; cases h2; exact ⟨by decide +kernel, by decide +kernel⟩) | cases h2
section
variable {F : TrF} (S : Snd F) {X : Cx} {r : Tr} {T : Tab} {k : Nat} (C : Ctx X r T k)
include S C
omit S in
theorem fnB_ok {x : Str} {n : Nat} {f : Fn} (h : fnB x n = some f) : n ≠ 0 ∧ X.mg x = none ∧ ∃ id, bootBuiltins x = some (.builtin id) ∧ FnS X (.builtin id) f := by
  unfold fnB at h
  split at h
  · rename_i q; obtain ⟨q, q2⟩ := q; subst q q2; cases h; exact ⟨by decide, C.blt _ (by decide +kernel), _, PySem.boot_len, fn_len⟩
  split at h
  · rename_i q; obtain ⟨q, q2⟩ := q; subst q q2; cases h; exact ⟨by decide, C.blt _ (by decide +kernel), "sorted", by decide +kernel, fn_sorted C.calm C.room⟩
  split at h
  · rename_i q; obtain ⟨q, q2⟩ := q; subst q q2; cases h; exact ⟨by decide, C.blt _ (by decide +kernel), "min", by decide +kernel, fn_min C.calm⟩
  split at h
  · rename_i q; obtain ⟨q, q2⟩ := q; subst q q2; cases h; exact ⟨by decide, C.blt _ (by decide +kernel), "min", by decide +kernel, fn_min2 C.calm⟩
  split at h
  · rename_i q; obtain ⟨q, q2⟩ := q; subst q q2; cases h; exact ⟨by decide, C.blt _ (by decide +kernel), "all", by decide +kernel, fn_all C.calm⟩
  split at h
  · rename_i q; obtain ⟨q, q2⟩ := q; subst q q2; cases h; exact ⟨by decide, C.blt _ (by decide +kernel), "any", by decide +kernel, fn_any C.calm⟩
  cases h
omit S in
theorem fnT_ok {x : Str} {n : Nat} {f : Fn} (h : fnT x n = some f) : n ≠ 0 ∧ X.mg x = none ∧ ∃ id, bootBuiltins x = some (.type id) ∧ FnS X (.type id) f := by
  unfold fnT at h
  split at h
  · rename_i q; obtain ⟨q, q2⟩ := q; subst q q2; cases h; exact ⟨by decide, C.blt _ (by decide +kernel), "tuple", by decide +kernel, fn_tuple⟩
  split at h
  · rename_i q; obtain ⟨q, q2⟩ := q; subst q q2; cases h; exact ⟨by decide, C.blt _ (by decide +kernel), "list", by decide +kernel, fn_list C.calm⟩
  split at h
  · rename_i q; obtain ⟨q, q2⟩ := q; subst q q2; cases h; exact ⟨by decide, C.blt _ (by decide +kernel), "int", by decide +kernel, fn_int⟩
  split at h
  · rename_i q; obtain ⟨q, q2⟩ := q; subst q q2; cases h; exact ⟨by decide, C.blt _ (by decide +kernel), "str", by decide +kernel, fn_str⟩
  cases h
theorem trCall_snd {x : Str} {es : List Expr} {p pos : Pos} {y : Xp} (h : trCall F r x es = some y) : PE X (.Call (.Name x p) es [] pos) (liftE (wpE T y)) := by
  unfold trCall at h
  split at h
  · cases h
  rename_i hc
  simp only [Bool.or_eq_true, Bool.not_eq_true', not_or, Bool.not_eq_false] at hc
  obtain ⟨hg, hst⟩ := hc
  obtain ⟨g1, g2, g3⟩ := C.gl hg
  have hcons : ∀ e es', es = e :: es' → starEach (e :: es') X.env = (false, eval e X.env) :: starEach es' X.env := fun e es' z => by
    subst z
    simp only [List.all_cons, Bool.and_eq_true] at hst
    exact star_of hst.1
  have hback : ∀ e es', es = e :: es' → (backTo pos (starEach es' X.env)).any (·.1) = false := fun e es' z => by
    subst z
    simp only [List.all_cons, Bool.and_eq_true] at hst
    exact back_any (star_all hst.2)
  split at h
  · rename_i i hi
    cases z : esOf F r es with
    | none => rw [z] at h; cases h
    | some xs =>
      rw [z] at h
      cases h
      obtain ⟨f, fd, ps, m1, m2, m3, m4⟩ := C.fn x i hi
      simp only [wpE]
      refine snd_call (CX := CX0) m4 C.room g1 m1 m2 m3 (esOf_snd S C z) (moEs C.mo xs) g2 hcons hback (fun ss os Q Q' => C.mo i ss os Q Q') fun e0 => ?_
      subst e0
      cases z
      simp only [wpEs]
  split at h
  · rename_i hx
    subst hx
    split at h
    · rename_i a t q
      split at h
      · rename_i ht
        split at h
        · rename_i y' ty h1 h2
          cases h
          obtain ⟨t1, t2, t3⟩ := C.gl ht
          have hb := tyOf_ok h2
          have := snd_isi (p := p) (p2 := q) (pos := pos) (S.E h1 C) (moE C.mo y') g1 (C.blt "isinstance" (by decide +kernel)) t1 (C.blt t hb.1) hb.2 t3 t2 (star_of (S.star h1))
          simp only [wpE, wpEs]
          exact this
        · cases h
      · cases h
    · cases h
  split at h
  · rename_i f hf
    cases z : esOf F r es with
    | none => rw [z] at h; cases h
    | some xs =>
      rw [z] at h
      cases h
      have pa := esOf_snd S C z
      have mo := moEs C.mo xs
      simp only [wpE]
      obtain ⟨n0, m1, id, m2, m3⟩ := fnB_ok C hf
      cases es with
      | nil => exact absurd rfl n0
      | cons e es' => exact snd_fnB m3 g1 m1 m2 pa mo g3 g2 (hcons e es' rfl) (hback e es' rfl)
  split at h
  · rename_i f hf
    cases z : esOf F r es with
    | none => rw [z] at h; cases h
    | some xs =>
      rw [z] at h
      cases h
      have pa := esOf_snd S C z
      have mo := moEs C.mo xs
      simp only [wpE]
      obtain ⟨n0, m1, id, m2, m3⟩ := fnT_ok C hf
      cases es with
      | nil => exact absurd rfl n0
      | cons e es' => exact snd_fnT m3 g1 m1 m2 pa mo g3 g2 (hcons e es' rfl) (hback e es' rfl)
  · cases h
omit S in
theorem tgJs_snd : ∀ {es : List Expr} {js : List Nat}, tgJs r es = some js → PGs X es (gList js) ∧ (assignEach es X.env).length = js.length ∧ (assignEach es X.env).findIdx? (·.1) = none
  | [], _, h => by cases h; exact ⟨pgs_nil, rfl, rfl⟩
  | e :: es, _, h => by
    unfold tgJs at h
    split at h
    · rename_i z; cases z
    · rename_i x p es' z
      cases z
      split at h
      · rename_i i js h1 h2
        cases h
        obtain ⟨a1, a2, a3⟩ := C.sto h1
        obtain ⟨b1, b2, b3⟩ := tgJs_snd h2
        have he : assignEach (.Name x p :: es) X.env = (false, assign (.Name x p) X.env) :: assignEach es X.env := by rw [assignEach]; intro _ _ z; cases z
        refine ⟨pgs_cons (pg_name C.nd' a1 a2 a3) b1 (by rw [he]; rfl), by rw [he, List.length_cons, List.length_cons, b2], ?_⟩
        rw [he, List.findIdx?_cons, b3]
        rfl
      · cases h
    · cases h
omit S in
theorem trTg_snd {e : Expr} {t : Tg} (h : trTg r e = some t) : PG X e (gOf X.K t) := by
  unfold trTg at h
  split at h
  · rename_i x p
    cases z : trSt r x with
    | none => rw [z] at h; cases h
    | some i =>
      rw [z] at h
      cases h
      obtain ⟨a1, a2, a3⟩ := C.sto z
      exact pg_name C.nd' a1 a2 a3
  · rename_i es k p
    cases z : tgJs r es with
    | none => rw [z] at h; cases h
    | some js =>
      rw [z] at h
      cases h
      obtain ⟨b1, b2, b3⟩ := tgJs_snd C z
      exact pg_tup C.calm b1 b2 b3
  · cases h
theorem trSeq_snd {tg e : Expr} {s : Src} (h : (F.E r e).map Src.seq = some s) : PI X tg e (liftI (wpI T s)) := by
  cases z : F.E r e with
  | none => rw [z] at h; cases h
  | some x =>
    rw [z] at h
    cases h
    simp only [wpI]
    exact sndI_seq (S.E z C) (moE C.mo x)
theorem trI_snd {tg e : Expr} {s : Src} (h : trI F r tg e = some s) : PI X tg e (liftI (wpI T s)) := by
  unfold trI at h
  split at h
  · rename_i x p es q
    split at h
    · rename_i hc
      simp only [Bool.and_eq_true] at hc
      obtain ⟨⟨hg, hst⟩, _⟩ := hc
      obtain ⟨g1, g2, g3⟩ := C.gl hg
      split at h
      · rename_i e; subst e
        have hm := C.blt "range" (by decide +kernel)
        split at h
        · rename_i a
          cases z : F.E r a with
          | none => rw [z] at h; cases h
          | some x =>
            rw [z] at h
            cases h
            have st := star_of (es := []) (env := X.env) (S.star z)
            refine (sndI_rng1 (S.E z C) (moE C.mo x) g1 hm st).mono fun σ H R ⟨env, os, B, α, hs, es, h⟩ => ⟨env, os, B, α, hs, es, ?_⟩
            simp only [wpI, wpE] at h
            refine moE C.mo x h fun r1 os1 h => ?_
            cases z1 : r1.s with
            | o k => rw [z1] at h; exact h.elim
            | d d =>
              rw [z1] at h
              cases d with
              | int b => exact ⟨h.1.2.2, h.2⟩
              | _ => exact h.elim
        · rename_i a b
          split at h
          · rename_i u v h1 h2
            cases h
            simp only [wpI]
            refine sndI_rng2 (S.E h1 C) (S.E h2 C) (moE C.mo u) (moE C.mo v) g1 hm ?_ (star_of (S.star h2))
            rw [star_of (S.star h1), star_of (S.star h2)]
            rfl
          · cases h
        · cases h
      split at h
      · rename_i e; subst e
        have hm := C.blt "enumerate" (by decide +kernel)
        split at h
        · rename_i a
          split at h
          · rename_i ht
            cases z : F.E r a with
            | none => rw [z] at h; cases h
            | some x =>
              rw [z] at h
              cases h
              cases tg <;> simp [isTup] at ht
              simp only [wpI]
              exact sndI_enm (S.E z C) (moE C.mo x) g1 hm (star_of (es := []) (S.star z))
          · cases h
        · cases h
      split at h
      · rename_i e; subst e
        have hm := C.blt "zip" (by decide +kernel)
        split at h
        · rename_i a b
          split at h
          · rename_i ht
            cases z : esOf F r [a, b] with
            | none => rw [z] at h; cases h
            | some xs =>
              rw [z] at h
              cases h
              cases tg <;> simp [isTup] at ht
              have pa := esOf_snd S C z
              simp only [List.all_cons, Bool.and_eq_true] at hst
              refine (RZ.pi_zipA g1 hm pa (star_of hst.1) (back_any (star_all (by simp [hst.2.1])))).mono fun σ H R ⟨env, os, B, α, hs, es, h⟩ => ⟨env, os, B, α, hs, es, ?_⟩
              simp only [wpI] at h
              refine moEs C.mo xs (wpEs_len C.mo xs h) fun ss os1 ⟨hlen, h⟩ vs H1 B1 e1 s1 x1 => ?_
              rw [esOf_len z] at hlen
              unfold zipW at h
              split at h
              · cases x1 with
                | cons x1 r1 => cases r1 with
                  | cons x2 r2 =>
                    cases r2
                    cases x1 with
                    | lst h1 q1 => cases x2 with
                      | lst h2 q2 => exact ⟨_, _, _, _, rfl, .inl ⟨SqL.of (s1.ex _ _ h1), SqL.of (s1.ex _ _ h2), h _ _ B1 e1 s1 (wk_zip h1 q1 h2 q2)⟩⟩
              · cases x1 with
                | cons x1 r1 => cases r1 with
                  | cons x2 r2 =>
                    cases r2
                    cases x1 with
                    | tup h1 q1 => cases x2 with
                      | tup h2 q2 => exact ⟨_, _, _, _, rfl, .inr ⟨SqT.of (s1.ex _ _ h1), SqT.of (s1.ex _ _ h2), h _ _ B1 e1 s1 (wk_zipT h1 q1 h2 q2)⟩⟩
              · simp at hlen
              · exact h.elim
          · cases h
        · rename_i a b c
          split at h
          · rename_i ht
            cases z : esOf F r [a, b, c] with
            | none => rw [z] at h; cases h
            | some xs =>
              rw [z] at h
              cases h
              cases tg <;> simp [isTup] at ht
              have pa := esOf_snd S C z
              simp only [List.all_cons, Bool.and_eq_true] at hst
              refine (pi_zip3 g1 hm pa (star_of hst.1) (back_any (star_all (by simp [hst.2.1, hst.2.2.1])))).mono fun σ H R ⟨env, os, B, α, hs, es, h⟩ => ⟨env, os, B, α, hs, es, ?_⟩
              simp only [wpI] at h
              refine moEs C.mo xs (wpEs_len C.mo xs h) fun ss os1 ⟨hlen, h⟩ vs H1 B1 e1 s1 x1 => ?_
              rw [esOf_len z] at hlen
              unfold zipW at h
              split at h
              · simp at hlen
              · simp at hlen
              · cases x1 with
                | cons x1 r1 => cases r1 with
                  | cons x2 r2 => cases r2 with
                    | cons x3 r3 =>
                      cases r3
                      cases x1 with
                      | tup h1 q1 => cases x2 with
                        | tup h2 q2 => cases x3 with
                          | tup h3 q3 => exact ⟨_, _, _, _, _, _, rfl, ⟨SqT.of (s1.ex _ _ h1), SqT.of (s1.ex _ _ h2), SqT.of (s1.ex _ _ h3)⟩, h _ _ B1 e1 s1 (wk_zip3 h1 q1 h2 q2 h3 q3)⟩
              · exact h.elim
          · cases h
        · cases h
      · exact trSeq_snd S C h
    · exact trSeq_snd S C h
  · exact trSeq_snd S C h
omit C in
theorem trLc_read {elt : Expr} {scope : Scope} {gens : List Comprehension} {y : Xp} (h : trLc F r elt scope gens = some y) : ∃ tg iter ifs x t src c, gens = [⟨tg, iter, ifs, 0⟩] ∧ y = .lc x t src c ((ownOf r.N scope).map (·.2)) ∧ trI F r tg iter = some src ∧
    BlkOk r.N r.sc scope (ownOf r.N scope) ∧ scope.kind = .function ∧ notSet iter = true ∧ tgIn ((ownOf r.N scope).map (·.2)) t = true ∧ trTg (r.blk scope) tg = some t ∧ F.E (r.blk scope) elt = some x ∧ (∀ {X : Cx} {T : Tab} {k : Nat}, Ctx X (r.blk scope) T k → PTs X ifs (liftT (wpT T c))) := by
  unfold trLc at h
  split at h
  · rename_i tg iter ifs
    simp only at h
    split at h
    · rename_i hc
      simp only [Bool.and_eq_true, decide_eq_true_eq] at hc
      obtain ⟨⟨hb, hk⟩, hns⟩ := hc
      split at h
      · rename_i src t x h1 h2 h3
        split at h
        · rename_i hin
          split at h
          · cases h
            refine ⟨tg, iter, [], x, t, src, .tt, rfl, rfl, h1, blkOk_by hb, hk, hns, hin, h2, h3, fun {X T k} C => ?_⟩
            refine ⟨fun pins s σ H Q I ⟨env, os, B, α, hs, es, h⟩ => pts_nil.run pins s σ H Q I ?_⟩
            simp only [wpT] at h
            exact h H B (Ext.refl _ _ _) hs
          · rename_i c
            cases z : F.T (r.blk scope) c with
            | none => rw [z] at h; cases h
            | some c' =>
              rw [z] at h
              cases h
              exact ⟨tg, iter, [c], x, t, src, c', rfl, rfl, h1, blkOk_by hb, hk, hns, hin, h2, h3, fun {X T k} C => pts_one (S.T z C)⟩
          · cases h
        · cases h
      · cases h
    · cases h
  · cases h
theorem notSet_fold {e : Expr} (h : notSet e = true) (x : Value) : foldedSetIterable e X.env x = pure x := folded_of (by cases e <;> first | rfl | (simp [notSet] at h)) x
theorem trLc_snd {elt : Expr} {scope : Scope} {gens : List Comprehension} {y : Xp} {pos : Pos} (h : trLc F r elt scope gens = some y) : PE X (.ListComp elt gens scope pos) (liftE (wpE T y)) := by
  obtain ⟨tg, iter, ifs, x, t, src, c, rfl, rfl, h1, hb, hk, hns, hin, h2, h3, h4⟩ := trLc_read S h
  refine (pe_lc (own := ownOf r.N scope) (g := gOf X.K t) (tt := liftT (wpT T c)) (te := liftE (wpE T x)) C.calm C.nd' (trI_snd S C h1) (by rw [C.names, C.scope]; exact hb) (fun s H D cl fp => trTg_snd (C.blk hk s H D cl fp) h2) (fun s H D cl fp => h4 (C.blk hk s H D cl fp)) (fun s H D cl fp => S.E h3 (C.blk hk s H D cl fp)) (notSet_fold S C hns)).mono fun σ H Q h => ?_
  exact snd_lc_read (X := X) (moI C.mo src) (moT C.mo c) (moE C.mo x) hin (by simp only [wpE] at h; exact h)
end
end N66

/-! N66, all expressions; statements: the translation and that it is sound. -/
namespace N66
open PySem PySem.Spec L2
section
variable {F : TrF} (S : Snd F) {X : Cx} {r : Tr} {T : Tab} {k : Nat} (C : Ctx X r T k)
include S C
theorem stepE_snd {e : Expr} {y : Xp} (h : stepE F r e = some y) : PE X e (liftE (wpE T y)) := by
  unfold stepE at h
  split at h
  · rename_i x p
    split at h
    · rename_i i hi
      cases h
      obtain ⟨a1, a2, a3, a4⟩ := C.var hi
      exact snd_var a1 a2 a3 a4
    · split at h
      · rename_i hg
        cases z : r.cs.lookup x with
        | none => rw [z] at h; cases h
        | some n =>
          rw [z] at h
          cases h
          obtain ⟨g1, g2, g3⟩ := C.gl hg
          obtain ⟨t, ht⟩ := C.cst x n z
          exact snd_cst (pe_glob (v := .int n) g1 ht ⟨t, rfl⟩ g2) fun B => .int n
      · cases h
  · cases h; exact snd_cst pe_int fun B => .int _
  · cases h; exact snd_cst pe_bl fun B => .bl _
  · cases h; exact snd_cst pe_non fun B => .non
  · cases h; exact snd_cst pe_str fun B => .str _
  · split at h
    · rename_i x y h1 h2
      cases h
      simp only [wpE]
      exact snd_bin _ (S.E h1 C) (S.E h2 C) (moE C.mo x) (moE C.mo y)
    · cases h
  · rename_i a p
    cases z : F.E r a with
    | none => rw [z] at h; cases h
    | some x =>
      rw [z] at h
      cases h
      simp only [wpE]
      exact snd_neg (S.E z C) (moE C.mo x)
  · rename_i a p
    cases z : F.E r a with
    | none => rw [z] at h; cases h
    | some x =>
      rw [z] at h
      cases h
      simp only [wpE]
      exact snd_not (S.E z C) (moE C.mo x)
  · split at h
    · cases h
    · rename_i hm
      split at h
      · rename_i x y h1 h2
        cases h
        simp only [wpE]
        exact (snd_cmp C.room _ (S.E h1 C) (S.E h2 C) (moE C.mo x) (moE C.mo y) (by simpa using hm)).1
      · cases h
  · split at h
    · cases h
    · rename_i hm
      split at h
      · rename_i x y z h1 h2 h3
        cases h
        simp only [wpE]
        exact (snd_cmp2 C.room _ _ (S.E h1 C) (S.E h2 C) (S.E h3 C) (moE C.mo x) (moE C.mo y) (moE C.mo z) (by simpa using hm)).1
      · cases h
  · exact andE_snd S C h
  · exact orE_snd S C h
  · split at h
    · rename_i t x y h1 h2 h3
      cases h
      simp only [wpE]
      exact snd_ite (S.T h1 C) (S.E h2 C) (S.E h3 C) (moT C.mo t) (moE C.mo x) (moE C.mo y)
    · cases h
  · rename_i es kk p
    split at h
    · cases z : esOf F r es with
      | none => rw [z] at h; cases h
      | some xs =>
        rw [z] at h
        cases h
        simp only [wpE]
        exact snd_tup (esOf_snd S C z) (moEs C.mo xs)
    · cases h
  · rename_i es p
    split at h
    · cases z : esOf F r es with
      | none => rw [z] at h; cases h
      | some xs =>
        rw [z] at h
        cases h
        simp only [wpE]
        exact snd_lst (esOf_snd S C z) (moEs C.mo xs)
    · cases h
  · exact trSub_snd S C h
  · exact trCall_snd S C h
  · exact trLc_snd S C h
  · split at h
    · rename_i ns d h1 h2
      split at h
      · rename_i hl
        cases h
        exact snd_d1 (Room.units0 C.room) h1 h2 hl
      · cases h
    · cases h
  · cases h
theorem stepT_snd {e : Expr} {y : Ts} (h : stepT F r e = some y) : PT X e (liftT (wpT T y)) := by
  unfold stepT at h
  split at h
  · exact (andT_snd S C h).pt
  · exact (orT_snd S C h).pt
  · rename_i a p
    cases z : F.T r a with
    | none => rw [z] at h; cases h
    | some x =>
      rw [z] at h
      cases h
      simp only [wpT]
      exact sndT_not (S.T z C) (moT C.mo x)
  · split at h
    · cases h
    · rename_i hm
      split at h
      · rename_i x y h1 h2
        cases h
        refine (snd_cmp C.room _ (S.E h1 C) (S.E h2 C) (moE C.mo x) (moE C.mo y) (by simpa using hm)).2.mono fun σ H Q h => ?_
        simp only [wpT, wpE] at h
        exact h
      · cases h
  · split at h
    · cases h
    · rename_i hm
      split at h
      · rename_i x y z h1 h2 h3
        cases h
        refine (snd_cmp2 C.room _ _ (S.E h1 C) (S.E h2 C) (S.E h3 C) (moE C.mo x) (moE C.mo y) (moE C.mo z) (by simpa using hm)).2.mono fun σ H Q h => ?_
        simp only [wpT, wpE] at h
        exact h
      · cases h
  · split at h
    · rename_i hp
      cases z : F.E r _ with
      | none => rw [z] at h; cases h
      | some x =>
        rw [z] at h
        cases h
        simp only [wpT]
        exact sndT_val (S.E z C) (moE C.mo x) fun _ => true_of hp
    · cases h
end
theorem stepE_star {F : TrF} {r : Tr} {e : Expr} {y : Xp} (h : stepE F r e = some y) : notStar e = true := by
  cases e <;> first | rfl | (unfold stepE at h; cases h)
theorem stepX_star {F : TrF} {r : Tr} {e : Expr} {y : Xp} (h : stepX F r e = some y) : notStar e = true := by
  cases e <;> first | rfl | (unfold stepX at h; cases h)
theorem stepO_star {F : TrF} {r : Tr} {e : Expr} {y : Xp} (h : stepO F r e = some y) : notStar e = true := by
  unfold stepO at h
  split at h
  · split at h
    · assumption
    · cases h
  · split at h
    · rename_i z
      exact stepX_star z
    · exact stepE_star h
theorem stepX_snd {F : TrF} (S : Snd F) {X : Cx} {r : Tr} {T : Tab} {k : Nat} (C : Ctx X r T k) {e : Expr} {y : Xp} (h : stepX F r e = some y) : PE X e (liftE (wpE T y)) := by
  unfold stepX at h
  split at h
  · rename_i f p1 g p2 a p3 p4
    split at h
    · rename_i hg
      simp only [Bool.and_eq_true] at hg
      obtain ⟨f1, f2, f3⟩ := C.gl hg.1
      obtain ⟨g1, g2, g3⟩ := C.gl hg.2
      split at h
      · rename_i hn
        obtain ⟨rfl, rfl⟩ := hn
        cases z : F.E r a with
        | none => rw [z] at h; cases h
        | some x =>
          rw [z] at h
          cases h
          simp only [wpE, wpEs]
          exact snd_srtSet C.calm f1 (C.blt "sorted" (by decide +kernel)) g1 (C.blt "set" (by decide +kernel)) (S.E z C) (moE C.mo x) (star_of (es := []) (S.star z))
      · split at h
        · rename_i hn
          obtain ⟨rfl, rfl⟩ := hn
          cases z : F.E r a with
          | none => rw [z] at h; cases h
          | some x =>
            rw [z] at h
            cases h
            simp only [wpE]
            exact snd_tupRg C.calm f1 (C.blt "tuple" (by decide +kernel)) g1 (C.blt "range" (by decide +kernel)) (S.E z C) (moE C.mo x) (star_of (es := []) (S.star z))
        · cases h
    · cases h
  · cases h
theorem stepO_snd {F : TrF} (S : Snd F) {X : Cx} {r : Tr} {T : Tab} {k : Nat} (C : Ctx X r T k) {e : Expr} {y : Xp} (h : stepO F r e = some y) : PE X e (liftE (wpE T y)) := by
  unfold stepO at h
  split at h
  · rename_i z
    split at h
    · cases h
      exact C.orc _ _ z
    · cases h
  · split at h
    · rename_i z
      cases h
      exact stepX_snd S C z
    · exact stepE_snd S C h
theorem trF_snd : ∀ n, Snd (trF n)
  | 0 => ⟨fun h => (by cases h), fun h => (by cases h), fun h => (by cases h)⟩
  | n + 1 => ⟨fun h _ _ _ C => stepO_snd (trF_snd n) C h, fun h _ _ _ C => stepT_snd (trF_snd n) C h, fun h => stepO_star h⟩
end N66

/-! N66, statements: the translation. -/
namespace N66
open PySem PySem.Spec L2

def Tr.isO (r : Tr) (x : Str) : Bool := r.ob.contains x || r.tk.contains x || r.dk.contains x
def locB (sc : Scope) (x : Str) : Bool := match sc.names.lookup x with
  | some .local => true
  | _ => false
theorem locB_of {sc : Scope} {x : Str} : locB sc x = true ↔ sc.names.lookup x = some .local := by
  unfold locB
  split
  · rename_i e; simp [e]
  · rename_i e; simp; exact e
def nmsOf : List Expr → Option (List (Str × Nat))
  | [] => some []
  | .Name x p :: es => match nmsOf es with
    | some l => some ((x, p.line) :: l)
    | none => none
  | _ => none
/-- the stores are swapped: all plain local names, on one line -/
def swB (sc : Scope) (ts es : List Expr) : Bool := match ts with
  | [.Name x px, .Name y py] => es.length == 2 && locB sc x && locB sc y && (py.line == px.line) && decide (x ≠ y) && es.all notStar && !es.all (foldedForSure 8) && !es.all (constantsAlone 8)
  | [.Name x px, .Name y py, .Name z pz] => es.length == 3 && locB sc x && locB sc y && locB sc z && (py.line == px.line) && (pz.line == px.line) && decide (x ≠ y) && decide (x ≠ z) && decide (y ≠ z) && es.all notStar && !es.all (foldedForSure 8) && !es.all (constantsAlone 8)
  | _ => false
def nswB (sc : Scope) (ts es : List Expr) : Bool := match ts with
  | [.Name x _, .Name y _] => !(locB sc x && locB sc y) || es.all (foldedForSure 8)
  | [.Name x _, .Name y _, .Name z _] => !(locB sc x && locB sc y && locB sc z) || es.all (foldedForSure 8)
  | [.Name _ _, .Name _ _, .Name _ _, .Name _ _] => true
  | _ => false
theorem block_fn {env : PySem.Env} (hk : env.scope.kind = .function) : env.blockKind = .function := by unfold Env.blockKind; rw [hk]; rfl
theorem star_none {es : List Expr} (h : es.all notStar = true) : (es.any fun | .Starred .. => true | _ => false) = false := by
  rw [List.any_eq_false]
  intro e he
  have := List.all_eq_true.mp h e he
  cases e <;> first | (simp [notStar] at this; done) | simp
theorem kindOf_loc {env : PySem.Env} {x : Str} (h : env.scope.names.lookup x = some .local) : (env.kindOf x == some NameKind.local) = true := by
  unfold Env.kindOf
  rw [h]
  rfl
theorem kindOf_nloc {env : PySem.Env} {x : Str} (h : locB env.scope x = false) : (env.kindOf x == some NameKind.local) = false := by
  unfold Env.kindOf
  unfold locB at h
  split at h
  · cases h
  · rename_i e
    cases z : env.scope.names.lookup x with
    | none => rfl
    | some k => cases k <;> first | rfl | exact absurd z e
theorem sw_two {env : PySem.Env} {x y : Str} {px py pt pt2 : Pos} {kt k2 : Nat} {es : List Expr} (hk : env.scope.kind = .function) (h : swB env.scope [.Name x px, .Name y py] es = true) : swappedStores [.Tuple [.Name x px, .Name y py] kt pt] (.Tuple es k2 pt2) env = pure (some [x, y]) := by
  unfold swB at h
  simp only [Bool.and_eq_true, Bool.not_eq_true', decide_eq_true_eq, beq_iff_eq] at h
  obtain ⟨⟨⟨⟨⟨⟨⟨h1, h2⟩, h3⟩, h4⟩, h5⟩, h6⟩, h7⟩, h8⟩ := h
  have k1 := kindOf_loc (locB_of.mp h2)
  have k2 := kindOf_loc (locB_of.mp h3)
  have e1 : (py.line == px.line) = true := by simpa using h4
  have hed : ([x, y] : List Str).eraseDups = [x, y] := by
    have : (y == x) = false := by simpa using (Ne.symm h5)
    simp [List.eraseDups_cons, this]
  unfold swappedStores
  simp only [block_fn hk, h1, List.length_cons, List.length_nil, List.head?_cons, Option.map_some, Option.getD_some, Expr.pos, List.filterMap_cons, List.filterMap_nil, k1, k2, e1, beq_self_eq_true, Bool.and_self, if_true, hed, h7, h8]
  rw [if_neg (by decide)]
  split
  · rename_i z
    exact absurd ((star_none h6).symm.trans z) Bool.false_ne_true
  · rw [if_neg (by decide), if_neg (by decide), if_neg (by decide)]
theorem sw_three {env : PySem.Env} {x y z : Str} {px py pz pt pt2 : Pos} {kt k2 : Nat} {es : List Expr} (hk : env.scope.kind = .function) (h : swB env.scope [.Name x px, .Name y py, .Name z pz] es = true) : swappedStores [.Tuple [.Name x px, .Name y py, .Name z pz] kt pt] (.Tuple es k2 pt2) env = pure (some [x, y, z]) := by
  unfold swB at h
  simp only [Bool.and_eq_true, Bool.not_eq_true', decide_eq_true_eq, beq_iff_eq] at h
  obtain ⟨⟨⟨⟨⟨⟨⟨⟨⟨⟨⟨h1, h2⟩, h3⟩, h3'⟩, h4⟩, h4'⟩, h5⟩, h5'⟩, h5''⟩, h6⟩, h7⟩, h8⟩ := h
  have k1 := kindOf_loc (locB_of.mp h2)
  have k2 := kindOf_loc (locB_of.mp h3)
  have k3 := kindOf_loc (locB_of.mp h3')
  have e1 : (py.line == px.line) = true := by simpa using h4
  have e2 : (pz.line == px.line) = true := by simpa using h4'
  have hed : ([x, y, z] : List Str).eraseDups = [x, y, z] := by
    have a1 : (y == x) = false := by simpa using (Ne.symm h5)
    have a2 : (z == x) = false := by simpa using (Ne.symm h5')
    have a3 : (z == y) = false := by simpa using (Ne.symm h5'')
    simp [List.eraseDups_cons, a1, a2, a3]
  unfold swappedStores
  simp only [block_fn hk, h1, List.length_cons, List.length_nil, List.head?_cons, Option.map_some, Option.getD_some, Expr.pos, List.filterMap_cons, List.filterMap_nil, k1, k2, k3, e1, e2, beq_self_eq_true, Bool.and_self, if_true, hed, h7, h8]
  rw [if_neg (by decide)]
  split
  · rename_i z
    exact absurd ((star_none h6).symm.trans z) Bool.false_ne_true
  · rw [if_neg (by decide), if_neg (by decide), if_neg (by decide)]
theorem nsw_two {env : PySem.Env} {x y : Str} {px py pt pt2 : Pos} {kt k2 : Nat} {es : List Expr} (h : nswB env.scope [.Name x px, .Name y py] es = true) : swappedStores [.Tuple [.Name x px, .Name y py] kt pt] (.Tuple es k2 pt2) env = pure none := by
  unfold nswB at h
  simp only [Bool.or_eq_true, Bool.not_eq_true', Bool.and_eq_false_iff] at h
  unfold swappedStores
  simp only [List.length_cons, List.length_nil, List.head?_cons, Option.map_some, Option.getD_some, Expr.pos, List.filterMap_cons, List.filterMap_nil]
  split
  · rfl
  · split
    · rfl
    · rcases h with h | h
      · rcases h with h | h
        · simp only [kindOf_nloc h, Bool.false_and]
          rcases Bool.eq_false_or_eq_true (env.kindOf y == some NameKind.local && py.line == px.line) with hb | hb <;> simp only [hb] <;> rfl
        · simp only [kindOf_nloc h, Bool.false_and]
          rcases Bool.eq_false_or_eq_true (env.kindOf x == some NameKind.local && px.line == px.line) with hb | hb <;> simp only [hb] <;> rfl
      · rw [if_pos h]
        exact ite_self _
theorem nsw_three {env : PySem.Env} {x y z : Str} {px py pz pt pt2 : Pos} {kt k2 : Nat} {es : List Expr} (h : nswB env.scope [.Name x px, .Name y py, .Name z pz] es = true) : swappedStores [.Tuple [.Name x px, .Name y py, .Name z pz] kt pt] (.Tuple es k2 pt2) env = pure none := by
  unfold nswB at h
  simp only [Bool.or_eq_true, Bool.not_eq_true', Bool.and_eq_false_iff] at h
  unfold swappedStores
  simp only [List.length_cons, List.length_nil, List.head?_cons, Option.map_some, Option.getD_some, Expr.pos, List.filterMap_cons, List.filterMap_nil]
  split
  · rfl
  · split
    · rfl
    · rcases h with h | h
      · rcases h with (h | h) | h
        · simp only [kindOf_nloc h, Bool.false_and]
          rcases Bool.eq_false_or_eq_true (env.kindOf y == some NameKind.local && py.line == px.line) with hb | hb <;> rcases Bool.eq_false_or_eq_true (env.kindOf z == some NameKind.local && pz.line == px.line) with hc | hc <;> simp only [hb, hc] <;> rfl
        · simp only [kindOf_nloc h, Bool.false_and]
          rcases Bool.eq_false_or_eq_true (env.kindOf x == some NameKind.local && px.line == px.line) with hb | hb <;> rcases Bool.eq_false_or_eq_true (env.kindOf z == some NameKind.local && pz.line == px.line) with hc | hc <;> simp only [hb, hc] <;> rfl
        · simp only [kindOf_nloc h, Bool.false_and]
          rcases Bool.eq_false_or_eq_true (env.kindOf x == some NameKind.local && px.line == px.line) with hb | hb <;> rcases Bool.eq_false_or_eq_true (env.kindOf y == some NameKind.local && py.line == px.line) with hc | hc <;> simp only [hb, hc] <;> rfl
      · rw [if_pos h]
        exact ite_self _
theorem nsw_four {env : PySem.Env} {x y z u : Str} {px py pz pu pt pt2 : Pos} {kt k2 : Nat} {es : List Expr} : swappedStores [.Tuple [.Name x px, .Name y py, .Name z pz, .Name u pu] kt pt] (.Tuple es k2 pt2) env = pure none := by
  unfold swappedStores
  rfl
end N66

/-! N66, statements: the translation, and that it is sound. -/
namespace N66
open PySem PySem.Spec L2

def psOf (F : TrF) (r : Tr) : List Expr → List Expr → Option Ps
  | [], [] => some .nil
  | .Name x _ :: ts, e :: es => match trSt r x, F.E r e, psOf F r ts es with
    | some i, some a, some ps => some (.cons i (r.isO x) a ps)
    | _, _, _ => none
  | _, _ => none
def lcSwap (sc : Scope) (x : Str) (p : Pos) : Expr → Bool
  | .ListComp _ _ scope pos => locB sc x && (p.line == pos.line) && !(scope.names.any fun (n, k) => n == x && (k == .local || k == .cell))
  | _ => false
def distinct : List Nat → Bool
  | [i, j] => decide (i ≠ j)
  | [i, j, l] => decide (i ≠ j) && decide (i ≠ l) && decide (j ≠ l)
  | [_, _, _, _] => true
  | _ => false
def lateBase : Expr → Bool
  | .Call (.Name _ _) (_ :: _) [] _ => true
  | _ => false
structure TrS where
  S : Tr → List Stmt → Option Ss
def trAsgN (F : TrF) (r : Tr) (x : Str) (e : Expr) : Option Sm := match trSt r x with
  | none => none
  | some i => match e with
    | .Dict [] [] _ => if r.tk.contains x then some (.setO i (.dct (.dT []))) else if r.dk.contains x then some (.setO i (.dct (.dK []))) else none
    | .ListComp elt gens scope _ => match trLc F r elt scope gens with
      | some a => if r.isO x then some (.setO i a) else some (.set i a)
      | none => none
    | _ => if notComp e then match F.E r e with
        | some a => if r.isO x then some (.setO i a) else some (.set i a)
        | none => none
      else none
def trAsgT (F : TrF) (r : Tr) (ts : List Expr) (e : Expr) : Option Sm := match e with
  | .Tuple es _ _ => if swB r.sc ts es || nswB r.sc ts es then match psOf F r ts es, tgJs r ts with
      | some ps, some js => if distinct js && es.all notStar then some (.par ps) else none
      | _, _ => none
    else none
  | _ => if notComp e then match F.E r e, tgJs r ts with
      | some a, some js => some (.unp js a)
      | _, _ => none
    else none
def trX (F : TrF) (r : Tr) (e : Expr) : Option Sm := match e with
  | .Call (.Attribute (.Name x _) m ap) [a] [] cp => if m = "append" ∧ (ap.endLine == cp.line) = true then match trVar r x, F.E r a with
      | some i, some y => some (.app i y)
      | _, _ => none
    else none
  | .Call (.Attribute (.Name x _) m ap) [] [] cp => if m = "pop" ∧ (ap.endLine == cp.line) = true then (trVar r x).map .pop else none
  | .Call (.Attribute o m ap) [a] [] cp => if m = "append" ∧ (ap.endLine == cp.line) = true ∧ lateBase o = true then match F.E r o, F.E r a with
      | some y, some z => some (.appN y z)
      | _, _ => none
    else none
  | .Call (.Attribute o m ap) [] [] cp => if m = "pop" ∧ (ap.endLine == cp.line) = true ∧ lateBase o = true then (F.E r o).map .popN else none
  | e => if notComp e then (F.E r e).map .drop else none
def stepS (F : TrF) (G : TrS) (r : Tr) : Stmt → Option Sm
  | .Expr e _ => trX F r e
  | .Assign [.Name x _] e _ => trAsgN F r x e
  | .Assign [.Tuple ts _ _] e _ => trAsgT F r ts e
  | .Assign [.Subscript (.Name x _) i _] e _ => if notSlice i && notComp e then match trVar r x, F.E r i, F.E r e with
      | some n, some k, some v => if r.tk.contains x || r.dk.contains x then some (.stD n k v) else some (.stL n k v)
      | _, _, _ => none
    else none
  | .AugAssign (.Name x _) op e _ => match trSt r x, F.E r e with
    | some i, some a => if r.isO x then (if op = .Add then some (.ext i a) else none) else if op = .Add ∨ op = .Sub ∨ op = .Mult then some (.aug i op a) else none
    | _, _ => none
  | .If c a b _ => match F.T r c, G.S r a, G.S r b with
    | some t, some x, some y => some (.iff t x y)
    | _, _, _ => none
  | .For tg iter b [] _ => if notSet iter then match trI F r tg iter, trTg r tg, G.S r b with
      | some s, some t, some x => some (.for_ t s x)
      | _, _, _ => none
    else none
  | .While c b [] _ => match F.T r c, G.S r b with
    | some t, some x => some (.whl t x)
    | _, _ => none
  | .Return (some e) _ => (F.E r e).map .ret
  | .Continue _ => some .cont
  | .Break _ => some .brk
  | _ => none
def listS (f : Stmt → Option Sm) : List Stmt → Option Ss
  | [] => some .nil
  | s :: ss => match f s, listS f ss with
    | some x, some y => some (.cons x y)
    | _, _ => none
def trSS (F : TrF) : Nat → TrS
  | 0 => ⟨fun _ _ => none⟩
  | n + 1 => ⟨fun r ss => listS (stepS F (trSS F n) r) ss⟩

theorem tgJs2 {r : Tr} {x y : Str} {px py : Pos} {js : List Nat} (h : tgJs r [.Name x px, .Name y py] = some js) : ∃ i j, trSt r x = some i ∧ trSt r y = some j ∧ js = [i, j] := by
  cases h1 : trSt r x with
  | none => simp [tgJs, h1] at h
  | some i => cases h2 : trSt r y with
    | none => simp [tgJs, h1, h2] at h
    | some j => simp [tgJs, h1, h2] at h; exact ⟨i, j, rfl, rfl, h.symm⟩
theorem tgJs3 {r : Tr} {x y z : Str} {px py pz : Pos} {js : List Nat} (h : tgJs r [.Name x px, .Name y py, .Name z pz] = some js) : ∃ i j l, trSt r x = some i ∧ trSt r y = some j ∧ trSt r z = some l ∧ js = [i, j, l] := by
  cases h1 : trSt r x with
  | none => simp [tgJs, h1] at h
  | some i => cases h2 : trSt r y with
    | none => simp [tgJs, h1, h2] at h
    | some j => cases h3 : trSt r z with
      | none => simp [tgJs, h1, h2, h3] at h
      | some l => simp [tgJs, h1, h2, h3] at h; exact ⟨i, j, l, rfl, rfl, rfl, h.symm⟩

structure SndS (G : TrS) : Prop where
  S : ∀ {r : Tr} {e : List Stmt} {x : Ss}, G.S r e = some x → ∀ {X : Cx} {T : Tab} {k : Nat}, Ctx X r T k → PSs X e (liftS (wpSs T x))
section
variable {F : TrF} (S : Snd F) {G : TrS} (SG : SndS G) {X : Cx} {r : Tr} {T : Tab} {k : Nat} (C : Ctx X r T k)
include C
theorem Ctx.kindX : X.env.scope.kind = .function := by rw [C.scope]; exact C.kind
include S
theorem psOf_snd : ∀ {ts es : List Expr} {ps : Ps} {js : List Nat}, psOf F r ts es = some ps → tgJs r ts = some js → PA X es (liftP (wpP T ps)) ∧ (∀ env os Q, wpP T ps env os Q → wpP T ps env os fun ds os' => ds.map (·.1) = js ∧ Q ds os') ∧ Mo (wpP T ps)
  | [], [], _, _, h, h' => by
    cases h
    cases h'
    refine ⟨?_, fun env os Q h => ?_, fun _ _ _ _ h m => moP C.mo _ h m⟩
    · simp only [wpP]; exact sndP_nil
    · simp only [wpP] at h ⊢; exact ⟨rfl, h⟩
  | t :: ts, e :: es, _, _, h, h' => by
    unfold psOf at h
    split at h
    · rename_i z; cases z
    · rename_i x p ts' e' es' z1 z2
      cases z1
      cases z2
      split at h
      · rename_i i a ps h1 h2 h3
        cases h
        unfold tgJs at h'
        simp only [h1] at h'
        split at h'
        · rename_i i' js g1 g2
          cases g1
          cases h'
          obtain ⟨b1, b2, b3⟩ := psOf_snd h3 g2
          refine ⟨?_, fun env os Q h => ?_, fun _ _ _ _ h m => moP C.mo _ h m⟩
          · simp only [wpP]
            exact sndP_cons (S.E h2 C) b1 (moE C.mo a) b3 (star_of (S.star h2))
          · simp only [wpP] at h ⊢
            exact moE C.mo a h fun _ _ h => newW_mo h fun _ _ h => moP C.mo ps (b2 _ _ _ h) fun _ _ h => ⟨by rw [List.map_cons, h.1], h.2⟩
        · cases h'
      · cases h
    · cases h
  | [], _ :: _, _, _, h, _ => by unfold psOf at h; cases h
  | _ :: _, [], _, _, h, _ => by
    unfold psOf at h
    split at h
    · rename_i z _; cases z
    · rename_i _ z; cases z
    · cases h
theorem trAsgN_snd {x : Str} {p pos : Pos} {e : Expr} {m : Sm} (h : trAsgN F r x e = some m) : PS X (.Assign [.Name x p] e pos) (liftS (wpS T m)) := by
  unfold trAsgN at h
  split at h
  · cases h
  · rename_i i hi
    obtain ⟨a1, a2, a3⟩ := C.sto hi
    split at h
    · split at h
      · cases h
        simp only [wpS]
        exact (ps_set C.nd' a1 a2 (snd_dT (T := T)) rfl a3).mono fun D σ H h => sndS_setO_read (moE C.mo _) h
      · split at h
        · cases h
          simp only [wpS]
          exact (ps_set C.nd' a1 a2 (snd_dK (T := T)) rfl a3).mono fun D σ H h => sndS_setO_read (moE C.mo _) h
        · cases h
    · rename_i elt gens scope lp
      split at h
      · rename_i a ha
        have mo := moE C.mo a
        have key : (∀ {t : DS}, (∀ D σ H, liftS t D σ H → tAsg (liftE (wpE T a)) (gName i) D σ H) → PS X (.Assign [.Name x p] (.ListComp elt gens scope lp) pos) (liftS t)) := by
          intro t ht
          by_cases hsw : lcSwap r.sc x p (.ListComp elt gens scope lp) = true
          · unfold lcSwap at hsw
            simp only [Bool.and_eq_true, Bool.not_eq_true'] at hsw
            obtain ⟨⟨w1, w2⟩, w3⟩ := hsw
            have hl : X.env.scope.names.lookup x = some .local := by rw [C.scope]; exact locB_of.mp w1
            obtain ⟨tg, iter, ifs, y, tt, src, c, rfl, rfl, h1, hb, hk, hns, hin, h2, h3, h4⟩ := trLc_read S ha
            refine (ps_setLc (own := ownOf r.N scope) (g := gOf X.K tt) (tt := liftT (wpT T c)) (te := liftE (wpE T y)) C.calm C.nd' a1 hl (sw_true (Ctx.kindX C) hl w2 w3) (trI_snd S C h1) (by rw [C.names, C.scope]; exact hb) (fun s H D cl fp => trTg_snd (C.blk hk s H D cl fp) h2) (fun s H D cl fp => h4 (C.blk hk s H D cl fp)) (fun s H D cl fp => S.E h3 (C.blk hk s H D cl fp)) (notSet_fold S C hns)).mono fun D σ H h => ?_
            have h5 := ht D σ H h
            exact snd_lc_read (X := X) (moI C.mo src) (moT C.mo c) (moE C.mo y) hin (by
              unfold tAsg at h5
              simp only [wpE] at h5
              exact h5)
          · refine (ps_set C.nd' a1 a2 (trLc_snd S C ha) ?_ a3).mono ht
            have e0 : swapsWith (.ListComp elt gens scope lp) (some (.Name x p)) pos.line X.env = pure (X.env.blockKind == .function && X.env.kindOf x == some .local && p.line == lp.line && !(scope.names.any fun (n, k) => n == x && (k == .local || k == .cell))) := rfl
            rw [e0]
            congr 1
            have e1 : (X.env.kindOf x == some NameKind.local) = locB r.sc x := by
              cases hl : locB r.sc x with
              | true => exact kindOf_loc (by rw [C.scope]; exact locB_of.mp hl)
              | false => exact kindOf_nloc (by rw [C.scope]; exact hl)
            rw [e1, block_fn (Ctx.kindX C)]
            unfold lcSwap at hsw
            rw [Bool.not_eq_true] at hsw
            show (true && locB r.sc x && (p.line == lp.line) && _) = false
            rw [Bool.true_and]
            exact hsw
        split at h
        · cases h
          simp only [wpS]
          exact key fun D σ H h => sndS_setO_read mo h
        · cases h
          simp only [wpS]
          exact key fun D σ H h => sndS_set_read mo h
      · cases h
    · split at h
      · rename_i hn
        split at h
        · rename_i a ha
          have pe := S.E ha C
          have mo := moE C.mo a
          split at h
          · cases h
            simp only [wpS]
            exact (ps_set C.nd' a1 a2 pe (swap_no hn) a3).mono fun D σ H h => sndS_setO_read mo h
          · cases h
            simp only [wpS]
            exact (ps_set C.nd' a1 a2 pe (swap_no hn) a3).mono fun D σ H h => sndS_set_read mo h
        · cases h
      · cases h
theorem trAsgT_snd {ts : List Expr} {kt : Nat} {pt pos : Pos} {e : Expr} {m : Sm} (h : trAsgT F r ts e = some m) : PS X (.Assign [.Tuple ts kt pt] e pos) (liftS (wpS T m)) := by
  unfold trAsgT at h
  split at h
  · rename_i es k2 pt2
    split at h
    · rename_i hsw
      split at h
      · rename_i ps js h1 h2
        split at h
        · rename_i hd
          simp only [Bool.and_eq_true] at hd
          cases h
          obtain ⟨b1, b2, b3⟩ := psOf_snd S C h1 h2
          obtain ⟨c1, c2, c3⟩ := tgJs_snd C h2
          simp only [wpS]
          by_cases hs : swB r.sc ts es = true
          · have hs' := hs
            rw [← C.scope] at hs'
            unfold swB at hs
            split at hs
            · rename_i x px y py
              have hw := sw_two (pt := pt) (pt2 := pt2) (kt := kt) (k2 := k2) (Ctx.kindX C) hs'
              simp only [Bool.and_eq_true, Bool.not_eq_true', decide_eq_true_eq, beq_iff_eq] at hs
              obtain ⟨⟨⟨⟨⟨⟨⟨q1, q2⟩, q3⟩, _⟩, _⟩, _⟩, _⟩, _⟩ := hs
              match es, q1 with
              | [a, b], _ =>
                obtain ⟨i, j, g1, g3, rfl⟩ := tgJs2 h2
                have dd := hd.1
                unfold distinct at dd
                simp only [decide_eq_true_eq] at dd
                exact sndS_par2 C.calm C.nd' (C.sto g1).1 (C.sto g3).1 dd (by rw [C.scope]; exact locB_of.mp q2) (by rw [C.scope]; exact locB_of.mp q3) b1 b3 hw b2
            · rename_i x px y py zz pz
              have hw := sw_three (pt := pt) (pt2 := pt2) (kt := kt) (k2 := k2) (Ctx.kindX C) hs'
              simp only [Bool.and_eq_true, Bool.not_eq_true', decide_eq_true_eq, beq_iff_eq] at hs
              obtain ⟨⟨⟨⟨⟨⟨⟨⟨⟨⟨⟨q1, q2⟩, q3⟩, q4⟩, _⟩, _⟩, _⟩, _⟩, _⟩, _⟩, _⟩, _⟩ := hs
              match es, q1 with
              | [a, b, c], _ =>
                obtain ⟨i, j, l, g1, g3, g5, rfl⟩ := tgJs3 h2
                have dd := hd.1
                unfold distinct at dd
                simp only [Bool.and_eq_true, decide_eq_true_eq] at dd
                exact sndS_par3 C.calm C.nd' (C.sto g1).1 (C.sto g3).1 (C.sto g5).1 dd.1.1 dd.1.2 dd.2 (by rw [C.scope]; exact locB_of.mp q2) (by rw [C.scope]; exact locB_of.mp q3) (by rw [C.scope]; exact locB_of.mp q4) b1 b3 hw b2
            · cases hs
          · have hn : nswB r.sc ts es = true := by
              cases z : swB r.sc ts es with
              | true => exact absurd z hs
              | false => rw [z, Bool.false_or] at hsw; exact hsw
            have hw : swappedStores [.Tuple ts kt pt] (.Tuple es k2 pt2) X.env = pure none := by
              rw [← C.scope] at hn
              unfold nswB at hn
              split at hn
              · exact nsw_two (by unfold nswB; exact hn)
              · exact nsw_three (by unfold nswB; exact hn)
              · exact nsw_four
              · cases hn
            refine sndS_parT (js := js) (pg_tup C.calm c1 c2 c3) b1 b3 hw b2 ?_
            have dd := hd.1
            unfold distinct at dd
            split at dd
            · show 2 ≤ 100; omega
            · show 3 ≤ 100; omega
            · show 4 ≤ 100; omega
            · cases dd
        · cases h
      · cases h
    · cases h
  · rename_i hne
    split at h
    · rename_i hn
      split at h
      · rename_i a js h1 h2
        cases h
        obtain ⟨c1, c2, c3⟩ := tgJs_snd C h2
        simp only [wpS]
        refine sndS_unp (S.E h1 C) (moE C.mo a) (pg_tup C.calm c1 c2 c3) (show swapsWith e (some (.Tuple ts kt pt)) pos.line X.env = pure false from swap_no hn) ?_ rfl
        unfold swappedStores
        cases e <;> first | rfl | exact absurd rfl (hne _ _ _)
      · cases h
    · cases h
end
end N66

/-! N66, statements are sound; a def by its translated body. -/
namespace N66
open PySem PySem.Spec L2
section
variable {F : TrF} (S : Snd F) {G : TrS} (SG : SndS G) {X : Cx} {r : Tr} {T : Tab} {k : Nat} (C : Ctx X r T k)
include C S
omit S in
theorem peVar {x : Str} {i : Nat} {p : Pos} (h : trVar r x = some i) : PE X (.Name x p) (tVar i) := by
  obtain ⟨a1, a2, a3, a4⟩ := C.var h
  exact pe_var a1 a2 a3 a4
theorem late_ok {o : Expr} {m : Str} (h : lateBase o = true) : attributeBase o m X.env (eval o X.env) = eval o X.env := by
  unfold lateBase at h
  split at h
  · rfl
  · cases h
theorem trX_snd {e : Expr} {m : Sm} {pos : Pos} (h : trX F r e = some m) : PS X (.Expr e pos) (liftS (wpS T m)) := by
  unfold trX at h
  split at h
  · split at h
    · rename_i hm
      obtain ⟨rfl, hl⟩ := hm
      split at h
      · rename_i i y h1 h2
        cases h
        simp only [wpS]
        exact sndS_app (peVar C h1) (S.E h2 C) (moE C.mo y) hl (star_of (es := []) (S.star h2))
      · cases h
    · cases h
  · split at h
    · rename_i hm
      obtain ⟨rfl, hl⟩ := hm
      cases z : trVar r _ with
      | none => rw [z] at h; cases h
      | some i =>
        rw [z] at h
        cases h
        simp only [wpS]
        exact sndS_pop (peVar C z) hl
    · cases h
  · split at h
    · rename_i hm
      obtain ⟨rfl, hl, hb⟩ := hm
      split at h
      · rename_i y z h1 h2
        cases h
        simp only [wpS]
        exact sndS_appN (S.E h1 C) (S.E h2 C) (moE C.mo y) (moE C.mo z) (late_ok S C hb) hl (star_of (es := []) (S.star h2))
      · cases h
    · cases h
  · split at h
    · rename_i hm
      obtain ⟨rfl, hl, hb⟩ := hm
      cases z : F.E r _ with
      | none => rw [z] at h; cases h
      | some y =>
        rw [z] at h
        cases h
        simp only [wpS]
        exact sndS_popN (S.E z C) (moE C.mo y) (late_ok S C hb) hl
    · cases h
  · split at h
    · rename_i hn
      cases z : F.E r _ with
      | none => rw [z] at h; cases h
      | some y =>
        rw [z] at h
        cases h
        simp only [wpS]
        exact sndS_drop (S.E z C) (moE C.mo y) (swap_no hn)
    · cases h
include SG
omit S SG in
theorem passOwn : PassesOwn (model X.prog X.w) X.A X.env X.xe := by rw [C.xe]; exact PassesOwn.never
theorem stepS_snd {e : Stmt} {m : Sm} (h : stepS F G r e = some m) : PS X e (liftS (wpS T m)) := by
  unfold stepS at h
  split at h
  · exact trX_snd S C h
  · exact trAsgN_snd S C h
  · exact trAsgT_snd S C h
  · split at h
    · rename_i hc
      simp only [Bool.and_eq_true] at hc
      split at h
      · rename_i n ky v h1 h2 h3
        split at h
        · cases h
          simp only [wpS]
          exact sndS_stD C.room (peVar C h1) (S.E h3 C) (S.E h2 C) (moE C.mo v) (moE C.mo ky) (swap_no hc.2)
        · cases h
          simp only [wpS]
          refine sndS_stL (peVar C h1) (S.E h3 C) (S.E h2 C) (moE C.mo v) (moE C.mo ky) (show swapsWithSole [_] _ _ _ = pure false from by unfold swapsWithSole; exact swap_no hc.2) ?_ hc.1
          unfold swappedStores
          rfl
      · cases h
    · cases h
  · split at h
    · rename_i i a h1 h2
      obtain ⟨b1, b2, b3⟩ := C.sto h1
      split at h
      · split at h
        · rename_i ho
          subst ho
          cases h
          simp only [wpS]
          exact sndS_ext (S.E h2 C) (moE C.mo a) C.nd' b1 b2 b3
        · cases h
      · split at h
        · rename_i ho
          cases h
          simp only [wpS]
          exact sndS_aug (S.E h2 C) (moE C.mo a) C.nd' b1 b2 b3 ho
        · cases h
    · cases h
  · split at h
    · rename_i t x y h1 h2 h3
      cases h
      simp only [wpS]
      exact sndS_if (S.T h1 C) (SG.S h2 C) (SG.S h3 C) (moT C.mo t) (moSs C.mo x) (moSs C.mo y)
    · cases h
  · split at h
    · rename_i hns
      split at h
      · rename_i s t x h1 h2 h3
        cases h
        simp only [wpS]
        exact sndS_for (passOwn C) C.calm (trI_snd S C h1) (trTg_snd C h2) (SG.S h3 C) (moI C.mo s) (moSs C.mo x) (notSet_fold S C hns)
      · cases h
    · cases h
  · split at h
    · rename_i t x h1 h2
      cases h
      simp only [wpS]
      exact sndS_while (passOwn C) (S.T h1 C) (SG.S h2 C) (moT C.mo t) (moSs C.mo x)
    · cases h
  · cases z : F.E r _ with
    | none => rw [z] at h; cases h
    | some y =>
      rw [z] at h
      cases h
      simp only [wpS]
      exact sndS_ret (S.E z C) (moE C.mo y)
  · cases h; simp only [wpS]; exact sndS_cont
  · cases h; simp only [wpS]; exact sndS_brk
  · cases h
theorem listS_snd : ∀ {ss : List Stmt} {m : Ss}, listS (stepS F G r) ss = some m → PSs X ss (liftS (wpSs T m))
  | [], _, h => by cases h; simp only [wpSs]; exact sndS_nil
  | s :: ss, _, h => by
    unfold listS at h
    split at h
    · rename_i x y h1 h2
      cases h
      simp only [wpSs]
      exact sndS_cons (stepS_snd S SG C h1) (listS_snd h2) (moS C.mo x) (moSs C.mo y)
    · cases h
end
theorem trSS_snd {F : TrF} (S : Snd F) : ∀ n, SndS (trSS F n)
  | 0 => ⟨fun h => (by cases h)⟩
  | n + 1 => ⟨fun h _ _ _ C => listS_snd S (trSS_snd S n) C h⟩

/-! ### a def -/
/-- what is left behind a call: the objects that were there; a new one that is handed back -/
def frzS (n : Nat) (os : List O) : S → Option D
  | .d d => some d
  | .o k => if k < n then none else match os[k]? with
    | some (.lst ds) => some (.lst ds)
    | _ => none
def frzA (n : Nat) (os : List O) : List S → Option (List D)
  | [] => some []
  | s :: ss => match frzS n os s, frzA n os ss with
    | some d, some ds => some (d :: ds)
    | _, _ => none
def leave (n : Nat) (Q : R → List O → Prop) (r : R) (os : List O) : Prop := match r with
  | .val d => Q (.val d) (os.take n)
  | .new o => Q (.new o) (os.take n)
  | .obj k => if k < n then Q (.obj k) (os.take n) else match os[k]? with
    | some o => Q (.new o) (os.take n)
    | none => False
  | .tup ss => match frzA n os ss with
    | some ds => Q (.val (.tup ds)) (os.take n)
    | none => False
/-- the body's reading at the arguments -/
def bodyW (T : Tab) (b : Ss) (m : Nat) : Fun1 := fun ss os Q => wpSs T b { nx := fun _ os' => leave os.length Q (.val .non) os', rt := fun r os' => leave os.length Q r os' } (ss.map some ++ List.replicate (m - ss.length) none) os
section
variable {H H' B B' : Hp} {os os' : List O} {α α' : List Fp}
theorem Ext.cut (e : Ext H B α H' B' α') : α'.take α.length = α := by
  obtain ⟨β, rfl⟩ := e.pre
  simp
theorem Ext.self (e : Ext H B α H' B' α') : Ext H B α H' B' α := ⟨e.same, Pre.refl _, e.frm, e.grow, (Ext.refl H B α).new, e.lay⟩
/-- a value that is to be looked at for good -/
def Pd (H H' B' : Hp) (α : List Fp) (v : V) (d : D) : Prop := Rep B' v d ∨ ∃ a us es, v = .ref a ∧ d = .lst es ∧ H' a = some (.lst us) ∧ H a = none ∧ Out α a ∧ RepAll B' us es
inductive Pds (H H' B' : Hp) (α : List Fp) : List V → List D → Prop
  | nil : Pds H H' B' α [] []
  | cons {v : V} {vs : List V} {d : D} {ds : List D} : Pd H H' B' α v d → Pds H H' B' α vs ds → Pds H H' B' α (v :: vs) (d :: ds)
theorem Pds.mono {H H' B' B'' : Hp} {α : List Fp} (e : Same B' B'') : ∀ {vs : List V} {ds : List D}, Pds H H' B' α vs ds → Pds H H' B'' α vs ds
  | _, _, .nil => .nil
  | _, _, .cons h r => .cons (by
      rcases h with h | ⟨a, us, es, h1, h2, h3, h4, h5, h6⟩
      · exact .inl (h.mono e)
      · exact .inr ⟨a, us, es, h1, h2, h3, h4, h5, h6.mono e⟩) (Pds.mono e r)
theorem Pd.lay {v : V} {d : D} (e : Ext H B α H' B' α) (s : HS H' os B' α) (h : Pd H H' B' α v d) : ∃ B'', HS H' os B'' α ∧ Ext H B α H' B'' α ∧ Same B' B'' ∧ Rep B'' v d := by
  rcases h with h | ⟨a, us, es, rfl, rfl, h3, h4, h5, h6⟩
  · exact ⟨B', s, e, Same.refl _, h⟩
  · cases z : B' a with
    | some o =>
      have := s.ex _ _ z
      rw [h3] at this
      cases this
      exact ⟨B', s, e, Same.refl _, .lst z h6⟩
    | none =>
      obtain ⟨s1, e1⟩ := s.layNew e z h5 h3 h4
      have sm := (s.lay z h5 h3).2
      exact ⟨_, s1, e1, sm, .lst upd_same (h6.mono sm)⟩
theorem Pds.lay : ∀ {vs : List V} {ds : List D} {B' : Hp}, Ext H B α H' B' α → HS H' os B' α → Pds H H' B' α vs ds → ∃ B'', HS H' os B'' α ∧ Ext H B α H' B'' α ∧ Same B' B'' ∧ RepAll B'' vs ds
  | _, _, B', e, s, .nil => ⟨B', s, e, Same.refl _, .nil⟩
  | _, _, B', e, s, .cons h r => by
    obtain ⟨B1, s1, e1, m1, r1⟩ := h.lay e s
    obtain ⟨B2, s2, e2, m2, r2⟩ := Pds.lay e1 s1 (r.mono m1)
    exact ⟨B2, s2, e2, m1.trans m2, .cons (r1.mono m2) r2⟩
theorem HS.cutE (e : Ext H B α H' B' α') (s : HS H' os' B' α') : HS H' (os'.take α.length) B' α := by
  have := s.cut α.length
  rw [e.cut] at this
  exact this
theorem objNew (e : Ext H B α H' B' α') (s : HS H' os' B' α') {k : Nat} {p : Fp} (hp : α'[k]? = some p) (hk : ¬ k < α.length) : ∀ b ∈ fp p, H b = none ∧ B' b = none ∧ Out α b := fun b hb =>
  ⟨e.new k p hp (by omega) b hb, s.out k p hp b hb, fun j q hq hb2 => s.sep j k q p (e.pre.get hq) hp (by have := (List.getElem?_eq_some_iff.mp hq).1; omega) b hb2 hb⟩
theorem frz_ok (e : Ext H B α H' B' α') (s : HS H' os' B' α') {v : V} {x : S} {d : D} (r : RepS B' α' v x) (h : frzS α.length os' x = some d) : Pd H H' B' α v d := by
  cases x with
  | d d' =>
    cases h
    exact .inl r
  | o k =>
    unfold frzS at h
    simp only at h
    split at h
    · cases h
    · rename_i hk
      split at h
      · rename_i ds ho
        cases h
        obtain ⟨p, hp, rfl⟩ := r
        obtain ⟨z, vs, hv, hr⟩ := s.obj k p _ hp ho
        obtain ⟨h0, hB, hα⟩ := objNew e s hp hk p.1 (List.mem_cons_self ..)
        exact .inr ⟨p.1, vs, ds, rfl, rfl, hv, h0, hα, hr⟩
      · cases h
theorem frzA_ok (e : Ext H B α H' B' α') (s : HS H' os' B' α') : ∀ {ss : List S} {vs : List V} {ds : List D}, RepSs B' α' vs ss → frzA α.length os' ss = some ds → Pds H H' B' α vs ds
  | _, _, _, .nil, h => by cases h; exact .nil
  | _, _, _, .cons h1 r, h => by
    unfold frzA at h
    split at h
    · rename_i d ds g1 g2
      cases h
      exact .cons (frz_ok e s h1 g1) (frzA_ok e s r g2)
    · cases h
theorem leave_ok {Q : R → List O → Prop} {Q' : VK} {r : R} {v : V} (hl : os.length = α.length) (e : Ext H B α H' B' α') (s : HS H' os' B' α') (x : Res H H' B' α' v r) (h : leave os.length Q r os')
    (q : ∀ r os2 B2, Ext H B α H' B2 α → HS H' os2 B2 α → Res H H' B2 α v r → Q r os2 → Q' v H') : Q' v H' := by
  rw [hl] at h
  have s0 := s.cutE e
  cases r with
  | val d => exact q (.val d) _ B' e.self s0 x h
  | new o =>
    refine q (.new o) _ B' e.self s0 ?_ h
    obtain ⟨p, e1, hp, ho⟩ := x
    exact ⟨p, e1, fun b hb => ⟨(hp b hb).1, (hp b hb).2.1, e.pre.out (hp b hb).2.2⟩, ho⟩
  | obj k =>
    obtain ⟨p, hp, rfl⟩ := x
    unfold leave at h
    simp only at h
    split at h
    · rename_i hk
      exact q (.obj k) _ B' e.self s0 ⟨p, e.pre.back hk hp, rfl⟩ h
    · rename_i hk
      split at h
      · rename_i o ho
        exact q (.new o) _ B' e.self s0 ⟨p, rfl, objNew e s hp hk, s.obj k p o hp ho⟩ h
      · exact h.elim
  | tup ss =>
    unfold leave at h
    simp only at h
    split at h
    · rename_i ds hds
      obtain ⟨a, vs, rfl, ha, hr⟩ := x
      obtain ⟨B2, s2, e2, m2, r2⟩ := (frzA_ok e s hr hds).lay e.self s0
      exact q (.val (.tup ds)) _ B2 e2 s2 (.tup (m2 _ _ ha) r2) h
    · exact h.elim
end
theorem startS {B : Hp} {α : List Fp} {N : List Str} {vs : List V} {ss : List S} (r : RepSs B α vs ss) : ES B α (L2.start N vs) (ss.map some ++ List.replicate (N.length - ss.length) none) := by
  have hl := r.length
  unfold L2.start
  refine ⟨by simp [hl], fun i s h => ?_⟩
  by_cases hi : i < ss.length
  · rw [List.getElem?_append_left (by simpa using hi), List.getElem?_map] at h
    rw [List.getElem?_append_left (by simp; omega), List.getElem?_map]
    have : ∀ {vs : List V} {ss : List S} {i : Nat} {s : S}, RepSs B α vs ss → ss[i]? = some s → ∃ v, vs[i]? = some v ∧ RepS B α v s := by
      intro vs ss i s r h
      induction r generalizing i with
      | nil => simp at h
      | cons h1 r ih =>
        cases i with
        | zero => simp at h; subst h; exact ⟨_, rfl, h1⟩
        | succ i =>
          obtain ⟨v, a, b⟩ := ih (i := i) (by simpa using h)
          exact ⟨v, by simpa using a, b⟩
    cases z : ss[i]? with
    | none => rw [z] at h; cases h
    | some s' =>
      rw [z] at h
      cases h
      obtain ⟨v, a, b⟩ := this r z
      exact ⟨v, by rw [a]; rfl, b⟩
  · rw [List.getElem?_append_right (by simpa using hi), List.getElem?_replicate] at h
    split at h <;> cases h
/-- a def of the text keeps its promise, if its translated body has the reading t -/
theorem fn_okO {P : Program} {w : World} {K : PySem.W.Frag} {mg : Str → Option Value} {base : Heap} {x qual : Str} {st : Stmt} {f : Addr} {fd : FuncData} {r : Tr} {ps : List Str} {k n : Nat} {T : Tab} {t : Fun1} {b : Ss}
    (FF : L2.Fun K x qual st f fd) (SC : FnScope r.N ps (defScope st)) (hsc : r.sc = defScope st) (hraw : r.raw = defScope st) (mo : MoTab T) (tr : (trSS (trF n) n).S r (defBody st) = some b)
    (len : ∀ ss os Q, t ss os Q → ss.length = ps.length) (hb : ∀ ss os Q, t ss os Q → bodyW T b r.N.length ss os Q)
    (fn : ∀ x i, r.fs.lookup x = some i → ∃ f fd ps, mg x = some (.ref f) ∧ PySem.W.keepIn K (.ref f) = true ∧ Binds K fd ps [] ∧ FnOk P w K mg base CX0 k f fd ps (spT (T i)))
    (cst : ∀ x n, r.cs.lookup x = some n → ∃ t, mg x = some (.int n t)) (tup : ∀ x ns, r.ts.lookup x = some ns → ∃ a, mg x = some (.ref a) ∧ ∀ H, SqT K H a (ns.map V.int)) (blt : ∀ x ∈ bltNames, mg x = none)
    (orc : ∀ (A : Around) (outer : List PySem.Env) (s : Shared) (H : Hp) (E : XK), Room k (A.deeper (PyProof.Rows.envOfC qual (defScope st) s.heap.objs.size f fd.code)) → ∀ (e : Expr) (x : Xp), r.orc e = some x → PE (cxOf CX0 P w K mg base r.N qual (defScope st) f fd.code A outer s H E).nox e (liftE (wpE T x))) :
    FnOk P w K mg base CX0 (k + 1) f fd ps (spT t) := by
  obtain ⟨oc, od, kV, doc, pm, an, cdv, ct, osl, rfl, lk, hcd⟩ := FF.ex
  refine fn_of lk hcd SC (fun vs H Q E h => ?_) fun A outer s H vs Q E hr h => ?_
  · obtain ⟨ss, os, B, α, _, hr, ht⟩ := h
    rw [hr.length]
    exact len _ _ _ ht
  · obtain ⟨ss, os, B, α, hs, hrr, ht⟩ := h
    have C : Ctx (cxOf CX0 P w K mg base r.N qual (defScope st) f cdv A outer s H E).nox r T k := by
      refine ⟨hsc.symm, rfl, SC.nd, rfl, hr, rfl, fun x hx => ?_, mo, fn, cst, tup, blt, by rw [hsc]; exact SC.kind, orc A outer s H E hr⟩
      rw [hraw] at hx
      rw [hsc]
      unfold stB at hx
      refine ⟨?_, .inl rfl⟩
      split at hx
      · exact .inl (by assumption)
      · exact .inr (by assumption)
      · cases hx
    refine ⟨_, ((trSS_snd (trF_snd n) n).S tr C).nox, ⟨_, os, B, α, hs, startS hrr, ?_⟩⟩
    have hw := hb ss os _ ht
    unfold bodyW at hw
    refine moSs mo b hw (fun env' os' h σ' H' B' α' e s' es' => ?_) (fun rr os' h v H' B' α' e s' x => ?_) (fun _ _ h => h.elim) (fun _ _ h => h.elim)
    · exact leave_ok (Q := fun r os' => ∀ v H' B', Ext H B α H' B' α → HS H' os' B' α → Res H H' B' α v r → Q v H') (Q' := Q) (v := .non) (r := .val .non) hs.len.symm e s' .non h fun r os2 B2 e2 s2 x2 q => q _ _ B2 e2 s2 x2
    · exact leave_ok (Q := fun r os' => ∀ v H' B', Ext H B α H' B' α → HS H' os' B' α → Res H H' B' α v r → Q v H') (Q' := Q) hs.len.symm e s' x h fun r os2 B2 e2 s2 x2 q => q _ _ B2 e2 s2 x2
theorem fn_ok {P : Program} {w : World} {K : PySem.W.Frag} {mg : Str → Option Value} {base : Heap} {x qual : Str} {st : Stmt} {f : Addr} {fd : FuncData} {r : Tr} {ps : List Str} {k n : Nat} {T : Tab} {t : Fun1} {b : Ss}
    (FF : L2.Fun K x qual st f fd) (SC : FnScope r.N ps (defScope st)) (hsc : r.sc = defScope st) (hraw : r.raw = defScope st) (mo : MoTab T) (tr : (trSS (trF n) n).S r (defBody st) = some b)
    (len : ∀ ss os Q, t ss os Q → ss.length = ps.length) (hb : ∀ ss os Q, t ss os Q → bodyW T b r.N.length ss os Q)
    (fn : ∀ x i, r.fs.lookup x = some i → ∃ f fd ps, mg x = some (.ref f) ∧ PySem.W.keepIn K (.ref f) = true ∧ Binds K fd ps [] ∧ FnOk P w K mg base CX0 k f fd ps (spT (T i)))
    (cst : ∀ x n, r.cs.lookup x = some n → ∃ t, mg x = some (.int n t)) (tup : ∀ x ns, r.ts.lookup x = some ns → ∃ a, mg x = some (.ref a) ∧ ∀ H, SqT K H a (ns.map V.int)) (blt : ∀ x ∈ bltNames, mg x = none) (no : ∀ e, r.orc e = none) :
    FnOk P w K mg base CX0 (k + 1) f fd ps (spT t) :=
  fn_okO FF SC hsc hraw mo tr len hb fn cst tup blt fun _ _ _ _ _ _ e x h => by rw [no e] at h; cases h
end N66

/-! N66, the readings by rows: what is unfolded, and what is not (loops, comprehensions). -/
namespace N66
open PySem PySem.Spec L2
section
variable {T : Tab} {env : Env} {os : List O} {P : DEnds} {Q : R → List O → Prop}
theorem e_var (i : Nat) : wpE T (.var i) env os Q = (match getS env i with
    | some (.d d) => Q (.val d) os
    | some (.o k) => Q (.obj k) os
    | none => False) := by rw [wpE] <;> rfl
theorem e_cst (d : D) : wpE T (.cst d) env os Q = Q (.val d) os := by rw [wpE] <;> rfl
theorem e_dct (o : O) : wpE T (.dct o) env os Q = Q (.new o) os := by rw [wpE] <;> rfl
theorem e_bin (op : Operator) (a b : Xp) : wpE T (.bin op a b) env os Q = wpE T a env os fun r1 os1 => wpE T b env os1 fun r2 os2 => binW op (rsv os2 r1.s) (rsv os2 r2.s) fun r => Q r os2 := by rw [wpE] <;> rfl
theorem e_neg (a : Xp) : wpE T (.neg a) env os Q = wpE T a env os fun r os1 => match r.s with
    | .d (.int i) => Q (.val (.int (-i))) os1
    | _ => False := by rw [wpE] <;> rfl
theorem e_not (a : Xp) : wpE T (.not a) env os Q = wpE T a env os fun r os1 => match r.s with
    | .d (.bl b) => Q (.val (.bl (!b))) os1
    | _ => False := by rw [wpE] <;> rfl
theorem e_cmp (op : CmpOp) (a b : Xp) : wpE T (.cmp op a b) env os Q = wpE T a env os fun r1 os1 => wpE T b env os1 fun r2 os2 => cmpW op (rsv os2 r1.s) (rsv os2 r2.s) fun b => Q (.val (.bl b)) os2 := by simp only [wpE, cmpS]
theorem e_cmp2 (o1 o2 : CmpOp) (a b c : Xp) : wpE T (.cmp2 o1 o2 a b c) env os Q = wpE T a env os fun r1 os1 => wpE T b env os1 fun r2 os2 => cmpW o1 (rsv os2 r1.s) (rsv os2 r2.s) fun k =>
      if k = true then wpE T c env os2 fun r3 os3 => cmpW o2 (rsv os3 r2.s) (rsv os3 r3.s) fun k2 => Q (.val (.bl k2)) os3 else Q (.val (.bl false)) os2 := by rw [wpE] <;> rfl
theorem e_and (a b : Xp) : wpE T (.and a b) env os Q = wpE T a env os fun r os1 => match r.s with
    | .d (.bl k) => if k = true then wpE T b env os1 Q else Q (.val (.bl false)) os1
    | _ => False := by rw [wpE] <;> rfl
theorem e_or (a b : Xp) : wpE T (.or a b) env os Q = wpE T a env os fun r os1 => match r.s with
    | .d (.bl k) => if k = true then Q (.val (.bl true)) os1 else wpE T b env os1 Q
    | _ => False := by rw [wpE] <;> rfl
theorem e_ite (c : Ts) (a b : Xp) : wpE T (.ite c a b) env os Q = wpT T c env os fun k os1 => if k = true then wpE T a env os1 Q else wpE T b env os1 Q := by rw [wpE] <;> rfl
theorem e_tup (es : Xs) : wpE T (.tup es) env os Q = wpEs T es env os fun ss os1 => match allD ss with
    | some ds => ds.length ≤ lim ∧ Q (.val (.tup ds)) os1
    | none => ss.length ≤ lim ∧ Q (.tup ss) os1 := by rw [wpE] <;> rfl
theorem e_lst (es : Xs) : wpE T (.lst es) env os Q = wpEs T es env os fun ss os1 => match allD ss with
    | some ds => ds.length ≤ lim ∧ Q (.new (.lst ds)) os1
    | none => False := by rw [wpE] <;> rfl
theorem e_idx (a b : Xp) : wpE T (.idx a b) env os Q = wpE T a env os fun r1 os1 => wpE T b env os1 fun r2 os2 => idxW (rsv os2 r1.s) (rsv os2 r2.s) fun r => Q r os2 := by rw [wpE] <;> rfl
theorem e_slc (a : Xp) (lo hi : Op) : wpE T (.slc a lo hi) env os Q = wpE T a env os fun r1 os1 => wpO T lo env os1 fun l os2 => wpO T hi env os2 fun h os3 => slcW (rsv os3 r1.s) l h fun r => Q r os3 := by rw [wpE] <;> rfl
theorem e_rev (a : Xp) : wpE T (.rev a) env os Q = wpE T a env os fun r1 os1 => revW (rsv os1 r1.s) fun r => Q r os1 := by rw [wpE] <;> rfl
theorem e_fn (f : Fn) (es : Xs) : wpE T (.fn f es) env os Q = wpEs T es env os fun ss os1 => fnW os1 f ss fun r => Q r os1 := by rw [wpE] <;> rfl
theorem e_tupR (x : Xp) : wpE T (.tupR (.cst (.int 0)) x (.cst (.int 1))) env os Q = wpE T x env os fun r os1 => match r.s with
    | .d (.int b) => (0 ≤ b ∧ b ≤ lim) ∧ Q (.val (.tup (rngD 0 b))) os1
    | _ => False := by
  simp only [wpE]
  congr 1
  funext r os1
  cases r <;> simp only [R.s]
  · rename_i d
    cases d <;> simp [lim, rngD]
  · rename_i o
    cases o <;> simp
theorem e_call (i : Nat) (es : Xs) : wpE T (.call i es) env os Q = wpEs T es env os fun ss os1 => T i ss os1 Q := by rw [wpE] <;> rfl
theorem es_nil {Q : List S → List O → Prop} : wpEs T .nil env os Q = Q [] os := by rw [wpEs] <;> rfl
theorem es_cons {Q : List S → List O → Prop} (a : Xp) (r : Xs) : wpEs T (.cons a r) env os Q = wpE T a env os fun x os1 => wpEs T r env os1 fun ss os2 => Q (x.s :: ss) os2 := by rw [wpEs] <;> rfl
theorem o_none {Q : Option Int → List O → Prop} : wpO T .none env os Q = Q none os := by rw [wpO] <;> rfl
theorem o_some {Q : Option Int → List O → Prop} (a : Xp) : wpO T (.some a) env os Q = wpE T a env os fun r os1 => match r.s with
    | .d (.int i) => Q (some i) os1
    | _ => False := by rw [wpO] <;> rfl
section
variable {Q : Bool → List O → Prop}
theorem t_tt : wpT T .tt env os Q = Q true os := by rw [wpT] <;> rfl
theorem t_and (a b : Ts) : wpT T (.and a b) env os Q = wpT T a env os fun k os1 => if k = true then wpT T b env os1 Q else Q false os1 := by rw [wpT] <;> rfl
theorem t_or (a b : Ts) : wpT T (.or a b) env os Q = wpT T a env os fun k os1 => if k = true then Q true os1 else wpT T b env os1 Q := by rw [wpT] <;> rfl
theorem t_not (a : Ts) : wpT T (.not a) env os Q = wpT T a env os fun k os1 => Q (!k) os1 := by rw [wpT] <;> rfl
theorem t_val (a : Xp) : wpT T (.val a) env os Q = wpE T a env os fun r os1 => truD (rsv os1 r.s) fun k => Q k os1 := by rw [wpT] <;> rfl
end
section
variable {Q : List D → List O → Prop}
theorem i_seq (a : Xp) : wpI T (.seq a) env os Q = wpE T a env os fun r os1 => match r.s with
    | .d (.lst ds) => Q ds os1
    | .d (.tup ds) => Q ds os1
    | _ => False := by rw [wpI] <;> rfl
theorem i_rng (lo hi : Xp) : wpI T (.rng lo hi) env os Q = wpE T lo env os fun r1 os1 => wpE T hi env os1 fun r2 os2 => match r1.s, r2.s with
    | .d (.int a), .d (.int b) => (-(2 ^ 62) ≤ a ∧ a < 2 ^ 62 ∧ -(2 ^ 62) ≤ b ∧ b < 2 ^ 62) ∧ Q (rngD a b) os2
    | _, _ => False := by rw [wpI] <;> rfl
theorem i_enm (a : Xp) : wpI T (.enm a) env os Q = wpE T a env os fun r os1 => match r.s with
    | .d (.lst ds) => Q (enmD ds) os1
    | _ => False := by rw [wpI] <;> rfl
theorem i_zip (es : Xs) : wpI T (.zip es) env os Q = wpEs T es env os fun ss os1 => zipW ss fun items => Q items os1 := by rw [wpI] <;> rfl
end
theorem p_nil {Q : List (Nat × S) → List O → Prop} : wpP T .nil env os Q = Q [] os := by rw [wpP] <;> rfl
theorem p_cons {Q : List (Nat × S) → List O → Prop} (i : Nat) (k : Bool) (a : Xp) (r : Ps) : wpP T (.cons i k a r) env os Q = wpE T a env os fun x os1 => newW k x os1 fun d os2 => wpP T r env os2 fun ds os3 => Q ((i, d) :: ds) os3 := by rw [wpP] <;> rfl
theorem s_set (i : Nat) (a : Xp) : wpS T (.set i a) P env os = wpE T a env os fun r os1 => P.nx (setS env i r.s) os1 := by rw [wpS] <;> rfl
theorem s_setO (i : Nat) (a : Xp) : wpS T (.setO i a) P env os = wpE T a env os fun r os1 => newW true r os1 fun d os2 => P.nx (setS env i d) os2 := by rw [wpS] <;> rfl
theorem s_unp (js : List Nat) (a : Xp) : wpS T (.unp js a) P env os = wpE T a env os fun r os1 => match r.s with
    | .d d => bindT (.tp js) d env fun e => P.nx e os1
    | _ => False := by rw [wpS] <;> rfl
theorem s_par (ps : Ps) : wpS T (.par ps) P env os = wpP T ps env os fun ds os1 => P.nx (setPs env ds) os1 := by rw [wpS] <;> rfl
theorem s_aug (i : Nat) (op : Operator) (a : Xp) : wpS T (.aug i op a) P env os = (match getS env i with
    | some x => wpE T a env os fun r os1 => augW op x r.s fun z => P.nx (setS env i (.d z)) os1
    | none => False) := by rw [wpS] <;> rfl
theorem s_ext (i : Nat) (a : Xp) : wpS T (.ext i a) P env os = objAt env i fun k => wpE T a env os fun r os1 => match r.s with
    | .d (.lst es) => lstAt os1 k fun ds => ds.length + es.length ≤ lim ∧ P.nx env (os1.set k (.lst (ds ++ es)))
    | _ => False := by rw [wpS] <;> rfl
theorem s_iff (c : Ts) (a b : Ss) : wpS T (.iff c a b) P env os = wpT T c env os fun k os1 => if k = true then wpSs T a P env os1 else wpSs T b P env os1 := by rw [wpS] <;> rfl
theorem s_ret (a : Xp) : wpS T (.ret a) P env os = wpE T a env os P.rt := by rw [wpS] <;> rfl
theorem s_app (i : Nat) (a : Xp) : wpS T (.app i a) P env os = objAt env i fun k => lstAt os k fun _ => wpE T a env os fun r os1 => match r.s with
    | .d d => lstAt os1 k fun ds => ds.length < lim ∧ P.nx env (os1.set k (.lst (ds ++ [d])))
    | _ => False := by rw [wpS] <;> rfl
theorem s_pop (i : Nat) : wpS T (.pop i) P env os = objAt env i fun k => lstAt os k fun ds => ds ≠ [] ∧ P.nx env (os.set k (.lst ds.dropLast)) := by rw [wpS] <;> rfl
theorem s_stL (i : Nat) (k v : Xp) : wpS T (.stL i k v) P env os = wpE T v env os fun r os1 => objAt env i fun o => wpE T k env os1 fun q os2 => lstAt os2 o fun ds => match q.s, r.s with
    | .d (.int z), .d d => match ixN ds.length z with
      | some j => P.nx env (os2.set o (.lst (ds.set j d)))
      | none => False
    | _, _ => False := by rw [wpS] <;> rfl
theorem s_stD (i : Nat) (k v : Xp) : wpS T (.stD i k v) P env os = wpE T v env os fun r os1 => objAt env i fun o => wpE T k env os1 fun q os2 => match q.s, r.s with
    | .d q, .d d => stDW os2 o q d fun os3 => P.nx env os3
    | _, _ => False := by rw [wpS] <;> rfl
theorem s_appN (e d : Xp) : wpS T (.appN e d) P env os = wpE T e env os fun r os1 => match r with
    | .new (.lst ds) => ds.length < lim ∧ wpE T d env os1 fun _ os2 => P.nx env os2
    | _ => False := by rw [wpS] <;> rfl
theorem s_popN (e : Xp) : wpS T (.popN e) P env os = wpE T e env os fun r os1 => match r with
    | .new (.lst ds) => ds ≠ [] ∧ P.nx env os1
    | _ => False := by rw [wpS] <;> rfl
theorem s_drop (a : Xp) : wpS T (.drop a) P env os = wpE T a env os fun _ os1 => P.nx env os1 := by rw [wpS] <;> rfl
theorem s_cont : wpS T .cont P env os = P.ct env os := by rw [wpS] <;> rfl
theorem s_brk : wpS T .brk P env os = P.bk env os := by rw [wpS] <;> rfl
theorem ss_nil : wpSs T .nil P env os = P.nx env os := by rw [wpSs] <;> rfl
theorem ss_cons (s : Sm) (r : Ss) : wpSs T (.cons s r) P env os = wpS T s { P with nx := wpSs T r P } env os := by rw [wpSs]
/-! loops -/
theorem whl_i {c : Ts} {b : Ss} (W : Nat → Env → List O → Prop) {m : Nat} (h0 : W m env os) (h : ∀ (m : Nat) (env : Env) (os : List O), W m env os → wpT T c env os fun k os1 => if k = true then
        wpSs T b { P with nx := fun e o => ∃ m', m' < m ∧ W m' e o, ct := fun e o => ∃ m', m' < m ∧ W m' e o, bk := P.nx } env os1 else P.nx env os1) : wpS T (.whl c b) P env os := by
  rw [wpS]
  exact ⟨W, ⟨m, h0⟩, h⟩
theorem for_i (mo : MoTab T) {tg : Tg} {src : Src} {b : Ss} (Z : List D → List O → Prop) (hz : wpI T src env os Z) (h : ∀ items os1, Z items os1 → ∃ W : Nat → Env → List O → Prop, W 0 env os1 ∧
      (∀ (i : Nat) (x : D) (env : Env) (os : List O), items[i]? = some x → W i env os → bindT tg x env fun env' => wpSs T b { P with nx := W (i + 1), ct := W (i + 1), bk := P.nx } env' os) ∧
      ∀ env os, W items.length env os → P.nx env os) : wpS T (.for_ tg src b) P env os := by
  rw [wpS]
  exact moI mo src hz h
theorem lc_i (mo : MoTab T) {elt : Xp} {tg : Tg} {src : Src} {c : Ts} {own : List Nat} (Z : List D → List O → Prop) (hz : wpI T src env os Z) (h : ∀ items os1, Z items os1 → ∃ W : Nat → List D → List O → Prop, W 0 [] os1 ∧
      (∀ (i : Nat) (x : D) (acc : List D) (os2 : List O), items[i]? = some x → W i acc os2 → acc.length ≤ i → bindT tg x (wipeA env own) fun env' => wpT T c env' os2 fun k os3 =>
        if k = true then wpE T elt env' os3 fun r os4 => match r.s with
          | .d d => W (i + 1) (acc ++ [d]) os4
          | _ => False
        else W (i + 1) acc os3) ∧
      items.length ≤ lim ∧ ∀ acc os2, W items.length acc os2 → acc.length ≤ items.length → Q (.new (.lst acc)) os2) : wpE T (.lc elt tg src c own) env os Q := by
  rw [wpE]
  exact moI mo src hz h
/-- a comprehension without a test, whose items are computed one by one -/
theorem lc_map (mo : MoTab T) {elt : Xp} {tg : Tg} {src : Src} {own : List Nat} (items : List D) (f : Nat → D) (hz : wpI T src env os fun its os1 => its = items ∧ os1 = os) (hl : items.length ≤ lim)
    (h : ∀ (i : Nat) (x : D), items[i]? = some x → bindT tg x (wipeA env own) fun env' => wpE T elt env' os fun r os4 => r.s = .d (f i) ∧ os4 = os) (q : Q (.new (.lst ((List.range items.length).map f))) os) : wpE T (.lc elt tg src .tt own) env os Q := by
  refine lc_i mo _ hz fun its os1 ⟨e1, e2⟩ => ?_
  subst e1 e2
  refine ⟨fun i acc os2 => acc = (List.range i).map f ∧ os2 = os1, ⟨rfl, rfl⟩, fun i x acc os2 hx ⟨h1, h2⟩ _ => ?_, hl, fun acc os2 ⟨h1, h2⟩ _ => ?_⟩
  · subst h1 h2
    refine bindT_mo (h i x hx) fun env' h => ?_
    rw [t_tt, if_pos rfl]
    refine moE mo elt h fun r os4 ⟨h1, h2⟩ => ?_
    rw [h1]
    exact ⟨by rw [List.range_succ, List.map_append]; rfl, h2⟩
  · subst h1 h2
    exact q
/-- a comprehension over the images of L -/
theorem lc_mapL (mo : MoTab T) {α : Type} {elt : Xp} {tg : Tg} {src : Src} {own : List Nat} (L : List α) (k h : α → D) (hz : wpI T src env os fun its os1 => its = L.map k ∧ os1 = os) (hl : L.length ≤ lim)
    (he : ∀ a ∈ L, bindT tg (k a) (wipeA env own) fun env' => wpE T elt env' os fun r os4 => r.s = .d (h a) ∧ os4 = os) (q : Q (.new (.lst (L.map h))) os) : wpE T (.lc elt tg src .tt own) env os Q := by
  refine lc_i mo _ hz fun its os1 ⟨e1, e2⟩ => ?_
  subst e1 e2
  refine ⟨fun i acc os2 => acc = (L.take i).map h ∧ os2 = os1, ⟨by simp, rfl⟩, fun i x acc os2 hx ⟨h1, h2⟩ _ => ?_, by rw [List.length_map]; exact hl, fun acc os2 ⟨h1, h2⟩ _ => ?_⟩
  · subst h1 h2
    rw [List.getElem?_map] at hx
    cases z : L[i]? with
    | none => rw [z] at hx; cases hx
    | some a =>
      rw [z] at hx
      cases hx
      refine bindT_mo (he a (List.mem_of_getElem? z)) fun env' h => ?_
      rw [t_tt, if_pos rfl]
      refine moE mo elt h fun r os4 ⟨h1, h2⟩ => ?_
      rw [h1]
      exact ⟨by rw [List.take_add_one, z, List.map_append]; rfl, h2⟩
  · subst h1 h2
    rw [List.length_map, List.take_length]
    exact q
/-- a comprehension over the images of L, with a test -/
theorem lc_filL (mo : MoTab T) {α : Type} {elt : Xp} {tg : Tg} {src : Src} {c : Ts} {own : List Nat} (L : List α) (k h : α → D) (p : α → Bool) (hz : wpI T src env os fun its os1 => its = L.map k ∧ os1 = os) (hl : L.length ≤ lim)
    (he : ∀ a ∈ L, bindT tg (k a) (wipeA env own) fun env' => (wpT T c env' os fun b os3 => b = p a ∧ os3 = os) ∧ (p a = true → wpE T elt env' os fun r os4 => r.s = .d (h a) ∧ os4 = os)) (q : Q (.new (.lst ((L.filter p).map h))) os) : wpE T (.lc elt tg src c own) env os Q := by
  refine lc_i mo _ hz fun its os1 ⟨e1, e2⟩ => ?_
  subst e1 e2
  refine ⟨fun i acc os2 => acc = ((L.take i).filter p).map h ∧ os2 = os1, ⟨by simp, rfl⟩, fun i x acc os2 hx ⟨h1, h2⟩ _ => ?_, by rw [List.length_map]; exact hl, fun acc os2 ⟨h1, h2⟩ _ => ?_⟩
  · subst h1 h2
    rw [List.getElem?_map] at hx
    cases z : L[i]? with
    | none => rw [z] at hx; cases hx
    | some a =>
      rw [z] at hx
      cases hx
      have e : ((L.take (i + 1)).filter p).map h = ((L.take i).filter p).map h ++ if p a then [h a] else [] := by
        rw [List.take_add_one, z, List.filter_append, List.map_append]
        congr 1
        simp only [Option.toList_some, List.filter_cons, List.filter_nil]
        split <;> rfl
      refine bindT_mo (he a (List.mem_of_getElem? z)) fun env' ⟨h1, h2⟩ => ?_
      refine moT mo c h1 fun b os3 ⟨hb, ho⟩ => ?_
      subst hb ho
      refine ite2 (fun hp => ?_) (fun hp => ?_)
      · refine moE mo elt (h2 hp) fun r os4 ⟨h1, h2⟩ => ?_
        rw [h1]
        refine ⟨?_, h2⟩
        rw [e, if_pos hp]
      · refine ⟨?_, rfl⟩
        rw [e, if_neg hp, List.append_nil]
  · subst h1 h2
    rw [List.length_map, List.take_length]
    exact q
end
/-! values -/
theorem rs_val (d : D) : (R.val d).s = .d d := rfl
theorem rs_obj (k : Nat) : (R.obj k).s = .o k := rfl
theorem rs_new (ds : List D) : (R.new (.lst ds)).s = .d (.lst ds) := rfl
theorem rsv_d (os : List O) (d : D) : rsv os (.d d) = d := rfl
theorem rsv_last (os : List O) (ds : List D) : rsv (os ++ [.lst ds]) (.o os.length) = .lst ds := by unfold rsv; simp
theorem rsv_of {os : List O} {k : Nat} {ds : List D} (h : os[k]? = some (.lst ds)) : rsv os (.o k) = .lst ds := by unfold rsv; simp [h]
theorem rsv_scr {os : List O} {k : Nat} {ns : List Int} (h : os[k]? = some (.scr ns)) : rsv os (.o k) = .lst (ns.map D.int) := by unfold rsv; simp [h]
section
variable {Q : R → Prop} {q : Bool → Prop} {os : List O}
theorem b_add (i j : Int) : binW .Add (.int i) (.int j) Q = Q (.val (.int (i + j))) := rfl
theorem b_addL (xs ys : List D) : binW .Add (.lst xs) (.lst ys) Q = ((xs.length + ys.length ≤ lim) ∧ Q (.new (.lst (xs ++ ys)))) := rfl
theorem b_addT (xs ys : List D) : binW .Add (.tup xs) (.tup ys) Q = ((xs.length + ys.length ≤ lim) ∧ Q (.val (.tup (xs ++ ys)))) := rfl
theorem b_sub (i j : Int) : binW .Sub (.int i) (.int j) Q = Q (.val (.int (i - j))) := rfl
theorem b_mul (i j : Int) : binW .Mult (.int i) (.int j) Q = (MulOk i j ∧ Q (.val (.int (i * j)))) := rfl
theorem b_div (i j : Int) : binW .FloorDiv (.int i) (.int j) Q = (DivOk j ∧ Q (.val (.int (i / j)))) := rfl
theorem b_mod (i j : Int) : binW .Mod (.int i) (.int j) Q = (0 < j ∧ Q (.val (.int (i % j)))) := rfl
theorem b_pow (i j : Int) : binW .Pow (.int i) (.int j) Q = (CPow i j ∧ Q (.val (.int (i ^ j.toNat)))) := rfl
theorem c_eq (a b : D) : cmpW .Eq a b q = (Flat 8 a ∧ Flat 8 b ∧ q (eqD a b)) := rfl
theorem c_ne (a b : D) : cmpW .NotEq a b q = (Flat 8 a ∧ Flat 8 b ∧ q (!eqD a b)) := rfl
theorem c_lt (i j : Int) : cmpW .Lt (.int i) (.int j) q = q (decide (i < j)) := rfl
theorem c_le (i j : Int) : cmpW .LtE (.int i) (.int j) q = q (decide (i ≤ j)) := rfl
theorem c_gt (i j : Int) : cmpW .Gt (.int i) (.int j) q = q (decide (j < i)) := rfl
theorem c_ge (i j : Int) : cmpW .GtE (.int i) (.int j) q = q (decide (j ≤ i)) := rfl
theorem c_inL (x : D) (ys : List D) : cmpW .In x (.lst ys) q = (Flat 8 x ∧ (∀ y ∈ ys, Flat 8 y) ∧ q (inD x ys)) := rfl
theorem c_inT (x : D) (ys : List D) : cmpW .In x (.tup ys) q = (Flat 0 x ∧ (∀ y ∈ ys, Flat 0 y) ∧ q (inD x ys)) := rfl
theorem c_niL (x : D) (ys : List D) : cmpW .NotIn x (.lst ys) q = (Flat 8 x ∧ (∀ y ∈ ys, Flat 8 y) ∧ q (!inD x ys)) := rfl
theorem c_niT (x : D) (ys : List D) : cmpW .NotIn x (.tup ys) q = (Flat 0 x ∧ (∀ y ∈ ys, Flat 0 y) ∧ q (!inD x ys)) := rfl
theorem c_isB (x y : Bool) : cmpW .Is (.bl x) (.bl y) q = q (x == y) := rfl
theorem c_isN : cmpW .Is .non .non q = q true := rfl
theorem c_isI (i : Int) : cmpW .Is (.int i) .non q = q false := rfl
theorem c_isT (ds : List D) : cmpW .Is (.tup ds) .non q = q false := rfl
theorem c_inN : cmpW .IsNot .non .non q = q false := rfl
theorem c_inI (i : Int) : cmpW .IsNot (.int i) .non q = q true := rfl
theorem c_inTu (ds : List D) : cmpW .IsNot (.tup ds) .non q = q true := rfl
theorem tr_non : truD .non q = q false := rfl
theorem tr_bl (b : Bool) : truD (.bl b) q = q b := rfl
theorem tr_int (i : Int) : truD (.int i) q = q (i != 0) := rfl
theorem tr_lst (ds : List D) : truD (.lst ds) q = q (!ds.isEmpty) := rfl
theorem tr_tup (ds : List D) : truD (.tup ds) q = q (!ds.isEmpty) := rfl
theorem x_lst (ds : List D) (i : Int) : idxW (.lst ds) (.int i) Q = (match ixD ds i with
    | some d => Q (.val d)
    | none => False) := rfl
theorem x_tup (ds : List D) (i : Int) : idxW (.tup ds) (.int i) Q = (match ixD ds i with
    | some d => Q (.val d)
    | none => False) := rfl
theorem sl_l (ds : List D) (lo hi : Option Int) : slcW (.lst ds) lo hi Q = Q (.new (.lst (cutD ds lo hi))) := rfl
theorem sl_t (ds : List D) (lo hi : Option Int) : slcW (.tup ds) lo hi Q = Q (.val (.tup (cutD ds lo hi))) := rfl
theorem rv_l (ds : List D) : revW (.lst ds) Q = Q (.new (.lst ds.reverse)) := rfl
theorem nw_f (r : R) {Q : S → List O → Prop} : newW false r os Q = Q r.s os := rfl
theorem nw_t (o : O) {Q : S → List O → Prop} : newW true (.new o) os Q = Q (.o os.length) (os ++ [o]) := rfl
theorem au_add (i j : Int) {Q : D → Prop} : augW .Add (.d (.int i)) (.d (.int j)) Q = Q (.int (i + j)) := rfl
theorem au_sub (i j : Int) {Q : D → Prop} : augW .Sub (.d (.int i)) (.d (.int j)) Q = Q (.int (i - j)) := rfl
theorem au_mul (i j : Int) {Q : D → Prop} : augW .Mult (.d (.int i)) (.d (.int j)) Q = (CMul i j ∧ Q (.int (i * j))) := rfl
theorem la_last (ds : List D) {Q : List D → Prop} : lstAt (os ++ [.lst ds]) os.length Q = Q ds := by unfold lstAt; simp
theorem la_of {k : Nat} {ds : List D} {Q : List D → Prop} (h : os[k]? = some (.lst ds)) : lstAt os k Q = Q ds := by unfold lstAt; simp [h]
theorem bd_nm (i : Nat) (d : D) (env : Env) {Q : Env → Prop} : bindT (.nm i) d env Q = Q (setS env i (.d d)) := rfl
theorem bd_tp (js : List Nat) (ds : List D) (env : Env) {Q : Env → Prop} : bindT (.tp js) (.tup ds) env Q = (match setAll env js ds with
      | some e => Q e
      | none => False) := rfl
theorem sq_l (ds : List D) : seqD (.lst ds) = some ds := rfl
theorem sq_t (ds : List D) : seqD (.tup ds) = some ds := rfl
theorem f_len (a : S) : fnW os .len [a] Q = (match seqD (rsv os a) with
    | some ds => Q (.val (.int ds.length))
    | none => False) := rfl
theorem f_isi (ty : String) (a : D) : fnW os (.isi ty) [.d a] Q = (match tyD a with
    | some t => match kitB t ty with
      | some b => Q (.val (.bl b))
      | none => False
    | none => False) := rfl
theorem f_sortL {a : S} {ds : List D} (h : rsv os a = .lst ds) : fnW os .sorted [a] Q = (ds.length ≤ lim ∧ sortW ds fun r => Q (.new (.lst r))) := by
  simp only [fnW, h]
theorem f_sortD (ds : List D) : fnW os .sorted [.d (.lst ds)] Q = (ds.length ≤ lim ∧ sortW ds fun r => Q (.new (.lst r))) := rfl
theorem f_sortO (ds : List D) : fnW (os ++ [.lst ds]) .sorted [.o os.length] Q = (ds.length ≤ lim ∧ sortW ds fun r => Q (.new (.lst r))) := f_sortL (rsv_last os ds)
theorem f_tupL (ds : List D) : fnW os .tuple [.d (.lst ds)] Q = Q (.val (.tup ds)) := rfl
theorem f_tupO (ds : List D) : fnW (os ++ [.lst ds]) .tuple [.o os.length] Q = Q (.val (.tup ds)) := by
  simp only [fnW, rsv_last]
theorem f_lstT (ds : List D) : fnW os .list [.d (.tup ds)] Q = Q (.new (.lst ds)) := rfl
theorem f_lstL (ds : List D) : fnW os .list [.d (.lst ds)] Q = Q (.new (.lst ds)) := rfl
theorem g_lastO (os : List O) (a : O) : (os ++ [a])[os.length]? = some a := by simp
theorem f_lstD (kvs : List (List Int × D)) : fnW (os ++ [.dT kvs]) .list [.o os.length] Q = Q (.new (.lst (kvs.map fun p => tupI p.1))) := by
  have h1 : rsv (os ++ [.dT kvs]) (.o os.length) = .bad := by unfold rsv; simp
  simp only [fnW, h1, g_lastO]
theorem f_min2 (a b : S) : fnW os .min2 [a, b] Q = (match rsv os a, rsv os b with
    | .int i, .int j => Q (.val (.int (if j < i then j else i)))
    | _, _ => False) := rfl
theorem f_minL (ds : List D) : fnW os .min [.d (.lst ds)] Q = ∃ ns : List Int, ds = ns.map D.int ∧ ns ≠ [] ∧ ∀ m, m ∈ ns → (∀ y ∈ ns, m ≤ y) → Q (.val (.int m)) := rfl
theorem f_all (ds : List D) : fnW os .all [.d (.lst ds)] Q = ∃ bs : List Bool, ds = bs.map D.bl ∧ Q (.val (.bl (bs.all id))) := rfl
theorem f_any (ds : List D) : fnW os .any [.d (.lst ds)] Q = ∃ bs : List Bool, ds = bs.map D.bl ∧ Q (.val (.bl (bs.any id))) := rfl
theorem f_setT (ds : List D) : fnW os .set [.d (.tup ds)] Q = ∃ ns : List Int, ds = ns.map D.int ∧ ns.length < 64 ∧ ∀ ms : List Int, ms.Pairwise (· < ·) → (∀ i, i ∈ ms ↔ i ∈ ns) → Q (.new (.lst (ms.map D.int))) := rfl
theorem f_intB (b : Bool) : fnW os .int [.d (.bl b)] Q = Q (.val (.int (if b then 1 else 0))) := rfl
theorem f_str (i : Int) : fnW os .str [.d (.int i)] Q = (i.natAbs.log2 < 1920 ∧ Q (.val (.str (toString i)))) := rfl
theorem z_ll (xs ys : List D) {Q : List D → Prop} : zipW [.d (.lst xs), .d (.lst ys)] Q = Q (zipD xs ys) := rfl
theorem z_ttt (xs ys zs : List D) {Q : List D → Prop} : zipW [.d (.tup xs), .d (.tup ys), .d (.tup zs)] Q = Q (zip3D xs ys zs) := rfl
theorem z_tt (xs ys : List D) {Q : List D → Prop} : zipW [.d (.tup xs), .d (.tup ys)] Q = Q (zipD xs ys) := rfl
theorem ad_nil : allD [] = some [] := rfl
theorem ad_cons (d : D) (ss : List S) : allD (.d d :: ss) = (match allD ss with
    | some ds => some (d :: ds)
    | none => none) := rfl
end
/-! objects at the end -/
theorem g_last (os : List O) (a : O) : (os ++ [a])[os.length]? = some a := by simp
theorem s_last (os : List O) (a b : O) : (os ++ [a]).set os.length b = os ++ [b] := by
  rw [List.set_append_right _ _ (Nat.le_refl _)]
  simp
theorem l_last (os : List O) (a : O) : (os ++ [a]).take os.length = os := by simp
theorem n_last (os : List O) : ¬ os.length < os.length := Nat.lt_irrefl _
theorem g_old {os : List O} {k : Nat} {o a : O} (h : os[k]? = some o) : (os ++ [a])[k]? = some o := by
  rw [List.getElem?_append_left (List.getElem?_eq_some_iff.mp h).1]
  exact h
theorem tk_self (os : List O) : os.take os.length = os := List.take_length
theorem ixI {ds : List D} {i : Nat} {d : D} (h : ds[i]? = some d) : atI ds (i : Nat) = some d := atI_nat h
end N66

/-! N66, a lambda of one parameter as a key: its call. -/
namespace N66
open PySem PySem.Spec PyProof.Rows L2
def keyBody (a : Str) (p1 p2 p3 p4 p5 p6 p7 p8 p9 p10 p11 : Pos) (k1 k2 k3 k4 : Nat) : Expr :=
  .BinOp (.BinOp (.Subscript (.Name a p1) (.Constant (.int 0) k1 p2) p3) .Mult (.BinOp (.Constant (.int 10) k2 p4) .Pow (.Constant (.int 9) k3 p5) p6) p7) .FloorDiv (.Subscript (.Name a p8) (.Constant (.int 1) k4 p9) p10) p11
section
variable {prog : Program} {w : World} {A : Around} {s : Shared}
theorem key_ix {E : Value → Shared → Prop} {env : PySem.Env} {a : Str} {m : Str → Option Value} {t : Addr} {its : List Value} {k : Int} {j kk : Nat} {x : Value} {p1 p2 p3 : Pos} {Q : Value → Shared → Prop}
    (hk : env.scope.kind = .function) (hl : env.kindOf a = some .local) (hn : s.heap.Ns env.locals m) (hm : m a = some (.ref t)) (hd : (a == ("__debug__" : Str)) = false) (ht : IsTup s.heap t its.toArray) (hkj : k = j) (hkl : k < 2 ^ 62)
    (hx : its[j]? = some x) (h : Q x { s with toks := s.toks + 1 }) : wpAny (model prog w) A (eval (.Subscript (.Name a p1) (.Constant (.int k) kk p2) p3) env) Q E s := by
  refine Subscript_ (wpAny_Name (wpAny_loadName_local hk hl hn hm ?_) hd)
  refine wpAny_Constant_int ?_
  have hj := (List.getElem?_eq_some_iff.mp hx).1
  have e1 : seqIndex? k its.toArray.size = some j := by
    subst hkj
    unfold seqIndex?
    simp
    omega
  exact subscriptTail_builtinR (x := x) (s := { s with toks := s.toks + 1 }) (T := "tuple") (ht.typeIs) slot_tuple_getitem.lookup (getItem_tuple (s := { s with toks := s.toks + 1 }) (j := j) (Q := fun r s' => r = x ∧ Q r s') ht (by omega) (by omega) e1 (by simpa using hx) ⟨rfl, h⟩)
theorem keyBody_run {E : Value → Shared → Prop} {env : PySem.Env} {a : Str} {m : Str → Option Value} {t : Addr} {x y : Int} {tx ty : Tok} {p1 p2 p3 p4 p5 p6 p7 p8 p9 p10 p11 : Pos} {k1 k2 k3 k4 : Nat} {Q : Value → Shared → Prop}
    (hk : env.scope.kind = .function) (hl : env.kindOf a = some .local) (hn : s.heap.Ns env.locals m) (hm : m a = some (.ref t)) (hd : (a == ("__debug__" : Str)) = false) (ht : IsTup s.heap t [Value.int x tx, .int y ty].toArray) (hy : 0 < y) (hy2 : y < 1073741824)
    (h : ∀ tk u, Q (.int (x * 1000000000 / y) u) { s with toks := tk }) : wpAny (model prog w) A (eval (keyBody a p1 p2 p3 p4 p5 p6 p7 p8 p9 p10 p11 k1 k2 k3 k4) env) Q E s := by
  unfold keyBody
  refine wpAny_BinOp (wpAny_BinOp (key_ix (j := 0) hk hl hn hm hd ht rfl (by decide) rfl ?_))
  refine wpAny_BinOp (wpAny_Constant_int (wpAny_Constant_int (pow_int_small (by decide) (by decide) (by decide) ?_)))
  refine mul_int ?_ (CMul.ok (.inr (by decide)))
  refine key_ix (j := 1) hk hl hn hm hd ht rfl (by decide) rfl ?_
  refine floordiv_int (by omega) ?_ (.inl (PyProof.noPylong_small (by omega)))
  rw [Int.fdiv_eq_ediv_of_nonneg _ (by omega)]
  exact h _ _
/-- the lambda's call -/
theorem lam_key {f c' t : Addr} {q a : Str} {params : Arguments} {scope : Scope} {cl : List (Str × Addr)} {pm ctv : Value} {x y : Int} {tx ty : Tok} {p1 p2 p3 p4 p5 p6 p7 p8 p9 p10 p11 : Pos} {k1 k2 k3 k4 : Nat}
    (hf : s.heap.get? f = some (PySem.W.kla_obj "<lambda>" q params (keyBody a p1 p2 p3 p4 p5 p6 p7 p8 p9 p10 p11 k1 k2 k3 k4) scope cl pm c' ctv)) (hcd : s.heap.CodeRec (.ref c') q) (hroom : A.depth < recursionLimit) (hlim : s.heap.NoLimit)
    (hbind : bindArgs (PySem.W.kla_fn "<lambda>" q params (keyBody a p1 p2 p3 p4 p5 p6 p7 p8 p9 p10 p11 k1 k2 k3 k4) scope cl pm (.ref c') ctv) ⟨[.ref t], []⟩ = pure [(a, .ref t)])
    (hloc : scope.names.lookup a = some .local) (hcell : ∀ z ∈ scope.names, z.2 ≠ .cell) (hk : scope.kind = .function) (hco : scope.isCoroutine = false) (hgen : scope.isGenerator = false) (hd : (a == ("__debug__" : Str)) = false)
    (ht : IsTup s.heap t [Value.int x tx, .int y ty].toArray) (hy : 0 < y) (hy2 : y < 1073741824) :
    wpAny (model prog w) A (call (.ref f) [.ref t]) (PySem.W.KeyPure (.int (x * 1000000000 / y)) s) (fun _ _ => False) s := by
  refine wpAny_call (PySem.W.kla_callFunE hroom hf rfl hco hgen rfl hcd ?_)
  rw [hbind]
  refine wpAny_pure (wpAny_newFunctionEnv hcell (fun z hz => by rw [List.mem_singleton.mp hz]; exact hloc) (fun h₁ hns hsb => ⟨hlim.fresh _ hsb, ?_⟩) hk)
  have kp : ∀ b o, s.heap.get? b = some o → h₁.get? b = some o := fun b o e => hsb.extBut b o (Nat.ne_of_lt (Heap.lt_size e)) (Heap.get?_push_of_some _ e)
  refine PySem.W.kla_codeExpr (wpAny_mono (Q := fun r s' => ∃ tk u, r = .int (x * 1000000000 / y) u ∧ s' = { s with heap := h₁, toks := tk }) (E := fun _ _ => False) ?_ (fun v s' hq => ?_) fun e s' hq => hq.elim)
  · refine keyBody_run (a := a) (t := t) (x := x) (y := y) (tx := tx) (ty := ty) hk ?_ hns ?_ hd (ht.keeps kp) hy hy2 fun tk u => ⟨tk, u, rfl, rfl⟩
    · show scope.names.lookup a = some .local
      exact hloc
    · simp
  · obtain ⟨tk, u, rfl, rfl⟩ := hq
    exact ⟨h₁, tk, rfl, kp, .int _ _⟩
end
end N66

/-! N66: sorted(found, key=lambda angle: ...), found a dict of pairs. -/
namespace N66
open PySem PySem.Spec PyProof.Rows L2
abbrev PB := (Int × Int) × Addr
def keyI (x : PB) : Int := x.1.1 * 1000000000 / x.1.2
theorem each_refs : ∀ bs : List PB, PySem.W.EachIs (fun (v : Value) (x : PB) => v = .ref x.2) (bs.map fun x => Value.ref x.2) bs
  | [] => .nil
  | x :: bs => .cons rfl (each_refs bs)
theorem refs_each : ∀ {vs : List Value} {bs : List PB}, PySem.W.EachIs (fun (v : Value) (x : PB) => v = .ref x.2) vs bs → vs = bs.map fun x => Value.ref x.2
  | _, _, .nil => rfl
  | _, _, .cons h r => by rw [h, refs_each r]; rfl
theorem keys_zip {H : Hp} : ∀ {kvs : List (List Key × V)} {bs : List Addr} {ps : List (Int × Int)}, IsKeys H kvs bs → kvs.map (·.1) = ps.map (fun p => [Sum.inl p.1, Sum.inl p.2]) → ∃ xs : List PB, xs.map (·.2) = bs ∧ xs.map (·.1) = ps ∧ ∀ x ∈ xs, H x.2 = some (.tup [.int x.1.1, .int x.1.2])
  | [], _, ps, h, e => by
    cases h
    cases ps with
    | nil => exact ⟨[], rfl, rfl, by simp⟩
    | cons p ps => cases e
  | kv :: kvs, _, ps, h, e => by
    cases h with
    | cons h r =>
      rename_i b bs
      cases ps with
      | nil => cases e
      | cons p ps =>
        simp only [List.map_cons, List.cons.injEq] at e
        obtain ⟨xs, h1, h2, h3⟩ := keys_zip r e.2
        refine ⟨(p, b) :: xs, by rw [List.map_cons, h1], by rw [List.map_cons, h2], fun x hx => ?_⟩
        rcases List.mem_cons.mp hx with rfl | hx
        · simp only
          rw [h, e.1]
          rfl
        · exact h3 x hx
section
variable {X : Cx}
theorem sorted_key_dT {pins : List (Addr × Obj)} {s : Shared} {σ : L2.St} {H : Hp} {Q : VK} {d f c' : Addr} {q a : Str} {params : Arguments} {scope : Scope} {cl : List (Str × Addr)} {pm ctv : Value} {p1 p2 p3 p4 p5 p6 p7 p8 p9 p10 p11 : Pos} {k1 k2 k3 k4 : Nat} {kvs : List (List Key × V)} {ps : List (Int × Int)}
    (hcalm : X.calm = true) (I : Inv X pins σ H s) (hf : s.heap.get? f = some (PySem.W.kla_obj "<lambda>" q params (keyBody a p1 p2 p3 p4 p5 p6 p7 p8 p9 p10 p11 k1 k2 k3 k4) scope cl pm c' ctv)) (hcd : s.heap.CodeRec (.ref c') q) (hroom : X.A.depth < recursionLimit)
    (hbind : ∀ v : Value, bindArgs (PySem.W.kla_fn "<lambda>" q params (keyBody a p1 p2 p3 p4 p5 p6 p7 p8 p9 p10 p11 k1 k2 k3 k4) scope cl pm (.ref c') ctv) ⟨[v], []⟩ = pure [(a, v)])
    (hloc : scope.names.lookup a = some .local) (hcell : ∀ z ∈ scope.names, z.2 ≠ .cell) (hk : scope.kind = .function) (hco : scope.isCoroutine = false) (hgen : scope.isGenerator = false) (hdb : (a == ("__debug__" : Str)) = false)
    (hu : X.A.units + 2 < cLine) (hd : Rd H d (.dT kvs)) (hp : kvs.map (·.1) = ps.map (fun p => [Sum.inl p.1, Sum.inl p.2])) (hb : ∀ p ∈ ps, 0 < p.2 ∧ p.2 < 1073741824)
    (hq : ∀ (p : Addr) (qs : List PB), H p = none → (qs.map (·.1)).Perm ps → qs.Pairwise (fun x y => keyI x ≤ keyI y) → (∀ x ∈ qs, H x.2 = some (.tup [.int x.1.1, .int x.1.2])) → Q (.ref p) (upd H p (.lst (qs.map fun x => V.ref x.2)))) :
    wpAny (model X.prog X.w) X.A (call (.builtin "sorted") [.ref d] [(Str.ofString "key", .ref f)]) (EP X pins σ Q) X.xe s := by
  obtain ⟨z, hs, ks, pr, o, es, ep, ho, hx, hdt, he, hn⟩ := (show ObjOk X.prog X.w H s.heap d (.dT kvs) from hd.ok I.hok)
  have l1 : es.size = ks.length := size_of_entries he
  have l2 : kvs.length = ks.length := Paired.length pr
  obtain ⟨xs, x1, x2, x3⟩ := keys_zip (isKeys_of pr) hp
  have hxl : xs.length = ks.length := by
    have := congrArg List.length x1
    rw [List.length_map, List.length_map] at this
    exact this
  refine call_function_entry_kw kind_sorted plain_sorted entry_sorted (ksk_s1 _ _) ?_
  unfold Builtin.«sorted»
  refine wpAny_bind (m := checkCount "sorted" 1 1 _) (wpAny_pure ?_)
  refine wpAny_bind (PySem.W.kdu_collect (A := X.A.in1) (kdl_raw hs hx hdt) (I.ok.hd hcalm) ho (by omega) fun h' tk acc kp it => ?_)
  have ea : acc.toList = xs.map fun x => Value.ref x.2 := by
    have e0 : (xs.map fun x => Value.ref x.2) = ks.map fun x => Value.ref x.2.1 := by
      have := congrArg (List.map Value.ref) x1
      rw [List.map_map, List.map_map] at this
      exact this
    rw [e0]
    have hl : acc.toList.length = ks.length := by rw [Array.length_toList, it.1]; exact l1
    apply List.ext_getElem?
    intro j
    rw [List.getElem?_map]
    cases hj : acc.toList[j]? with
    | none =>
      have h1 := List.getElem?_eq_none_iff.mp hj
      rw [List.getElem?_eq_none (by omega)]
      rfl
    | some v =>
      obtain ⟨en, hen, hv⟩ := it.2 j v (by rw [← Array.getElem?_toList]; exact hj)
      have qe := entry_at he j
      rw [hen] at qe
      cases hb : ks[j]? with
      | none =>
        rw [hb] at qe
        exact nomatch (show some en = none from qe)
      | some b =>
        rw [hb] at qe
        have e2 : en = entryOfKey (tupleKind (mixKind X.prog X.w)) b := Option.some.inj qe
        rw [hv, e2]
        rfl
  have I1 : Inv X pins σ H { s with heap := h', toks := tk } := I.kept kp
  refine wpAny_bind (wpAny_newList ?_ (by rw [ea, List.length_map]; omega))
  have hoL : (h'.push (seqObj "list" acc.toList.toArray 0)).get? h'.objs.size = some (seqObj "list" acc.toList.toArray 0) := Heap.get?_push_size _ rfl
  show wpAny _ _ _ _ _ { s with heap := h'.push (seqObj "list" acc.toList.toArray 0), toks := tk }
  have oldL : ∀ b u, h'.get? b = some u → b ≠ h'.objs.size ∧ (h'.push (seqObj "list" acc.toList.toArray 0)).get? b = some u := fun b u e => ⟨Nat.ne_of_lt (Heap.lt_size e), Heap.get?_push_of_some _ e⟩
  refine wpAny_bind (wpAny_holding (PySem.W.list_sort_key_data (A := X.A.in1) (s := { s with heap := h'.push (seqObj "list" acc.toList.toArray 0), toks := tk }) (β := PB) (R := fun v x => v = .ref x.2) (b := false) (fun x => .int (keyI x)) hoL (by rw [ea]; exact each_refs xs)
    (PySem.W.AllAlike.of fun _ _ => rfl) (PySem.W.Sortable.others fun _ => ⟨by simp, by simp⟩) (by omega) (fun x _ => ?_) (ksk_l1 _ _) (ksk_t1 _ _) (fun v x hv hx h tk2 kb => ?_) fun out c h2 tk2 kb hD hlen hE => ?_))
  · show X.A.units + 1 + 1 + 0 < cLine
    omega
  · subst hv
    have hH := x3 x hx
    obtain ⟨_, its2, r2, o2, ho2, hc2, n2, hd2⟩ := I1.hok _ _ hH
    obtain ⟨u1, u2, rfl, ri, rj⟩ := vals2 r2
    obtain ⟨t1, rfl⟩ := ri
    obtain ⟨t2, rfl⟩ := rj
    have up : ∀ b u, h'.get? b = some u → h.get? b = some u := fun b u e => kb b u (oldL b u e).1 (oldL b u e).2
    have hpb := hb x.1 (by rw [← x2]; exact List.mem_map.mpr ⟨x, hx, rfl⟩)
    refine lam_key (s := { s with heap := h, toks := tk2 }) (x := x.1.1) (y := x.1.2) (tx := t1) (ty := t2) (up _ _ (kp _ _ hf)) ?_ hroom ((I1.nolimit).keeps up) (hbind _) hloc hcell hk hco hgen hdb ⟨o2, up _ _ ho2, hc2, n2, hd2⟩ hpb.1 hpb.2
    obtain ⟨c0, oc, vs, tq, e0, e1, e2, e3⟩ := hcd
    exact ⟨c0, oc, vs, tq, e0, up _ _ (kp _ _ e1), e2, e3⟩
  · have eo := refs_each hE
    have hle : PySem.W.dataLe false (fun x : PB => PyData.int (keyI x)) = fun x y => decide (keyI x ≤ keyI y) := PySem.W.dataLe_int keyI
    rw [hle] at hE eo
    have hpm : (xs.mergeSort fun x y => decide (keyI x ≤ keyI y)).Perm xs := List.mergeSort_perm _ _
    have hso : (xs.mergeSort fun x y => decide (keyI x ≤ keyI y)).Pairwise (fun x y => keyI x ≤ keyI y) := by
      have := List.pairwise_mergeSort (le := fun x y : PB => decide (keyI x ≤ keyI y)) (fun a b c h1 h2 => by simp only [decide_eq_true_eq] at *; omega) (fun a b => by simp only [Bool.or_eq_true, decide_eq_true_eq]; omega) xs
      exact this.imp fun h => by simpa using h
    generalize xs.mergeSort (fun x y => decide (keyI x ≤ keyI y)) = qs at eo hpm hso
    subst eo
    have hl : (qs.map fun x => V.ref x.2).length ≤ sizeLine := by rw [List.length_map, hpm.length_eq]; omega
    refine wpAny_pure ⟨_, rfl, .ref h'.objs.size, upd H h'.objs.size (.lst (qs.map fun x => V.ref x.2)), I1.laid (t' := tk2) (fun b u e => ?_) (Nat.le_refl _)
      (show ObjOk X.prog X.w _ _ _ (.lst (qs.map fun x => V.ref x.2)) from ⟨hl, qs.map fun x => Value.ref x.2, c, ?_, hD⟩), rfl, hq _ qs (I1.hok.fresh (Nat.le_refl _)) ?_ hso fun x hx => x3 x (hpm.mem_iff.mp hx)⟩
    · exact kb b u (oldL b u e).1 (oldL b u e).2
    · have := vals_refs (qs.map (·.2))
      rw [List.map_map, List.map_map] at this
      exact this
    · have := hpm.map (·.1)
      rw [x2] at this
      exact this
end
end N66

/-! N66: a lambda is made; what the heap is then. -/
namespace N66
open PySem PySem.Spec PyProof.Rows L2 LamX
section
variable {X : Cx} {pins : List (Addr × Obj)} {σ : L2.St} {H : Hp} {s : Shared}
/-- what the table tells of the heap behind: as it was, or one row more -/
inductive Made (H : Hp) (P : Addr) (ps : Array Value) (q : Str) (pos : Pos) : Addr → Hp → Prop
  | old {c' : Addr} : H c' = some (CodeO c' q) → Made H P ps q pos c' H
  | new {c' : Addr} : H c' = none → Made H P ps q pos c' (upd (upd H P (.tbl (ps ++ #[rawInt pos.line, rawInt pos.col, .ref c']))) c' (CodeO c' q))
theorem lam_made {c P : Addr} {ps : Array Value} {params : Arguments} {body : Expr} {scope : Scope} {pos : Pos} {E Q : Value → Shared → Prop} (I : Inv X pins σ H s) (TB : TabB X.base X.mg c P) (hcode : X.env.code = .ref c) (hP : H P = some (.tbl ps)) (ht : TriplesOk ps.toList)
    (ha : ∀ (p' : Pos) (cv : Value), codeAmong p' ps.toList = some cv → ∃ c0, cv = .ref c0 ∧ H c0 = some (CodeO c0 (X.env.qual ++ "<lambda>"))) (hdef : defaultsOf params X.env = ([], [])) (hfree : ∀ y ∈ scope.names, y.2 ≠ .free)
    (h : ∀ (f c' : Addr) (pm ctv : Value) (H1 : Hp) (s' : Shared), Inv X pins σ H1 s' → Made H P ps (X.env.qual ++ "<lambda>") pos c' H1 →
      s'.heap.get? f = some (PySem.W.kla_obj "<lambda>" (X.env.qual ++ "<lambda>") params body scope (cloFrom X.env.cells scope.names []) pm c' ctv) → H1 f = none → H1 c' = some (CodeO c' (X.env.qual ++ "<lambda>")) → Q (.ref f) s') :
    wpAny (model X.prog X.w) X.A (eval (.Lambda params body scope pos) X.env) Q E s := by
  have hfr : ∀ y ∈ scope.names, y.2 = .free → ∃ c, X.env.cells.lookup y.1 = some c := fun y hy e => absurd e (hfree y hy)
  have atP := I.hok P _ hP
  have bm := TB.bm.keeps I.bk
  refine PySem.W.kla_eval hdef ?_
  cases hc : codeAmong pos ps.toList with
  | some cv =>
    obtain ⟨c', rfl, hco⟩ := ha pos cv hc
    refine PySem.W.kla_makeFunctionHit (mg := X.mg) (c := c) (P := P) (ps := ps) (closure_ok hfr) I.ok.glob (I.mod.glob.keeps I.bk) hcode (TB.code.keeps I.bk) atP ht hc bm fun ctv h' tk hx hsz => ?_
    exact h _ c' _ ctv H _ (I.kept fun b o e => Heap.get?_push_of_some _ (hx b o e)) (.old hco) (Heap.get?_push_size _ rfl) (I.hok.fresh hsz) hco
  | none =>
    refine PySem.W.kla_makeFunction (mg := X.mg) (c := c) (P := P) (ps := ps) (closure_ok hfr) I.ok.glob (I.mod.glob.keeps I.bk) hcode (TB.code.keeps I.bk) atP ht hc TB.gP bm fun c' ctv h' tk hx hge hlt hrec htb => ?_
    obtain ⟨c2, oc, vs, t, e2, hoc, hd, hv⟩ := hrec
    cases e2
    have big : s.heap.objs.size ≤ h'.objs.size := by omega
    have nC : H c' = none := I.hok.fresh hge
    have J := inv_table (q := X.env.qual ++ "<lambda>") (t' := tk) (more := #[rawInt pos.line, rawInt pos.col, .ref c']) (h' := h'.push (PySem.W.kla_obj "<lambda>" (X.env.qual ++ "<lambda>") params body scope (cloFrom X.env.cells scope.names []) ((X.mg "__name__").getD .none) c' ctv)) I hP (fun b o hb e => Heap.get?_push_of_some _ (hx b o hb e)) (Heap.get?_push_of_some _ htb) hge ⟨oc, vs, t, Heap.get?_push_of_some _ hoc, hd, hv⟩
    refine h h'.objs.size c' _ ctv _ _ J (.new nC) (Heap.get?_push_size _ rfl) ?_ upd_same
    have lP : P < s.heap.objs.size := Heap.lt_size atP
    rw [upd_ne (show h'.objs.size ≠ c' by omega), upd_ne (Nat.ne_of_gt (Nat.lt_of_lt_of_le lP big))]
    exact I.hok.fresh big
end
end N66

/-! N66: sorted(found, key=lambda ...) by its reading. -/
namespace N66
open PySem PySem.Spec PyProof.Rows L2 LamX
/-- the reading: the table stands at the place 1 -/
def spSrtK (P : Addr) (q : Str) : Fun1 := fun ss os Q => ∃ k, ss = [.o k] ∧ os[1]? = some (.tbl P q) ∧ srtKW os (.o k) (fun r => Q r os)
section
variable {H B : Hp} {os : List O} {α : List Fp}
/-- the heap behind the making, over data -/
theorem HS.made {H1 : Hp} {P c' : Addr} {q : Str} {pos : Pos} {ps : Array Value} {p1 : Fp} (s : HS H os B α) (h1 : α[1]? = some p1) (ho : os[1]? = some (.tbl P q)) (e1 : p1.2 = []) (e2 : p1.1 = P) (hP : H P = some (.tbl ps)) (ht : TriplesOk ps.toList)
    (ha : ∀ (p' : Pos) (cv : Value), codeAmong p' ps.toList = some cv → ∃ c, cv = .ref c ∧ B c = some (CodeO c q)) (m : Made H P ps q pos c' H1) : ∃ B1, HS H1 os B1 α ∧ Ext H B α H1 B1 α ∧ (∀ b o, b ≠ P → H b = some o → H1 b = some o) := by
  cases m with
  | old h => exact ⟨B, s, Ext.refl _ _ _, fun _ _ _ h => h⟩
  | new hn =>
    obtain ⟨s1, x1, b1⟩ := s.make (o := CodeO c' q) hn
    have nPc : P ≠ c' := fun e => by rw [e] at hP; rw [hP] at hn; cases hn
    have eH : upd (upd H P (.tbl (ps ++ #[rawInt pos.line, rawInt pos.col, .ref c']))) c' (CodeO c' q) = upd (upd H c' (CodeO c' q)) P (.tbl (ps ++ #[rawInt pos.line, rawInt pos.col, .ref c'])) := by
      funext b
      by_cases hb : b = c'
      · subst hb; rw [upd_same, upd_ne nPc.symm, upd_same]
      · by_cases hb2 : b = P
        · subst hb2; rw [upd_ne hb, upd_same, upd_same]
        · rw [upd_ne hb, upd_ne hb2, upd_ne hb2, upd_ne hb]
    have eL : (ps ++ #[rawInt pos.line, rawInt pos.col, .ref c']).toList = ps.toList ++ [rawInt pos.line, rawInt pos.col, .ref c'] := by simp
    have hO : ObjAt (upd B c' (CodeO c' q)) (upd (upd H c' (CodeO c' q)) P (.tbl (ps ++ #[rawInt pos.line, rawInt pos.col, .ref c']))) p1 (.tbl P q) := by
      refine ⟨⟨e1, e2⟩, _, by rw [e2, upd_same], by rw [eL]; exact PySem.TriplesOk_snoc _ _ _ _ ht, fun p' cv hc => ?_⟩
      rw [eL] at hc
      rcases among_app _ ht hc with z | z
      · obtain ⟨c0, z1, z2⟩ := ha p' cv z
        exact ⟨c0, z1, x1.same _ _ z2⟩
      · exact ⟨c', z, b1⟩
    obtain ⟨s2, x2⟩ := s1.put (k := 1) (p := p1) (o := .tbl P q) h1 (fun b hb => by
      rw [fp, e1, e2, List.mem_singleton] at hb
      rw [upd_ne hb]) hO
    rw [eH]
    have eo : os.set 1 (.tbl P q) = os := by
      apply List.ext_getElem?
      intro j
      by_cases hj : j = 1
      · subst hj
        rw [ho, List.getElem?_set_self (List.getElem?_eq_some_iff.mp ho).1]
      · rw [List.getElem?_set_ne (fun z => hj z.symm)]
    rw [eo] at s2
    refine ⟨_, s2, x1.trans x2, fun b o hb h => ?_⟩
    rw [upd_ne hb, upd_ne (ne_of_none h hn)]
    exact h
end
end N66

/-! N66: sorted(found, key=lambda ...) is sound. -/
namespace N66
open PySem PySem.Spec PyProof.Rows L2 LamX
section
variable {X : Cx} {T : Tab}
theorem snd_sortK {i : Nat} {x a : Str} {c P : Addr} {params : Arguments} {scope : Scope} {p0 px lpos kpos pos p1 p2 p3 p4 p5 p6 p7 p8 p9 p10 p11 : Pos} {k1 k2 k3 k4 : Nat} (hT : T 98 = spSrtK P (X.env.qual ++ "<lambda>"))
    (hN : X.N[i]? = some x) (hv : Vis X.env.scope x) (hd1 : (x == ("__debug__" : Str)) = false) (hd2 : (x == ("__classdict__" : Str)) = false) (hg : Gl X "sorted") (hm : X.mg "sorted" = none) (TB : TabB X.base X.mg c P) (hcode : X.env.code = .ref c) (hcalm : X.calm = true)
    (hroom : X.A.depth < recursionLimit) (hu : X.A.units + 2 < cLine) (hdef : defaultsOf params X.env = ([], [])) (hfree : ∀ y ∈ scope.names, y.2 ≠ .free)
    (hbind : ∀ (q : Str) (cl : List (Str × Addr)) (pm cv ctv v : Value), bindArgs (PySem.W.kla_fn "<lambda>" q params (keyBody a p1 p2 p3 p4 p5 p6 p7 p8 p9 p10 p11 k1 k2 k3 k4) scope cl pm cv ctv) ⟨[v], []⟩ = pure [(a, v)])
    (hloc : scope.names.lookup a = some .local) (hcell : ∀ z ∈ scope.names, z.2 ≠ .cell) (hk : scope.kind = .function) (hco : scope.isCoroutine = false) (hgen : scope.isGenerator = false) (hdb : (a == ("__debug__" : Str)) = false) :
    PE X (.Call (.Name "sorted" p0) [.Name x px] [⟨some (Str.ofString "key"), .Lambda params (keyBody a p1 p2 p3 p4 p5 p6 p7 p8 p9 p10 p11 k1 k2 k3 k4) scope lpos, kpos⟩] pos) (liftE (wpE T (.call 98 (.cons (.var i) .nil)))) := by
  refine ⟨fun pins s σ H Q I h => ?_⟩
  obtain ⟨env, os, B, α, hs, es, h⟩ := h
  simp only [wpE, wpEs] at h
  split at h
  · rw [hT] at h
    obtain ⟨k, e, _⟩ := h
    cases e
  · rename_i k e
    rw [hT] at h
    obtain ⟨k', e', ho, h⟩ := h
    cases e'
    obtain ⟨v, hv1, p, hp, rfl⟩ := es.get i _ (getS_iff.mp e)
    obtain ⟨pt, hpt, ⟨et1, et2⟩, ps, hP, htr, ha⟩ := hs.at ho
    rw [et2] at hP
    simp only [srtKW] at h
    split at h
    · rename_i kvs hk0
      obtain ⟨prs, hkeys, hbnd, h⟩ := h
      obtain ⟨_, ws, w1, w2, w3⟩ := hs.obj _ p _ hp hk0
      have hsep : p.1 ≠ P := fun z => by
        have hk1 : k ≠ 1 := fun w => by rw [w, ho] at hk0; cases hk0
        exact hs.sep k 1 p pt hp hpt hk1 p.1 (List.mem_cons_self ..) (by rw [fp, et1, et2, z]; exact List.mem_cons_self ..)
      refine wpAny_Call_Name_kw (ld_blt I hg hm rfl ?_ (by decide) (by decide))
      refine PyProof.Rows.callWith_kw (thn ((pa_cons (pe_var hN hv hd1 hd2) pa_nil).run pos pins s σ H (fun vs H1 => vs = [.ref p.1] ∧ H1 = H) I ⟨.ref p.1, hv1, rfl, rfl⟩) fun us s1 ⟨vs, H1, I1, r1, q1⟩ => ?_)
      obtain ⟨rfl, rfl⟩ := q1
      obtain rfl := Vals.ref1 r1
      show wpAny _ _ (evalAll [do let v ← eval (.Lambda params (keyBody a p1 p2 p3 p4 p5 p6 p7 p8 p9 p10 p11 k1 k2 k3 k4) scope lpos) X.env; standAt pos; pure v]) _ _ s1
      refine wpAny_evalAll_cons (wpAny_bind (lam_made I1 TB hcode hP htr (fun p' cv hc => ?_) hdef hfree fun f c' pm ctv H2 s2 I2 md hf hfn hc' => wpAny_bind (wpAny_standAt (wpAny_pure (wpAny_evalAll_nil ?_)))))
      · obtain ⟨c0, z1, z2⟩ := ha p' cv hc
        exact ⟨c0, z1, hs.ex _ _ z2⟩
      · obtain ⟨B1, t1, x1, st⟩ := hs.made hpt ho et1 et2 hP htr ha md
        obtain ⟨⟨oc, vsc, tq, o1, o2, o3⟩, _, _⟩ := I2.hok c' _ hc'
        refine sorted_key_dT hcalm I2 hf ⟨c', oc, vsc, tq, rfl, o1, o2, o3⟩ hroom (fun v => hbind _ _ _ _ _ v) hloc hcell hk hco hgen hdb hu (d := p.1) (kvs := ws) (ps := prs) (.inl (st _ _ hsep w1)) ?_ (fun z hz => ?_) fun pn qs hn hpm hso hqs => ?_
        · rw [w2]
          have z := congrArg (List.map (List.map (Sum.inl : Int → Key))) hkeys
          rw [List.map_map, List.map_map] at z
          exact z
        · have := hbnd z hz
          omega
        · have pr : ∀ l : List PB, (∀ x ∈ l, H2 x.2 = some (.tup [.int x.1.1, .int x.1.2])) → Paired (fun (k : List Int) b => H2 b = some (.tup (k.map V.int))) (l.map fun x => [x.1.1, x.1.2]) (l.map (·.2)) := fun l => by
            induction l with
            | nil => exact fun _ => .nil
            | cons x l ih => exact fun hl => .cons (hl x (List.mem_cons_self ..)) (ih fun y hy => hl y (List.mem_cons_of_mem _ hy))
          obtain ⟨B2, t2, x2, q2⟩ := t1.layTups (pr qs hqs)
          obtain ⟨t3, x3, g1, g2⟩ := t2.grow (o := .lst (qs.map fun x => V.ref x.2)) hn
          refine h (qs.map (·.1)) hpm ?_ _ _ B2 ((x1.trans x2).trans x3) t3 ⟨(pn, []), rfl, fun b hb => ?_, rfl, _, upd_same, ?_⟩
          · rw [List.pairwise_map]
            exact hso
          · rw [fp, List.mem_singleton] at hb
            subst hb
            refine ⟨?_, g1, g2⟩
            cases z : H1 b with
            | none => rfl
            | some u => exact absurd hn (x1.grow _ (by rw [z]; exact Option.some_ne_none _))
          · rw [List.map_map] at q2
            rw [List.map_map]
            rw [List.map_map] at q2
            exact q2
    · exact h.elim
  · exact h.elim
end
end N66

/-! N66: the oracle for sorted(found, key=lambda ...). -/
namespace N66
open PySem PySem.Spec PyProof.Rows L2 LamX
def lamOk (scope : Scope) (a : Str) : Bool := decide (scope.names.lookup a = some .local) && scope.names.all (fun z => decide (z.2 ≠ .cell) && decide (z.2 ≠ .free)) && decide (scope.kind = .function) && !scope.isCoroutine && !scope.isGenerator && !(a == ("__debug__" : Str))
def orcK (x : Str) (i : Nat) : Expr → Option Xp
  | .Call (.Name f _) [.Name y _] [⟨some kw, .Lambda ⟨[], [⟨a, none, _⟩], none, [], [], none, []⟩ (.BinOp (.BinOp (.Subscript (.Name a1 _) (.Constant (.int 0) _ _) _) .Mult (.BinOp (.Constant (.int 10) _ _) .Pow (.Constant (.int 9) _ _) _) _) .FloorDiv (.Subscript (.Name a2 _) (.Constant (.int 1) _ _) _) _) scope _, _⟩] _ =>
    if (f = "sorted" ∧ y = x ∧ kw = "key" ∧ a = "angle" ∧ a1 = "angle" ∧ a2 = "angle") ∧ lamOk scope a = true then some (.call 98 (.cons (.var i) .nil)) else none
  | _ => none
theorem orcK_snd {X : Cx} {T : Tab} {x : Str} {i : Nat} {c P : Addr} (hT : T 98 = spSrtK P (X.env.qual ++ "<lambda>")) (hN : X.N[i]? = some x) (hv : Vis X.env.scope x) (hd1 : (x == ("__debug__" : Str)) = false) (hd2 : (x == ("__classdict__" : Str)) = false) (hg : Gl X "sorted") (hm : X.mg "sorted" = none)
    (TB : TabB X.base X.mg c P) (hcode : X.env.code = .ref c) (hcalm : X.calm = true) (hroom : X.A.depth < recursionLimit) (hu : X.A.units + 2 < cLine) {e : Expr} {z : Xp} (h : orcK x i e = some z) : PE X e (liftE (wpE T z)) := by
  unfold orcK at h
  split at h
  · split at h
    · rename_i hc
      cases h
      obtain ⟨⟨rfl, rfl, rfl, rfl, rfl, rfl⟩, hl⟩ := hc
      unfold lamOk at hl
      simp only [Bool.and_eq_true, Bool.not_eq_true', decide_eq_true_eq, List.all_eq_true] at hl
      obtain ⟨⟨⟨⟨⟨l1, l2⟩, l3⟩, l4⟩, l5⟩, l6⟩ := hl
      exact snd_sortK hT hN hv hd1 hd2 hg hm TB hcode hcalm hroom hu rfl (fun y hy => (l2 y hy).2) (fun _ _ _ _ _ _ => rfl) l1 (fun y hy => (l2 y hy).1) l3 l4 l5 l6
    · cases h
  · cases h
end N66

/-! N66, the program's windings: what each def computes. -/
namespace N66
open PySem PySem.Spec L2
def p_lowest : Ss := .cons (.par (.cons 2 false (.var 0) (.cons 3 false (.var 1) .nil))) (.cons (.whl (.val (.cmp .Gt (.var 3) (.cst (.int 0)))) (.cons (.par (.cons 2 false (.var 3) (.cons 3 false (.bin .Mod (.var 2) (.var 3)) .nil))) .nil)) (.cons (.ret (.tup (.cons (.bin .FloorDiv (.var 0) (.var 2)) (.cons (.bin .FloorDiv (.var 1) (.var 2)) .nil)))) .nil))
def p_turns : Ss := .cons (.par (.cons 2 true (.lst .nil) (.cons 3 false (.cst (.int 0)) (.cons 4 false (.idx (.var 1) (.cst (.int 0))) .nil)))) (.cons (.whl (.val (.cmp .Lt (.var 3) (.bin .Mult (.cst (.int 2)) (.var 0)))) (.cons (.app 2 (.tup (.cons (.var 3) (.cons (.var 4) .nil)))) (.cons (.aug 3 .Add (.var 4)) (.cons (.aug 4 .Add (.idx (.var 1) (.cst (.int 1)))) .nil)))) (.cons (.ret (.var 2)) .nil))
def p_pricked : Ss := .cons (.setO 3 (.lst .nil)) (.cons (.for_ (.tp [4, 5]) (.seq (.call 3 (.cons (.var 0) (.cons (.var 1) .nil)))) (.cons (.set 6 (.bin .Add (.var 4) (.bin .FloorDiv (.bin .Mult (.idx (.var 2) (.cst (.int 0))) (.var 5)) (.idx (.var 2) (.cst (.int 1)))))) (.cons (.iff (.val (.cmp .Lt (.var 6) (.bin .Mult (.cst (.int 2)) (.var 0)))) (.cons (.set 7 (.bin .FloorDiv (.var 6) (.cst (.int 2)))) (.cons (.app 3 (.ite (.val (.cmp .Eq (.idx (.var 1) (.cst (.int 2))) (.cst (.int 0)))) (.var 7) (.bin .Sub (.bin .Sub (.var 0) (.cst (.int 1))) (.var 7)))) .nil)) .nil) .nil))) (.cons (.ret (.fn .sorted (.cons (.var 3) .nil))) .nil))
def p_breaks : Ss := .cons (.setO 2 (.dct (.dT [([0, 1], .int 0)]))) (.cons (.for_ (.tp [3, 4]) (.seq (.call 3 (.cons (.var 0) (.cons (.var 1) .nil)))) (.cons (.for_ (.nm 5) (.rng (.var 3) (.fn .min2 (.cons (.bin .Add (.var 3) (.var 4)) (.cons (.bin .Add (.bin .Mult (.cst (.int 2)) (.var 0)) (.cst (.int 1))) .nil)))) (.cons (.iff (.val (.cmp .Eq (.bin .Mod (.var 5) (.cst (.int 2))) (.cst (.int 0)))) (.cons (.stD 2 (.call 2 (.cons (.bin .Sub (.var 5) (.var 3)) (.cons (.var 4) .nil))) (.cst (.int 0))) .nil) .nil) .nil)) .nil)) (.cons (.ret (.call 6 (.cons (.fn .list (.cons (.var 2) .nil)) .nil))) .nil))
def p_in_order : Ss := .cons (.set 1 (.cst (.int 1))) (.cons (.for_ (.nm 2) (.seq (.var 0)) (.cons (.aug 1 .Mult (.idx (.var 2) (.cst (.int 1)))) .nil)) (.cons (.ret (.lc (.var 2) (.tp [3, 2]) (.seq (.fn .sorted (.cons (.lc (.tup (.cons (.bin .Mult (.idx (.var 2) (.cst (.int 0))) (.bin .FloorDiv (.var 1) (.idx (.var 2) (.cst (.int 1))))) (.cons (.var 2) .nil))) (.nm 2) (.seq (.var 0)) .tt [2]) .nil))) .tt [3, 2])) .nil))
def p_law_lowest : Ss := .cons (.par (.cons 2 false (.var 0) (.cons 3 false (.var 1) .nil))) (.cons (.whl (.val (.cmp .NotEq (.var 3) (.cst (.int 0)))) (.cons (.par (.cons 2 false (.var 3) (.cons 3 false (.bin .Mod (.var 2) (.var 3)) .nil))) .nil)) (.cons (.ret (.tup (.cons (.bin .FloorDiv (.var 0) (.var 2)) (.cons (.bin .FloorDiv (.var 1) (.var 2)) .nil)))) .nil))
def p_law_pricked : Ss := .cons (.par (.cons 3 true (.lst .nil) (.cons 4 false (.cst (.int 0)) (.cons 5 false (.idx (.var 1) (.cst (.int 0))) .nil)))) (.cons (.whl (.val (.cmp .Lt (.var 4) (.bin .Mult (.cst (.int 2)) (.var 0)))) (.cons (.set 6 (.bin .Add (.bin .Mult (.var 4) (.idx (.var 2) (.cst (.int 1)))) (.bin .Mult (.idx (.var 2) (.cst (.int 0))) (.var 5)))) (.cons (.iff (.val (.cmp .Lt (.var 6) (.bin .Mult (.bin .Mult (.cst (.int 2)) (.var 0)) (.idx (.var 2) (.cst (.int 1)))))) (.cons (.set 7 (.bin .FloorDiv (.var 6) (.bin .Mult (.cst (.int 2)) (.idx (.var 2) (.cst (.int 1)))))) (.cons (.app 3 (.ite (.val (.cmp .Eq (.idx (.var 1) (.cst (.int 2))) (.cst (.int 0)))) (.var 7) (.bin .Sub (.bin .Sub (.var 0) (.cst (.int 1))) (.var 7)))) .nil)) .nil) (.cons (.par (.cons 4 false (.bin .Add (.var 4) (.var 5)) (.cons 5 false (.bin .Add (.var 5) (.idx (.var 1) (.cst (.int 1)))) .nil))) .nil)))) (.cons (.ret (.fn .sorted (.cons (.var 3) .nil))) .nil))
theorem leave_val (n : Nat) (Q : R → List O → Prop) (d : D) (os : List O) : leave n Q (.val d) os = Q (.val d) (os.take n) := rfl
theorem leave_new (n : Nat) (Q : R → List O → Prop) (o : O) (os : List O) : leave n Q (.new o) os = Q (.new o) (os.take n) := rfl
theorem leave_last (Q : R → List O → Prop) (o : O) (os : List O) : leave os.length Q (.obj os.length) (os ++ [o]) = Q (.new o) os := by
  unfold leave
  simp
theorem int_gcd_step (a b : Nat) (h : 0 < b) : Nat.gcd b (a % b) = Nat.gcd a b := by
  rw [Nat.gcd_comm a b, Nat.gcd_rec b a, Nat.gcd_comm]
def frI (p : Nat × Nat) : D := tupI [(p.1 : Int), (p.2 : Int)]
def lowF (p q : Nat) : Nat × Nat := (p / Nat.gcd p q, q / Nat.gcd p q)
def spLowest : Fun1 := fun ss os Q => ∃ p q : Nat, ss = [.d (.int p), .d (.int q)] ∧ 0 < q ∧ q < 2 ^ 100 ∧ Q (.val (frI (lowF p q))) os
theorem divOk_nat {g : Nat} (h0 : 0 < g) (h : g < 2 ^ 100) : DivOk (g : Int) := by
  refine ⟨by omega, ?_⟩
  have : (2 : Nat) ^ 100 < 1606938044258990275541962092341162602522202993782792835301376 := by decide
  omega
theorem low_end {p q a : Nat} (hq : 0 < q) (hq2 : q < 2 ^ 100) (hg : a = Nat.gcd p q) : DivOk (a : Int) := by
  have hg0 : 0 < Nat.gcd p q := Nat.gcd_pos_of_pos_right p hq
  have hgl : Nat.gcd p q < 2 ^ 100 := Nat.lt_of_le_of_lt (Nat.gcd_le_right p hq) hq2
  exact divOk_nat (by omega) (by omega)
theorem w_lowest (T : Tab) (ss : List S) (os : List O) (Q : R → List O → Prop) (h : spLowest ss os Q) : bodyW T p_lowest 4 ss os Q := by
  obtain ⟨p, q, rfl, hq, hq2, h⟩ := h
  simp only [p_lowest, bodyW, e_var, e_cst, e_dct, e_bin, e_neg, e_not, e_cmp, e_cmp2, e_and, e_or, e_ite, e_tup, e_lst, e_idx, e_slc, e_rev, e_fn, e_call, es_nil, es_cons, o_none, o_some, t_tt, t_and, t_or, t_not, t_val, i_seq, i_rng, i_enm, i_zip, p_nil, p_cons, s_set, s_setO, s_unp, s_par, s_aug, s_ext, s_iff, s_ret, s_app, s_pop, s_stL, s_stD, s_appN, s_popN, s_drop, s_cont, s_brk, ss_nil, ss_cons, getS, setS, setPs, rs_val, rs_obj, rs_new, rsv_d, rsv_last, b_add, b_addL, b_addT, b_sub, b_mul, b_div, b_mod, b_pow, c_eq, c_ne, c_lt, c_le, c_gt, c_ge, c_inL, c_inT, c_niL, c_niT, c_isB, c_isN, c_isI, c_isT, c_inN, c_inI, c_inTu, tr_non, tr_bl, tr_int, tr_lst, tr_tup, x_lst, x_tup, sl_l, sl_t, rv_l, nw_f, nw_t, au_add, au_sub, au_mul, la_last, bd_nm, bd_tp, sq_l, sq_t, f_len, f_isi, f_sortD, f_sortO, f_tupL, f_tupO, f_lstT, f_lstL, f_lstD, f_min2, f_minL, f_all, f_any, f_intB, f_str, z_ll, z_tt, ad_nil, ad_cons, objAt, setAll, wipeA, wipeS, List.map_cons, List.map_nil, List.length_cons, List.length_nil, List.replicate, List.cons_append, List.nil_append, Nat.zero_add, Nat.reduceAdd, Nat.reduceSub]
  refine whl_i (fun m env os' => ∃ a b : Nat, env = [some (.d (.int p)), some (.d (.int q)), some (.d (.int a)), some (.d (.int b))] ∧ os' = os ∧ Nat.gcd a b = Nat.gcd p q ∧ b = m) ⟨p, q, rfl, rfl, rfl, rfl⟩ fun m env os' ⟨a, b, he, ho, hg, hm⟩ => ?_
  subst he ho hm
  simp only [bodyW, e_var, e_cst, e_dct, e_bin, e_neg, e_not, e_cmp, e_cmp2, e_and, e_or, e_ite, e_tup, e_lst, e_idx, e_slc, e_rev, e_fn, e_call, es_nil, es_cons, o_none, o_some, t_tt, t_and, t_or, t_not, t_val, i_seq, i_rng, i_enm, i_zip, p_nil, p_cons, s_set, s_setO, s_unp, s_par, s_aug, s_ext, s_iff, s_ret, s_app, s_pop, s_stL, s_stD, s_appN, s_popN, s_drop, s_cont, s_brk, ss_nil, ss_cons, getS, setS, setPs, rs_val, rs_obj, rs_new, rsv_d, rsv_last, b_add, b_addL, b_addT, b_sub, b_mul, b_div, b_mod, b_pow, c_eq, c_ne, c_lt, c_le, c_gt, c_ge, c_inL, c_inT, c_niL, c_niT, c_isB, c_isN, c_isI, c_isT, c_inN, c_inI, c_inTu, tr_non, tr_bl, tr_int, tr_lst, tr_tup, x_lst, x_tup, sl_l, sl_t, rv_l, nw_f, nw_t, au_add, au_sub, au_mul, la_last, bd_nm, bd_tp, sq_l, sq_t, f_len, f_isi, f_sortD, f_sortO, f_tupL, f_tupO, f_lstT, f_lstL, f_lstD, f_min2, f_minL, f_all, f_any, f_intB, f_str, z_ll, z_tt, ad_nil, ad_cons, objAt, setAll, wipeA, wipeS, List.map_cons, List.map_nil, List.length_cons, List.length_nil, List.replicate, List.cons_append, List.nil_append, Nat.zero_add, Nat.reduceAdd, Nat.reduceSub]
  by_cases hb : 0 < b
  · rw [if_pos (by simpa using hb)]
    refine ⟨by omega, a % b, Nat.mod_lt _ hb, b, a % b, by simp, by simp, ?_, by simp⟩
    rw [int_gcd_step a b hb]
    exact hg
  · rw [if_neg (by simpa using hb)]
    have hb0 : b = 0 := by omega
    subst hb0
    rw [Nat.gcd_zero_right] at hg
    refine ⟨low_end hq hq2 hg, low_end hq hq2 hg, by decide, ?_⟩
    simp only [leave_val, tk_self]
    rw [hg]
    exact h
theorem w_law_lowest (T : Tab) (ss : List S) (os : List O) (Q : R → List O → Prop) (h : spLowest ss os Q) : bodyW T p_law_lowest 4 ss os Q := by
  obtain ⟨p, q, rfl, hq, hq2, h⟩ := h
  simp only [p_law_lowest, bodyW, e_var, e_cst, e_dct, e_bin, e_neg, e_not, e_cmp, e_cmp2, e_and, e_or, e_ite, e_tup, e_lst, e_idx, e_slc, e_rev, e_fn, e_call, es_nil, es_cons, o_none, o_some, t_tt, t_and, t_or, t_not, t_val, i_seq, i_rng, i_enm, i_zip, p_nil, p_cons, s_set, s_setO, s_unp, s_par, s_aug, s_ext, s_iff, s_ret, s_app, s_pop, s_stL, s_stD, s_appN, s_popN, s_drop, s_cont, s_brk, ss_nil, ss_cons, getS, setS, setPs, rs_val, rs_obj, rs_new, rsv_d, rsv_last, b_add, b_addL, b_addT, b_sub, b_mul, b_div, b_mod, b_pow, c_eq, c_ne, c_lt, c_le, c_gt, c_ge, c_inL, c_inT, c_niL, c_niT, c_isB, c_isN, c_isI, c_isT, c_inN, c_inI, c_inTu, tr_non, tr_bl, tr_int, tr_lst, tr_tup, x_lst, x_tup, sl_l, sl_t, rv_l, nw_f, nw_t, au_add, au_sub, au_mul, la_last, bd_nm, bd_tp, sq_l, sq_t, f_len, f_isi, f_sortD, f_sortO, f_tupL, f_tupO, f_lstT, f_lstL, f_lstD, f_min2, f_minL, f_all, f_any, f_intB, f_str, z_ll, z_tt, ad_nil, ad_cons, objAt, setAll, wipeA, wipeS, List.map_cons, List.map_nil, List.length_cons, List.length_nil, List.replicate, List.cons_append, List.nil_append, Nat.zero_add, Nat.reduceAdd, Nat.reduceSub]
  refine whl_i (fun m env os' => ∃ a b : Nat, env = [some (.d (.int p)), some (.d (.int q)), some (.d (.int a)), some (.d (.int b))] ∧ os' = os ∧ Nat.gcd a b = Nat.gcd p q ∧ b = m) ⟨p, q, rfl, rfl, rfl, rfl⟩ fun m env os' ⟨a, b, he, ho, hg, hm⟩ => ?_
  subst he ho hm
  simp only [bodyW, e_var, e_cst, e_dct, e_bin, e_neg, e_not, e_cmp, e_cmp2, e_and, e_or, e_ite, e_tup, e_lst, e_idx, e_slc, e_rev, e_fn, e_call, es_nil, es_cons, o_none, o_some, t_tt, t_and, t_or, t_not, t_val, i_seq, i_rng, i_enm, i_zip, p_nil, p_cons, s_set, s_setO, s_unp, s_par, s_aug, s_ext, s_iff, s_ret, s_app, s_pop, s_stL, s_stD, s_appN, s_popN, s_drop, s_cont, s_brk, ss_nil, ss_cons, getS, setS, setPs, rs_val, rs_obj, rs_new, rsv_d, rsv_last, b_add, b_addL, b_addT, b_sub, b_mul, b_div, b_mod, b_pow, c_eq, c_ne, c_lt, c_le, c_gt, c_ge, c_inL, c_inT, c_niL, c_niT, c_isB, c_isN, c_isI, c_isT, c_inN, c_inI, c_inTu, tr_non, tr_bl, tr_int, tr_lst, tr_tup, x_lst, x_tup, sl_l, sl_t, rv_l, nw_f, nw_t, au_add, au_sub, au_mul, la_last, bd_nm, bd_tp, sq_l, sq_t, f_len, f_isi, f_sortD, f_sortO, f_tupL, f_tupO, f_lstT, f_lstL, f_lstD, f_min2, f_minL, f_all, f_any, f_intB, f_str, z_ll, z_tt, ad_nil, ad_cons, objAt, setAll, wipeA, wipeS, List.map_cons, List.map_nil, List.length_cons, List.length_nil, List.replicate, List.cons_append, List.nil_append, Nat.zero_add, Nat.reduceAdd, Nat.reduceSub, eqD, Flat]
  refine ⟨trivial, trivial, ?_⟩
  by_cases hb : 0 < b
  · rw [if_pos (by simp; omega)]
    refine ⟨by omega, a % b, Nat.mod_lt _ hb, b, a % b, by simp, by simp, ?_, by simp⟩
    rw [int_gcd_step a b hb]
    exact hg
  · rw [if_neg (by simp; omega)]
    have hb0 : b = 0 := by omega
    subst hb0
    rw [Nat.gcd_zero_right] at hg
    refine ⟨low_end hq hq2 hg, low_end hq hq2 hg, by decide, ?_⟩
    simp only [leave_val, tk_self]
    rw [hg]
    exact h

/-! ### turns -/
def turnsF (many w : Nat) : Nat → Nat → Nat → List (Nat × Nat)
  | 0, _, _ => []
  | n + 1, b, l => if b < 2 * many then (b, l) :: turnsF many w n (b + l) (l + w) else []
def turnsL (many g w : Nat) : List (Nat × Nat) := turnsF many w (2 * many) 0 g
theorem turnsF_end {many w n b l : Nat} (h : ¬ b < 2 * many) : turnsF many w n b l = [] := by
  cases n with
  | zero => rfl
  | succ n => unfold turnsF; rw [if_neg h]
/-- a winding of the document, its numbers -/
structure Wd where
  g : Nat
  w : Nat
  e : Nat
structure Wd.Ok (W : Wd) : Prop where
  g4 : 4 ≤ W.g
  g16 : W.g ≤ 16
  w8 : W.w ≤ 8
  e1 : W.e ≤ 1
def Wd.d (W : Wd) : D := tupI [(W.g : Int), (W.w : Int), (W.e : Int)]
def prI (p : Nat × Nat) : D := tupI [(p.1 : Int), (p.2 : Int)]
def spTurns : Fun1 := fun ss os Q => ∃ (many : Nat) (W : Wd), ss = [.d (.int many), .d W.d] ∧ W.Ok ∧ many ≤ 30 ∧ Q (.new (.lst ((turnsL many W.g W.w).map prI))) os
theorem mul2 (n : Nat) (i : Int) (h : (n : Int) < 2 ^ 64) : MulOk (n : Int) i := .inl (.inl ⟨by omega, by omega⟩)
theorem at3_0 (a b c : D) : atI [a, b, c] 0 = some a := rfl
theorem at3_1 (a b c : D) : atI [a, b, c] 1 = some b := rfl
theorem at3_2 (a b c : D) : atI [a, b, c] 2 = some c := rfl
theorem at2_0 (a b : D) : atI [a, b] 0 = some a := rfl
theorem at2_1 (a b : D) : atI [a, b] 1 = some b := rfl
theorem mul_lit (i j : Int) (h : -(2 ^ 64) < i ∧ i < 2 ^ 64) : MulOk i j := .inl (.inl h)
theorem w_turns (T : Tab) (ss : List S) (os : List O) (Q : R → List O → Prop) (h : spTurns ss os Q) : bodyW T p_turns 5 ss os Q := by
  obtain ⟨many, W, rfl, hW, hm, h⟩ := h
  simp only [p_turns, bodyW, e_var, e_cst, e_dct, e_bin, e_neg, e_not, e_cmp, e_cmp2, e_and, e_or, e_ite, e_tup, e_lst, e_idx, e_slc, e_rev, e_fn, e_call, es_nil, es_cons, o_none, o_some, t_tt, t_and, t_or, t_not, t_val, i_seq, i_rng, i_enm, i_zip, p_nil, p_cons, s_set, s_setO, s_unp, s_par, s_aug, s_ext, s_iff, s_ret, s_app, s_pop, s_stL, s_stD, s_appN, s_popN, s_drop, s_cont, s_brk, ss_nil, ss_cons, getS, setS, setPs, rs_val, rs_obj, rs_new, rsv_d, rsv_last, b_add, b_addL, b_addT, b_sub, b_mul, b_div, b_mod, b_pow, c_eq, c_ne, c_lt, c_le, c_gt, c_ge, c_inL, c_inT, c_niL, c_niT, c_isB, c_isN, c_isI, c_isT, c_inN, c_inI, c_inTu, tr_non, tr_bl, tr_int, tr_lst, tr_tup, x_lst, x_tup, sl_l, sl_t, rv_l, nw_f, nw_t, au_add, au_sub, au_mul, la_last, bd_nm, bd_tp, sq_l, sq_t, f_len, f_isi, f_sortD, f_sortO, f_tupL, f_tupO, f_lstT, f_lstL, f_lstD, f_min2, f_minL, f_all, f_any, f_intB, f_str, z_ll, z_tt, ad_nil, ad_cons, objAt, setAll, wipeA, wipeS, List.map_cons, List.map_nil, List.length_cons, List.length_nil, List.replicate, List.cons_append, List.nil_append, Nat.zero_add, Nat.reduceAdd, Nat.reduceSub, Wd.d, tupI, ixD, at3_0]
  refine ⟨by decide, ?_⟩
  refine whl_i (fun m env os' => ∃ (b l : Nat) (acc : List (Nat × Nat)), env = [some (.d (.int many)), some (.d W.d), some (.o os.length), some (.d (.int b)), some (.d (.int l))] ∧ os' = os ++ [.lst (acc.map prI)] ∧ acc ++ turnsF many W.w m b l = turnsL many W.g W.w ∧ 2 * many - b ≤ m ∧ acc.length + m ≤ 2 * many ∧ 1 ≤ l) (m := 2 * many)
    ⟨0, W.g, [], rfl, rfl, rfl, by omega, by simp, by have := hW.g4; omega⟩ fun m env os' ⟨b, l, acc, he, ho, ha, hb1, hb2, hl⟩ => ?_
  subst he ho
  simp only [bodyW, e_var, e_cst, e_dct, e_bin, e_neg, e_not, e_cmp, e_cmp2, e_and, e_or, e_ite, e_tup, e_lst, e_idx, e_slc, e_rev, e_fn, e_call, es_nil, es_cons, o_none, o_some, t_tt, t_and, t_or, t_not, t_val, i_seq, i_rng, i_enm, i_zip, p_nil, p_cons, s_set, s_setO, s_unp, s_par, s_aug, s_ext, s_iff, s_ret, s_app, s_pop, s_stL, s_stD, s_appN, s_popN, s_drop, s_cont, s_brk, ss_nil, ss_cons, getS, setS, setPs, rs_val, rs_obj, rs_new, rsv_d, rsv_last, b_add, b_addL, b_addT, b_sub, b_mul, b_div, b_mod, b_pow, c_eq, c_ne, c_lt, c_le, c_gt, c_ge, c_inL, c_inT, c_niL, c_niT, c_isB, c_isN, c_isI, c_isT, c_inN, c_inI, c_inTu, tr_non, tr_bl, tr_int, tr_lst, tr_tup, x_lst, x_tup, sl_l, sl_t, rv_l, nw_f, nw_t, au_add, au_sub, au_mul, la_last, bd_nm, bd_tp, sq_l, sq_t, f_len, f_isi, f_sortD, f_sortO, f_tupL, f_tupO, f_lstT, f_lstL, f_lstD, f_min2, f_minL, f_all, f_any, f_intB, f_str, z_ll, z_tt, ad_nil, ad_cons, objAt, setAll, wipeA, wipeS, List.map_cons, List.map_nil, List.length_cons, List.length_nil, List.replicate, List.cons_append, List.nil_append, Nat.zero_add, Nat.reduceAdd, Nat.reduceSub]
  refine ⟨mul_lit _ _ (by decide), ?_⟩
  by_cases hb : b < 2 * many
  · rw [if_pos (by simp; omega)]
    simp only [g_last, s_last, Wd.d, tupI, ixD, at3_0, at3_1]
    obtain ⟨m', rfl⟩ : ∃ m', m = m' + 1 := ⟨m - 1, by omega⟩
    refine ⟨by decide, ?_, ?_⟩
    · rw [List.length_map]; unfold lim; omega
    refine ⟨m', by omega, b + l, l + W.w, acc ++ [(b, l)], ?_, ?_, ?_, by omega, by simp; omega, by omega⟩
    · simp [Wd.d, tupI]
    · simp [prI, tupI]
    · unfold turnsF at ha
      rw [if_pos hb] at ha
      rw [← ha]
      simp
  · rw [if_neg (by simp; omega)]
    rw [turnsF_end hb, List.append_nil] at ha
    simp only [leave_last]
    rw [ha]
    exact h
end N66

/-! N66, needles. -/
namespace N66
open PySem PySem.Spec L2
/-! ### sorted lists are one -/
theorem sorted_one {α : Type} {le : α → α → Prop} (anti : ∀ a b, le a b → le b a → a = b) : ∀ {xs ys : List α}, xs.Perm ys → xs.Pairwise le → ys.Pairwise le → xs = ys
  | [], ys, p, _, _ => by rw [List.nil_perm] at p; exact p.symm
  | x :: xs, [], p, _, _ => by have := p.length_eq; simp at this
  | x :: xs, y :: ys, p, hx, hy => by
    rw [List.pairwise_cons] at hx hy
    have e : x = y := by
      have h1 : y ∈ x :: xs := p.mem_iff.mpr (List.mem_cons_self ..)
      have h2 : x ∈ y :: ys := p.mem_iff.mp (List.mem_cons_self ..)
      rcases List.mem_cons.mp h1 with h1 | h1
      · exact h1.symm
      · rcases List.mem_cons.mp h2 with h2 | h2
        · exact h2
        · exact anti _ _ (hx.1 _ h1) (hy.1 _ h2)
    subst e
    rw [sorted_one anti ((List.perm_cons x).mp p) hx.2 hy.2]
def insI (x : Int) : List Int → List Int
  | [] => [x]
  | y :: ys => if x ≤ y then x :: y :: ys else y :: insI x ys
def sortI : List Int → List Int
  | [] => []
  | x :: xs => insI x (sortI xs)
theorem insI_perm (x : Int) : ∀ ys, (insI x ys).Perm (x :: ys)
  | [] => .refl _
  | y :: ys => by
    unfold insI
    split
    · exact .refl _
    · exact ((insI_perm x ys).cons y).trans (.swap x y ys)
theorem sortI_perm : ∀ xs, (sortI xs).Perm xs
  | [] => .refl _
  | x :: xs => (insI_perm x _).trans ((sortI_perm xs).cons x)
theorem insI_sorted (x : Int) : ∀ {ys : List Int}, ys.Pairwise (· ≤ ·) → (insI x ys).Pairwise (· ≤ ·)
  | [], _ => by simp [insI]
  | y :: ys, h => by
    unfold insI
    rw [List.pairwise_cons] at h
    split
    · rename_i hxy
      rw [List.pairwise_cons]
      refine ⟨fun z hz => ?_, List.pairwise_cons.mpr h⟩
      rcases List.mem_cons.mp hz with rfl | hz
      · exact hxy
      · exact Int.le_trans hxy (h.1 z hz)
    · rename_i hxy
      rw [List.pairwise_cons]
      refine ⟨fun z hz => ?_, insI_sorted x h.2⟩
      rcases List.mem_cons.mp ((insI_perm x ys).mem_iff.mp hz) with rfl | hz
      · omega
      · exact h.1 z hz
theorem sortI_sorted : ∀ xs, (sortI xs).Pairwise (· ≤ ·)
  | [] => .nil
  | x :: xs => insI_sorted x (sortI_sorted xs)
theorem sortI_eq {xs ys : List Int} (p : ys.Perm xs) (h : ys.Pairwise (· ≤ ·)) : ys = sortI xs :=
  sorted_one (fun a b h1 h2 => Int.le_antisymm h1 h2) (p.trans (sortI_perm xs).symm) h (sortI_sorted xs)
theorem sortI_len (xs : List Int) : (sortI xs).length = xs.length := (sortI_perm xs).length_eq
theorem sortI_mem {xs : List Int} {x : Int} : x ∈ sortI xs ↔ x ∈ xs := (sortI_perm xs).mem_iff
/-- sorted(ints) -/
theorem sortW_ints {ns : List Int} {Q : List D → Prop} (h : Q ((sortI ns).map D.int)) : sortW (ns.map D.int) Q := .inl ⟨ns, rfl, fun ns' p s => by rw [sortI_eq p s]; exact h⟩

/-! ### needles -/
def cellE (many e c : Nat) : Int := if e = 0 then (c : Int) else (many : Int) - 1 - c
def halfOf (p q b l : Nat) : Nat := b + p * l / q
/-- the cells that a needle at p / q pricks, turn by turn -/
def cellsT (many e p q : Nat) : List (Nat × Nat) → List Int
  | [] => []
  | (b, l) :: ts => if halfOf p q b l < 2 * many then cellE many e (halfOf p q b l / 2) :: cellsT many e p q ts else cellsT many e p q ts
theorem cellsT_app (many e p q : Nat) : ∀ xs ys : List (Nat × Nat), cellsT many e p q (xs ++ ys) = cellsT many e p q xs ++ cellsT many e p q ys
  | [], ys => rfl
  | (b, l) :: xs, ys => by
    have ih := cellsT_app many e p q xs ys
    rw [List.cons_append]
    simp only [cellsT]
    rw [ih]
    split <;> rfl
theorem cellsT_len (many e p q : Nat) : ∀ xs : List (Nat × Nat), (cellsT many e p q xs).length ≤ xs.length
  | [] => Nat.le_refl _
  | (b, l) :: xs => by
    have := cellsT_len many e p q xs
    unfold cellsT
    split <;> simp <;> omega
def prickedL (many : Nat) (W : Wd) (p q : Nat) : List Int := sortI (cellsT many W.e p q (turnsL many W.g W.w))
def spPricked : Fun1 := fun ss os Q => ∃ (many : Nat) (W : Wd) (p q : Nat), ss = [.d (.int many), .d W.d, .d (frI (p, q))] ∧ W.Ok ∧ many ≤ 30 ∧ 0 < q ∧ q < 2 ^ 100 ∧ p < 2 ^ 100 ∧ Q (.new (.lst ((prickedL many W p q).map D.int))) os
theorem map_get {α β : Type} {f : α → β} {xs : List α} {i : Nat} {y : β} (h : (xs.map f)[i]? = some y) : ∃ x, xs[i]? = some x ∧ y = f x := by
  rw [List.getElem?_map] at h
  cases z : xs[i]? with
  | none => rw [z] at h; cases h
  | some x => rw [z] at h; exact ⟨x, rfl, (Option.some.inj h).symm⟩
theorem take_snoc {α : Type} {xs : List α} {i : Nat} {x : α} (h : xs[i]? = some x) : xs.take (i + 1) = xs.take i ++ [x] := by
  rw [List.take_add_one, h]; rfl
theorem turnsF_len (many w : Nat) : ∀ n b l, (turnsF many w n b l).length ≤ n
  | 0, _, _ => Nat.le_refl _
  | n + 1, b, l => by
    unfold turnsF
    split
    · have := turnsF_len many w n (b + l) (l + w); simp; omega
    · simp
theorem turnsL_len (many g w : Nat) : (turnsL many g w).length ≤ 2 * many := turnsF_len _ _ _ _ _
theorem turnsF_bnd {many w : Nat} (hw : w ≤ 8) : ∀ {n b l : Nat} {p : Nat × Nat}, p ∈ turnsF many w n b l → p.2 ≤ l + 8 * n ∧ p.1 < 2 * many ∧ l ≤ p.2
  | 0, _, _, _, h => by simp [turnsF] at h
  | n + 1, b, l, p, h => by
    unfold turnsF at h
    split at h
    · rename_i hb
      rcases List.mem_cons.mp h with rfl | h
      · exact ⟨by show l ≤ _; omega, hb, Nat.le_refl _⟩
      · obtain ⟨h1, h2, h3⟩ := turnsF_bnd hw h
        exact ⟨by omega, h2, by omega⟩
    · simp at h
theorem turnsL_bnd {many : Nat} {W : Wd} (hW : W.Ok) (hm : many ≤ 30) {p : Nat × Nat} (h : p ∈ turnsL many W.g W.w) : p.2 ≤ 500 ∧ p.1 < 2 * many ∧ 4 ≤ p.2 := by
  obtain ⟨h1, h2, h3⟩ := turnsF_bnd hW.w8 h
  have := hW.g16
  have := hW.g4
  exact ⟨by omega, h2, by omega⟩
theorem cellsT_lim {many e p q g w i : Nat} (hm : many ≤ 30) : (cellsT many e p q ((turnsL many g w).take i)).length < lim := by
  have h1 := cellsT_len many e p q ((turnsL many g w).take i)
  have h2 := turnsL_len many g w
  rw [List.length_take] at h1
  unfold lim; omega
theorem half_pt {p q b l : Nat} (hq : 0 < q) : halfOf p q b l = (b * q + p * l) / q := by
  unfold halfOf
  rw [Nat.add_comm (b * q), Nat.add_mul_div_right _ _ hq, Nat.add_comm]
theorem half_lt {p q b l n : Nat} (hq : 0 < q) : halfOf p q b l < n ↔ b * q + p * l < n * q := by
  rw [half_pt hq, Nat.div_lt_iff_lt_mul hq]
theorem half_cell {p q b l : Nat} (hq : 0 < q) : halfOf p q b l / 2 = (b * q + p * l) / (2 * q) := by
  rw [half_pt hq, Nat.div_div_eq_div_mul, Nat.mul_comm q 2]
theorem cast_half (p q b l : Nat) : ((b : Int) + (p : Int) * l / q) = ((halfOf p q b l : Nat) : Int) := by
  unfold halfOf
  simp
theorem w_pricked (T : Tab) (mo : MoTab T) (hT : T 3 = spTurns) (ss : List S) (os : List O) (Q : R → List O → Prop) (h : spPricked ss os Q) : bodyW T p_pricked 8 ss os Q := by
  obtain ⟨many, W, p, q, rfl, hW, hm, hq, hq2, hp2, h⟩ := h
  simp only [p_pricked, bodyW, e_var, e_cst, e_dct, e_bin, e_neg, e_not, e_cmp, e_cmp2, e_and, e_or, e_ite, e_tup, e_lst, e_idx, e_slc, e_rev, e_fn, e_call, es_nil, es_cons, o_none, o_some, t_tt, t_and, t_or, t_not, t_val, i_seq, i_rng, i_enm, i_zip, p_nil, p_cons, s_set, s_setO, s_unp, s_par, s_aug, s_ext, s_iff, s_ret, s_app, s_pop, s_stL, s_stD, s_appN, s_popN, s_drop, s_cont, s_brk, ss_nil, ss_cons, getS, setS, setPs, rs_val, rs_obj, rs_new, rsv_d, rsv_last, b_add, b_addL, b_addT, b_sub, b_mul, b_div, b_mod, b_pow, c_eq, c_ne, c_lt, c_le, c_gt, c_ge, c_inL, c_inT, c_niL, c_niT, c_isB, c_isN, c_isI, c_isT, c_inN, c_inI, c_inTu, tr_non, tr_bl, tr_int, tr_lst, tr_tup, x_lst, x_tup, sl_l, sl_t, rv_l, nw_f, nw_t, au_add, au_sub, au_mul, la_last, bd_nm, bd_tp, sq_l, sq_t, f_len, f_isi, f_sortD, f_sortO, f_tupL, f_tupO, f_lstT, f_lstL, f_lstD, f_min2, f_minL, f_all, f_any, f_intB, f_str, z_ll, z_tt, ad_nil, ad_cons, objAt, setAll, wipeA, wipeS, List.map_cons, List.map_nil, List.length_cons, List.length_nil, List.replicate, List.cons_append, List.nil_append, Nat.zero_add, Nat.reduceAdd, Nat.reduceSub]
  refine ⟨by decide, ?_⟩
  refine for_i mo (fun its os1 => its = (turnsL many W.g W.w).map prI ∧ os1 = os ++ [.lst []]) ?_ fun its os1 ⟨e1, e2⟩ => ?_
  · simp only [bodyW, e_var, e_cst, e_dct, e_bin, e_neg, e_not, e_cmp, e_cmp2, e_and, e_or, e_ite, e_tup, e_lst, e_idx, e_slc, e_rev, e_fn, e_call, es_nil, es_cons, o_none, o_some, t_tt, t_and, t_or, t_not, t_val, i_seq, i_rng, i_enm, i_zip, p_nil, p_cons, s_set, s_setO, s_unp, s_par, s_aug, s_ext, s_iff, s_ret, s_app, s_pop, s_stL, s_stD, s_appN, s_popN, s_drop, s_cont, s_brk, ss_nil, ss_cons, getS, setS, setPs, rs_val, rs_obj, rs_new, rsv_d, rsv_last, b_add, b_addL, b_addT, b_sub, b_mul, b_div, b_mod, b_pow, c_eq, c_ne, c_lt, c_le, c_gt, c_ge, c_inL, c_inT, c_niL, c_niT, c_isB, c_isN, c_isI, c_isT, c_inN, c_inI, c_inTu, tr_non, tr_bl, tr_int, tr_lst, tr_tup, x_lst, x_tup, sl_l, sl_t, rv_l, nw_f, nw_t, au_add, au_sub, au_mul, la_last, bd_nm, bd_tp, sq_l, sq_t, f_len, f_isi, f_sortD, f_sortO, f_tupL, f_tupO, f_lstT, f_lstL, f_lstD, f_min2, f_minL, f_all, f_any, f_intB, f_str, z_ll, z_tt, ad_nil, ad_cons, objAt, setAll, wipeA, wipeS, List.map_cons, List.map_nil, List.length_cons, List.length_nil, List.replicate, List.cons_append, List.nil_append, Nat.zero_add, Nat.reduceAdd, Nat.reduceSub, hT]
    exact ⟨many, W, rfl, hW, hm, rfl, rfl⟩
  subst e1 e2
  refine ⟨fun i env os' => ∃ x4 x5 x6 x7, env = [some (.d (.int many)), some (.d W.d), some (.d (frI (p, q))), some (.o os.length), x4, x5, x6, x7] ∧ os' = os ++ [.lst ((cellsT many W.e p q ((turnsL many W.g W.w).take i)).map D.int)], ⟨none, none, none, none, rfl, rfl⟩, fun i x env os' hx hW' => ?_, fun env os' hW' => ?_⟩
  · obtain ⟨x4, x5, x6, x7, rfl, rfl⟩ := hW'
    obtain ⟨⟨b, l⟩, hbl, rfl⟩ := map_get hx
    obtain ⟨l500, b2, l4⟩ := turnsL_bnd hW hm (List.mem_of_getElem? hbl)
    simp only at l500 b2 l4
    simp only [bodyW, e_var, e_cst, e_dct, e_bin, e_neg, e_not, e_cmp, e_cmp2, e_and, e_or, e_ite, e_tup, e_lst, e_idx, e_slc, e_rev, e_fn, e_call, es_nil, es_cons, o_none, o_some, t_tt, t_and, t_or, t_not, t_val, i_seq, i_rng, i_enm, i_zip, p_nil, p_cons, s_set, s_setO, s_unp, s_par, s_aug, s_ext, s_iff, s_ret, s_app, s_pop, s_stL, s_stD, s_appN, s_popN, s_drop, s_cont, s_brk, ss_nil, ss_cons, getS, setS, setPs, rs_val, rs_obj, rs_new, rsv_d, rsv_last, b_add, b_addL, b_addT, b_sub, b_mul, b_div, b_mod, b_pow, c_eq, c_ne, c_lt, c_le, c_gt, c_ge, c_inL, c_inT, c_niL, c_niT, c_isB, c_isN, c_isI, c_isT, c_inN, c_inI, c_inTu, tr_non, tr_bl, tr_int, tr_lst, tr_tup, x_lst, x_tup, sl_l, sl_t, rv_l, nw_f, nw_t, au_add, au_sub, au_mul, la_last, bd_nm, bd_tp, sq_l, sq_t, f_len, f_isi, f_sortD, f_sortO, f_tupL, f_tupO, f_lstT, f_lstL, f_lstD, f_min2, f_minL, f_all, f_any, f_intB, f_str, z_ll, z_tt, ad_nil, ad_cons, objAt, setAll, wipeA, wipeS, List.map_cons, List.map_nil, List.length_cons, List.length_nil, List.replicate, List.cons_append, List.nil_append, Nat.zero_add, Nat.reduceAdd, Nat.reduceSub, prI, tupI, frI, ixD, at2_0, at2_1, Wd.d, at3_2]
    refine ⟨.inl (.inr ⟨by omega, by omega⟩), divOk_nat hq hq2, mul_lit _ _ (by decide), ?_⟩
    rw [cast_half]
    rw [take_snoc hbl, cellsT_app]
    by_cases hh : halfOf p q b l < 2 * many
    · rw [if_pos (by simp; omega)]
      refine ⟨divOk_nat (g := 2) (by decide) (by decide), ?_⟩
      simp only [g_last, s_last, eqD, Flat]
      refine ⟨trivial, trivial, ?_⟩
      have ec : ((halfOf p q b l : Nat) : Int) / 2 = ((halfOf p q b l / 2 : Nat) : Int) := by simp
      by_cases he : W.e = 0
      · rw [if_pos (by simp [he])]
        refine ⟨?_, _, _, _, _, rfl, ?_⟩
        · rw [List.length_map]
          exact cellsT_lim hm
        · simp [cellsT, hh, cellE, he]
      · rw [if_neg (by simp; omega)]
        refine ⟨?_, _, _, _, _, rfl, ?_⟩
        · rw [List.length_map]
          exact cellsT_lim hm
        · simp [cellsT, hh, cellE, he]
    · rw [if_neg (by simp; omega)]
      refine ⟨_, _, _, _, rfl, ?_⟩
      simp [cellsT, hh]
  · obtain ⟨x4, x5, x6, x7, rfl, rfl⟩ := hW'
    simp only [bodyW, e_var, e_cst, e_dct, e_bin, e_neg, e_not, e_cmp, e_cmp2, e_and, e_or, e_ite, e_tup, e_lst, e_idx, e_slc, e_rev, e_fn, e_call, es_nil, es_cons, o_none, o_some, t_tt, t_and, t_or, t_not, t_val, i_seq, i_rng, i_enm, i_zip, p_nil, p_cons, s_set, s_setO, s_unp, s_par, s_aug, s_ext, s_iff, s_ret, s_app, s_pop, s_stL, s_stD, s_appN, s_popN, s_drop, s_cont, s_brk, ss_nil, ss_cons, getS, setS, setPs, rs_val, rs_obj, rs_new, rsv_d, rsv_last, b_add, b_addL, b_addT, b_sub, b_mul, b_div, b_mod, b_pow, c_eq, c_ne, c_lt, c_le, c_gt, c_ge, c_inL, c_inT, c_niL, c_niT, c_isB, c_isN, c_isI, c_isT, c_inN, c_inI, c_inTu, tr_non, tr_bl, tr_int, tr_lst, tr_tup, x_lst, x_tup, sl_l, sl_t, rv_l, nw_f, nw_t, au_add, au_sub, au_mul, la_last, bd_nm, bd_tp, sq_l, sq_t, f_len, f_isi, f_sortD, f_sortO, f_tupL, f_tupO, f_lstT, f_lstL, f_lstD, f_min2, f_minL, f_all, f_any, f_intB, f_str, z_ll, z_tt, ad_nil, ad_cons, objAt, setAll, wipeA, wipeS, List.map_cons, List.map_nil, List.length_cons, List.length_nil, List.replicate, List.cons_append, List.nil_append, Nat.zero_add, Nat.reduceAdd, Nat.reduceSub, g_last]
    rw [show ((turnsL many W.g W.w).map prI).length = (turnsL many W.g W.w).length from List.length_map _, List.take_length]
    refine ⟨?_, sortW_ints ?_⟩
    · rw [List.length_map]
      exact Nat.le_of_lt (by have := cellsT_lim (e := W.e) (p := p) (q := q) (g := W.g) (w := W.w) (i := (turnsL many W.g W.w).length) hm; rw [List.take_length] at this; exact this)
    · simp only [leave_new, l_last]
      exact h
theorem divOk_two {q : Nat} (h0 : 0 < q) (h : q < 2 ^ 100) : DivOk ((2 * q : Nat) : Int) := by
  refine ⟨by omega, ?_⟩
  have : (2 : Nat) ^ 101 < 1606938044258990275541962092341162602522202993782792835301376 := by decide
  omega
theorem small_mul {a b : Nat} (h : b < 2 ^ 63) : MulOk (a : Int) (b : Int) := .inl (.inr ⟨by omega, by omega⟩)
theorem small_mul' {a b : Nat} (h : a < 2 ^ 63) : MulOk (a : Int) (b : Int) := .inl (.inl ⟨by omega, by omega⟩)
theorem w_law_pricked (T : Tab) (ss : List S) (os : List O) (Q : R → List O → Prop) (h : spPricked ss os Q) : bodyW T p_law_pricked 8 ss os Q := by
  obtain ⟨many, W, p, q, rfl, hW, hm, hq, hq2, hp2, h⟩ := h
  simp only [p_law_pricked, bodyW, e_var, e_cst, e_dct, e_bin, e_neg, e_not, e_cmp, e_cmp2, e_and, e_or, e_ite, e_tup, e_lst, e_idx, e_slc, e_rev, e_fn, e_call, es_nil, es_cons, o_none, o_some, t_tt, t_and, t_or, t_not, t_val, i_seq, i_rng, i_enm, i_zip, p_nil, p_cons, s_set, s_setO, s_unp, s_par, s_aug, s_ext, s_iff, s_ret, s_app, s_pop, s_stL, s_stD, s_appN, s_popN, s_drop, s_cont, s_brk, ss_nil, ss_cons, getS, setS, setPs, rs_val, rs_obj, rs_new, rsv_d, rsv_last, b_add, b_addL, b_addT, b_sub, b_mul, b_div, b_mod, b_pow, c_eq, c_ne, c_lt, c_le, c_gt, c_ge, c_inL, c_inT, c_niL, c_niT, c_isB, c_isN, c_isI, c_isT, c_inN, c_inI, c_inTu, tr_non, tr_bl, tr_int, tr_lst, tr_tup, x_lst, x_tup, sl_l, sl_t, rv_l, nw_f, nw_t, au_add, au_sub, au_mul, la_last, bd_nm, bd_tp, sq_l, sq_t, f_len, f_isi, f_sortD, f_sortO, f_tupL, f_tupO, f_lstT, f_lstL, f_lstD, f_min2, f_minL, f_all, f_any, f_intB, f_str, z_ll, z_tt, ad_nil, ad_cons, objAt, setAll, wipeA, wipeS, List.map_cons, List.map_nil, List.length_cons, List.length_nil, List.replicate, List.cons_append, List.nil_append, Nat.zero_add, Nat.reduceAdd, Nat.reduceSub, Wd.d, tupI, ixD, at3_0]
  refine ⟨by decide, ?_⟩
  refine whl_i (fun m env os' => ∃ (b l : Nat) (acc : List (Nat × Nat)) (x6 x7 : Option S), env = [some (.d (.int many)), some (.d W.d), some (.d (frI (p, q))), some (.o os.length), some (.d (.int b)), some (.d (.int l)), x6, x7] ∧ os' = os ++ [.lst ((cellsT many W.e p q acc).map D.int)] ∧ acc ++ turnsF many W.w m b l = turnsL many W.g W.w ∧ 2 * many - b ≤ m ∧ acc.length + m ≤ 2 * many ∧ 1 ≤ l) (m := 2 * many)
    ⟨0, W.g, [], none, none, rfl, rfl, rfl, by omega, by simp, by have := hW.g4; omega⟩ fun m env os' ⟨b, l, acc, x6, x7, he, ho, ha, hb1, hb2, hl⟩ => ?_
  subst he ho
  simp only [bodyW, e_var, e_cst, e_dct, e_bin, e_neg, e_not, e_cmp, e_cmp2, e_and, e_or, e_ite, e_tup, e_lst, e_idx, e_slc, e_rev, e_fn, e_call, es_nil, es_cons, o_none, o_some, t_tt, t_and, t_or, t_not, t_val, i_seq, i_rng, i_enm, i_zip, p_nil, p_cons, s_set, s_setO, s_unp, s_par, s_aug, s_ext, s_iff, s_ret, s_app, s_pop, s_stL, s_stD, s_appN, s_popN, s_drop, s_cont, s_brk, ss_nil, ss_cons, getS, setS, setPs, rs_val, rs_obj, rs_new, rsv_d, rsv_last, b_add, b_addL, b_addT, b_sub, b_mul, b_div, b_mod, b_pow, c_eq, c_ne, c_lt, c_le, c_gt, c_ge, c_inL, c_inT, c_niL, c_niT, c_isB, c_isN, c_isI, c_isT, c_inN, c_inI, c_inTu, tr_non, tr_bl, tr_int, tr_lst, tr_tup, x_lst, x_tup, sl_l, sl_t, rv_l, nw_f, nw_t, au_add, au_sub, au_mul, la_last, bd_nm, bd_tp, sq_l, sq_t, f_len, f_isi, f_sortD, f_sortO, f_tupL, f_tupO, f_lstT, f_lstL, f_lstD, f_min2, f_minL, f_all, f_any, f_intB, f_str, z_ll, z_tt, ad_nil, ad_cons, objAt, setAll, wipeA, wipeS, List.map_cons, List.map_nil, List.length_cons, List.length_nil, List.replicate, List.cons_append, List.nil_append, Nat.zero_add, Nat.reduceAdd, Nat.reduceSub, Wd.d, tupI, frI, prI, ixD, at3_0, at3_1, at3_2, at2_0, at2_1, eqD, Flat, g_last, s_last]
  refine ⟨mul_lit _ _ (by decide), ?_⟩
  by_cases hb : b < 2 * many
  · rw [if_pos (by simp; omega)]
    obtain ⟨m', rfl⟩ : ∃ m', m = m' + 1 := ⟨m - 1, by omega⟩
    have ha2 : acc ++ (b, l) :: turnsF many W.w m' (b + l) (l + W.w) = turnsL many W.g W.w := by
      unfold turnsF at ha
      rw [if_pos hb] at ha
      exact ha
    have hmem : (b, l) ∈ turnsL many W.g W.w := by rw [← ha2]; simp
    obtain ⟨l500, b2, l4⟩ := turnsL_bnd hW hm hmem
    simp only at l500 b2 l4
    have ha3 : (acc ++ [(b, l)]) ++ turnsF many W.w m' (b + l) (l + W.w) = turnsL many W.g W.w := by rw [← ha2]; simp
    have hlen : (cellsT many W.e p q acc).length < lim := by
      have := cellsT_len many W.e p q acc
      unfold lim; omega
    have e1 : (b : Int) * q + (p : Int) * l = ((b * q + p * l : Nat) : Int) := by simp
    have e2 : (2 : Int) * many * q = ((2 * many * q : Nat) : Int) := by simp
    have e3 : (2 : Int) * q = ((2 * q : Nat) : Int) := by simp
    refine ⟨small_mul' (by omega), small_mul (by omega), mul_lit _ _ (by decide), by rw [show (2 : Int) * many = ((2 * many : Nat) : Int) by simp]; exact small_mul' (by omega), ?_⟩
    rw [e1, e2]
    have nxt : ∀ {x6 x7 : Option S} {cs : List Int}, cellsT many W.e p q (acc ++ [(b, l)]) = cs → ∃ m'', m'' < m' + 1 ∧ ∃ (b' l' : Nat) (acc' : List (Nat × Nat)) (y6 y7 : Option S), [some (S.d (.int many)), some (.d (D.tup ([(W.g : Int), (W.w : Int), (W.e : Int)].map D.int))), some (.d (D.tup ([(p : Int), (q : Int)].map D.int))), some (.o os.length), some (.d (.int ((b : Int) + l))), some (.d (.int ((l : Int) + W.w))), x6, x7] = [some (S.d (.int many)), some (.d (D.tup ([(W.g : Int), (W.w : Int), (W.e : Int)].map D.int))), some (.d (D.tup ([(p : Int), (q : Int)].map D.int))), some (.o os.length), some (.d (.int b')), some (.d (.int l')), y6, y7] ∧ os ++ [O.lst (cs.map D.int)] = os ++ [.lst ((cellsT many W.e p q acc').map D.int)] ∧ acc' ++ turnsF many W.w m'' b' l' = turnsL many W.g W.w ∧ 2 * many - b' ≤ m'' ∧ acc'.length + m'' ≤ 2 * many ∧ 1 ≤ l' := by
      intro x6 x7 cs hcs
      exact ⟨m', by omega, b + l, l + W.w, acc ++ [(b, l)], x6, x7, by simp, by rw [hcs], ha3, by omega, by simp; omega, by omega⟩
    by_cases hh : halfOf p q b l < 2 * many
    · have hh' := (half_lt hq).mp hh
      rw [if_pos (by rw [decide_eq_true_eq]; exact Int.ofNat_lt.mpr hh')]
      rw [e3]
      refine ⟨mul_lit _ _ (by decide), divOk_two hq hq2, ?_⟩
      refine ⟨trivial, trivial, ?_⟩
      have ec : (((b * q + p * l : Nat) : Int) / ((2 * q : Nat) : Int)) = ((halfOf p q b l / 2 : Nat) : Int) := by rw [half_cell hq]; simp
      rw [ec]
      by_cases he : W.e = 0
      · rw [if_pos (by simp [he])]
        refine ⟨by rw [List.length_map]; exact hlen, ?_⟩
        have := nxt (x6 := some (.d (.int ((b * q + p * l : Nat) : Int)))) (x7 := some (.d (.int ((halfOf p q b l / 2 : Nat) : Int)))) (cs := cellsT many W.e p q acc ++ [((halfOf p q b l / 2 : Nat) : Int)]) (by rw [cellsT_app]; simp [cellsT, hh, cellE, he])
        simpa using this
      · rw [if_neg (by simp; omega)]
        refine ⟨by rw [List.length_map]; exact hlen, ?_⟩
        have := nxt (x6 := some (.d (.int ((b * q + p * l : Nat) : Int)))) (x7 := some (.d (.int ((halfOf p q b l / 2 : Nat) : Int)))) (cs := cellsT many W.e p q acc ++ [(many : Int) - 1 - ((halfOf p q b l / 2 : Nat) : Int)]) (by rw [cellsT_app]; simp [cellsT, hh, cellE, he])
        simpa using this
    · have hh' : ¬ b * q + p * l < 2 * many * q := fun z => hh ((half_lt hq).mpr z)
      rw [if_neg (by rw [decide_eq_true_eq]; exact fun z => hh' (Int.ofNat_lt.mp z))]
      have := nxt (x6 := some (.d (.int ((b * q + p * l : Nat) : Int)))) (x7 := x7) (cs := cellsT many W.e p q acc) (by rw [cellsT_app]; simp [cellsT, hh])
      simpa using this
  · rw [if_neg (by simp; omega)]
    rw [turnsF_end hb, List.append_nil] at ha
    rw [ha]
    refine ⟨?_, sortW_ints ?_⟩
    · rw [List.length_map]
      exact Nat.le_of_lt (by have := cellsT_lim (e := W.e) (p := p) (q := q) (g := W.g) (w := W.w) (i := (turnsL many W.g W.w).length) hm; rw [List.take_length] at this; exact this)
    · simp only [leave_new, l_last]
      exact h
end N66

/-! N66, fractions in order. -/
namespace N66
open PySem PySem.Spec L2
def ltF (a b : Nat × Nat) : Prop := a.1 * b.2 < b.1 * a.2
def prodQ (L : List (Nat × Nat)) : Nat := (L.map (·.2)).foldr (· * ·) 1
theorem prodQ_cons (x : Nat × Nat) (L : List (Nat × Nat)) : prodQ (x :: L) = x.2 * prodQ L := rfl
theorem prodQ_app (L M : List (Nat × Nat)) : prodQ (L ++ M) = prodQ L * prodQ M := by
  induction L with
  | nil => simp [prodQ]
  | cons x L ih => rw [List.cons_append, prodQ_cons, ih, prodQ_cons, Nat.mul_assoc]
theorem prodQ_dvd {x : Nat × Nat} : ∀ {L : List (Nat × Nat)}, x ∈ L → x.2 ∣ prodQ L
  | y :: L, h => by
    rw [prodQ_cons]
    rcases List.mem_cons.mp h with rfl | h
    · exact Nat.dvd_mul_right _ _
    · exact Nat.dvd_trans (prodQ_dvd h) (Nat.dvd_mul_left _ _)
theorem prodQ_pos : ∀ {L : List (Nat × Nat)}, (∀ x ∈ L, 0 < x.2) → 0 < prodQ L
  | [], _ => by simp [prodQ]
  | x :: L, h => by
    rw [prodQ_cons]
    exact Nat.mul_pos (h x (List.mem_cons_self ..)) (prodQ_pos fun y hy => h y (List.mem_cons_of_mem _ hy))
def worthF (B : Nat) (x : Nat × Nat) : Nat := x.1 * (B / x.2)
theorem worth_lt {B : Nat} {x y : Nat × Nat} (hB : 0 < B) (hx : x.2 ∣ B) (hy : y.2 ∣ B) : worthF B x < worthF B y ↔ ltF x y := by
  obtain ⟨a, rfl⟩ := hx
  obtain ⟨b, hb⟩ := hy
  have hx0 : 0 < x.2 := Nat.pos_of_mul_pos_right hB
  have ha0 : 0 < a := Nat.pos_of_mul_pos_left hB
  have hy0 : 0 < y.2 := by rw [hb] at hB; exact Nat.pos_of_mul_pos_right hB
  unfold worthF ltF
  rw [Nat.mul_div_cancel_left a hx0, hb, Nat.mul_div_cancel_left b hy0]
  -- x.1 * a < y.1 * b, with x.2 * a = y.2 * b
  have key : ∀ u v : Nat, u < v ↔ u * (x.2 * y.2) < v * (x.2 * y.2) := fun u v => by
    have : 0 < x.2 * y.2 := Nat.mul_pos hx0 hy0
    exact (Nat.mul_lt_mul_right this).symm
  rw [key]
  have e1 : x.1 * a * (x.2 * y.2) = x.1 * y.2 * (x.2 * a) := by
    simp only [Nat.mul_comm, Nat.mul_left_comm, Nat.mul_assoc]
  have e2 : y.1 * b * (x.2 * y.2) = y.1 * x.2 * (y.2 * b) := by
    simp only [Nat.mul_comm, Nat.mul_left_comm, Nat.mul_assoc]
  rw [e1, e2, ← hb]
  exact Nat.mul_lt_mul_right hB
def spInOrder : Fun1 := fun ss os Q => ∃ L : List (Nat × Nat), ss = [.d (.lst (L.map frI))] ∧ (∀ x ∈ L, 0 < x.2 ∧ x.2 < 2 ^ 60 ∧ x.1 < 2 ^ 60) ∧ L.length ≤ 10000 ∧ L.Pairwise (fun a b => a.1 * b.2 ≠ b.1 * a.2) ∧
  ∀ L' : List (Nat × Nat), L'.Perm L → L'.Pairwise ltF → Q (.new (.lst (L'.map frI))) os
theorem pw_of_ne {L L' : List (Nat × Nat)} (p : L'.Perm L) (h : L.Pairwise (fun a b => a.1 * b.2 ≠ b.1 * a.2)) : L'.Pairwise (fun a b => a.1 * b.2 ≠ b.1 * a.2) :=
  (p.pairwise_iff fun {a b} h => fun z => h z.symm).mpr h
theorem ltP_false {p q : Int × List Int} (h : ltP q p = false) : p.1 ≤ q.1 := by
  unfold ltP at h
  split at h
  · omega
  · rw [decide_eq_false_iff_not] at h; omega
theorem w_in_order (T : Tab) (mo : MoTab T) (ss : List S) (os : List O) (Q : R → List O → Prop) (h : spInOrder ss os Q) : bodyW T p_in_order 4 ss os Q := by
  obtain ⟨L, rfl, hL, hl, hd, h⟩ := h
  have hl2 : L.length ≤ lim := by unfold lim; omega
  simp only [p_in_order, bodyW, e_var, e_cst, e_dct, e_bin, e_neg, e_not, e_cmp, e_cmp2, e_and, e_or, e_ite, e_tup, e_lst, e_idx, e_slc, e_rev, e_fn, e_call, es_nil, es_cons, o_none, o_some, t_tt, t_and, t_or, t_not, t_val, i_seq, i_rng, i_enm, i_zip, p_nil, p_cons, s_set, s_setO, s_unp, s_par, s_aug, s_ext, s_iff, s_ret, s_app, s_pop, s_stL, s_stD, s_appN, s_popN, s_drop, s_cont, s_brk, ss_nil, ss_cons, getS, setS, setPs, rs_val, rs_obj, rs_new, rsv_d, rsv_last, b_add, b_addL, b_addT, b_sub, b_mul, b_div, b_mod, b_pow, c_eq, c_ne, c_lt, c_le, c_gt, c_ge, c_inL, c_inT, c_niL, c_niT, c_isB, c_isN, c_isI, c_isT, c_inN, c_inI, c_inTu, tr_non, tr_bl, tr_int, tr_lst, tr_tup, x_lst, x_tup, sl_l, sl_t, rv_l, nw_f, nw_t, au_add, au_sub, au_mul, la_last, bd_nm, bd_tp, sq_l, sq_t, f_len, f_isi, f_sortD, f_sortO, f_tupL, f_tupO, f_lstT, f_lstL, f_lstD, f_min2, f_minL, f_all, f_any, f_intB, f_str, z_ll, z_tt, ad_nil, ad_cons, objAt, setAll, wipeA, wipeS, List.map_cons, List.map_nil, List.length_cons, List.length_nil, List.replicate, List.cons_append, List.nil_append, Nat.zero_add, Nat.reduceAdd, Nat.reduceSub]
  refine for_i mo (fun its os1 => its = L.map frI ∧ os1 = os) ?_ fun its os1 ⟨e1, e2⟩ => ?_
  · simp only [bodyW, e_var, e_cst, e_dct, e_bin, e_neg, e_not, e_cmp, e_cmp2, e_and, e_or, e_ite, e_tup, e_lst, e_idx, e_slc, e_rev, e_fn, e_call, es_nil, es_cons, o_none, o_some, t_tt, t_and, t_or, t_not, t_val, i_seq, i_rng, i_enm, i_zip, p_nil, p_cons, s_set, s_setO, s_unp, s_par, s_aug, s_ext, s_iff, s_ret, s_app, s_pop, s_stL, s_stD, s_appN, s_popN, s_drop, s_cont, s_brk, ss_nil, ss_cons, getS, setS, setPs, rs_val, rs_obj, rs_new, rsv_d, rsv_last, b_add, b_addL, b_addT, b_sub, b_mul, b_div, b_mod, b_pow, c_eq, c_ne, c_lt, c_le, c_gt, c_ge, c_inL, c_inT, c_niL, c_niT, c_isB, c_isN, c_isI, c_isT, c_inN, c_inI, c_inTu, tr_non, tr_bl, tr_int, tr_lst, tr_tup, x_lst, x_tup, sl_l, sl_t, rv_l, nw_f, nw_t, au_add, au_sub, au_mul, la_last, bd_nm, bd_tp, sq_l, sq_t, f_len, f_isi, f_sortD, f_sortO, f_tupL, f_tupO, f_lstT, f_lstL, f_lstD, f_min2, f_minL, f_all, f_any, f_intB, f_str, z_ll, z_tt, ad_nil, ad_cons, objAt, setAll, wipeA, wipeS, List.map_cons, List.map_nil, List.length_cons, List.length_nil, List.replicate, List.cons_append, List.nil_append, Nat.zero_add, Nat.reduceAdd, Nat.reduceSub, Wd.d, tupI, frI, prI, ixD, at3_0, at3_1, at3_2, at2_0, at2_1, eqD, Flat, and_true, true_and, and_self, if_true, if_false, Bool.false_eq_true, reduceIte]
  subst e1 e2
  refine ⟨fun i env os' => ∃ x, env = [some (.d (.lst (L.map frI))), some (.d (.int (prodQ (L.take i) : Nat))), x, none] ∧ os' = os1, ⟨none, by simp [prodQ], rfl⟩, fun i x env os' hx ⟨y, he, ho⟩ => ?_, fun env os' ⟨y, he, ho⟩ => ?_⟩
  · subst he ho
    obtain ⟨⟨p, q⟩, hpq, rfl⟩ := map_get hx
    obtain ⟨q0, q60, p60⟩ := hL _ (List.mem_of_getElem? hpq)
    simp only at q0 q60 p60
    simp only [bodyW, e_var, e_cst, e_dct, e_bin, e_neg, e_not, e_cmp, e_cmp2, e_and, e_or, e_ite, e_tup, e_lst, e_idx, e_slc, e_rev, e_fn, e_call, es_nil, es_cons, o_none, o_some, t_tt, t_and, t_or, t_not, t_val, i_seq, i_rng, i_enm, i_zip, p_nil, p_cons, s_set, s_setO, s_unp, s_par, s_aug, s_ext, s_iff, s_ret, s_app, s_pop, s_stL, s_stD, s_appN, s_popN, s_drop, s_cont, s_brk, ss_nil, ss_cons, getS, setS, setPs, rs_val, rs_obj, rs_new, rsv_d, rsv_last, b_add, b_addL, b_addT, b_sub, b_mul, b_div, b_mod, b_pow, c_eq, c_ne, c_lt, c_le, c_gt, c_ge, c_inL, c_inT, c_niL, c_niT, c_isB, c_isN, c_isI, c_isT, c_inN, c_inI, c_inTu, tr_non, tr_bl, tr_int, tr_lst, tr_tup, x_lst, x_tup, sl_l, sl_t, rv_l, nw_f, nw_t, au_add, au_sub, au_mul, la_last, bd_nm, bd_tp, sq_l, sq_t, f_len, f_isi, f_sortD, f_sortO, f_tupL, f_tupO, f_lstT, f_lstL, f_lstD, f_min2, f_minL, f_all, f_any, f_intB, f_str, z_ll, z_tt, ad_nil, ad_cons, objAt, setAll, wipeA, wipeS, List.map_cons, List.map_nil, List.length_cons, List.length_nil, List.replicate, List.cons_append, List.nil_append, Nat.zero_add, Nat.reduceAdd, Nat.reduceSub, Wd.d, tupI, frI, prI, ixD, at3_0, at3_1, at3_2, at2_0, at2_1, eqD, Flat, and_true, true_and, and_self, if_true, if_false, Bool.false_eq_true, reduceIte]
    refine ⟨.inr ⟨by omega, by omega⟩, some (.d (.tup [.int p, .int q])), ?_⟩
    rw [take_snoc hpq, prodQ_app]
    simp [prodQ]
  · subst he ho
    rw [List.length_map, List.take_length]
    simp only [bodyW, e_var, e_cst, e_dct, e_bin, e_neg, e_not, e_cmp, e_cmp2, e_and, e_or, e_ite, e_tup, e_lst, e_idx, e_slc, e_rev, e_fn, e_call, es_nil, es_cons, o_none, o_some, t_tt, t_and, t_or, t_not, t_val, i_seq, i_rng, i_enm, i_zip, p_nil, p_cons, s_set, s_setO, s_unp, s_par, s_aug, s_ext, s_iff, s_ret, s_app, s_pop, s_stL, s_stD, s_appN, s_popN, s_drop, s_cont, s_brk, ss_nil, ss_cons, getS, setS, setPs, rs_val, rs_obj, rs_new, rsv_d, rsv_last, b_add, b_addL, b_addT, b_sub, b_mul, b_div, b_mod, b_pow, c_eq, c_ne, c_lt, c_le, c_gt, c_ge, c_inL, c_inT, c_niL, c_niT, c_isB, c_isN, c_isI, c_isT, c_inN, c_inI, c_inTu, tr_non, tr_bl, tr_int, tr_lst, tr_tup, x_lst, x_tup, sl_l, sl_t, rv_l, nw_f, nw_t, au_add, au_sub, au_mul, la_last, bd_nm, bd_tp, sq_l, sq_t, f_len, f_isi, f_sortD, f_sortO, f_tupL, f_tupO, f_lstT, f_lstL, f_lstD, f_min2, f_minL, f_all, f_any, f_intB, f_str, z_ll, z_tt, ad_nil, ad_cons, objAt, setAll, wipeA, wipeS, List.map_cons, List.map_nil, List.length_cons, List.length_nil, List.replicate, List.cons_append, List.nil_append, Nat.zero_add, Nat.reduceAdd, Nat.reduceSub]
    have hB : 0 < prodQ L := prodQ_pos fun x hx => (hL x hx).1
    have hdv : ∀ x ∈ L, x.2 ∣ prodQ L := fun x hx => prodQ_dvd hx
    let f : Nat × Nat → Int × List Int := fun x => ((worthF (prodQ L) x : Nat), [(x.1 : Int), (x.2 : Int)])
    refine lc_i mo (fun its os1 => ∃ xs' : List (Int × List Int), its = xs'.map pairI ∧ os1 = os' ∧ xs'.Perm (L.map f) ∧ xs'.Pairwise (fun a b => ltP b a = false)) ?_ fun its os1 ⟨xs', e1, e2, hp, hs⟩ => ?_
    · simp only [bodyW, e_var, e_cst, e_dct, e_bin, e_neg, e_not, e_cmp, e_cmp2, e_and, e_or, e_ite, e_tup, e_lst, e_idx, e_slc, e_rev, e_fn, e_call, es_nil, es_cons, o_none, o_some, t_tt, t_and, t_or, t_not, t_val, i_seq, i_rng, i_enm, i_zip, p_nil, p_cons, s_set, s_setO, s_unp, s_par, s_aug, s_ext, s_iff, s_ret, s_app, s_pop, s_stL, s_stD, s_appN, s_popN, s_drop, s_cont, s_brk, ss_nil, ss_cons, getS, setS, setPs, rs_val, rs_obj, rs_new, rsv_d, rsv_last, b_add, b_addL, b_addT, b_sub, b_mul, b_div, b_mod, b_pow, c_eq, c_ne, c_lt, c_le, c_gt, c_ge, c_inL, c_inT, c_niL, c_niT, c_isB, c_isN, c_isI, c_isT, c_inN, c_inI, c_inTu, tr_non, tr_bl, tr_int, tr_lst, tr_tup, x_lst, x_tup, sl_l, sl_t, rv_l, nw_f, nw_t, au_add, au_sub, au_mul, la_last, bd_nm, bd_tp, sq_l, sq_t, f_len, f_isi, f_sortD, f_sortO, f_tupL, f_tupO, f_lstT, f_lstL, f_lstD, f_min2, f_minL, f_all, f_any, f_intB, f_str, z_ll, z_tt, ad_nil, ad_cons, objAt, setAll, wipeA, wipeS, List.map_cons, List.map_nil, List.length_cons, List.length_nil, List.replicate, List.cons_append, List.nil_append, Nat.zero_add, Nat.reduceAdd, Nat.reduceSub]
      refine lc_mapL mo L frI (fun x => pairI (f x)) ?_ hl2 ?_ ?_
      · simp only [bodyW, e_var, e_cst, e_dct, e_bin, e_neg, e_not, e_cmp, e_cmp2, e_and, e_or, e_ite, e_tup, e_lst, e_idx, e_slc, e_rev, e_fn, e_call, es_nil, es_cons, o_none, o_some, t_tt, t_and, t_or, t_not, t_val, i_seq, i_rng, i_enm, i_zip, p_nil, p_cons, s_set, s_setO, s_unp, s_par, s_aug, s_ext, s_iff, s_ret, s_app, s_pop, s_stL, s_stD, s_appN, s_popN, s_drop, s_cont, s_brk, ss_nil, ss_cons, getS, setS, setPs, rs_val, rs_obj, rs_new, rsv_d, rsv_last, b_add, b_addL, b_addT, b_sub, b_mul, b_div, b_mod, b_pow, c_eq, c_ne, c_lt, c_le, c_gt, c_ge, c_inL, c_inT, c_niL, c_niT, c_isB, c_isN, c_isI, c_isT, c_inN, c_inI, c_inTu, tr_non, tr_bl, tr_int, tr_lst, tr_tup, x_lst, x_tup, sl_l, sl_t, rv_l, nw_f, nw_t, au_add, au_sub, au_mul, la_last, bd_nm, bd_tp, sq_l, sq_t, f_len, f_isi, f_sortD, f_sortO, f_tupL, f_tupO, f_lstT, f_lstL, f_lstD, f_min2, f_minL, f_all, f_any, f_intB, f_str, z_ll, z_tt, ad_nil, ad_cons, objAt, setAll, wipeA, wipeS, List.map_cons, List.map_nil, List.length_cons, List.length_nil, List.replicate, List.cons_append, List.nil_append, Nat.zero_add, Nat.reduceAdd, Nat.reduceSub, Wd.d, tupI, frI, prI, ixD, at3_0, at3_1, at3_2, at2_0, at2_1, eqD, Flat, and_true, true_and, and_self, if_true, if_false, Bool.false_eq_true, reduceIte]
      · rintro ⟨p, q⟩ hx
        obtain ⟨q0, q60, p60⟩ := hL _ hx
        simp only at q0 q60 p60
        simp only [bodyW, e_var, e_cst, e_dct, e_bin, e_neg, e_not, e_cmp, e_cmp2, e_and, e_or, e_ite, e_tup, e_lst, e_idx, e_slc, e_rev, e_fn, e_call, es_nil, es_cons, o_none, o_some, t_tt, t_and, t_or, t_not, t_val, i_seq, i_rng, i_enm, i_zip, p_nil, p_cons, s_set, s_setO, s_unp, s_par, s_aug, s_ext, s_iff, s_ret, s_app, s_pop, s_stL, s_stD, s_appN, s_popN, s_drop, s_cont, s_brk, ss_nil, ss_cons, getS, setS, setPs, rs_val, rs_obj, rs_new, rsv_d, rsv_last, b_add, b_addL, b_addT, b_sub, b_mul, b_div, b_mod, b_pow, c_eq, c_ne, c_lt, c_le, c_gt, c_ge, c_inL, c_inT, c_niL, c_niT, c_isB, c_isN, c_isI, c_isT, c_inN, c_inI, c_inTu, tr_non, tr_bl, tr_int, tr_lst, tr_tup, x_lst, x_tup, sl_l, sl_t, rv_l, nw_f, nw_t, au_add, au_sub, au_mul, la_last, bd_nm, bd_tp, sq_l, sq_t, f_len, f_isi, f_sortD, f_sortO, f_tupL, f_tupO, f_lstT, f_lstL, f_lstD, f_min2, f_minL, f_all, f_any, f_intB, f_str, z_ll, z_tt, ad_nil, ad_cons, objAt, setAll, wipeA, wipeS, List.map_cons, List.map_nil, List.length_cons, List.length_nil, List.replicate, List.cons_append, List.nil_append, Nat.zero_add, Nat.reduceAdd, Nat.reduceSub, Wd.d, tupI, frI, prI, ixD, at3_0, at3_1, at3_2, at2_0, at2_1, eqD, Flat, and_true, true_and, and_self, if_true, if_false, Bool.false_eq_true, reduceIte]
        refine ⟨divOk_nat q0 (by omega), .inl (.inl ⟨by omega, by omega⟩), by decide, ?_⟩
        simp [pairI, tupI, f, worthF]
      · simp only [bodyW, e_var, e_cst, e_dct, e_bin, e_neg, e_not, e_cmp, e_cmp2, e_and, e_or, e_ite, e_tup, e_lst, e_idx, e_slc, e_rev, e_fn, e_call, es_nil, es_cons, o_none, o_some, t_tt, t_and, t_or, t_not, t_val, i_seq, i_rng, i_enm, i_zip, p_nil, p_cons, s_set, s_setO, s_unp, s_par, s_aug, s_ext, s_iff, s_ret, s_app, s_pop, s_stL, s_stD, s_appN, s_popN, s_drop, s_cont, s_brk, ss_nil, ss_cons, getS, setS, setPs, rs_val, rs_obj, rs_new, rsv_d, rsv_last, b_add, b_addL, b_addT, b_sub, b_mul, b_div, b_mod, b_pow, c_eq, c_ne, c_lt, c_le, c_gt, c_ge, c_inL, c_inT, c_niL, c_niT, c_isB, c_isN, c_isI, c_isT, c_inN, c_inI, c_inTu, tr_non, tr_bl, tr_int, tr_lst, tr_tup, x_lst, x_tup, sl_l, sl_t, rv_l, nw_f, nw_t, au_add, au_sub, au_mul, la_last, bd_nm, bd_tp, sq_l, sq_t, f_len, f_isi, f_sortD, f_sortO, f_tupL, f_tupO, f_lstT, f_lstL, f_lstD, f_min2, f_minL, f_all, f_any, f_intB, f_str, z_ll, z_tt, ad_nil, ad_cons, objAt, setAll, wipeA, wipeS, List.map_cons, List.map_nil, List.length_cons, List.length_nil, List.replicate, List.cons_append, List.nil_append, Nat.zero_add, Nat.reduceAdd, Nat.reduceSub]
        refine ⟨by rw [List.length_map]; exact hl2, .inr (.inr ⟨L.map f, by rw [List.map_map]; rfl, fun xs' hp hs => ⟨xs', rfl, by trivial, hp, hs⟩⟩)⟩
    · subst e1 e2
      have hmem : ∀ y ∈ xs', ∃ x ∈ L, f x = y := fun y hy => List.mem_map.mp (hp.mem_iff.mp hy)
      let g : Int × List Int → Nat × Nat := fun y => ((y.2.getD 0 0).toNat, (y.2.getD 1 0).toNat)
      have hgf : ∀ x, g (f x) = x := fun x => by simp [g, f]
      have hxs : xs' = (xs'.map g).map f := by
        rw [List.map_map]
        conv => lhs; rw [← List.map_id xs']
        refine List.map_congr_left fun y hy => ?_
        obtain ⟨x, _, rfl⟩ := hmem y hy
        simp [hgf]
      have hperm : (xs'.map g).Perm L := by
        have := hp.map g
        rw [List.map_map] at this
        have e : (L.map (g ∘ f)) = L := by
          conv => rhs; rw [← List.map_id L]
          exact List.map_congr_left fun x _ => hgf x
        rw [e] at this
        exact this
      have hpw : (xs'.map g).Pairwise ltF := by
        have h1 := pw_of_ne hperm hd
        have h2 : (xs'.map g).Pairwise (fun a b => worthF (prodQ L) a ≤ worthF (prodQ L) b) := by
          rw [hxs] at hs
          rw [List.pairwise_map] at hs
          refine hs.imp fun {a b} h => ?_
          have := ltP_false h
          simp only [f] at this
          omega
        refine (List.Pairwise.and h1 h2).imp_of_mem fun {a b} ha hb ⟨n, l⟩ => ?_
        have ha' := hdv a (hperm.mem_iff.mp ha)
        have hb' := hdv b (hperm.mem_iff.mp hb)
        rcases Nat.lt_or_ge (worthF (prodQ L) a) (worthF (prodQ L) b) with z | z
        · exact (worth_lt hB ha' hb').mp z
        · exfalso
          have n1 : ¬ ltF a b := fun w => by have := (worth_lt hB ha' hb').mpr w; omega
          have n2 : ¬ ltF b a := fun w => by have := (worth_lt hB hb' ha').mpr w; omega
          unfold ltF at n1 n2
          omega
      refine ⟨fun i acc os2 => acc = ((xs'.map g).take i).map frI ∧ os2 = os1, ⟨by simp, rfl⟩, fun i x acc os2 hx ⟨h1, h2⟩ _ => ?_, ?_, fun acc os2 ⟨h1, h2⟩ _ => ?_⟩
      · subst h1 h2
        obtain ⟨y, hy, rfl⟩ := map_get hx
        obtain ⟨⟨p, q⟩, _, rfl⟩ := hmem y (List.mem_of_getElem? hy)
        simp only [bodyW, e_var, e_cst, e_dct, e_bin, e_neg, e_not, e_cmp, e_cmp2, e_and, e_or, e_ite, e_tup, e_lst, e_idx, e_slc, e_rev, e_fn, e_call, es_nil, es_cons, o_none, o_some, t_tt, t_and, t_or, t_not, t_val, i_seq, i_rng, i_enm, i_zip, p_nil, p_cons, s_set, s_setO, s_unp, s_par, s_aug, s_ext, s_iff, s_ret, s_app, s_pop, s_stL, s_stD, s_appN, s_popN, s_drop, s_cont, s_brk, ss_nil, ss_cons, getS, setS, setPs, rs_val, rs_obj, rs_new, rsv_d, rsv_last, b_add, b_addL, b_addT, b_sub, b_mul, b_div, b_mod, b_pow, c_eq, c_ne, c_lt, c_le, c_gt, c_ge, c_inL, c_inT, c_niL, c_niT, c_isB, c_isN, c_isI, c_isT, c_inN, c_inI, c_inTu, tr_non, tr_bl, tr_int, tr_lst, tr_tup, x_lst, x_tup, sl_l, sl_t, rv_l, nw_f, nw_t, au_add, au_sub, au_mul, la_last, bd_nm, bd_tp, sq_l, sq_t, f_len, f_isi, f_sortD, f_sortO, f_tupL, f_tupO, f_lstT, f_lstL, f_lstD, f_min2, f_minL, f_all, f_any, f_intB, f_str, z_ll, z_tt, ad_nil, ad_cons, objAt, setAll, wipeA, wipeS, List.map_cons, List.map_nil, List.length_cons, List.length_nil, List.replicate, List.cons_append, List.nil_append, Nat.zero_add, Nat.reduceAdd, Nat.reduceSub, Wd.d, tupI, frI, prI, ixD, at3_0, at3_1, at3_2, at2_0, at2_1, eqD, Flat, and_true, true_and, and_self, if_true, if_false, Bool.false_eq_true, reduceIte, pairI, f]
        have : (xs'.map g)[i]? = some (p, q) := by rw [List.getElem?_map, hy]; simp [hgf]
        rw [take_snoc this, List.map_append]
        rfl
      · rw [List.length_map, hp.length_eq, List.length_map]
        exact hl2
      · subst h1 h2
        rw [List.length_map, show xs'.length = (xs'.map g).length by simp, List.take_length]
        simp only [leave_new, tk_self]
        exact h _ hperm hpw
end N66

/-! N66, the angles at which something changes. -/
namespace N66
open PySem PySem.Spec L2
/-! ### fractions in lowest terms -/
def RedF (x : Nat × Nat) : Prop := Nat.gcd x.1 x.2 = 1 ∧ 0 < x.2
theorem lowF_red {p q : Nat} (hq : 0 < q) : RedF (lowF p q) := by
  have hg : 0 < Nat.gcd p q := Nat.gcd_pos_of_pos_right p hq
  exact ⟨Nat.coprime_div_gcd_div_gcd hg, Nat.div_pos (Nat.gcd_le_right p hq) hg⟩
theorem red_one {x y : Nat × Nat} (hx : RedF x) (hy : RedF y) (e : x.1 * y.2 = y.1 * x.2) : x = y := by
  obtain ⟨p, q⟩ := x
  obtain ⟨p', q'⟩ := y
  obtain ⟨g1, q0⟩ := hx
  obtain ⟨g2, q0'⟩ := hy
  simp only at g1 q0 g2 q0' e
  have d1 : q ∣ q' := Nat.Coprime.dvd_of_dvd_mul_left (show Nat.Coprime q p from (Nat.gcd_comm q p).trans g1) ⟨p', by rw [e, Nat.mul_comm]⟩
  have d2 : q' ∣ q := Nat.Coprime.dvd_of_dvd_mul_left (show Nat.Coprime q' p' from (Nat.gcd_comm q' p').trans g2) ⟨p, by rw [← e, Nat.mul_comm]⟩
  have eq : q = q' := Nat.dvd_antisymm d1 d2
  subst eq
  have := Nat.eq_of_mul_eq_mul_right q0 e
  rw [this]
theorem lowF_eq {p q : Nat} (hq : 0 < q) : (lowF p q).1 * q = p * (lowF p q).2 := by
  unfold lowF
  have h1 := Nat.gcd_dvd_left p q
  have h2 := Nat.gcd_dvd_right p q
  have hg : 0 < Nat.gcd p q := Nat.gcd_pos_of_pos_right p hq
  obtain ⟨a, ha⟩ := h1
  obtain ⟨b, hb⟩ := h2
  show p / Nat.gcd p q * q = p * (q / Nat.gcd p q)
  have e1 : p / Nat.gcd p q = a := by conv => lhs; lhs; rw [ha]
                                      exact Nat.mul_div_cancel_left a hg
  have e2 : q / Nat.gcd p q = b := by conv => lhs; lhs; rw [hb]
                                      exact Nat.mul_div_cancel_left b hg
  rw [e1, e2]
  conv => lhs; rw [hb]
  conv => rhs; rw [ha]
  simp only [Nat.mul_comm, Nat.mul_left_comm, Nat.mul_assoc]
theorem lowF_le (p q : Nat) : (lowF p q).1 ≤ p ∧ (lowF p q).2 ≤ q := ⟨Nat.div_le_self _ _, Nat.div_le_self _ _⟩
/-! ### keys in order of their coming -/
def addK (K : List (Nat × Nat)) (x : Nat × Nat) : List (Nat × Nat) := if x ∈ K then K else K ++ [x]
theorem addK_mem {K : List (Nat × Nat)} {x y : Nat × Nat} : y ∈ addK K x ↔ y ∈ K ∨ y = x := by
  unfold addK
  split
  · rename_i h
    constructor
    · exact .inl
    · rintro (h2 | rfl)
      · exact h2
      · exact h
  · simp
theorem addK_nodup {K : List (Nat × Nat)} {x : Nat × Nat} (h : K.Nodup) : (addK K x).Nodup := by
  unfold addK
  split
  · exact h
  · rename_i hx
    rw [List.nodup_append]
    exact ⟨h, by simp, fun a ha b hb => by simp at hb; subst hb; exact fun z => hx (z ▸ ha)⟩
theorem addK_len (K : List (Nat × Nat)) (x : Nat × Nat) : (addK K x).length ≤ K.length + 1 := by
  unfold addK
  split
  · omega
  · simp
theorem foldK_mem {y : Nat × Nat} : ∀ {xs K : List (Nat × Nat)}, y ∈ xs.foldl addK K ↔ y ∈ K ∨ y ∈ xs
  | [], K => by simp
  | x :: xs, K => by rw [List.foldl_cons, foldK_mem, addK_mem, List.mem_cons, or_assoc]
theorem foldK_nodup : ∀ {xs K : List (Nat × Nat)}, K.Nodup → (xs.foldl addK K).Nodup
  | [], _, h => h
  | _ :: xs, _, h => foldK_nodup (xs := xs) (addK_nodup h)
theorem foldK_len : ∀ (xs K : List (Nat × Nat)), (xs.foldl addK K).length ≤ K.length + xs.length
  | [], K => by simp
  | x :: xs, K => by
    have h1 := foldK_len xs (addK K x)
    have h2 := addK_len K x
    simp only [List.foldl_cons, List.length_cons]; omega
def kvK (v : D) (K : List (Nat × Nat)) : List (List Int × D) := K.map fun x => ([(x.1 : Int), (x.2 : Int)], v)
theorem putK_kvK (v : D) (K : List (Nat × Nat)) (x : Nat × Nat) : putK (kvK v K) [(x.1 : Int), (x.2 : Int)] v = kvK v (addK K x) := by
  have key : ∀ y : Nat × Nat, ([(y.1 : Int), (y.2 : Int)] = [(x.1 : Int), (x.2 : Int)]) ↔ y = x := fun y => by
    simp only [List.cons.injEq, Int.natCast_inj, and_true]
    exact ⟨fun h => Prod.ext h.1 h.2, fun h => by rw [h]; exact ⟨rfl, rfl⟩⟩
  unfold putK addK
  have e : ((kvK v K).any fun kv => decide (kv.1 = [(x.1 : Int), (x.2 : Int)])) = decide (x ∈ K) := by
    unfold kvK
    rw [List.any_map]
    by_cases h : x ∈ K
    · rw [decide_eq_true h, List.any_eq_true]
      exact ⟨x, h, by simp⟩
    · rw [decide_eq_false h, List.any_eq_false]
      intro y hy
      simp only [Function.comp, decide_eq_true_eq]
      exact fun z => h ((key y).mp z ▸ hy)
  rw [e]
  by_cases h : x ∈ K
  · rw [if_pos (by simpa using h), if_pos h]
    unfold kvK
    rw [List.map_map]
    refine List.map_congr_left fun y _ => ?_
    simp only [Function.comp]
    split <;> rfl
  · rw [if_neg (by simpa using h), if_neg h]
    unfold kvK
    rw [List.map_append]
    rfl
theorem sd_last {os : List O} (kvs : List (List Int × D)) (key v : D) {Q : List O → Prop} : stDW (os ++ [.dT kvs]) os.length key v Q = ∃ ns : List Int, key = tupI ns ∧ kvs.length < lim ∧ Q (os ++ [.dT (putK kvs ns v)]) := by
  unfold stDW
  simp only [g_last, s_last]
/-! ### sorted fractions -/
def insF (x : Nat × Nat) : List (Nat × Nat) → List (Nat × Nat)
  | [] => [x]
  | y :: ys => if x.1 * y.2 < y.1 * x.2 then x :: y :: ys else y :: insF x ys
def sortF : List (Nat × Nat) → List (Nat × Nat)
  | [] => []
  | x :: xs => insF x (sortF xs)
theorem insF_perm (x : Nat × Nat) : ∀ ys, (insF x ys).Perm (x :: ys)
  | [] => .refl _
  | y :: ys => by
    unfold insF
    split
    · exact .refl _
    · exact ((insF_perm x ys).cons y).trans (.swap x y ys)
theorem sortF_perm : ∀ xs, (sortF xs).Perm xs
  | [] => .refl _
  | x :: xs => (insF_perm x _).trans ((sortF_perm xs).cons x)
theorem ltF_tr {a b c : Nat × Nat} (hb : 0 < b.2) (h1 : ltF a b) (h2 : ltF b c) : ltF a c := by
  unfold ltF at *
  obtain ⟨a1, a2⟩ := a
  obtain ⟨b1, b2⟩ := b
  obtain ⟨c1, c2⟩ := c
  simp only at *
  -- a1 b2 < b1 a2, b1 c2 < c1 b2
  rcases Nat.eq_zero_or_pos c2 with rfl | hc2
  · rcases Nat.eq_zero_or_pos a2 with rfl | ha2
    · omega
    · have : 0 < c1 := by
        rcases Nat.eq_zero_or_pos c1 with rfl | h
        · simp at h2
        · exact h
      have := Nat.mul_pos this ha2
      omega
  · have x1 : a1 * b2 * c2 < b1 * a2 * c2 := Nat.mul_lt_mul_of_pos_right h1 hc2
    have x2 : b1 * c2 * a2 ≤ c1 * b2 * a2 := Nat.mul_le_mul_right _ (Nat.le_of_lt h2)
    have e1 : b1 * a2 * c2 = b1 * c2 * a2 := by simp only [Nat.mul_comm, Nat.mul_left_comm, Nat.mul_assoc]
    have e2 : a1 * b2 * c2 = a1 * c2 * b2 := by simp only [Nat.mul_comm, Nat.mul_left_comm, Nat.mul_assoc]
    have e3 : c1 * b2 * a2 = c1 * a2 * b2 := by simp only [Nat.mul_comm, Nat.mul_left_comm, Nat.mul_assoc]
    have : a1 * c2 * b2 < c1 * a2 * b2 := by omega
    exact Nat.lt_of_mul_lt_mul_right this
theorem insF_sorted (x : Nat × Nat) : ∀ {ys : List (Nat × Nat)}, ys.Pairwise ltF → (∀ y ∈ ys, x.1 * y.2 ≠ y.1 * x.2 ∧ 0 < y.2) → (insF x ys).Pairwise ltF
  | [], _, _ => by simp [insF]
  | y :: ys, h, hn => by
    unfold insF
    rw [List.pairwise_cons] at h
    split
    · rename_i hxy
      rw [List.pairwise_cons]
      refine ⟨fun z hz => ?_, List.pairwise_cons.mpr h⟩
      rcases List.mem_cons.mp hz with rfl | hz
      · exact hxy
      · exact ltF_tr (hn y (List.mem_cons_self ..)).2 hxy (h.1 z hz)
    · rename_i hxy
      rw [List.pairwise_cons]
      refine ⟨fun z hz => ?_, insF_sorted x h.2 fun w hw => hn w (List.mem_cons_of_mem _ hw)⟩
      rcases List.mem_cons.mp ((insF_perm x ys).mem_iff.mp hz) with rfl | hz
      · have := (hn y (List.mem_cons_self ..)).1
        unfold ltF; omega
      · exact h.1 z hz
theorem sortF_sorted : ∀ {xs : List (Nat × Nat)}, xs.Pairwise (fun a b => a.1 * b.2 ≠ b.1 * a.2) → (∀ x ∈ xs, 0 < x.2) → (sortF xs).Pairwise ltF
  | [], _, _ => .nil
  | x :: xs, h, hp => by
    rw [List.pairwise_cons] at h
    refine insF_sorted x (sortF_sorted h.2 fun y hy => hp y (List.mem_cons_of_mem _ hy)) fun y hy => ?_
    have := (sortF_perm xs).mem_iff.mp hy
    exact ⟨h.1 y this, hp y (List.mem_cons_of_mem _ this)⟩
theorem ltF_one {xs ys : List (Nat × Nat)} (p : xs.Perm ys) (h1 : xs.Pairwise ltF) (h2 : ys.Pairwise ltF) : xs = ys :=
  sorted_one (fun a b z w => by unfold ltF at *; omega) p h1 h2
/-! ### the marks -/
def candT (many : Nat) (t : Nat × Nat) : List (Nat × Nat) := (List.range (min (t.1 + t.2) (2 * many + 1) - t.1)).filterMap fun j => if (t.1 + j) % 2 = 0 then some (lowF j t.2) else none
def keysL (many g w : Nat) : List (Nat × Nat) := ((turnsL many g w).flatMap (candT many)).foldl addK [(0, 1)]
def marksL (many g w : Nat) : List (Nat × Nat) := sortF (keysL many g w)
theorem candT_mem {many : Nat} {t x : Nat × Nat} : x ∈ candT many t ↔ ∃ h, t.1 ≤ h ∧ h < t.1 + t.2 ∧ h ≤ 2 * many ∧ h % 2 = 0 ∧ x = lowF (h - t.1) t.2 := by
  unfold candT
  rw [List.mem_filterMap]
  constructor
  · rintro ⟨j, hj, e⟩
    rw [List.mem_range] at hj
    split at e
    · rename_i h2
      exact ⟨t.1 + j, by omega, by omega, by omega, h2, by rw [Nat.add_sub_cancel_left]; exact (Option.some.inj e).symm⟩
    · cases e
  · rintro ⟨h, h1, h2, h3, h4, rfl⟩
    refine ⟨h - t.1, by rw [List.mem_range]; omega, ?_⟩
    rw [if_pos (by rw [Nat.add_sub_cancel' h1]; exact h4)]
theorem keysL_mem {many g w : Nat} {x : Nat × Nat} : x ∈ keysL many g w ↔ x = (0, 1) ∨ ∃ t ∈ turnsL many g w, x ∈ candT many t := by
  unfold keysL
  rw [foldK_mem, List.mem_singleton, List.mem_flatMap]
theorem keysL_nodup (many g w : Nat) : (keysL many g w).Nodup := foldK_nodup (by simp)
theorem candT_len (many : Nat) (t : Nat × Nat) : (candT many t).length ≤ 2 * many + 1 := by
  unfold candT
  refine Nat.le_trans (List.length_filterMap_le _ _) ?_
  rw [List.length_range]; omega
theorem keysL_len (many g w : Nat) (hm : many ≤ 30) : (keysL many g w).length ≤ 4000 := by
  unfold keysL
  refine Nat.le_trans (foldK_len _ _) ?_
  have h1 : ∀ ts : List (Nat × Nat), (ts.flatMap (candT many)).length ≤ 61 * ts.length := by
    intro ts
    induction ts with
    | nil => simp
    | cons t ts ih =>
      have := candT_len many t
      simp only [List.flatMap_cons, List.length_append, List.length_cons]; omega
  have := h1 (turnsL many g w)
  have := turnsL_len many g w
  simp only [List.length_cons, List.length_nil]; omega
theorem keysL_red {many : Nat} {W : Wd} (hW : W.Ok) (hm : many ≤ 30) {x : Nat × Nat} (h : x ∈ keysL many W.g W.w) : RedF x ∧ x.2 ≤ 500 ∧ x.1 < x.2 := by
  rcases keysL_mem.mp h with rfl | ⟨t, ht, hx⟩
  · exact ⟨⟨rfl, by decide⟩, by decide, by decide⟩
  · obtain ⟨l500, _, l4⟩ := turnsL_bnd hW hm ht
    obtain ⟨n, h1, h2, h3, h4, rfl⟩ := candT_mem.mp hx
    have hq : 0 < t.2 := by omega
    refine ⟨lowF_red hq, Nat.le_trans (lowF_le _ _).2 l500, ?_⟩
    have e := lowF_eq (p := n - t.1) hq
    have r := (lowF_red (p := n - t.1) hq).2
    refine Nat.lt_of_mul_lt_mul_right (a := t.2) ?_
    rw [e, Nat.mul_comm]
    exact Nat.mul_lt_mul_of_pos_left (by omega) r
theorem keysL_ne {many : Nat} {W : Wd} (hW : W.Ok) (hm : many ≤ 30) : (keysL many W.g W.w).Pairwise (fun a b => a.1 * b.2 ≠ b.1 * a.2) := by
  refine (keysL_nodup many W.g W.w).imp_of_mem fun {a b} ha hb n e => n ?_
  exact red_one (keysL_red hW hm ha).1 (keysL_red hW hm hb).1 e
theorem marksL_mem {many g w : Nat} {x : Nat × Nat} : x ∈ marksL many g w ↔ x ∈ keysL many g w := (sortF_perm _).mem_iff
theorem marksL_sorted {many : Nat} {W : Wd} (hW : W.Ok) (hm : many ≤ 30) : (marksL many W.g W.w).Pairwise ltF := sortF_sorted (keysL_ne hW hm) fun x hx => (keysL_red hW hm hx).1.2
theorem marksL_one {many : Nat} {W : Wd} (hW : W.Ok) (hm : many ≤ 30) {L : List (Nat × Nat)} (hn : L.Nodup) (hx : ∀ x, x ∈ L ↔ x ∈ keysL many W.g W.w) (hs : L.Pairwise ltF) : L = marksL many W.g W.w :=
  ltF_one (((List.perm_ext_iff_of_nodup hn (keysL_nodup many W.g W.w)).mpr hx).trans (sortF_perm _).symm) hs (marksL_sorted hW hm)
def spBreaks : Fun1 := fun ss os Q => ∃ (many : Nat) (W : Wd), ss = [.d (.int many), .d W.d] ∧ W.Ok ∧ many ≤ 30 ∧ Q (.new (.lst ((marksL many W.g W.w).map frI))) os
theorem rngD_get {lo hi : Int} {i : Nat} {x : D} (h : (rngD lo hi)[i]? = some x) : x = .int (lo + i) ∧ i < (hi - lo).toNat := by
  unfold rngD at h
  obtain ⟨j, hj, rfl⟩ := map_get h
  have hl : i < (hi - lo).toNat := by
    have := (List.getElem?_eq_some_iff.mp hj).1
    simpa using this
  rw [List.getElem?_range hl] at hj
  cases hj
  exact ⟨rfl, hl⟩
theorem rngD_len (lo hi : Int) : (rngD lo hi).length = (hi - lo).toNat := by unfold rngD; simp
def candP (many : Nat) (t : Nat × Nat) (n : Nat) : List (Nat × Nat) := (List.range n).filterMap fun j => if (t.1 + j) % 2 = 0 then some (lowF j t.2) else none
theorem candP_succ (many : Nat) (t : Nat × Nat) (n : Nat) : candP many t (n + 1) = candP many t n ++ (if (t.1 + n) % 2 = 0 then [lowF n t.2] else []) := by
  unfold candP
  rw [List.range_succ, List.filterMap_append]
  congr 1
  simp only [List.filterMap_cons, List.filterMap_nil]
  split
  · rename_i h; split at h
    · cases h
    · rename_i h2; rw [if_neg h2]
  · rename_i h; split at h
    · rename_i h2; cases h; rw [if_pos h2]
    · cases h
theorem candP_len (many : Nat) (t : Nat × Nat) (n : Nat) : (candP many t n).length ≤ n := by
  unfold candP
  refine Nat.le_trans (List.length_filterMap_le _ _) ?_
  rw [List.length_range]; exact Nat.le_refl _
theorem w_breaks (T : Tab) (mo : MoTab T) (h2 : T 2 = spLowest) (h3 : T 3 = spTurns) (h6 : T 6 = spInOrder) (ss : List S) (os : List O) (Q : R → List O → Prop) (h : spBreaks ss os Q) : bodyW T p_breaks 6 ss os Q := by
  obtain ⟨many, W, rfl, hW, hm, h⟩ := h
  simp only [p_breaks, bodyW, e_var, e_cst, e_dct, e_bin, e_neg, e_not, e_cmp, e_cmp2, e_and, e_or, e_ite, e_tup, e_lst, e_idx, e_slc, e_rev, e_fn, e_call, es_nil, es_cons, o_none, o_some, t_tt, t_and, t_or, t_not, t_val, i_seq, i_rng, i_enm, i_zip, p_nil, p_cons, s_set, s_setO, s_unp, s_par, s_aug, s_ext, s_iff, s_ret, s_app, s_pop, s_stL, s_stD, s_appN, s_popN, s_drop, s_cont, s_brk, ss_nil, ss_cons, getS, setS, setPs, rs_val, rs_obj, rs_new, rsv_d, rsv_last, b_add, b_addL, b_addT, b_sub, b_mul, b_div, b_mod, b_pow, c_eq, c_ne, c_lt, c_le, c_gt, c_ge, c_inL, c_inT, c_niL, c_niT, c_isB, c_isN, c_isI, c_isT, c_inN, c_inI, c_inTu, tr_non, tr_bl, tr_int, tr_lst, tr_tup, x_lst, x_tup, sl_l, sl_t, rv_l, nw_f, nw_t, au_add, au_sub, au_mul, la_last, bd_nm, bd_tp, sq_l, sq_t, f_len, f_isi, f_sortD, f_sortO, f_tupL, f_tupO, f_lstT, f_lstL, f_lstD, f_min2, f_minL, f_all, f_any, f_intB, f_str, z_ll, z_tt, ad_nil, ad_cons, objAt, setAll, wipeA, wipeS, List.map_cons, List.map_nil, List.length_cons, List.length_nil, List.replicate, List.cons_append, List.nil_append, Nat.zero_add, Nat.reduceAdd, Nat.reduceSub, Wd.d, tupI, frI, prI, ixD, at3_0, at3_1, at3_2, at2_0, at2_1, eqD, Flat, and_true, true_and, and_self, if_true, if_false, Bool.false_eq_true, reduceIte]
  refine for_i mo (fun its os1 => its = (turnsL many W.g W.w).map prI ∧ os1 = os ++ [.dT (kvK (.int 0) [(0, 1)])]) ?_ fun its os1 ⟨e1, e2⟩ => ?_
  · simp only [bodyW, e_var, e_cst, e_dct, e_bin, e_neg, e_not, e_cmp, e_cmp2, e_and, e_or, e_ite, e_tup, e_lst, e_idx, e_slc, e_rev, e_fn, e_call, es_nil, es_cons, o_none, o_some, t_tt, t_and, t_or, t_not, t_val, i_seq, i_rng, i_enm, i_zip, p_nil, p_cons, s_set, s_setO, s_unp, s_par, s_aug, s_ext, s_iff, s_ret, s_app, s_pop, s_stL, s_stD, s_appN, s_popN, s_drop, s_cont, s_brk, ss_nil, ss_cons, getS, setS, setPs, rs_val, rs_obj, rs_new, rsv_d, rsv_last, b_add, b_addL, b_addT, b_sub, b_mul, b_div, b_mod, b_pow, c_eq, c_ne, c_lt, c_le, c_gt, c_ge, c_inL, c_inT, c_niL, c_niT, c_isB, c_isN, c_isI, c_isT, c_inN, c_inI, c_inTu, tr_non, tr_bl, tr_int, tr_lst, tr_tup, x_lst, x_tup, sl_l, sl_t, rv_l, nw_f, nw_t, au_add, au_sub, au_mul, la_last, bd_nm, bd_tp, sq_l, sq_t, f_len, f_isi, f_sortD, f_sortO, f_tupL, f_tupO, f_lstT, f_lstL, f_lstD, f_min2, f_minL, f_all, f_any, f_intB, f_str, z_ll, z_tt, ad_nil, ad_cons, objAt, setAll, wipeA, wipeS, List.map_cons, List.map_nil, List.length_cons, List.length_nil, List.replicate, List.cons_append, List.nil_append, Nat.zero_add, Nat.reduceAdd, Nat.reduceSub, Wd.d, tupI, frI, prI, ixD, at3_0, at3_1, at3_2, at2_0, at2_1, eqD, Flat, and_true, true_and, and_self, if_true, if_false, Bool.false_eq_true, reduceIte, h3]
    exact ⟨many, W, rfl, hW, hm, rfl, rfl⟩
  subst e1 e2
  refine ⟨fun i env os' => ∃ x3 x4 x5, env = [some (.d (.int many)), some (.d W.d), some (.o os.length), x3, x4, x5] ∧ os' = os ++ [.dT (kvK (.int 0) ((((turnsL many W.g W.w).take i).flatMap (candT many)).foldl addK [(0, 1)]))], ⟨none, none, none, rfl, rfl⟩, fun i x env os' hx ⟨x3, x4, x5, he, ho⟩ => ?_, fun env os' ⟨x3, x4, x5, he, ho⟩ => ?_⟩
  · subst he ho
    obtain ⟨⟨b, l⟩, hbl, rfl⟩ := map_get hx
    obtain ⟨l500, b2, l4⟩ := turnsL_bnd hW hm (List.mem_of_getElem? hbl)
    simp only at l500 b2 l4
    simp only [bodyW, e_var, e_cst, e_dct, e_bin, e_neg, e_not, e_cmp, e_cmp2, e_and, e_or, e_ite, e_tup, e_lst, e_idx, e_slc, e_rev, e_fn, e_call, es_nil, es_cons, o_none, o_some, t_tt, t_and, t_or, t_not, t_val, i_seq, i_rng, i_enm, i_zip, p_nil, p_cons, s_set, s_setO, s_unp, s_par, s_aug, s_ext, s_iff, s_ret, s_app, s_pop, s_stL, s_stD, s_appN, s_popN, s_drop, s_cont, s_brk, ss_nil, ss_cons, getS, setS, setPs, rs_val, rs_obj, rs_new, rsv_d, rsv_last, b_add, b_addL, b_addT, b_sub, b_mul, b_div, b_mod, b_pow, c_eq, c_ne, c_lt, c_le, c_gt, c_ge, c_inL, c_inT, c_niL, c_niT, c_isB, c_isN, c_isI, c_isT, c_inN, c_inI, c_inTu, tr_non, tr_bl, tr_int, tr_lst, tr_tup, x_lst, x_tup, sl_l, sl_t, rv_l, nw_f, nw_t, au_add, au_sub, au_mul, la_last, bd_nm, bd_tp, sq_l, sq_t, f_len, f_isi, f_sortD, f_sortO, f_tupL, f_tupO, f_lstT, f_lstL, f_lstD, f_min2, f_minL, f_all, f_any, f_intB, f_str, z_ll, z_tt, ad_nil, ad_cons, objAt, setAll, wipeA, wipeS, List.map_cons, List.map_nil, List.length_cons, List.length_nil, List.replicate, List.cons_append, List.nil_append, Nat.zero_add, Nat.reduceAdd, Nat.reduceSub, Wd.d, tupI, frI, prI, ixD, at3_0, at3_1, at3_2, at2_0, at2_1, eqD, Flat, and_true, true_and, and_self, if_true, if_false, Bool.false_eq_true, reduceIte]
    have hn : (((b : Int) + l)) = ((b + l : Nat) : Int) := by simp
    have hn2 : (2 : Int) * many + 1 = ((2 * many + 1 : Nat) : Int) := by simp
    have hmin : (if ((2 : Int) * many + 1) < (b : Int) + l then (2 : Int) * many + 1 else (b : Int) + l) = ((min (b + l) (2 * many + 1) : Nat) : Int) := by
      split <;> omega
    refine for_i mo (fun its os1 => its = rngD b ((min (b + l) (2 * many + 1) : Nat) : Int) ∧ os1 = os ++ [.dT (kvK (.int 0) ((((turnsL many W.g W.w).take i).flatMap (candT many)).foldl addK [(0, 1)]))]) ?_ fun its os1 ⟨e1, e2⟩ => ?_
    · simp only [bodyW, e_var, e_cst, e_dct, e_bin, e_neg, e_not, e_cmp, e_cmp2, e_and, e_or, e_ite, e_tup, e_lst, e_idx, e_slc, e_rev, e_fn, e_call, es_nil, es_cons, o_none, o_some, t_tt, t_and, t_or, t_not, t_val, i_seq, i_rng, i_enm, i_zip, p_nil, p_cons, s_set, s_setO, s_unp, s_par, s_aug, s_ext, s_iff, s_ret, s_app, s_pop, s_stL, s_stD, s_appN, s_popN, s_drop, s_cont, s_brk, ss_nil, ss_cons, getS, setS, setPs, rs_val, rs_obj, rs_new, rsv_d, rsv_last, b_add, b_addL, b_addT, b_sub, b_mul, b_div, b_mod, b_pow, c_eq, c_ne, c_lt, c_le, c_gt, c_ge, c_inL, c_inT, c_niL, c_niT, c_isB, c_isN, c_isI, c_isT, c_inN, c_inI, c_inTu, tr_non, tr_bl, tr_int, tr_lst, tr_tup, x_lst, x_tup, sl_l, sl_t, rv_l, nw_f, nw_t, au_add, au_sub, au_mul, la_last, bd_nm, bd_tp, sq_l, sq_t, f_len, f_isi, f_sortD, f_sortO, f_tupL, f_tupO, f_lstT, f_lstL, f_lstD, f_min2, f_minL, f_all, f_any, f_intB, f_str, z_ll, z_tt, ad_nil, ad_cons, objAt, setAll, wipeA, wipeS, List.map_cons, List.map_nil, List.length_cons, List.length_nil, List.replicate, List.cons_append, List.nil_append, Nat.zero_add, Nat.reduceAdd, Nat.reduceSub, Wd.d, tupI, frI, prI, ixD, at3_0, at3_1, at3_2, at2_0, at2_1, eqD, Flat, and_true, true_and, and_self, if_true, if_false, Bool.false_eq_true, reduceIte]
      refine ⟨mul_lit _ _ (by decide), ?_, ?_⟩
      · rw [hmin]; refine ⟨by omega, by omega, by omega, by omega⟩
      · rw [hmin]
    subst e1 e2
    refine ⟨fun j env os' => ∃ y5, env = [some (.d (.int many)), some (.d W.d), some (.o os.length), some (.d (.int b)), some (.d (.int l)), y5] ∧ os' = os ++ [.dT (kvK (.int 0) ((candP many (b, l) j).foldl addK ((((turnsL many W.g W.w).take i).flatMap (candT many)).foldl addK [(0, 1)])))], ⟨x5, by simp [Wd.d, tupI], by simp [candP]⟩, fun j y env os' hy ⟨y5, he, ho⟩ => ?_, fun env os' ⟨y5, he, ho⟩ => ?_⟩
    · subst he ho
      obtain ⟨rfl, hj⟩ := rngD_get hy
      simp only [bodyW, e_var, e_cst, e_dct, e_bin, e_neg, e_not, e_cmp, e_cmp2, e_and, e_or, e_ite, e_tup, e_lst, e_idx, e_slc, e_rev, e_fn, e_call, es_nil, es_cons, o_none, o_some, t_tt, t_and, t_or, t_not, t_val, i_seq, i_rng, i_enm, i_zip, p_nil, p_cons, s_set, s_setO, s_unp, s_par, s_aug, s_ext, s_iff, s_ret, s_app, s_pop, s_stL, s_stD, s_appN, s_popN, s_drop, s_cont, s_brk, ss_nil, ss_cons, getS, setS, setPs, rs_val, rs_obj, rs_new, rsv_d, rsv_last, b_add, b_addL, b_addT, b_sub, b_mul, b_div, b_mod, b_pow, c_eq, c_ne, c_lt, c_le, c_gt, c_ge, c_inL, c_inT, c_niL, c_niT, c_isB, c_isN, c_isI, c_isT, c_inN, c_inI, c_inTu, tr_non, tr_bl, tr_int, tr_lst, tr_tup, x_lst, x_tup, sl_l, sl_t, rv_l, nw_f, nw_t, au_add, au_sub, au_mul, la_last, bd_nm, bd_tp, sq_l, sq_t, f_len, f_isi, f_sortD, f_sortO, f_tupL, f_tupO, f_lstT, f_lstL, f_lstD, f_min2, f_minL, f_all, f_any, f_intB, f_str, z_ll, z_tt, ad_nil, ad_cons, objAt, setAll, wipeA, wipeS, List.map_cons, List.map_nil, List.length_cons, List.length_nil, List.replicate, List.cons_append, List.nil_append, Nat.zero_add, Nat.reduceAdd, Nat.reduceSub, Wd.d, tupI, frI, prI, ixD, at3_0, at3_1, at3_2, at2_0, at2_1, eqD, Flat, and_true, true_and, and_self, if_true, if_false, Bool.false_eq_true, reduceIte]
      have ej : ((b : Int) + j) % 2 = (((b + j) % 2 : Nat) : Int) := by simp
      rw [candP_succ]
      by_cases hev : (b + j) % 2 = 0
      · rw [if_pos (by rw [ej, hev]; rfl), if_pos hev]
        simp only [h2, show ((b : Int) + j - b) = (j : Int) by omega]
        refine ⟨by decide, j, l, rfl, by omega, by omega, ?_⟩
        simp only [bodyW, e_var, e_cst, e_dct, e_bin, e_neg, e_not, e_cmp, e_cmp2, e_and, e_or, e_ite, e_tup, e_lst, e_idx, e_slc, e_rev, e_fn, e_call, es_nil, es_cons, o_none, o_some, t_tt, t_and, t_or, t_not, t_val, i_seq, i_rng, i_enm, i_zip, p_nil, p_cons, s_set, s_setO, s_unp, s_par, s_aug, s_ext, s_iff, s_ret, s_app, s_pop, s_stL, s_stD, s_appN, s_popN, s_drop, s_cont, s_brk, ss_nil, ss_cons, getS, setS, setPs, rs_val, rs_obj, rs_new, rsv_d, rsv_last, b_add, b_addL, b_addT, b_sub, b_mul, b_div, b_mod, b_pow, c_eq, c_ne, c_lt, c_le, c_gt, c_ge, c_inL, c_inT, c_niL, c_niT, c_isB, c_isN, c_isI, c_isT, c_inN, c_inI, c_inTu, tr_non, tr_bl, tr_int, tr_lst, tr_tup, x_lst, x_tup, sl_l, sl_t, rv_l, nw_f, nw_t, au_add, au_sub, au_mul, la_last, bd_nm, bd_tp, sq_l, sq_t, f_len, f_isi, f_sortD, f_sortO, f_tupL, f_tupO, f_lstT, f_lstL, f_lstD, f_min2, f_minL, f_all, f_any, f_intB, f_str, z_ll, z_tt, ad_nil, ad_cons, objAt, setAll, wipeA, wipeS, List.map_cons, List.map_nil, List.length_cons, List.length_nil, List.replicate, List.cons_append, List.nil_append, Nat.zero_add, Nat.reduceAdd, Nat.reduceSub, sd_last, frI]
        refine ⟨[((lowF j l).1 : Int), ((lowF j l).2 : Int)], rfl, ?_, ?_⟩
        · unfold kvK
          rw [List.length_map]
          have a1 := foldK_len (candP many (b, l) j) ((((turnsL many W.g W.w).take i).flatMap (candT many)).foldl addK [(0, 1)])
          have a2 := candP_len many (b, l) j
          have a3 : ((((turnsL many W.g W.w).take i).flatMap (candT many)).foldl addK [(0, 1)]).length ≤ 4000 := by
            refine Nat.le_trans (foldK_len _ _) ?_
            have h1 : ∀ ts : List (Nat × Nat), (ts.flatMap (candT many)).length ≤ 61 * ts.length := by
              intro ts
              induction ts with
              | nil => simp
              | cons t ts ih =>
                have := candT_len many t
                simp only [List.flatMap_cons, List.length_append, List.length_cons]; omega
            have := h1 ((turnsL many W.g W.w).take i)
            have := turnsL_len many W.g W.w
            rw [List.length_take] at *
            simp only [List.length_cons, List.length_nil]; omega
          unfold lim; omega
        · refine ⟨_, by simp [Wd.d, tupI]; rfl, ?_⟩
          rw [putK_kvK, List.foldl_append]
          rfl
      · rw [if_neg (by rw [ej]; simp; omega), if_neg hev, List.append_nil]
        exact ⟨by decide, _, by simp [Wd.d, tupI]; rfl, rfl⟩
    · subst he ho
      rw [rngD_len]
      refine ⟨_, _, _, by simp [Wd.d, tupI]; exact ⟨rfl, rfl, rfl⟩, ?_⟩
      rw [take_snoc hbl, List.flatMap_append, List.foldl_append]
      have e : (((min (b + l) (2 * many + 1) : Nat) : Int) - (b : Int)).toNat = min (b + l) (2 * many + 1) - b := by omega
      rw [e]
      simp only [List.flatMap_cons, List.flatMap_nil, List.append_nil]
      rfl
  · subst he ho
    rw [List.length_map, List.take_length]
    simp only [bodyW, e_var, e_cst, e_dct, e_bin, e_neg, e_not, e_cmp, e_cmp2, e_and, e_or, e_ite, e_tup, e_lst, e_idx, e_slc, e_rev, e_fn, e_call, es_nil, es_cons, o_none, o_some, t_tt, t_and, t_or, t_not, t_val, i_seq, i_rng, i_enm, i_zip, p_nil, p_cons, s_set, s_setO, s_unp, s_par, s_aug, s_ext, s_iff, s_ret, s_app, s_pop, s_stL, s_stD, s_appN, s_popN, s_drop, s_cont, s_brk, ss_nil, ss_cons, getS, setS, setPs, rs_val, rs_obj, rs_new, rsv_d, rsv_last, b_add, b_addL, b_addT, b_sub, b_mul, b_div, b_mod, b_pow, c_eq, c_ne, c_lt, c_le, c_gt, c_ge, c_inL, c_inT, c_niL, c_niT, c_isB, c_isN, c_isI, c_isT, c_inN, c_inI, c_inTu, tr_non, tr_bl, tr_int, tr_lst, tr_tup, x_lst, x_tup, sl_l, sl_t, rv_l, nw_f, nw_t, au_add, au_sub, au_mul, la_last, bd_nm, bd_tp, sq_l, sq_t, f_len, f_isi, f_sortD, f_sortO, f_tupL, f_tupO, f_lstT, f_lstL, f_lstD, f_min2, f_minL, f_all, f_any, f_intB, f_str, z_ll, z_tt, ad_nil, ad_cons, objAt, setAll, wipeA, wipeS, List.map_cons, List.map_nil, List.length_cons, List.length_nil, List.replicate, List.cons_append, List.nil_append, Nat.zero_add, Nat.reduceAdd, Nat.reduceSub, h6]
    refine ⟨keysL many W.g W.w, ?_, fun x hx => ?_, Nat.le_trans (keysL_len many W.g W.w hm) (by decide), keysL_ne hW hm, fun L hp hs => ?_⟩
    · unfold kvK keysL
      rw [List.map_map]
      rfl
    · obtain ⟨⟨_, r⟩, r2, r3⟩ := keysL_red hW hm hx
      exact ⟨r, by omega, by omega⟩
    · simp only [leave_new, l_last]
      rw [marksL_one hW hm ((hp.nodup_iff).mpr (keysL_nodup _ _ _)) (fun x => hp.mem_iff) hs]
      exact h
end N66

/-! N66, stretches: two marks next to one another prick unlike cells. -/
namespace N66
open PySem PySem.Spec L2
def p_stretches : Ss := .cons (.set 2 (.call 5 (.cons (.var 0) (.cons (.var 1) .nil)))) (.cons (.set 3 (.bin .Add (.slc (.var 2) (.some (.cst (.int 1))) .none) (.lst (.cons (.tup (.cons (.cst (.int 1)) (.cons (.cst (.int 1)) .nil))) .nil)))) (.cons (.setO 4 (.lst .nil)) (.cons (.for_ (.tp [5, 6]) (.zip (.cons (.var 2) (.cons (.var 3) .nil))) (.cons (.set 7 (.fn .tuple (.cons (.call 4 (.cons (.var 0) (.cons (.var 1) (.cons (.var 5) .nil)))) .nil))) (.cons (.iff (.and (.val (.var 4)) (.val (.cmp .Eq (.idx (.idx (.var 4) (.neg (.cst (.int 1)))) (.cst (.int 2))) (.var 7)))) (.cons (.stL 4 (.neg (.cst (.int 1))) (.tup (.cons (.idx (.idx (.var 4) (.neg (.cst (.int 1)))) (.cst (.int 0))) (.cons (.var 6) (.cons (.var 7) .nil))))) .nil) (.cons (.app 4 (.tup (.cons (.var 5) (.cons (.var 6) (.cons (.var 7) .nil))))) .nil)) .nil))) (.cons (.ret (.var 4)) .nil))))
theorem turnsF_ge {many w : Nat} : ∀ {n b l : Nat} {t : Nat × Nat}, t ∈ turnsF many w n b l → b ≤ t.1
  | 0, _, _, _, h => by simp [turnsF] at h
  | n + 1, b, l, t, h => by
    unfold turnsF at h
    split at h
    · rcases List.mem_cons.mp h with rfl | h
      · exact Nat.le_refl _
      · have := turnsF_ge h; omega
    · simp at h
/-- each half lies on one turn -/
theorem turnsF_one {many w : Nat} : ∀ {n b l : Nat} {t u : Nat × Nat} {h : Nat}, t ∈ turnsF many w n b l → u ∈ turnsF many w n b l → t.1 ≤ h → h < t.1 + t.2 → u.1 ≤ h → h < u.1 + u.2 → t = u
  | 0, _, _, _, _, _, h, _, _, _, _, _ => by simp [turnsF] at h
  | n + 1, b, l, t, u, h, ht, hu, h1, h2, h3, h4 => by
    unfold turnsF at ht hu
    split at ht
    · rename_i hb
      rw [if_pos hb] at hu
      rcases List.mem_cons.mp ht with rfl | ht
      · rcases List.mem_cons.mp hu with rfl | hu
        · rfl
        · have := turnsF_ge hu; simp only at h2; omega
      · rcases List.mem_cons.mp hu with rfl | hu
        · have := turnsF_ge ht; simp only at h4; omega
        · exact turnsF_one ht hu h1 h2 h3 h4
    · simp at ht
theorem turnsL_one {many g w : Nat} {t u : Nat × Nat} {h : Nat} (ht : t ∈ turnsL many g w) (hu : u ∈ turnsL many g w) (h1 : t.1 ≤ h) (h2 : h < t.1 + t.2) (h3 : u.1 ≤ h) (h4 : h < u.1 + u.2) : t = u := turnsF_one ht hu h1 h2 h3 h4
theorem lt_low {x : Nat × Nat} {m l : Nat} (hl : 0 < l) : ltF x (lowF m l) ↔ x.1 * l < m * x.2 := by
  have e := lowF_eq (p := m) hl
  have r := (lowF_red (p := m) hl).2
  unfold ltF
  generalize (lowF m l).1 = a at *
  generalize (lowF m l).2 = c at *
  have k1 : x.1 * c < a * x.2 ↔ x.1 * c * l < a * x.2 * l := (Nat.mul_lt_mul_right hl).symm
  have k2 : x.1 * l < m * x.2 ↔ x.1 * l * c < m * x.2 * c := (Nat.mul_lt_mul_right r).symm
  rw [k1, k2]
  have e1 : a * x.2 * l = m * x.2 * c := by
    rw [Nat.mul_right_comm, e, Nat.mul_right_comm]
  rw [e1, Nat.mul_right_comm]
theorem low_lt {x : Nat × Nat} {m l : Nat} (hl : 0 < l) : ltF (lowF m l) x ↔ m * x.2 < x.1 * l := by
  have e := lowF_eq (p := m) hl
  have r := (lowF_red (p := m) hl).2
  unfold ltF
  generalize (lowF m l).1 = a at *
  generalize (lowF m l).2 = c at *
  have k1 : a * x.2 < x.1 * c ↔ a * x.2 * l < x.1 * c * l := (Nat.mul_lt_mul_right hl).symm
  have k2 : m * x.2 < x.1 * l ↔ m * x.2 * c < x.1 * l * c := (Nat.mul_lt_mul_right r).symm
  rw [k1, k2]
  have e1 : a * x.2 * l = m * x.2 * c := by
    rw [Nat.mul_right_comm, e, Nat.mul_right_comm]
  rw [e1, Nat.mul_right_comm x.1 c l]
theorem half_low {m l b : Nat} (hl : 0 < l) : halfOf (lowF m l).1 (lowF m l).2 b l = b + m := by
  unfold halfOf
  rw [lowF_eq hl, Nat.mul_div_cancel _ (lowF_red hl).2]
theorem half_lo {p q b l m : Nat} (hq : 0 < q) : b + m ≤ halfOf p q b l ↔ m * q ≤ p * l := by
  unfold halfOf
  rw [Nat.add_le_add_iff_left, Nat.le_div_iff_mul_le hq]
theorem half_hi {p q b l m : Nat} (hq : 0 < q) : halfOf p q b l < b + m ↔ p * l < m * q := by
  unfold halfOf
  rw [Nat.add_lt_add_iff_left, Nat.div_lt_iff_lt_mul hq]
/-- a needle at x goes through the cell c (as wound) -/
def Prk (many : Nat) (W : Wd) (x : Nat × Nat) (c : Nat) : Prop := ∃ t ∈ turnsL many W.g W.w, halfOf x.1 x.2 t.1 t.2 < 2 * many ∧ halfOf x.1 x.2 t.1 t.2 / 2 = c
theorem cellsT_mem {many e p q : Nat} {z : Int} : ∀ {ts : List (Nat × Nat)}, z ∈ cellsT many e p q ts ↔ ∃ t ∈ ts, halfOf p q t.1 t.2 < 2 * many ∧ z = cellE many e (halfOf p q t.1 t.2 / 2)
  | [] => by simp [cellsT]
  | (b, l) :: ts => by
    unfold cellsT
    split
    · rename_i h
      rw [List.mem_cons, cellsT_mem (ts := ts)]
      constructor
      · rintro (rfl | ⟨t, h1, h2⟩)
        · exact ⟨(b, l), List.mem_cons_self .., h, rfl⟩
        · exact ⟨t, List.mem_cons_of_mem _ h1, h2⟩
      · rintro ⟨t, h1, h2, h3⟩
        rcases List.mem_cons.mp h1 with rfl | h1
        · exact .inl h3
        · exact .inr ⟨t, h1, h2, h3⟩
    · rename_i h
      rw [cellsT_mem (ts := ts)]
      constructor
      · rintro ⟨t, h1, h2⟩
        exact ⟨t, List.mem_cons_of_mem _ h1, h2⟩
      · rintro ⟨t, h1, h2, h3⟩
        rcases List.mem_cons.mp h1 with rfl | h1
        · exact absurd h2 h
        · exact ⟨t, h1, h2, h3⟩
theorem pricked_mem {many : Nat} {W : Wd} {x : Nat × Nat} {z : Int} : z ∈ prickedL many W x.1 x.2 ↔ ∃ c, Prk many W x c ∧ z = cellE many W.e c := by
  unfold prickedL Prk
  rw [sortI_mem, cellsT_mem]
  constructor
  · rintro ⟨t, h1, h2, h3⟩
    exact ⟨_, ⟨t, h1, h2, rfl⟩, h3⟩
  · rintro ⟨c, ⟨t, h1, h2, rfl⟩, h3⟩
    exact ⟨t, h1, h2, h3⟩
theorem cellE_inj {many e c d : Nat} (h : cellE many e c = cellE many e d) : c = d := by
  unfold cellE at h
  split at h <;> omega
theorem pricked_iff {many : Nat} {W : Wd} {x : Nat × Nat} {c : Nat} : cellE many W.e c ∈ prickedL many W x.1 x.2 ↔ Prk many W x c := by
  rw [pricked_mem]
  constructor
  · rintro ⟨d, h1, h2⟩
    rw [cellE_inj h2]
    exact h1
  · intro h
    exact ⟨c, h, rfl⟩
theorem mark_mem {many : Nat} {W : Wd} {t : Nat × Nat} {h : Nat} (ht : t ∈ turnsL many W.g W.w) (h1 : t.1 ≤ h) (h2 : h < t.1 + t.2) (h3 : h ≤ 2 * many) (h4 : h % 2 = 0) : lowF (h - t.1) t.2 ∈ marksL many W.g W.w :=
  marksL_mem.mpr (keysL_mem.mpr (.inr ⟨t, ht, candT_mem.mpr ⟨h, h1, h2, h3, h4, rfl⟩⟩))
/-- what lies between: a mark ahead of y is not behind x -/
theorem sorted_gap {α : Type} {lt : α → α → Prop} (irr : ∀ a, ¬ lt a a) (asym : ∀ a b, lt a b → ¬ lt b a) {L : List α} (hs : L.Pairwise lt) {i : Nat} {x y z : α} (hx : L[i]? = some x) (hy : L[i + 1]? = some y) (hz : z ∈ L) (h : lt z y) : z = x ∨ lt z x := by
  obtain ⟨j, hj⟩ := List.getElem?_of_mem hz
  have pw : ∀ (a b : Nat) (u v : α), L[a]? = some u → L[b]? = some v → a < b → lt u v := fun a b u v hu hv hab => by
    obtain ⟨ha, rfl⟩ := List.getElem?_eq_some_iff.mp hu
    obtain ⟨hb, rfl⟩ := List.getElem?_eq_some_iff.mp hv
    exact List.pairwise_iff_getElem.mp hs a b ha hb hab
  rcases Nat.lt_trichotomy j i with hji | hji | hji
  · exact .inr (pw j i z x hj hx hji)
  · subst hji
    rw [hj] at hx
    exact .inl (Option.some.inj hx)
  · rcases Nat.lt_or_ge (i + 1) j with h2 | h2
    · exact absurd h (asym _ _ (pw (i + 1) j y z hy hj h2))
    · have : j = i + 1 := by omega
      subst this
      rw [hj] at hy
      cases hy
      exact absurd h (irr _)
theorem ltF_irr (a : Nat × Nat) : ¬ ltF a a := fun h => Nat.lt_irrefl _ h
theorem ltF_asym (a b : Nat × Nat) (h : ltF a b) : ¬ ltF b a := fun h' => by unfold ltF at *; omega
theorem marks_adj {many : Nat} {W : Wd} (hW : W.Ok) (hm : many ≤ 30) (hm1 : 1 ≤ many) {i : Nat} {x y : Nat × Nat} (hx : (marksL many W.g W.w)[i]? = some x) (hy : (marksL many W.g W.w)[i + 1]? = some y) : prickedL many W x.1 x.2 ≠ prickedL many W y.1 y.2 := by
  have hs := marksL_sorted (many := many) hW hm
  have hxk := marksL_mem.mp (List.mem_of_getElem? hx)
  have hyk := marksL_mem.mp (List.mem_of_getElem? hy)
  obtain ⟨⟨_, xq⟩, _, xl⟩ := keysL_red hW hm hxk
  obtain ⟨⟨_, yq⟩, _, yl⟩ := keysL_red hW hm hyk
  have hxy : ltF x y := by
    obtain ⟨ha, e1⟩ := List.getElem?_eq_some_iff.mp hx
    obtain ⟨hb, e2⟩ := List.getElem?_eq_some_iff.mp hy
    rw [← e1, ← e2]
    exact List.pairwise_iff_getElem.mp hs i (i + 1) ha hb (by omega)
  have y0 : 0 < y.1 := by
    unfold ltF at hxy
    rcases Nat.eq_zero_or_pos y.1 with z | z
    · rw [z] at hxy; simp at hxy
    · exact z
  rcases keysL_mem.mp hyk with e | ⟨t, ht, hyc⟩
  · rw [e] at y0; simp at y0
  obtain ⟨h, h1, h2, h3, h4, hye⟩ := candT_mem.mp hyc
  obtain ⟨_, _, l4⟩ := turnsL_bnd hW hm ht
  obtain ⟨b, l⟩ := t
  simp only at h1 h2 hye l4
  have l0 : 0 < l := by omega
  have hx1 : x.1 * l < (h - b) * x.2 := by rw [hye] at hxy; exact (lt_low l0).mp hxy
  have hb0 : b < h := by
    rcases Nat.lt_or_ge b h with z | z
    · exact z
    · rw [show h - b = 0 by omega] at hx1; simp at hx1
  have yhalf : ∀ b', halfOf y.1 y.2 b' l = b' + (h - b) := fun b' => by rw [hye]; exact half_low l0
  have xhalf : halfOf x.1 x.2 b l < h := by
    have := (half_hi (b := b) (m := h - b) xq).mpr hx1
    omega
  -- the mark of the cell that begins two halves ahead
  have prev : b + 2 ≤ h → (h - 2 - b) * x.2 ≤ x.1 * l := fun z => by
    have hz : lowF (h - 2 - b) l ∈ marksL many W.g W.w := mark_mem (t := (b, l)) ht (by simp only; omega) (by simp only; omega) (by omega) (by omega)
    have lz : ltF (lowF (h - 2 - b) l) y := by
      rw [low_lt l0, hye]
      have e := lowF_eq (p := h - b) l0
      rw [e]
      exact Nat.mul_lt_mul_of_pos_right (by omega) (lowF_red l0).2
    rcases sorted_gap ltF_irr ltF_asym hs hx hy hz lz with e | e
    · rw [← e]
      have := lowF_eq (p := h - 2 - b) l0
      omega
    · exact Nat.le_of_lt ((low_lt l0).mp e)
  intro heq
  by_cases hc : h < 2 * many
  · -- the cell h / 2 begins at y
    have p1 : Prk many W y (h / 2) := ⟨(b, l), ht, by rw [yhalf]; omega, by rw [yhalf]; congr 1; omega⟩
    have p2 : Prk many W x (h / 2) := pricked_iff.mp (by rw [heq]; exact pricked_iff.mpr p1)
    obtain ⟨⟨b', l'⟩, ht', q1, q2⟩ := p2
    obtain ⟨_, _, l4'⟩ := turnsL_bnd hW hm ht'
    simp only at q1 q2 l4'
    have lo' : b' ≤ halfOf x.1 x.2 b' l' := Nat.le_add_right _ _
    have hi' : halfOf x.1 x.2 b' l' < b' + l' := (half_hi xq).mpr (by rw [Nat.mul_comm l']; exact Nat.mul_lt_mul_of_pos_right xl (by omega))
    have hcase : halfOf x.1 x.2 b' l' = h ∨ halfOf x.1 x.2 b' l' = h + 1 := by omega
    rcases hcase with e | e
    · have : (b, l) = (b', l') := turnsL_one (h := h) ht ht' h1 h2 (by simp only; omega) (by simp only; omega)
      cases this
      omega
    · by_cases hin : h + 1 < b + l
      · have : (b, l) = (b', l') := turnsL_one (h := h + 1) ht ht' (by simp only; omega) hin (by simp only; omega) (by simp only; omega)
        cases this
        omega
      · -- the cell ends on the next turn
        have hb' : b' = h + 1 := by
          rcases Nat.lt_or_ge h b' with z | z
          · omega
          · have : (b, l) = (b', l') := turnsL_one (h := h) ht ht' h1 h2 (by simp only; omega) (by simp only; omega)
            cases this
            omega
        have small : x.1 * l' < 1 * x.2 := (half_hi (b := b') xq).mp (by omega)
        have big := prev (by omega)
        rw [show h - 2 - b = l - 3 by omega] at big
        have a1 : x.1 * 4 ≤ x.1 * l' := Nat.mul_le_mul_left _ l4'
        -- (l - 3) x.2 ≤ x.1 l, 4 x.1 < x.2
        have a2 : x.1 * 4 * l < x.2 * l := Nat.mul_lt_mul_of_pos_right (by omega) l0
        have a3 : 4 * ((l - 3) * x.2) ≤ 4 * (x.1 * l) := Nat.mul_le_mul_left 4 big
        have a4 : 4 * ((l - 3) * x.2) = (4 * (l - 3)) * x.2 := (Nat.mul_assoc _ _ _).symm
        have a5 : l * x.2 ≤ (4 * (l - 3)) * x.2 := Nat.mul_le_mul_right _ (by omega)
        have a6 : x.1 * 4 * l = 4 * (x.1 * l) := by rw [Nat.mul_comm x.1 4, Nat.mul_assoc]
        have a7 : x.2 * l = l * x.2 := Nat.mul_comm _ _
        omega
  · -- the strip ends at y
    have hh : h = 2 * many := by omega
    have p1 : Prk many W x (many - 1) := by
      refine ⟨(b, l), ht, by simp only; omega, ?_⟩
      simp only
      have lo : h - 2 ≤ halfOf x.1 x.2 b l := by
        by_cases z : b + 2 ≤ h
        · have := (half_lo (b := b) (m := h - 2 - b) xq).mpr (prev z)
          omega
        · have : b ≤ halfOf x.1 x.2 b l := Nat.le_add_right _ _
          omega
      omega
    have p2 : Prk many W y (many - 1) := pricked_iff.mp (by rw [← heq]; exact pricked_iff.mpr p1)
    obtain ⟨⟨b', l'⟩, ht', q1, q2⟩ := p2
    obtain ⟨_, _, l4'⟩ := turnsL_bnd hW hm ht'
    simp only at q1 q2 l4'
    have lo' : b' ≤ halfOf y.1 y.2 b' l' := Nat.le_add_right _ _
    have hi' : halfOf y.1 y.2 b' l' < b' + l' := (half_hi yq).mpr (by rw [Nat.mul_comm l']; exact Nat.mul_lt_mul_of_pos_right yl (by omega))
    rcases Nat.lt_or_ge (halfOf y.1 y.2 b' l') b with z | z
    · have hb' : b' + l' = b := by
        rcases Nat.lt_or_ge b (b' + l') with w | w
        · have : (b, l) = (b', l') := turnsL_one (h := b) ht ht' (Nat.le_refl _) (by simp only; omega) (by simp only; omega) w
          cases this
          omega
        · omega
      have hlow : b' + (l' - 1) ≤ halfOf y.1 y.2 b' l' := by omega
      have big := (half_lo yq).mp hlow
      have ey : y.1 * l = 1 * y.2 := by
        rw [hye, lowF_eq l0]
        congr 1
        omega
      -- (l' - 1) y.2 ≤ y.1 l', y.2 = y.1 l
      have a1 : y.1 * 4 ≤ y.1 * l := Nat.mul_le_mul_left _ l4
      have a2 : (l' - 1) * (y.1 * 4) ≤ (l' - 1) * y.2 := Nat.mul_le_mul_left _ (by omega)
      have a3 : (l' - 1) * (y.1 * 4) = y.1 * (4 * (l' - 1)) := by
        simp only [Nat.mul_comm, Nat.mul_left_comm, Nat.mul_assoc]
      have a4 : y.1 * (l' + 1) ≤ y.1 * (4 * (l' - 1)) := Nat.mul_le_mul_left _ (by omega)
      have a5 : y.1 * (l' + 1) = y.1 * l' + y.1 := Nat.mul_succ _ _
      omega
    · have : (b, l) = (b', l') := turnsL_one (h := halfOf y.1 y.2 b' l') ht ht' (by simp only; omega) (by simp only; omega) lo' hi'
      cases this
      rw [yhalf] at q1
      omega
end N66

/-! N66, stretches. -/
namespace N66
open PySem PySem.Spec L2
abbrev Row := (Nat × Nat) × (Nat × Nat) × List Int
def rowsL (many : Nat) (W : Wd) : List Row := ((marksL many W.g W.w).zip ((marksL many W.g W.w).drop 1 ++ [(1, 1)])).map fun p => (p.1, p.2, prickedL many W p.1.1 p.1.2)
def rowI (r : Row) : D := .tup [frI r.1, frI r.2.1, tupI r.2.2]
def spStretches : Fun1 := fun ss os Q => ∃ (many : Nat) (W : Wd), ss = [.d (.int many), .d W.d] ∧ W.Ok ∧ 1 ≤ many ∧ many ≤ 30 ∧ Q (.new (.lst ((rowsL many W).map rowI))) os
theorem cut_1 (ds : List D) : cutD ds (some 1) none = ds.drop 1 := by
  unfold cutD
  rw [show HT.sIx ds.length 0 (some 1) = min 1 ds.length from HT.sIx_nat ds.length 0 1, HT.sIx_none]
  cases ds with
  | nil => rfl
  | cons x r =>
    rw [show min 1 (x :: r).length = 1 by rw [List.length_cons]; omega]
    show (List.take ((x :: r).length - 1) r) = r
    rw [List.length_cons, Nat.add_sub_cancel]
    exact List.take_length
theorem eqDs_ints : ∀ xs ys : List Int, eqDs (xs.map D.int) (ys.map D.int) = decide (xs = ys)
  | [], [] => by simp [eqDs]
  | [], _ :: _ => by simp [eqDs]
  | _ :: _, [] => by simp [eqDs]
  | x :: xs, y :: ys => by
    simp only [List.map_cons, eqDs, eqD, eqDs_ints xs ys]
    by_cases h1 : x = y <;> by_cases h2 : xs = ys <;> simp [h1, h2]
theorem eq_tupI (xs ys : List Int) : eqD (tupI xs) (tupI ys) = decide (xs = ys) := by
  unfold tupI
  rw [eqD, eqDs_ints]
theorem flat_int (n : Nat) (i : Int) : Flat n (.int i) := by cases n <;> simp only [Flat]
theorem flat_bl (n : Nat) (i : Bool) : Flat n (.bl i) := by cases n <;> simp only [Flat]
theorem flat_tupI (n : Nat) (xs : List Int) : Flat (n + 1) (tupI xs) := by
  unfold tupI
  simp only [Flat]
  intro d hd
  obtain ⟨i, _, rfl⟩ := List.mem_map.mp hd
  exact flat_int n i
theorem zipD_map {α β : Type} (f : α → D) (g : β → D) (xs : List α) (ys : List β) : zipD (xs.map f) (ys.map g) = (xs.zip ys).map fun p => .tup [f p.1, g p.2] := by
  unfold zipD
  rw [List.zipWith_map, List.zip, List.map_zipWith]
theorem at_last1 (ds : List D) (d : D) : atI (ds ++ [d]) (-1) = some d := atI_last ds d
theorem marksL_len {many : Nat} {W : Wd} (hm : many ≤ 30) : (marksL many W.g W.w).length ≤ 4000 := by
  unfold marksL
  rw [(sortF_perm _).length_eq]
  exact keysL_len many W.g W.w hm
theorem rowsL_len {many : Nat} {W : Wd} (hm : many ≤ 30) : (rowsL many W).length ≤ 4000 := by
  unfold rowsL
  rw [List.length_map, List.length_zip]
  have := marksL_len (W := W) hm
  omega
/-- the rows by their places -/
theorem rowsL_get {many : Nat} {W : Wd} {i : Nat} {r : Row} (h : (rowsL many W)[i]? = some r) : (marksL many W.g W.w)[i]? = some r.1 ∧ ((marksL many W.g W.w).drop 1 ++ [(1, 1)])[i]? = some r.2.1 ∧ r.2.2 = prickedL many W r.1.1 r.1.2 := by
  unfold rowsL at h
  obtain ⟨p, hp, rfl⟩ := map_get h
  rw [List.getElem?_zip_eq_some] at hp
  exact ⟨hp.1, hp.2, rfl⟩
theorem rows_adj {many : Nat} {W : Wd} (hW : W.Ok) (hm : many ≤ 30) (hm1 : 1 ≤ many) {i : Nat} {r s : Row} (h1 : (rowsL many W)[i]? = some r) (h2 : (rowsL many W)[i + 1]? = some s) : r.2.2 ≠ s.2.2 := by
  obtain ⟨a1, _, a3⟩ := rowsL_get h1
  obtain ⟨b1, _, b3⟩ := rowsL_get h2
  rw [a3, b3]
  exact marks_adj hW hm hm1 a1 b1
theorem marks_bnd {many : Nat} {W : Wd} (hW : W.Ok) (hm : many ≤ 30) {x : Nat × Nat} (h : x ∈ marksL many W.g W.w) : 0 < x.2 ∧ x.2 ≤ 500 ∧ x.1 < x.2 ∧ RedF x := by
  obtain ⟨a, b, c⟩ := keysL_red hW hm (marksL_mem.mp h)
  exact ⟨a.2, b, c, a⟩
theorem ifn {c : Prop} {i : Decidable c} {A B : Prop} (h : ¬ c) (b : B) : @ite _ c i A B := by rw [if_neg h]; exact b
theorem ifp {c : Prop} {i : Decidable c} {A B : Prop} (h : c) (a : A) : @ite _ c i A B := by rw [if_pos h]; exact a
theorem w_stretches (T : Tab) (mo : MoTab T) (h4 : T 4 = spPricked) (h5 : T 5 = spBreaks) (ss : List S) (os : List O) (Q : R → List O → Prop) (h : spStretches ss os Q) : bodyW T p_stretches 8 ss os Q := by
  obtain ⟨many, W, rfl, hW, hm1, hm, h⟩ := h
  simp only [p_stretches, bodyW, e_var, e_cst, e_dct, e_bin, e_neg, e_not, e_cmp, e_cmp2, e_and, e_or, e_ite, e_tup, e_lst, e_idx, e_slc, e_rev, e_fn, e_call, es_nil, es_cons, o_none, o_some, t_tt, t_and, t_or, t_not, t_val, i_seq, i_rng, i_enm, i_zip, p_nil, p_cons, s_set, s_setO, s_unp, s_par, s_aug, s_ext, s_iff, s_ret, s_app, s_pop, s_stL, s_stD, s_appN, s_popN, s_drop, s_cont, s_brk, ss_nil, ss_cons, getS, setS, setPs, rs_val, rs_obj, rs_new, rsv_d, rsv_last, b_add, b_addL, b_addT, b_sub, b_mul, b_div, b_mod, b_pow, c_eq, c_ne, c_lt, c_le, c_gt, c_ge, c_inL, c_inT, c_niL, c_niT, c_isB, c_isN, c_isI, c_isT, c_inN, c_inI, c_inTu, tr_non, tr_bl, tr_int, tr_lst, tr_tup, x_lst, x_tup, sl_l, sl_t, rv_l, nw_f, nw_t, au_add, au_sub, au_mul, la_last, bd_nm, bd_tp, sq_l, sq_t, f_len, f_isi, f_sortD, f_sortO, f_tupL, f_tupO, f_lstT, f_lstL, f_lstD, f_min2, f_minL, f_all, f_any, f_intB, f_str, z_ll, z_tt, ad_nil, ad_cons, objAt, setAll, wipeA, wipeS, List.map_cons, List.map_nil, List.length_cons, List.length_nil, List.replicate, List.cons_append, List.nil_append, Nat.zero_add, Nat.reduceAdd, Nat.reduceSub, h5]
  refine ⟨many, W, rfl, hW, hm, ?_⟩
  simp only [bodyW, e_var, e_cst, e_dct, e_bin, e_neg, e_not, e_cmp, e_cmp2, e_and, e_or, e_ite, e_tup, e_lst, e_idx, e_slc, e_rev, e_fn, e_call, es_nil, es_cons, o_none, o_some, t_tt, t_and, t_or, t_not, t_val, i_seq, i_rng, i_enm, i_zip, p_nil, p_cons, s_set, s_setO, s_unp, s_par, s_aug, s_ext, s_iff, s_ret, s_app, s_pop, s_stL, s_stD, s_appN, s_popN, s_drop, s_cont, s_brk, ss_nil, ss_cons, getS, setS, setPs, rs_val, rs_obj, rs_new, rsv_d, rsv_last, b_add, b_addL, b_addT, b_sub, b_mul, b_div, b_mod, b_pow, c_eq, c_ne, c_lt, c_le, c_gt, c_ge, c_inL, c_inT, c_niL, c_niT, c_isB, c_isN, c_isI, c_isT, c_inN, c_inI, c_inTu, tr_non, tr_bl, tr_int, tr_lst, tr_tup, x_lst, x_tup, sl_l, sl_t, rv_l, nw_f, nw_t, au_add, au_sub, au_mul, la_last, bd_nm, bd_tp, sq_l, sq_t, f_len, f_isi, f_sortD, f_sortO, f_tupL, f_tupO, f_lstT, f_lstL, f_lstD, f_min2, f_minL, f_all, f_any, f_intB, f_str, z_ll, z_tt, ad_nil, ad_cons, objAt, setAll, wipeA, wipeS, List.map_cons, List.map_nil, List.length_cons, List.length_nil, List.replicate, List.cons_append, List.nil_append, Nat.zero_add, Nat.reduceAdd, Nat.reduceSub, cut_1]
  have hml := marksL_len (W := W) hm
  refine ⟨by decide, by decide, ?_, by decide, ?_⟩
  · rw [List.length_drop, List.length_map]; unfold lim; omega
  have hz : zipD ((marksL many W.g W.w).map frI) (((marksL many W.g W.w).map frI).drop 1 ++ [D.tup [D.int 1, D.int 1]]) = (rowsL many W).map fun r => .tup [frI r.1, frI r.2.1] := by
    have e : ((marksL many W.g W.w).map frI).drop 1 ++ [D.tup [D.int 1, D.int 1]] = ((marksL many W.g W.w).drop 1 ++ [(1, 1)]).map frI := by
      rw [List.map_append, List.map_drop]
      rfl
    rw [e, zipD_map]
    unfold rowsL
    rw [List.map_map]
    rfl
  refine for_i mo (fun its os1 => its = (rowsL many W).map (fun r => .tup [frI r.1, frI r.2.1]) ∧ os1 = os ++ [.lst []]) ?_ fun its os1 ⟨e1, e2⟩ => ?_
  · simp only [bodyW, e_var, e_cst, e_dct, e_bin, e_neg, e_not, e_cmp, e_cmp2, e_and, e_or, e_ite, e_tup, e_lst, e_idx, e_slc, e_rev, e_fn, e_call, es_nil, es_cons, o_none, o_some, t_tt, t_and, t_or, t_not, t_val, i_seq, i_rng, i_enm, i_zip, p_nil, p_cons, s_set, s_setO, s_unp, s_par, s_aug, s_ext, s_iff, s_ret, s_app, s_pop, s_stL, s_stD, s_appN, s_popN, s_drop, s_cont, s_brk, ss_nil, ss_cons, getS, setS, setPs, rs_val, rs_obj, rs_new, rsv_d, rsv_last, b_add, b_addL, b_addT, b_sub, b_mul, b_div, b_mod, b_pow, c_eq, c_ne, c_lt, c_le, c_gt, c_ge, c_inL, c_inT, c_niL, c_niT, c_isB, c_isN, c_isI, c_isT, c_inN, c_inI, c_inTu, tr_non, tr_bl, tr_int, tr_lst, tr_tup, x_lst, x_tup, sl_l, sl_t, rv_l, nw_f, nw_t, au_add, au_sub, au_mul, la_last, bd_nm, bd_tp, sq_l, sq_t, f_len, f_isi, f_sortD, f_sortO, f_tupL, f_tupO, f_lstT, f_lstL, f_lstD, f_min2, f_minL, f_all, f_any, f_intB, f_str, z_ll, z_tt, ad_nil, ad_cons, objAt, setAll, wipeA, wipeS, List.map_cons, List.map_nil, List.length_cons, List.length_nil, List.replicate, List.cons_append, List.nil_append, Nat.zero_add, Nat.reduceAdd, Nat.reduceSub, cut_1]
    exact ⟨hz, trivial⟩
  subst e1 e2
  refine ⟨fun i env os' => ∃ x5 x6 x7 y2 y3, env = [some (.d (.int many)), some (.d W.d), y2, y3, some (.o os.length), x5, x6, x7] ∧ os' = os ++ [.lst (((rowsL many W).take i).map rowI)], ⟨none, none, none, _, _, rfl, by simp⟩, fun i x env os' hx ⟨x5, x6, x7, y2, y3, he, ho⟩ => ?_, fun env os' ⟨x5, x6, x7, y2, y3, he, ho⟩ => ?_⟩
  · subst he ho
    obtain ⟨⟨a, b, cs⟩, hr, rfl⟩ := map_get hx
    obtain ⟨g1, g2, g3⟩ := rowsL_get hr
    simp only at g1 g2 g3
    subst g3
    obtain ⟨q0, q5, pq, _⟩ := marks_bnd hW hm (List.mem_of_getElem? g1)
    have hrl := rowsL_len (W := W) hm
    have hlen : (((rowsL many W).take i).map rowI).length < lim := by
      rw [List.length_map, List.length_take]; unfold lim; omega
    simp only [bodyW, e_var, e_cst, e_dct, e_bin, e_neg, e_not, e_cmp, e_cmp2, e_and, e_or, e_ite, e_tup, e_lst, e_idx, e_slc, e_rev, e_fn, e_call, es_nil, es_cons, o_none, o_some, t_tt, t_and, t_or, t_not, t_val, i_seq, i_rng, i_enm, i_zip, p_nil, p_cons, s_set, s_setO, s_unp, s_par, s_aug, s_ext, s_iff, s_ret, s_app, s_pop, s_stL, s_stD, s_appN, s_popN, s_drop, s_cont, s_brk, ss_nil, ss_cons, getS, setS, setPs, rs_val, rs_obj, rs_new, rsv_d, rsv_last, b_add, b_addL, b_addT, b_sub, b_mul, b_div, b_mod, b_pow, c_eq, c_ne, c_lt, c_le, c_gt, c_ge, c_inL, c_inT, c_niL, c_niT, c_isB, c_isN, c_isI, c_isT, c_inN, c_inI, c_inTu, tr_non, tr_bl, tr_int, tr_lst, tr_tup, x_lst, x_tup, sl_l, sl_t, rv_l, nw_f, nw_t, au_add, au_sub, au_mul, la_last, bd_nm, bd_tp, sq_l, sq_t, f_len, f_isi, f_sortD, f_sortO, f_tupL, f_tupO, f_lstT, f_lstL, f_lstD, f_min2, f_minL, f_all, f_any, f_intB, f_str, z_ll, z_tt, ad_nil, ad_cons, objAt, setAll, wipeA, wipeS, List.map_cons, List.map_nil, List.length_cons, List.length_nil, List.replicate, List.cons_append, List.nil_append, Nat.zero_add, Nat.reduceAdd, Nat.reduceSub, h4]
    refine ⟨many, W, a.1, a.2, rfl, hW, hm, q0, by omega, by omega, ?_⟩
    simp only [bodyW, e_var, e_cst, e_dct, e_bin, e_neg, e_not, e_cmp, e_cmp2, e_and, e_or, e_ite, e_tup, e_lst, e_idx, e_slc, e_rev, e_fn, e_call, es_nil, es_cons, o_none, o_some, t_tt, t_and, t_or, t_not, t_val, i_seq, i_rng, i_enm, i_zip, p_nil, p_cons, s_set, s_setO, s_unp, s_par, s_aug, s_ext, s_iff, s_ret, s_app, s_pop, s_stL, s_stD, s_appN, s_popN, s_drop, s_cont, s_brk, ss_nil, ss_cons, getS, setS, setPs, rs_val, rs_obj, rs_new, rsv_d, rsv_last, b_add, b_addL, b_addT, b_sub, b_mul, b_div, b_mod, b_pow, c_eq, c_ne, c_lt, c_le, c_gt, c_ge, c_inL, c_inT, c_niL, c_niT, c_isB, c_isN, c_isI, c_isT, c_inN, c_inI, c_inTu, tr_non, tr_bl, tr_int, tr_lst, tr_tup, x_lst, x_tup, sl_l, sl_t, rv_l, nw_f, nw_t, au_add, au_sub, au_mul, la_last, bd_nm, bd_tp, sq_l, sq_t, f_len, f_isi, f_sortD, f_sortO, f_tupL, f_tupO, f_lstT, f_lstL, f_lstD, f_min2, f_minL, f_all, f_any, f_intB, f_str, z_ll, z_tt, ad_nil, ad_cons, objAt, setAll, wipeA, wipeS, List.map_cons, List.map_nil, List.length_cons, List.length_nil, List.replicate, List.cons_append, List.nil_append, Nat.zero_add, Nat.reduceAdd, Nat.reduceSub]
    have fin : ∀ (T : Prop), (os ++ [O.lst (((rowsL many W).take i).map rowI ++ [D.tup [frI a, frI b, D.tup ((prickedL many W a.1 a.2).map D.int)]])] = os ++ [.lst (((rowsL many W).take (i + 1)).map rowI)] → T) → T := fun T k => k (by
      rw [take_snoc hr, List.map_append]
      rfl)
    rcases Nat.eq_zero_or_pos i with hi | hi
    · subst hi
      simp only [List.take_zero, List.map_nil, List.isEmpty_nil, Bool.not_true, Bool.false_eq_true, if_false, la_last, s_last]
      refine ⟨by decide, by decide, ?_⟩
      refine ⟨_, _, _, _, _, rfl, ?_⟩
      refine fin _ fun e => ?_
      simpa using e
    · obtain ⟨j, rfl⟩ : ∃ j, i = j + 1 := ⟨i - 1, by omega⟩
      have hj : j < (rowsL many W).length := by have := (List.getElem?_eq_some_iff.mp hr).1; omega
      have hrj : (rowsL many W)[j]? = some (rowsL many W)[j] := List.getElem?_eq_getElem hj
      have hadj := rows_adj hW hm hm1 hrj hr
      have el : ((rowsL many W).take (j + 1)).map rowI = ((rowsL many W).take j).map rowI ++ [rowI (rowsL many W)[j]] := by
        rw [take_snoc hrj, List.map_append]
        rfl
      have ne : (((rowsL many W).take (j + 1)).map rowI).isEmpty = false := by rw [el]; simp
      rw [ne]
      simp only [Bool.not_false, if_true]
      rw [el]
      simp only [ixD, at_last1, rowI, at3_2, rs_val, rsv_d, x_tup, c_eq, tr_bl]
      refine ⟨flat_tupI 7 _, flat_tupI 7 _, ?_⟩
      refine ifn (fun z => hadj (of_decide_eq_true ((eq_tupI _ _).symm.trans z))) ?_
      simp only [la_last, s_last]
      refine ⟨by decide, ?_, ?_⟩
      · have := hlen
        rw [el] at this
        exact this
      · refine ⟨_, _, _, _, _, rfl, ?_⟩
        refine fin _ fun e => ?_
        rw [el] at e
        exact e
  · subst he ho
    rw [List.length_map, List.take_length]
    simp only [bodyW, e_var, e_cst, e_dct, e_bin, e_neg, e_not, e_cmp, e_cmp2, e_and, e_or, e_ite, e_tup, e_lst, e_idx, e_slc, e_rev, e_fn, e_call, es_nil, es_cons, o_none, o_some, t_tt, t_and, t_or, t_not, t_val, i_seq, i_rng, i_enm, i_zip, p_nil, p_cons, s_set, s_setO, s_unp, s_par, s_aug, s_ext, s_iff, s_ret, s_app, s_pop, s_stL, s_stD, s_appN, s_popN, s_drop, s_cont, s_brk, ss_nil, ss_cons, getS, setS, setPs, rs_val, rs_obj, rs_new, rsv_d, rsv_last, b_add, b_addL, b_addT, b_sub, b_mul, b_div, b_mod, b_pow, c_eq, c_ne, c_lt, c_le, c_gt, c_ge, c_inL, c_inT, c_niL, c_niT, c_isB, c_isN, c_isI, c_isT, c_inN, c_inI, c_inTu, tr_non, tr_bl, tr_int, tr_lst, tr_tup, x_lst, x_tup, sl_l, sl_t, rv_l, nw_f, nw_t, au_add, au_sub, au_mul, la_last, bd_nm, bd_tp, sq_l, sq_t, f_len, f_isi, f_sortD, f_sortO, f_tupL, f_tupO, f_lstT, f_lstL, f_lstD, f_min2, f_minL, f_all, f_any, f_intB, f_str, z_ll, z_tt, ad_nil, ad_cons, objAt, setAll, wipeA, wipeS, List.map_cons, List.map_nil, List.length_cons, List.length_nil, List.replicate, List.cons_append, List.nil_append, Nat.zero_add, Nat.reduceAdd, Nat.reduceSub, leave_last]
    exact h
end N66

/-! N66, the law's own draws. -/
namespace N66
open PySem PySem.Spec L2
def p_law_bag : Ss := .cons (.set 2 (.cst (.int 0))) (.cons (.iff (.val (.cmp .Lt (.var 1) (.fn .len (.cons (.var 0) .nil)))) (.cons (.set 2 (.bin .Mod (.idx (.var 0) (.var 1)) (.bin .Pow (.cst (.int 10)) (.cst (.int 60))))) .nil) .nil) (.cons (.set 3 (.bin .Add (.cst (.int 1)) (.bin .Mod (.bin .Add (.bin .Add (.bin .Add (.bin .Mult (.bin .Mod (.var 2) (.cst (.int 2147483629))) (.cst (.int 16807))) (.bin .Mult (.bin .Mult (.cst (.int 40009)) (.var 1)) (.var 1))) (.bin .Mult (.cst (.int 7919)) (.var 1))) (.cst (.int 1009))) (.cst (.int 2147483645))))) (.cons (.iff (.val (.cmp .Lt (.var 2) (.bin .Pow (.cst (.int 10)) (.cst (.int 18))))) (.cons (.ret (.lst (.cons (.cst (.int 0)) (.cons (.var 3) .nil)))) .nil) .nil) (.cons (.ret (.lst (.cons (.var 2) (.cons (.var 3) .nil)))) .nil))))
def p_law_take : Ss := .cons (.iff (.val (.cmp .Gt (.idx (.var 0) (.cst (.int 0))) (.cst (.int 0)))) (.cons (.set 2 (.bin .Mod (.idx (.var 0) (.cst (.int 0))) (.var 1))) (.cons (.stL 0 (.cst (.int 0)) (.bin .FloorDiv (.idx (.var 0) (.cst (.int 0))) (.var 1))) (.cons (.ret (.var 2)) .nil))) .nil) (.cons (.stL 0 (.cst (.int 1)) (.bin .Mod (.bin .Mult (.idx (.var 0) (.cst (.int 1))) (.cst (.int 48271))) (.cst (.int 2147483647)))) (.cons (.ret (.bin .Mod (.bin .FloorDiv (.bin .Mod (.bin .Mult (.bin .FloorDiv (.idx (.var 0) (.cst (.int 1))) (.cst (.int 13))) (.bin .Add (.bin .Mod (.idx (.var 0) (.cst (.int 1))) (.cst (.int 32749))) (.cst (.int 17)))) (.cst (.int 2147483629))) (.cst (.int 32))) (.var 1))) .nil))
def p_law_of : Ss := .cons (.ret (.idx (.var 1) (.call 31 (.cons (.var 0) (.cons (.fn .len (.cons (.var 1) .nil)) .nil))))) .nil
def p_law_winding : Ss := .cons (.set 1 (.bin .Add (.cst (.int 4)) (.call 32 (.cons (.var 0) (.cons (.lst (.cons (.call 31 (.cons (.var 0) (.cons (.cst (.int 13)) .nil))) (.cons (.call 31 (.cons (.var 0) (.cons (.cst (.int 4)) .nil))) .nil))) .nil))))) (.cons (.ret (.tup (.cons (.var 1) (.cons (.call 32 (.cons (.var 0) (.cons (.lst (.cons (.cst (.int 0)) (.cons (.cst (.int 1)) (.cons (.cst (.int 2)) (.cons (.call 31 (.cons (.var 0) (.cons (.cst (.int 9)) .nil))) .nil))))) .nil))) (.cons (.call 31 (.cons (.var 0) (.cons (.cst (.int 2)) .nil))) .nil))))) .nil)
def p_law_angle : Ss := .cons (.set 1 (.bin .Add (.cst (.int 1)) (.call 32 (.cons (.var 0) (.cons (.lst (.cons (.call 31 (.cons (.var 0) (.cons (.cst (.int 12)) .nil))) (.cons (.call 31 (.cons (.var 0) (.cons (.cst (.int 1000)) .nil))) .nil))) .nil))))) (.cons (.ret (.call 34 (.cons (.call 31 (.cons (.var 0) (.cons (.var 1) .nil))) (.cons (.var 1) .nil)))) .nil)
def bagO (a b : Nat) : O := .lst [.int a, .int b]
def Bag (os : List O) (k : Nat) : Prop := ∃ a b : Nat, os[k]? = some (bagO a b) ∧ a < 10 ^ 60 ∧ b < 2 ^ 31
/-- but for the bag, all is as it was -/
structure Kp (k : Nat) (os os' : List O) : Prop where
  len : os'.length = os.length
  bag : Bag os' k
  old : ∀ j, j ≠ k → os'[j]? = os[j]?
theorem Kp.refl {k : Nat} {os : List O} (h : Bag os k) : Kp k os os := ⟨rfl, h, fun _ _ => rfl⟩
theorem Kp.tr {k : Nat} {a b c : List O} (h1 : Kp k a b) (h2 : Kp k b c) : Kp k a c := ⟨h2.len.trans h1.len, h2.bag, fun j hj => (h2.old j hj).trans (h1.old j hj)⟩
theorem Kp.tk {k : Nat} {a b : List O} (h : Kp k a b) : b.take a.length = b := by rw [← h.len]; exact List.take_length
theorem Kp.put {k : Nat} {os : List O} {o : O} {a b : Nat} (h : os[k]? = some o) (ha : a < 10 ^ 60) (hb : b < 2 ^ 31) : Kp k os (os.set k (bagO a b)) := by
  have hk := (List.getElem?_eq_some_iff.mp h).1
  refine ⟨by simp, ⟨a, b, by rw [List.getElem?_set_self hk], ha, hb⟩, fun j hj => ?_⟩
  rw [List.getElem?_set_ne (fun z => hj z.symm)]
def spBag : Fun1 := fun ss os Q => ∃ (j k : Nat) (ns : List Int), ss = [.o j, .d (.int k)] ∧ os[j]? = some (.scr ns) ∧ k < 1000 ∧ ∀ a b : Nat, a < 10 ^ 60 → b < 2 ^ 31 → Q (.new (bagO a b)) os
theorem mul_lit' {i j : Int} (h : -(2 ^ 64) < j ∧ j < 2 ^ 64) : MulOk i j := .inl (.inr h)
theorem rsv_scr' {os : List O} {k : Nat} {ns : List Int} (h : os[k]? = some (.scr ns)) : rsv os (R.obj k).s = .lst (ns.map D.int) := rsv_scr h
theorem modNat {i j : Int} (h : 0 < j) : ∃ n : Nat, i % j = n ∧ (n : Int) < j := ⟨(i % j).toNat, by rw [Int.toNat_of_nonneg (Int.emod_nonneg _ (by omega))], by rw [Int.toNat_of_nonneg (Int.emod_nonneg _ (by omega))]; exact Int.emod_lt_of_pos _ h⟩
theorem w_law_bag (T : Tab) (ss : List S) (os : List O) (Q : R → List O → Prop) (h : spBag ss os Q) : bodyW T p_law_bag 4 ss os Q := by
  obtain ⟨j, k, ns, rfl, hj, hk, h⟩ := h
  have hr := rsv_scr hj
  simp only [p_law_bag, bodyW, e_var, e_cst, e_dct, e_bin, e_neg, e_not, e_cmp, e_cmp2, e_and, e_or, e_ite, e_tup, e_lst, e_idx, e_slc, e_rev, e_fn, e_call, es_nil, es_cons, o_none, o_some, t_tt, t_and, t_or, t_not, t_val, i_seq, i_rng, i_enm, i_zip, p_nil, p_cons, s_set, s_setO, s_unp, s_par, s_aug, s_ext, s_iff, s_ret, s_app, s_pop, s_stL, s_stD, s_appN, s_popN, s_drop, s_cont, s_brk, ss_nil, ss_cons, getS, setS, setPs, rs_val, rs_obj, rs_new, rsv_d, rsv_last, b_add, b_addL, b_addT, b_sub, b_mul, b_div, b_mod, b_pow, c_eq, c_ne, c_lt, c_le, c_gt, c_ge, c_inL, c_inT, c_niL, c_niT, c_isB, c_isN, c_isI, c_isT, c_inN, c_inI, c_inTu, tr_non, tr_bl, tr_int, tr_lst, tr_tup, x_lst, x_tup, sl_l, sl_t, rv_l, nw_f, nw_t, au_add, au_sub, au_mul, la_last, bd_nm, bd_tp, sq_l, sq_t, f_len, f_isi, f_sortD, f_sortO, f_tupL, f_tupO, f_lstT, f_lstL, f_lstD, f_min2, f_minL, f_all, f_any, f_intB, f_str, z_ll, z_tt, ad_nil, ad_cons, objAt, setAll, wipeA, wipeS, List.map_cons, List.map_nil, List.length_cons, List.length_nil, List.replicate, List.cons_append, List.nil_append, Nat.zero_add, Nat.reduceAdd, Nat.reduceSub, Wd.d, tupI, frI, prI, ixD, at3_0, at3_1, at3_2, at2_0, at2_1, eqD, Flat, and_true, true_and, and_self, if_true, if_false, Bool.false_eq_true, reduceIte, hr]
  have p60 : ((10 : Int) ^ (60 : Int).toNat) = ((10 ^ 60 : Nat) : Int) := by decide
  have p18 : ((10 : Int) ^ (18 : Int).toNat) = ((10 ^ 18 : Nat) : Int) := by decide
  have c60 : CPow 10 60 := ⟨by decide, by decide, by decide⟩
  have c18 : CPow 10 18 := ⟨by decide, by decide, by decide⟩
  rw [List.length_map]
  have fin : ∀ cell : Nat, cell < 10 ^ 60 → wpSs T (.cons (.set 3 (.bin .Add (.cst (.int 1)) (.bin .Mod (.bin .Add (.bin .Add (.bin .Add (.bin .Mult (.bin .Mod (.var 2) (.cst (.int 2147483629))) (.cst (.int 16807))) (.bin .Mult (.bin .Mult (.cst (.int 40009)) (.var 1)) (.var 1))) (.bin .Mult (.cst (.int 7919)) (.var 1))) (.cst (.int 1009))) (.cst (.int 2147483645))))) (.cons (.iff (.val (.cmp .Lt (.var 2) (.bin .Pow (.cst (.int 10)) (.cst (.int 18))))) (.cons (.ret (.lst (.cons (.cst (.int 0)) (.cons (.var 3) .nil)))) .nil) .nil) (.cons (.ret (.lst (.cons (.var 2) (.cons (.var 3) .nil)))) .nil))) { nx := fun _ os' => leave os.length Q (.val .non) os', rt := fun r os' => leave os.length Q r os' } [some (.o j), some (.d (.int k)), some (.d (.int cell)), none] os := by
    intro cell hc
    simp only [bodyW, e_var, e_cst, e_dct, e_bin, e_neg, e_not, e_cmp, e_cmp2, e_and, e_or, e_ite, e_tup, e_lst, e_idx, e_slc, e_rev, e_fn, e_call, es_nil, es_cons, o_none, o_some, t_tt, t_and, t_or, t_not, t_val, i_seq, i_rng, i_enm, i_zip, p_nil, p_cons, s_set, s_setO, s_unp, s_par, s_aug, s_ext, s_iff, s_ret, s_app, s_pop, s_stL, s_stD, s_appN, s_popN, s_drop, s_cont, s_brk, ss_nil, ss_cons, getS, setS, setPs, rs_val, rs_obj, rs_new, rsv_d, rsv_last, b_add, b_addL, b_addT, b_sub, b_mul, b_div, b_mod, b_pow, c_eq, c_ne, c_lt, c_le, c_gt, c_ge, c_inL, c_inT, c_niL, c_niT, c_isB, c_isN, c_isI, c_isT, c_inN, c_inI, c_inTu, tr_non, tr_bl, tr_int, tr_lst, tr_tup, x_lst, x_tup, sl_l, sl_t, rv_l, nw_f, nw_t, au_add, au_sub, au_mul, la_last, bd_nm, bd_tp, sq_l, sq_t, f_len, f_isi, f_sortD, f_sortO, f_tupL, f_tupO, f_lstT, f_lstL, f_lstD, f_min2, f_minL, f_all, f_any, f_intB, f_str, z_ll, z_tt, ad_nil, ad_cons, objAt, setAll, wipeA, wipeS, List.map_cons, List.map_nil, List.length_cons, List.length_nil, List.replicate, List.cons_append, List.nil_append, Nat.zero_add, Nat.reduceAdd, Nat.reduceSub, Wd.d, tupI, frI, prI, ixD, at3_0, at3_1, at3_2, at2_0, at2_1, eqD, Flat, and_true, true_and, and_self, if_true, if_false, Bool.false_eq_true, reduceIte]
    refine ⟨by decide, mul_lit' (by decide), mul_lit _ _ (by decide), ?_, mul_lit _ _ (by decide), by decide, c18, ?_⟩
    · refine .inl (.inr ⟨by omega, by omega⟩)
    have hm1 := Int.emod_nonneg ((cell : Int) % 2147483629 * 16807 + 40009 * k * k + 7919 * k + 1009) (b := 2147483645) (by decide)
    have hm2 := Int.emod_lt_of_pos ((cell : Int) % 2147483629 * 16807 + 40009 * k * k + 7919 * k + 1009) (b := 2147483645) (by decide)
    generalize ((cell : Int) % 2147483629 * 16807 + 40009 * k * k + 7919 * k + 1009) % 2147483645 = seed at hm1 hm2 ⊢
    have e : (1 : Int) + seed = ((1 + seed.toNat : Nat) : Int) := by omega
    rw [e]
    generalize decide ((cell : Int) < 10 ^ Int.toNat 18) = z
    refine ite2 (fun _ => ⟨by decide, ?_⟩) (fun _ => ⟨by decide, ?_⟩)
    · simp only [leave_new, tk_self]
      exact h 0 (1 + seed.toNat) (by decide) (by omega)
    · simp only [leave_new, tk_self]
      exact h cell (1 + seed.toNat) hc (by omega)
  refine ite2 (fun hlt => ?_) (fun _ => ?_)
  · rw [decide_eq_true_eq] at hlt
    have hkn : k < ns.length := by omega
    have e : atI (ns.map D.int) (k : Int) = some (.int ns[k]) := ixI (by rw [List.getElem?_map, List.getElem?_eq_getElem hkn]; rfl)
    rw [e]
    refine ⟨c60, by rw [p60]; decide, ?_⟩
    refine Exists.elim (modNat (i := ns[k]) (j := (10 : Int) ^ (60 : Int).toNat) (by rw [p60]; decide)) fun cell hc => ?_
    have hc2 := hc.2
    rw [p60] at hc2
    have := fin cell (by omega)
    simp only [bodyW, e_var, e_cst, e_dct, e_bin, e_neg, e_not, e_cmp, e_cmp2, e_and, e_or, e_ite, e_tup, e_lst, e_idx, e_slc, e_rev, e_fn, e_call, es_nil, es_cons, o_none, o_some, t_tt, t_and, t_or, t_not, t_val, i_seq, i_rng, i_enm, i_zip, p_nil, p_cons, s_set, s_setO, s_unp, s_par, s_aug, s_ext, s_iff, s_ret, s_app, s_pop, s_stL, s_stD, s_appN, s_popN, s_drop, s_cont, s_brk, ss_nil, ss_cons, getS, setS, setPs, rs_val, rs_obj, rs_new, rsv_d, rsv_last, b_add, b_addL, b_addT, b_sub, b_mul, b_div, b_mod, b_pow, c_eq, c_ne, c_lt, c_le, c_gt, c_ge, c_inL, c_inT, c_niL, c_niT, c_isB, c_isN, c_isI, c_isT, c_inN, c_inI, c_inTu, tr_non, tr_bl, tr_int, tr_lst, tr_tup, x_lst, x_tup, sl_l, sl_t, rv_l, nw_f, nw_t, au_add, au_sub, au_mul, la_last, bd_nm, bd_tp, sq_l, sq_t, f_len, f_isi, f_sortD, f_sortO, f_tupL, f_tupO, f_lstT, f_lstL, f_lstD, f_min2, f_minL, f_all, f_any, f_intB, f_str, z_ll, z_tt, ad_nil, ad_cons, objAt, setAll, wipeA, wipeS, List.map_cons, List.map_nil, List.length_cons, List.length_nil, List.replicate, List.cons_append, List.nil_append, Nat.zero_add, Nat.reduceAdd, Nat.reduceSub, Wd.d, tupI, frI, prI, ixD, at3_0, at3_1, at3_2, at2_0, at2_1, eqD, Flat, and_true, true_and, and_self, if_true, if_false, Bool.false_eq_true, reduceIte] at this ⊢
    rw [hc.1]
    exact this
  · have := fin 0 (by decide)
    simp only [bodyW, e_var, e_cst, e_dct, e_bin, e_neg, e_not, e_cmp, e_cmp2, e_and, e_or, e_ite, e_tup, e_lst, e_idx, e_slc, e_rev, e_fn, e_call, es_nil, es_cons, o_none, o_some, t_tt, t_and, t_or, t_not, t_val, i_seq, i_rng, i_enm, i_zip, p_nil, p_cons, s_set, s_setO, s_unp, s_par, s_aug, s_ext, s_iff, s_ret, s_app, s_pop, s_stL, s_stD, s_appN, s_popN, s_drop, s_cont, s_brk, ss_nil, ss_cons, getS, setS, setPs, rs_val, rs_obj, rs_new, rsv_d, rsv_last, b_add, b_addL, b_addT, b_sub, b_mul, b_div, b_mod, b_pow, c_eq, c_ne, c_lt, c_le, c_gt, c_ge, c_inL, c_inT, c_niL, c_niT, c_isB, c_isN, c_isI, c_isT, c_inN, c_inI, c_inTu, tr_non, tr_bl, tr_int, tr_lst, tr_tup, x_lst, x_tup, sl_l, sl_t, rv_l, nw_f, nw_t, au_add, au_sub, au_mul, la_last, bd_nm, bd_tp, sq_l, sq_t, f_len, f_isi, f_sortD, f_sortO, f_tupL, f_tupO, f_lstT, f_lstL, f_lstD, f_min2, f_minL, f_all, f_any, f_intB, f_str, z_ll, z_tt, ad_nil, ad_cons, objAt, setAll, wipeA, wipeS, List.map_cons, List.map_nil, List.length_cons, List.length_nil, List.replicate, List.cons_append, List.nil_append, Nat.zero_add, Nat.reduceAdd, Nat.reduceSub, Wd.d, tupI, frI, prI, ixD, at3_0, at3_1, at3_2, at2_0, at2_1, eqD, Flat, and_true, true_and, and_self, if_true, if_false, Bool.false_eq_true, reduceIte] at this ⊢
    exact this

/-- a draw below c -/
def spTake : Fun1 := fun ss os Q => ∃ (k c : Nat), ss = [.o k, .d (.int c)] ∧ Bag os k ∧ 0 < c ∧ c < 2 ^ 100 ∧ ∀ (x : Nat) os', x < c → Kp k os os' → Q (.val (.int x)) os'
theorem bag_get {os : List O} {k a b : Nat} (h : os[k]? = some (bagO a b)) : rsv os (.o k) = .lst [.int a, .int b] := rsv_of h
theorem w_law_take (T : Tab) (ss : List S) (os : List O) (Q : R → List O → Prop) (h : spTake ss os Q) : bodyW T p_law_take 3 ss os Q := by
  obtain ⟨k, c, rfl, ⟨a, b, hk, ha, hb⟩, c0, c100, h⟩ := h
  have hr := bag_get hk
  have hl : ∀ {Q}, lstAt os k Q = Q [D.int a, D.int b] := la_of hk
  have dk : DivOk (c : Int) := divOk_nat c0 c100
  have ix0 : ixN 2 0 = some 0 := rfl
  have ix1 : ixN 2 1 = some 1 := rfl
  simp only [p_law_take, bodyW, e_var, e_cst, e_dct, e_bin, e_neg, e_not, e_cmp, e_cmp2, e_and, e_or, e_ite, e_tup, e_lst, e_idx, e_slc, e_rev, e_fn, e_call, es_nil, es_cons, o_none, o_some, t_tt, t_and, t_or, t_not, t_val, i_seq, i_rng, i_enm, i_zip, p_nil, p_cons, s_set, s_setO, s_unp, s_par, s_aug, s_ext, s_iff, s_ret, s_app, s_pop, s_stL, s_stD, s_appN, s_popN, s_drop, s_cont, s_brk, ss_nil, ss_cons, getS, setS, setPs, rs_val, rs_obj, rs_new, rsv_d, rsv_last, b_add, b_addL, b_addT, b_sub, b_mul, b_div, b_mod, b_pow, c_eq, c_ne, c_lt, c_le, c_gt, c_ge, c_inL, c_inT, c_niL, c_niT, c_isB, c_isN, c_isI, c_isT, c_inN, c_inI, c_inTu, tr_non, tr_bl, tr_int, tr_lst, tr_tup, x_lst, x_tup, sl_l, sl_t, rv_l, nw_f, nw_t, au_add, au_sub, au_mul, la_last, bd_nm, bd_tp, sq_l, sq_t, f_len, f_isi, f_sortD, f_sortO, f_tupL, f_tupO, f_lstT, f_lstL, f_lstD, f_min2, f_minL, f_all, f_any, f_intB, f_str, z_ll, z_tt, ad_nil, ad_cons, objAt, setAll, wipeA, wipeS, List.map_cons, List.map_nil, List.length_cons, List.length_nil, List.replicate, List.cons_append, List.nil_append, Nat.zero_add, Nat.reduceAdd, Nat.reduceSub, Wd.d, tupI, frI, prI, ixD, at3_0, at3_1, at3_2, at2_0, at2_1, eqD, Flat, and_true, true_and, and_self, if_true, if_false, Bool.false_eq_true, reduceIte, hr, hl, ix0, ix1, List.set_cons_zero, List.set_cons_succ]
  by_cases a0 : 0 < a
  · rw [if_pos (by rw [decide_eq_true_eq]; omega)]
    refine ⟨by omega, dk, ?_⟩
    simp only [leave_val]
    have e1 : (a : Int) % c = ((a % c : Nat) : Int) := by simp
    have e2 : (a : Int) / c = ((a / c : Nat) : Int) := by simp
    rw [e1, e2]
    have kp := Kp.put hk (Nat.lt_of_le_of_lt (Nat.div_le_self a c) ha) hb
    have := kp.tk
    unfold bagO at this kp
    rw [this]
    exact h _ _ (Nat.mod_lt _ c0) kp
  · rw [if_neg (by rw [decide_eq_true_eq]; omega)]
    have e2 : (b : Int) * 48271 % 2147483647 = ((b * 48271 % 2147483647 : Nat) : Int) := by simp
    rw [e2]
    have hb' : b * 48271 % 2147483647 < 2147483647 := Nat.mod_lt _ (by decide)
    generalize b * 48271 % 2147483647 = b' at hb' ⊢
    have hk' : (os.set k (.lst [.int a, .int b']))[k]? = some (bagO a b') := List.getElem?_set_self (List.getElem?_eq_some_iff.mp hk).1
    have hr' := bag_get hk'
    simp only [hr', bodyW, e_var, e_cst, e_dct, e_bin, e_neg, e_not, e_cmp, e_cmp2, e_and, e_or, e_ite, e_tup, e_lst, e_idx, e_slc, e_rev, e_fn, e_call, es_nil, es_cons, o_none, o_some, t_tt, t_and, t_or, t_not, t_val, i_seq, i_rng, i_enm, i_zip, p_nil, p_cons, s_set, s_setO, s_unp, s_par, s_aug, s_ext, s_iff, s_ret, s_app, s_pop, s_stL, s_stD, s_appN, s_popN, s_drop, s_cont, s_brk, ss_nil, ss_cons, getS, setS, setPs, rs_val, rs_obj, rs_new, rsv_d, rsv_last, b_add, b_addL, b_addT, b_sub, b_mul, b_div, b_mod, b_pow, c_eq, c_ne, c_lt, c_le, c_gt, c_ge, c_inL, c_inT, c_niL, c_niT, c_isB, c_isN, c_isI, c_isT, c_inN, c_inI, c_inTu, tr_non, tr_bl, tr_int, tr_lst, tr_tup, x_lst, x_tup, sl_l, sl_t, rv_l, nw_f, nw_t, au_add, au_sub, au_mul, la_last, bd_nm, bd_tp, sq_l, sq_t, f_len, f_isi, f_sortD, f_sortO, f_tupL, f_tupO, f_lstT, f_lstL, f_lstD, f_min2, f_minL, f_all, f_any, f_intB, f_str, z_ll, z_tt, ad_nil, ad_cons, objAt, setAll, wipeA, wipeS, List.map_cons, List.map_nil, List.length_cons, List.length_nil, List.replicate, List.cons_append, List.nil_append, Nat.zero_add, Nat.reduceAdd, Nat.reduceSub, Wd.d, tupI, frI, prI, ixD, at3_0, at3_1, at3_2, at2_0, at2_1, eqD, Flat, and_true, true_and, and_self, if_true, if_false, Bool.false_eq_true, reduceIte]
    have m1 : MulOk (b : Int) 48271 := mul_lit' (by decide)
    have d13 : DivOk 13 := ⟨by decide, by decide⟩
    have d32 : DivOk 32 := ⟨by decide, by decide⟩
    refine ⟨m1, by decide, d13, by decide, ?_, by decide, d32, by omega, ?_⟩
    · exact .inl (.inl ⟨by omega, by omega⟩)
    simp only [leave_val]
    have e3 : (b' : Int) / 13 * ((b' : Int) % 32749 + 17) % 2147483629 / 32 % c = ((b' / 13 * (b' % 32749 + 17) % 2147483629 / 32 % c : Nat) : Int) := by simp
    rw [e3]
    have kp := Kp.put hk ha (b := b') (by omega)
    have := kp.tk
    unfold bagO at this kp
    rw [this]
    exact h _ _ (Nat.mod_lt _ c0) kp
/-- one of some -/
def spOf : Fun1 := fun ss os Q => ∃ (k : Nat) (ds : List D), ss = [.o k, .d (.lst ds)] ∧ Bag os k ∧ ds ≠ [] ∧ ds.length ≤ lim ∧ ∀ d os', d ∈ ds → Kp k os os' → Q (.val d) os'
theorem w_law_of (T : Tab) (h31 : T 31 = spTake) (ss : List S) (os : List O) (Q : R → List O → Prop) (h : spOf ss os Q) : bodyW T p_law_of 2 ss os Q := by
  obtain ⟨k, ds, rfl, hb, h0, hl, h⟩ := h
  simp only [p_law_of, bodyW, e_var, e_cst, e_dct, e_bin, e_neg, e_not, e_cmp, e_cmp2, e_and, e_or, e_ite, e_tup, e_lst, e_idx, e_slc, e_rev, e_fn, e_call, es_nil, es_cons, o_none, o_some, t_tt, t_and, t_or, t_not, t_val, i_seq, i_rng, i_enm, i_zip, p_nil, p_cons, s_set, s_setO, s_unp, s_par, s_aug, s_ext, s_iff, s_ret, s_app, s_pop, s_stL, s_stD, s_appN, s_popN, s_drop, s_cont, s_brk, ss_nil, ss_cons, getS, setS, setPs, rs_val, rs_obj, rs_new, rsv_d, rsv_last, b_add, b_addL, b_addT, b_sub, b_mul, b_div, b_mod, b_pow, c_eq, c_ne, c_lt, c_le, c_gt, c_ge, c_inL, c_inT, c_niL, c_niT, c_isB, c_isN, c_isI, c_isT, c_inN, c_inI, c_inTu, tr_non, tr_bl, tr_int, tr_lst, tr_tup, x_lst, x_tup, sl_l, sl_t, rv_l, nw_f, nw_t, au_add, au_sub, au_mul, la_last, bd_nm, bd_tp, sq_l, sq_t, f_len, f_isi, f_sortD, f_sortO, f_tupL, f_tupO, f_lstT, f_lstL, f_lstD, f_min2, f_minL, f_all, f_any, f_intB, f_str, z_ll, z_tt, ad_nil, ad_cons, objAt, setAll, wipeA, wipeS, List.map_cons, List.map_nil, List.length_cons, List.length_nil, List.replicate, List.cons_append, List.nil_append, Nat.zero_add, Nat.reduceAdd, Nat.reduceSub, Wd.d, tupI, frI, prI, ixD, at3_0, at3_1, at3_2, at2_0, at2_1, eqD, Flat, and_true, true_and, and_self, if_true, if_false, Bool.false_eq_true, reduceIte, h31]
  have hp : 0 < ds.length := List.length_pos_iff.mpr h0
  refine ⟨k, ds.length, rfl, hb, hp, by unfold lim at hl; omega, fun x os' hx kp => ?_⟩
  have e : atI ds ((x : Nat) : Int) = some ds[x] := ixI (List.getElem?_eq_getElem hx)
  simp only [bodyW, e_var, e_cst, e_dct, e_bin, e_neg, e_not, e_cmp, e_cmp2, e_and, e_or, e_ite, e_tup, e_lst, e_idx, e_slc, e_rev, e_fn, e_call, es_nil, es_cons, o_none, o_some, t_tt, t_and, t_or, t_not, t_val, i_seq, i_rng, i_enm, i_zip, p_nil, p_cons, s_set, s_setO, s_unp, s_par, s_aug, s_ext, s_iff, s_ret, s_app, s_pop, s_stL, s_stD, s_appN, s_popN, s_drop, s_cont, s_brk, ss_nil, ss_cons, getS, setS, setPs, rs_val, rs_obj, rs_new, rsv_d, rsv_last, b_add, b_addL, b_addT, b_sub, b_mul, b_div, b_mod, b_pow, c_eq, c_ne, c_lt, c_le, c_gt, c_ge, c_inL, c_inT, c_niL, c_niT, c_isB, c_isN, c_isI, c_isT, c_inN, c_inI, c_inTu, tr_non, tr_bl, tr_int, tr_lst, tr_tup, x_lst, x_tup, sl_l, sl_t, rv_l, nw_f, nw_t, au_add, au_sub, au_mul, la_last, bd_nm, bd_tp, sq_l, sq_t, f_len, f_isi, f_sortD, f_sortO, f_tupL, f_tupO, f_lstT, f_lstL, f_lstD, f_min2, f_minL, f_all, f_any, f_intB, f_str, z_ll, z_tt, ad_nil, ad_cons, objAt, setAll, wipeA, wipeS, List.map_cons, List.map_nil, List.length_cons, List.length_nil, List.replicate, List.cons_append, List.nil_append, Nat.zero_add, Nat.reduceAdd, Nat.reduceSub, Wd.d, tupI, frI, prI, ixD, at3_0, at3_1, at3_2, at2_0, at2_1, eqD, Flat, and_true, true_and, and_self, if_true, if_false, Bool.false_eq_true, reduceIte, e, leave_val, kp.tk]
  exact h _ _ (List.getElem_mem hx) kp
def spWinding : Fun1 := fun ss os Q => ∃ k : Nat, ss = [.o k] ∧ Bag os k ∧ ∀ (W : Wd) os', W.Ok → Kp k os os' → Q (.val W.d) os'
theorem w_law_winding (T : Tab) (h31 : T 31 = spTake) (h32 : T 32 = spOf) (ss : List S) (os : List O) (Q : R → List O → Prop) (h : spWinding ss os Q) : bodyW T p_law_winding 2 ss os Q := by
  obtain ⟨k, rfl, hb, h⟩ := h
  simp only [p_law_winding, bodyW, e_var, e_cst, e_dct, e_bin, e_neg, e_not, e_cmp, e_cmp2, e_and, e_or, e_ite, e_tup, e_lst, e_idx, e_slc, e_rev, e_fn, e_call, es_nil, es_cons, o_none, o_some, t_tt, t_and, t_or, t_not, t_val, i_seq, i_rng, i_enm, i_zip, p_nil, p_cons, s_set, s_setO, s_unp, s_par, s_aug, s_ext, s_iff, s_ret, s_app, s_pop, s_stL, s_stD, s_appN, s_popN, s_drop, s_cont, s_brk, ss_nil, ss_cons, getS, setS, setPs, rs_val, rs_obj, rs_new, rsv_d, rsv_last, b_add, b_addL, b_addT, b_sub, b_mul, b_div, b_mod, b_pow, c_eq, c_ne, c_lt, c_le, c_gt, c_ge, c_inL, c_inT, c_niL, c_niT, c_isB, c_isN, c_isI, c_isT, c_inN, c_inI, c_inTu, tr_non, tr_bl, tr_int, tr_lst, tr_tup, x_lst, x_tup, sl_l, sl_t, rv_l, nw_f, nw_t, au_add, au_sub, au_mul, la_last, bd_nm, bd_tp, sq_l, sq_t, f_len, f_isi, f_sortD, f_sortO, f_tupL, f_tupO, f_lstT, f_lstL, f_lstD, f_min2, f_minL, f_all, f_any, f_intB, f_str, z_ll, z_tt, ad_nil, ad_cons, objAt, setAll, wipeA, wipeS, List.map_cons, List.map_nil, List.length_cons, List.length_nil, List.replicate, List.cons_append, List.nil_append, Nat.zero_add, Nat.reduceAdd, Nat.reduceSub, Wd.d, tupI, frI, prI, ixD, at3_0, at3_1, at3_2, at2_0, at2_1, eqD, Flat, and_true, true_and, and_self, if_true, if_false, Bool.false_eq_true, reduceIte, h31, h32]
  refine ⟨k, 13, rfl, hb, by decide, by decide, fun x os1 hx k1 => ?_⟩
  refine ⟨k, 4, rfl, k1.bag, by decide, by decide, fun y os2 hy k2 => ?_⟩
  simp only [bodyW, e_var, e_cst, e_dct, e_bin, e_neg, e_not, e_cmp, e_cmp2, e_and, e_or, e_ite, e_tup, e_lst, e_idx, e_slc, e_rev, e_fn, e_call, es_nil, es_cons, o_none, o_some, t_tt, t_and, t_or, t_not, t_val, i_seq, i_rng, i_enm, i_zip, p_nil, p_cons, s_set, s_setO, s_unp, s_par, s_aug, s_ext, s_iff, s_ret, s_app, s_pop, s_stL, s_stD, s_appN, s_popN, s_drop, s_cont, s_brk, ss_nil, ss_cons, getS, setS, setPs, rs_val, rs_obj, rs_new, rsv_d, rsv_last, b_add, b_addL, b_addT, b_sub, b_mul, b_div, b_mod, b_pow, c_eq, c_ne, c_lt, c_le, c_gt, c_ge, c_inL, c_inT, c_niL, c_niT, c_isB, c_isN, c_isI, c_isT, c_inN, c_inI, c_inTu, tr_non, tr_bl, tr_int, tr_lst, tr_tup, x_lst, x_tup, sl_l, sl_t, rv_l, nw_f, nw_t, au_add, au_sub, au_mul, la_last, bd_nm, bd_tp, sq_l, sq_t, f_len, f_isi, f_sortD, f_sortO, f_tupL, f_tupO, f_lstT, f_lstL, f_lstD, f_min2, f_minL, f_all, f_any, f_intB, f_str, z_ll, z_tt, ad_nil, ad_cons, objAt, setAll, wipeA, wipeS, List.map_cons, List.map_nil, List.length_cons, List.length_nil, List.replicate, List.cons_append, List.nil_append, Nat.zero_add, Nat.reduceAdd, Nat.reduceSub, Wd.d, tupI, frI, prI, ixD, at3_0, at3_1, at3_2, at2_0, at2_1, eqD, Flat, and_true, true_and, and_self, if_true, if_false, Bool.false_eq_true, reduceIte]
  refine ⟨by decide, k, _, rfl, k2.bag, by simp, by simp [lim], fun d os3 hd k3 => ?_⟩
  obtain ⟨g, rfl, hg⟩ : ∃ g : Nat, d = .int g ∧ g ≤ 12 := by
    simp only [List.mem_cons, List.not_mem_nil, or_false] at hd
    rcases hd with rfl | rfl
    · exact ⟨x, rfl, by omega⟩
    · exact ⟨y, rfl, by omega⟩
  simp only [bodyW, e_var, e_cst, e_dct, e_bin, e_neg, e_not, e_cmp, e_cmp2, e_and, e_or, e_ite, e_tup, e_lst, e_idx, e_slc, e_rev, e_fn, e_call, es_nil, es_cons, o_none, o_some, t_tt, t_and, t_or, t_not, t_val, i_seq, i_rng, i_enm, i_zip, p_nil, p_cons, s_set, s_setO, s_unp, s_par, s_aug, s_ext, s_iff, s_ret, s_app, s_pop, s_stL, s_stD, s_appN, s_popN, s_drop, s_cont, s_brk, ss_nil, ss_cons, getS, setS, setPs, rs_val, rs_obj, rs_new, rsv_d, rsv_last, b_add, b_addL, b_addT, b_sub, b_mul, b_div, b_mod, b_pow, c_eq, c_ne, c_lt, c_le, c_gt, c_ge, c_inL, c_inT, c_niL, c_niT, c_isB, c_isN, c_isI, c_isT, c_inN, c_inI, c_inTu, tr_non, tr_bl, tr_int, tr_lst, tr_tup, x_lst, x_tup, sl_l, sl_t, rv_l, nw_f, nw_t, au_add, au_sub, au_mul, la_last, bd_nm, bd_tp, sq_l, sq_t, f_len, f_isi, f_sortD, f_sortO, f_tupL, f_tupO, f_lstT, f_lstL, f_lstD, f_min2, f_minL, f_all, f_any, f_intB, f_str, z_ll, z_tt, ad_nil, ad_cons, objAt, setAll, wipeA, wipeS, List.map_cons, List.map_nil, List.length_cons, List.length_nil, List.replicate, List.cons_append, List.nil_append, Nat.zero_add, Nat.reduceAdd, Nat.reduceSub, Wd.d, tupI, frI, prI, ixD, at3_0, at3_1, at3_2, at2_0, at2_1, eqD, Flat, and_true, true_and, and_self, if_true, if_false, Bool.false_eq_true, reduceIte]
  refine ⟨k, 9, rfl, k3.bag, by decide, by decide, fun z os4 hz k4 => ?_⟩
  simp only [bodyW, e_var, e_cst, e_dct, e_bin, e_neg, e_not, e_cmp, e_cmp2, e_and, e_or, e_ite, e_tup, e_lst, e_idx, e_slc, e_rev, e_fn, e_call, es_nil, es_cons, o_none, o_some, t_tt, t_and, t_or, t_not, t_val, i_seq, i_rng, i_enm, i_zip, p_nil, p_cons, s_set, s_setO, s_unp, s_par, s_aug, s_ext, s_iff, s_ret, s_app, s_pop, s_stL, s_stD, s_appN, s_popN, s_drop, s_cont, s_brk, ss_nil, ss_cons, getS, setS, setPs, rs_val, rs_obj, rs_new, rsv_d, rsv_last, b_add, b_addL, b_addT, b_sub, b_mul, b_div, b_mod, b_pow, c_eq, c_ne, c_lt, c_le, c_gt, c_ge, c_inL, c_inT, c_niL, c_niT, c_isB, c_isN, c_isI, c_isT, c_inN, c_inI, c_inTu, tr_non, tr_bl, tr_int, tr_lst, tr_tup, x_lst, x_tup, sl_l, sl_t, rv_l, nw_f, nw_t, au_add, au_sub, au_mul, la_last, bd_nm, bd_tp, sq_l, sq_t, f_len, f_isi, f_sortD, f_sortO, f_tupL, f_tupO, f_lstT, f_lstL, f_lstD, f_min2, f_minL, f_all, f_any, f_intB, f_str, z_ll, z_tt, ad_nil, ad_cons, objAt, setAll, wipeA, wipeS, List.map_cons, List.map_nil, List.length_cons, List.length_nil, List.replicate, List.cons_append, List.nil_append, Nat.zero_add, Nat.reduceAdd, Nat.reduceSub, Wd.d, tupI, frI, prI, ixD, at3_0, at3_1, at3_2, at2_0, at2_1, eqD, Flat, and_true, true_and, and_self, if_true, if_false, Bool.false_eq_true, reduceIte]
  refine ⟨by decide, k, _, rfl, k4.bag, by simp, by simp [lim], fun d os5 hd k5 => ?_⟩
  obtain ⟨w, rfl, hw⟩ : ∃ w : Nat, d = .int w ∧ w ≤ 8 := by
    simp only [List.mem_cons, List.not_mem_nil, or_false] at hd
    rcases hd with rfl | rfl | rfl | rfl
    · exact ⟨0, rfl, by omega⟩
    · exact ⟨1, rfl, by omega⟩
    · exact ⟨2, rfl, by omega⟩
    · exact ⟨z, rfl, by omega⟩
  simp only [bodyW, e_var, e_cst, e_dct, e_bin, e_neg, e_not, e_cmp, e_cmp2, e_and, e_or, e_ite, e_tup, e_lst, e_idx, e_slc, e_rev, e_fn, e_call, es_nil, es_cons, o_none, o_some, t_tt, t_and, t_or, t_not, t_val, i_seq, i_rng, i_enm, i_zip, p_nil, p_cons, s_set, s_setO, s_unp, s_par, s_aug, s_ext, s_iff, s_ret, s_app, s_pop, s_stL, s_stD, s_appN, s_popN, s_drop, s_cont, s_brk, ss_nil, ss_cons, getS, setS, setPs, rs_val, rs_obj, rs_new, rsv_d, rsv_last, b_add, b_addL, b_addT, b_sub, b_mul, b_div, b_mod, b_pow, c_eq, c_ne, c_lt, c_le, c_gt, c_ge, c_inL, c_inT, c_niL, c_niT, c_isB, c_isN, c_isI, c_isT, c_inN, c_inI, c_inTu, tr_non, tr_bl, tr_int, tr_lst, tr_tup, x_lst, x_tup, sl_l, sl_t, rv_l, nw_f, nw_t, au_add, au_sub, au_mul, la_last, bd_nm, bd_tp, sq_l, sq_t, f_len, f_isi, f_sortD, f_sortO, f_tupL, f_tupO, f_lstT, f_lstL, f_lstD, f_min2, f_minL, f_all, f_any, f_intB, f_str, z_ll, z_tt, ad_nil, ad_cons, objAt, setAll, wipeA, wipeS, List.map_cons, List.map_nil, List.length_cons, List.length_nil, List.replicate, List.cons_append, List.nil_append, Nat.zero_add, Nat.reduceAdd, Nat.reduceSub, Wd.d, tupI, frI, prI, ixD, at3_0, at3_1, at3_2, at2_0, at2_1, eqD, Flat, and_true, true_and, and_self, if_true, if_false, Bool.false_eq_true, reduceIte]
  refine ⟨k, 2, rfl, k5.bag, by decide, by decide, fun e os6 he k6 => ?_⟩
  simp only [bodyW, e_var, e_cst, e_dct, e_bin, e_neg, e_not, e_cmp, e_cmp2, e_and, e_or, e_ite, e_tup, e_lst, e_idx, e_slc, e_rev, e_fn, e_call, es_nil, es_cons, o_none, o_some, t_tt, t_and, t_or, t_not, t_val, i_seq, i_rng, i_enm, i_zip, p_nil, p_cons, s_set, s_setO, s_unp, s_par, s_aug, s_ext, s_iff, s_ret, s_app, s_pop, s_stL, s_stD, s_appN, s_popN, s_drop, s_cont, s_brk, ss_nil, ss_cons, getS, setS, setPs, rs_val, rs_obj, rs_new, rsv_d, rsv_last, b_add, b_addL, b_addT, b_sub, b_mul, b_div, b_mod, b_pow, c_eq, c_ne, c_lt, c_le, c_gt, c_ge, c_inL, c_inT, c_niL, c_niT, c_isB, c_isN, c_isI, c_isT, c_inN, c_inI, c_inTu, tr_non, tr_bl, tr_int, tr_lst, tr_tup, x_lst, x_tup, sl_l, sl_t, rv_l, nw_f, nw_t, au_add, au_sub, au_mul, la_last, bd_nm, bd_tp, sq_l, sq_t, f_len, f_isi, f_sortD, f_sortO, f_tupL, f_tupO, f_lstT, f_lstL, f_lstD, f_min2, f_minL, f_all, f_any, f_intB, f_str, z_ll, z_tt, ad_nil, ad_cons, objAt, setAll, wipeA, wipeS, List.map_cons, List.map_nil, List.length_cons, List.length_nil, List.replicate, List.cons_append, List.nil_append, Nat.zero_add, Nat.reduceAdd, Nat.reduceSub, Wd.d, tupI, frI, prI, ixD, at3_0, at3_1, at3_2, at2_0, at2_1, eqD, Flat, and_true, true_and, and_self, if_true, if_false, Bool.false_eq_true, reduceIte]
  have kk := ((((k1.tr k2).tr k3).tr k4).tr k5).tr k6
  refine ⟨by decide, ?_⟩
  simp only [leave_val, kk.tk]
  have := h ⟨4 + g, w, e⟩ os6 ⟨by simp, by simp; omega, hw, by simp; omega⟩ kk
  simpa [Wd.d, tupI] using this
/-- an angle in lowest terms with a small bottom -/
def spAngle : Fun1 := fun ss os Q => ∃ k : Nat, ss = [.o k] ∧ Bag os k ∧ ∀ (x : Nat × Nat) os', RedF x → x.2 ≤ 1000 → x.1 < x.2 → Kp k os os' → Q (.val (frI x)) os'
theorem w_law_angle (T : Tab) (h31 : T 31 = spTake) (h32 : T 32 = spOf) (h34 : T 34 = spLowest) (ss : List S) (os : List O) (Q : R → List O → Prop) (h : spAngle ss os Q) : bodyW T p_law_angle 2 ss os Q := by
  obtain ⟨k, rfl, hb, h⟩ := h
  simp only [p_law_angle, bodyW, e_var, e_cst, e_dct, e_bin, e_neg, e_not, e_cmp, e_cmp2, e_and, e_or, e_ite, e_tup, e_lst, e_idx, e_slc, e_rev, e_fn, e_call, es_nil, es_cons, o_none, o_some, t_tt, t_and, t_or, t_not, t_val, i_seq, i_rng, i_enm, i_zip, p_nil, p_cons, s_set, s_setO, s_unp, s_par, s_aug, s_ext, s_iff, s_ret, s_app, s_pop, s_stL, s_stD, s_appN, s_popN, s_drop, s_cont, s_brk, ss_nil, ss_cons, getS, setS, setPs, rs_val, rs_obj, rs_new, rsv_d, rsv_last, b_add, b_addL, b_addT, b_sub, b_mul, b_div, b_mod, b_pow, c_eq, c_ne, c_lt, c_le, c_gt, c_ge, c_inL, c_inT, c_niL, c_niT, c_isB, c_isN, c_isI, c_isT, c_inN, c_inI, c_inTu, tr_non, tr_bl, tr_int, tr_lst, tr_tup, x_lst, x_tup, sl_l, sl_t, rv_l, nw_f, nw_t, au_add, au_sub, au_mul, la_last, bd_nm, bd_tp, sq_l, sq_t, f_len, f_isi, f_sortD, f_sortO, f_tupL, f_tupO, f_lstT, f_lstL, f_lstD, f_min2, f_minL, f_all, f_any, f_intB, f_str, z_ll, z_tt, ad_nil, ad_cons, objAt, setAll, wipeA, wipeS, List.map_cons, List.map_nil, List.length_cons, List.length_nil, List.replicate, List.cons_append, List.nil_append, Nat.zero_add, Nat.reduceAdd, Nat.reduceSub, Wd.d, tupI, frI, prI, ixD, at3_0, at3_1, at3_2, at2_0, at2_1, eqD, Flat, and_true, true_and, and_self, if_true, if_false, Bool.false_eq_true, reduceIte, h31, h32, h34]
  refine ⟨k, 12, rfl, hb, by decide, by decide, fun x os1 hx k1 => ?_⟩
  refine ⟨k, 1000, rfl, k1.bag, by decide, by decide, fun y os2 hy k2 => ?_⟩
  simp only [bodyW, e_var, e_cst, e_dct, e_bin, e_neg, e_not, e_cmp, e_cmp2, e_and, e_or, e_ite, e_tup, e_lst, e_idx, e_slc, e_rev, e_fn, e_call, es_nil, es_cons, o_none, o_some, t_tt, t_and, t_or, t_not, t_val, i_seq, i_rng, i_enm, i_zip, p_nil, p_cons, s_set, s_setO, s_unp, s_par, s_aug, s_ext, s_iff, s_ret, s_app, s_pop, s_stL, s_stD, s_appN, s_popN, s_drop, s_cont, s_brk, ss_nil, ss_cons, getS, setS, setPs, rs_val, rs_obj, rs_new, rsv_d, rsv_last, b_add, b_addL, b_addT, b_sub, b_mul, b_div, b_mod, b_pow, c_eq, c_ne, c_lt, c_le, c_gt, c_ge, c_inL, c_inT, c_niL, c_niT, c_isB, c_isN, c_isI, c_isT, c_inN, c_inI, c_inTu, tr_non, tr_bl, tr_int, tr_lst, tr_tup, x_lst, x_tup, sl_l, sl_t, rv_l, nw_f, nw_t, au_add, au_sub, au_mul, la_last, bd_nm, bd_tp, sq_l, sq_t, f_len, f_isi, f_sortD, f_sortO, f_tupL, f_tupO, f_lstT, f_lstL, f_lstD, f_min2, f_minL, f_all, f_any, f_intB, f_str, z_ll, z_tt, ad_nil, ad_cons, objAt, setAll, wipeA, wipeS, List.map_cons, List.map_nil, List.length_cons, List.length_nil, List.replicate, List.cons_append, List.nil_append, Nat.zero_add, Nat.reduceAdd, Nat.reduceSub, Wd.d, tupI, frI, prI, ixD, at3_0, at3_1, at3_2, at2_0, at2_1, eqD, Flat, and_true, true_and, and_self, if_true, if_false, Bool.false_eq_true, reduceIte]
  refine ⟨by decide, k, _, rfl, k2.bag, by simp, by simp [lim], fun d os3 hd k3 => ?_⟩
  obtain ⟨g, rfl, hg⟩ : ∃ g : Nat, d = .int g ∧ g ≤ 999 := by
    simp only [List.mem_cons, List.not_mem_nil, or_false] at hd
    rcases hd with rfl | rfl
    · exact ⟨x, rfl, by omega⟩
    · exact ⟨y, rfl, by omega⟩
  simp only [bodyW, e_var, e_cst, e_dct, e_bin, e_neg, e_not, e_cmp, e_cmp2, e_and, e_or, e_ite, e_tup, e_lst, e_idx, e_slc, e_rev, e_fn, e_call, es_nil, es_cons, o_none, o_some, t_tt, t_and, t_or, t_not, t_val, i_seq, i_rng, i_enm, i_zip, p_nil, p_cons, s_set, s_setO, s_unp, s_par, s_aug, s_ext, s_iff, s_ret, s_app, s_pop, s_stL, s_stD, s_appN, s_popN, s_drop, s_cont, s_brk, ss_nil, ss_cons, getS, setS, setPs, rs_val, rs_obj, rs_new, rsv_d, rsv_last, b_add, b_addL, b_addT, b_sub, b_mul, b_div, b_mod, b_pow, c_eq, c_ne, c_lt, c_le, c_gt, c_ge, c_inL, c_inT, c_niL, c_niT, c_isB, c_isN, c_isI, c_isT, c_inN, c_inI, c_inTu, tr_non, tr_bl, tr_int, tr_lst, tr_tup, x_lst, x_tup, sl_l, sl_t, rv_l, nw_f, nw_t, au_add, au_sub, au_mul, la_last, bd_nm, bd_tp, sq_l, sq_t, f_len, f_isi, f_sortD, f_sortO, f_tupL, f_tupO, f_lstT, f_lstL, f_lstD, f_min2, f_minL, f_all, f_any, f_intB, f_str, z_ll, z_tt, ad_nil, ad_cons, objAt, setAll, wipeA, wipeS, List.map_cons, List.map_nil, List.length_cons, List.length_nil, List.replicate, List.cons_append, List.nil_append, Nat.zero_add, Nat.reduceAdd, Nat.reduceSub, Wd.d, tupI, frI, prI, ixD, at3_0, at3_1, at3_2, at2_0, at2_1, eqD, Flat, and_true, true_and, and_self, if_true, if_false, Bool.false_eq_true, reduceIte]
  refine ⟨k, 1 + g, by simp, k3.bag, by omega, by omega, fun p os4 hp k4 => ?_⟩
  have kk := ((k1.tr k2).tr k3).tr k4
  refine ⟨p, 1 + g, by simp [bodyW, e_var, e_cst, e_dct, e_bin, e_neg, e_not, e_cmp, e_cmp2, e_and, e_or, e_ite, e_tup, e_lst, e_idx, e_slc, e_rev, e_fn, e_call, es_nil, es_cons, o_none, o_some, t_tt, t_and, t_or, t_not, t_val, i_seq, i_rng, i_enm, i_zip, p_nil, p_cons, s_set, s_setO, s_unp, s_par, s_aug, s_ext, s_iff, s_ret, s_app, s_pop, s_stL, s_stD, s_appN, s_popN, s_drop, s_cont, s_brk, ss_nil, ss_cons, getS, setS, setPs, rs_val, rs_obj, rs_new, rsv_d, rsv_last, b_add, b_addL, b_addT, b_sub, b_mul, b_div, b_mod, b_pow, c_eq, c_ne, c_lt, c_le, c_gt, c_ge, c_inL, c_inT, c_niL, c_niT, c_isB, c_isN, c_isI, c_isT, c_inN, c_inI, c_inTu, tr_non, tr_bl, tr_int, tr_lst, tr_tup, x_lst, x_tup, sl_l, sl_t, rv_l, nw_f, nw_t, au_add, au_sub, au_mul, la_last, bd_nm, bd_tp, sq_l, sq_t, f_len, f_isi, f_sortD, f_sortO, f_tupL, f_tupO, f_lstT, f_lstL, f_lstD, f_min2, f_minL, f_all, f_any, f_intB, f_str, z_ll, z_tt, ad_nil, ad_cons, objAt, setAll, wipeA, wipeS, List.map_cons, List.map_nil, List.length_cons, List.length_nil, List.replicate, List.cons_append, List.nil_append, Nat.zero_add, Nat.reduceAdd, Nat.reduceSub, Wd.d, tupI, frI, prI, ixD, at3_0, at3_1, at3_2, at2_0, at2_1, eqD, Flat, and_true, true_and, and_self, if_true, if_false, Bool.false_eq_true, reduceIte], by omega, by omega, ?_⟩
  simp only [leave_val, kk.tk]
  have e := lowF_eq (p := p) (q := 1 + g) (by omega)
  have r := lowF_red (p := p) (q := 1 + g) (by omega)
  refine h _ _ r (Nat.le_trans (lowF_le p (1 + g)).2 (by omega)) ?_ kk
  refine Nat.lt_of_mul_lt_mul_right (a := 1 + g) ?_
  rw [e, Nat.mul_comm]
  exact Nat.mul_lt_mul_of_pos_left hp r.2
end N66

/-! N66, the second law's own defs. -/
namespace N66
open PySem PySem.Spec L2
def p_law_worth : Ss := .cons (.ret (.cmp .Lt (.bin .Mult (.idx (.var 0) (.cst (.int 0))) (.idx (.var 1) (.cst (.int 1)))) (.bin .Mult (.idx (.var 1) (.cst (.int 0))) (.idx (.var 0) (.cst (.int 1)))))) .nil
def p_law_in_one_piece : Ss := .cons (.set 2 (.lc (.fn .int (.cons (.cmp .In (.var 1) (.idx (.var 3) (.cst (.int 2)))) .nil)) (.nm 3) (.seq (.var 0)) .tt [3])) (.cons (.set 4 (.lc (.cst (.int 1)) (.nm 5) (.rng (.cst (.int 0)) (.fn .len (.cons (.var 2) .nil))) (.val (.cmp .NotEq (.idx (.var 2) (.var 5)) (.idx (.var 2) (.bin .Sub (.var 5) (.cst (.int 1)))))) [5])) (.cons (.ret (.and (.cmp .In (.fn .len (.cons (.var 4) .nil)) (.tup (.cons (.cst (.int 0)) (.cons (.cst (.int 2)) .nil)))) (.cmp .In (.cst (.int 1)) (.var 2)))) .nil))
def p_law_parts_right : Ss := .cons (.par (.cons 3 false (.cst (.int 0)) (.cons 4 false (.cst (.int 1)) .nil))) (.cons (.for_ (.tp [5, 6, 7]) (.seq (.var 2)) (.cons (.set 8 (.bin .Mult (.idx (.var 5) (.cst (.int 1))) (.idx (.var 6) (.cst (.int 1))))) (.cons (.set 9 (.bin .Sub (.bin .Mult (.idx (.var 6) (.cst (.int 0))) (.idx (.var 5) (.cst (.int 1)))) (.bin .Mult (.idx (.var 5) (.cst (.int 0))) (.idx (.var 6) (.cst (.int 1)))))) (.cons (.set 3 (.bin .Add (.bin .Mult (.var 3) (.var 8)) (.bin .Mult (.bin .Mult (.fn .len (.cons (.var 7) .nil)) (.var 9)) (.var 4)))) (.cons (.set 4 (.bin .Mult (.var 4) (.var 8))) .nil))))) (.cons (.par (.cons 10 false (.cst (.int 0)) (.cons 11 false (.idx (.var 1) (.cst (.int 0))) (.cons 12 false (.cst (.int 0)) (.cons 13 false (.cst (.int 1)) .nil))))) (.cons (.whl (.val (.cmp .Lt (.var 10) (.bin .Mult (.cst (.int 2)) (.var 0)))) (.cons (.set 14 (.fn .min2 (.cons (.var 11) (.cons (.bin .Sub (.bin .Mult (.cst (.int 2)) (.var 0)) (.var 10)) .nil)))) (.cons (.set 12 (.bin .Add (.bin .Mult (.var 12) (.var 11)) (.bin .Mult (.var 14) (.var 13)))) (.cons (.set 13 (.bin .Mult (.var 13) (.var 11))) (.cons (.par (.cons 10 false (.bin .Add (.var 10) (.var 11)) (.cons 11 false (.bin .Add (.var 11) (.idx (.var 1) (.cst (.int 1)))) .nil))) .nil))))) (.cons (.ret (.cmp .Eq (.bin .Mult (.var 3) (.var 13)) (.bin .Mult (.var 12) (.var 4)))) .nil))))
def p_law02 : Ss := .cons (.for_ (.nm 1) (.rng (.cst (.int 0)) (.bin .Add (.fn .min2 (.cons (.fn .len (.cons (.var 0) .nil)) (.cons (.cst (.int 8)) .nil))) (.cst (.int 2)))) (.cons (.setO 2 (.call 30 (.cons (.var 0) (.cons (.var 1) .nil)))) (.cons (.par (.cons 3 false (.call 33 (.cons (.var 2) .nil)) (.cons 4 false (.bin .Add (.cst (.int 1)) (.call 31 (.cons (.var 2) (.cons (.cst (.int 24)) .nil)))) .nil))) (.cons (.set 5 (.call 7 (.cons (.var 4) (.cons (.var 3) .nil)))) (.cons (.iff (.or (.val (.cmp .NotEq (.idx (.idx (.var 5) (.cst (.int 0))) (.cst (.int 0))) (.tup (.cons (.cst (.int 0)) (.cons (.cst (.int 1)) .nil))))) (.val (.cmp .NotEq (.idx (.idx (.var 5) (.neg (.cst (.int 1)))) (.cst (.int 1))) (.tup (.cons (.cst (.int 1)) (.cons (.cst (.int 1)) .nil)))))) (.cons (.ret (.cst (.bl false))) .nil) .nil) (.cons (.for_ (.tp [6, 7]) (.zip (.cons (.var 5) (.cons (.slc (.var 5) (.some (.cst (.int 1))) .none) .nil))) (.cons (.iff (.or (.val (.cmp .NotEq (.idx (.var 6) (.cst (.int 1))) (.idx (.var 7) (.cst (.int 0))))) (.or (.val (.cmp .Eq (.idx (.var 6) (.cst (.int 2))) (.idx (.var 7) (.cst (.int 2))))) (.not (.val (.call 57 (.cons (.idx (.var 6) (.cst (.int 0))) (.cons (.idx (.var 6) (.cst (.int 1))) .nil))))))) (.cons (.ret (.cst (.bl false))) .nil) .nil) .nil)) (.cons (.iff (.val (.cmp .NotEq (.lc (.var 8) (.nm 8) (.rng (.cst (.int 0)) (.var 4)) (.not (.val (.call 58 (.cons (.var 5) (.cons (.var 8) .nil))))) [8]) (.lst .nil))) (.cons (.ret (.cst (.bl false))) .nil) .nil) (.cons (.iff (.not (.val (.call 59 (.cons (.var 4) (.cons (.var 3) (.cons (.var 5) .nil)))))) (.cons (.ret (.cst (.bl false))) .nil) .nil) (.cons (.for_ (.nm 9) (.rng (.cst (.int 0)) (.cst (.int 6))) (.cons (.set 10 (.call 35 (.cons (.var 2) .nil))) (.cons (.set 11 (.lc (.var 12) (.nm 12) (.seq (.var 5)) (.and (.not (.val (.call 57 (.cons (.var 10) (.cons (.idx (.var 12) (.cst (.int 0))) .nil))))) (.val (.call 57 (.cons (.var 10) (.cons (.idx (.var 12) (.cst (.int 1))) .nil))))) [12])) (.cons (.set 13 (.call 4 (.cons (.var 4) (.cons (.var 3) (.cons (.var 10) .nil))))) (.cons (.iff (.or (.val (.cmp .NotEq (.fn .len (.cons (.var 11) .nil)) (.cst (.int 1)))) (.val (.cmp .NotEq (.fn .list (.cons (.idx (.idx (.var 11) (.cst (.int 0))) (.cst (.int 2))) .nil)) (.var 13)))) (.cons (.ret (.cst (.bl false))) .nil) .nil) (.cons (.set 14 (.bin .Add (.slc (.var 3) .none (.some (.cst (.int 2)))) (.tup (.cons (.bin .Sub (.cst (.int 1)) (.idx (.var 3) (.cst (.int 2)))) .nil)))) (.cons (.iff (.val (.cmp .NotEq (.call 4 (.cons (.var 4) (.cons (.var 14) (.cons (.var 10) .nil)))) (.lc (.bin .Sub (.bin .Sub (.var 4) (.cst (.int 1))) (.var 8)) (.nm 8) (.seq (.rev (.var 13))) .tt [8]))) (.cons (.ret (.cst (.bl false))) .nil) .nil) (.cons (.iff (.val (.cmp .Lt (.var 4) (.cst (.int 24)))) (.cons (.par (.cons 15 false (.call 4 (.cons (.bin .Add (.var 4) (.cst (.int 1))) (.cons (.var 3) (.cons (.var 10) .nil)))) (.cons 16 false (.idx (.var 3) (.cst (.int 2))) .nil))) (.cons (.iff (.val (.cmp .NotEq (.lc (.bin .Sub (.var 8) (.var 16)) (.nm 8) (.seq (.var 15)) (.val (.cmp2 .LtE .Lt (.cst (.int 0)) (.bin .Sub (.var 8) (.var 16)) (.var 4))) [8]) (.var 13))) (.cons (.ret (.cst (.bl false))) .nil) .nil) .nil)) .nil) .nil)))))))) .nil))))))))) (.cons (.ret (.cst (.bl true))) .nil)
def spLaw : Fun1 := fun ss os Q => ∃ ns : List Int, ss = [.o 0] ∧ os = [.scr ns] ∧ ns.length ≤ 63 ∧ Q (.val (.bl true)) os
instance (x y : Nat × Nat) : Decidable (ltF x y) := inferInstanceAs (Decidable (_ < _))
def spWorth : Fun1 := fun ss os Q => ∃ x y : Nat × Nat, ss = [.d (frI x), .d (frI y)] ∧ x.1 < 2 ^ 60 ∧ x.2 < 2 ^ 60 ∧ y.1 < 2 ^ 60 ∧ y.2 < 2 ^ 60 ∧ Q (.val (.bl (decide (ltF x y)))) os
theorem w_law_worth (T : Tab) (ss : List S) (os : List O) (Q : R → List O → Prop) (h : spWorth ss os Q) : bodyW T p_law_worth 2 ss os Q := by
  obtain ⟨⟨a, b⟩, ⟨c, d⟩, rfl, h1, h2, h3, h4, h⟩ := h
  simp only at h1 h2 h3 h4
  simp only [p_law_worth, bodyW, e_var, e_cst, e_dct, e_bin, e_neg, e_not, e_cmp, e_cmp2, e_and, e_or, e_ite, e_tup, e_lst, e_idx, e_slc, e_rev, e_fn, e_call, es_nil, es_cons, o_none, o_some, t_tt, t_and, t_or, t_not, t_val, i_seq, i_rng, i_enm, i_zip, p_nil, p_cons, s_set, s_setO, s_unp, s_par, s_aug, s_ext, s_iff, s_ret, s_app, s_pop, s_stL, s_stD, s_appN, s_popN, s_drop, s_cont, s_brk, ss_nil, ss_cons, getS, setS, setPs, rs_val, rs_obj, rs_new, rsv_d, rsv_last, b_add, b_addL, b_addT, b_sub, b_mul, b_div, b_mod, b_pow, c_eq, c_ne, c_lt, c_le, c_gt, c_ge, c_inL, c_inT, c_niL, c_niT, c_isB, c_isN, c_isI, c_isT, c_inN, c_inI, c_inTu, tr_non, tr_bl, tr_int, tr_lst, tr_tup, x_lst, x_tup, sl_l, sl_t, rv_l, nw_f, nw_t, au_add, au_sub, au_mul, la_last, bd_nm, bd_tp, sq_l, sq_t, f_len, f_isi, f_sortD, f_sortO, f_tupL, f_tupO, f_lstT, f_lstL, f_lstD, f_min2, f_minL, f_all, f_any, f_intB, f_str, z_ll, z_tt, ad_nil, ad_cons, objAt, setAll, wipeA, wipeS, List.map_cons, List.map_nil, List.length_cons, List.length_nil, List.replicate, List.cons_append, List.nil_append, Nat.zero_add, Nat.reduceAdd, Nat.reduceSub, Wd.d, tupI, frI, prI, ixD, at3_0, at3_1, at3_2, at2_0, at2_1, eqD, Flat, and_true, true_and, and_self, if_true, if_false, Bool.false_eq_true, reduceIte]
  refine ⟨small_mul' (by omega), small_mul' (by omega), ?_⟩
  simp only [leave_val, tk_self]
  have e : decide ((a : Int) * d < c * b) = decide (ltF (a, b) (c, d)) := by
    refine decide_eq_decide.mpr ?_
    unfold ltF
    simp only
    rw [← Int.natCast_mul, ← Int.natCast_mul, Int.ofNat_lt]
  rw [e]
  exact h
def spOnePiece : Fun1 := fun ss os Q => ∃ (many : Nat) (W : Wd) (c : Nat), ss = [.d (.lst ((rowsL many W).map rowI)), .d (.int c)] ∧ W.Ok ∧ 1 ≤ many ∧ many ≤ 30 ∧ c < many ∧ Q (.val (.bl true)) os
def spPartsRight : Fun1 := fun ss os Q => ∃ (many : Nat) (W : Wd), ss = [.d (.int many), .d W.d, .d (.lst ((rowsL many W).map rowI))] ∧ W.Ok ∧ 1 ≤ many ∧ many ≤ 30 ∧ Q (.val (.bl true)) os

/-! ### what stands ahead of the law; the readings grow with what is asked -/
def noLst (K : PySem.W.Frag) : Bool := K.all fun p => match p.2.cls with
  | .type x => !(x == "list")
  | _ => true
theorem no_lst {K : PySem.W.Frag} (h : noLst K = true) {a : Addr} {o : Obj} (e : K.lookup a = some o) (c : o.cls = .type "list") : False := by
  induction K with
  | nil => cases e
  | cons p r ih =>
    obtain ⟨b, x⟩ := p
    unfold noLst at h
    rw [List.all_cons, Bool.and_eq_true] at h
    rw [List.lookup_cons] at e
    split at e
    · cases e
      have h1 := h.1
      simp only [c] at h1
      cases h1
    · exact ih h.2 e
theorem law_in {K : PySem.W.Frag} {H : Hp} {a : Addr} {ns : List Int} (hK : noLst K = true) (hl : ns.length ≤ 63) (hS : SqL K H a (ns.map V.int)) : spT spLaw [.ref a] H (fun v _ => v = .bl true) fun _ _ _ => False := by
  have hR : Rd H a (.lst (ns.map V.int)) := by
    rcases hS with h | ⟨o, its, n, h1, h2, _⟩
    · exact h
    · exact (no_lst hK h1 h2).elim
  refine ⟨[.o 0], [.scr ns], fun _ => none, [(a, [])], ⟨(fun _ _ h => by cases h), rfl, fun k j p q h1 h2 n => ?_, fun _ _ _ _ _ => rfl, fun k p o h1 h2 => ?_⟩, .cons ⟨_, rfl, rfl⟩ .nil, ns, rfl, rfl, hl, fun v H' B' _ _ h => ?_⟩
  · have hk := (List.getElem?_eq_some_iff.mp h1).1
    have hj := (List.getElem?_eq_some_iff.mp h2).1
    simp only [List.length_cons, List.length_nil] at hk hj
    omega
  · have hk := (List.getElem?_eq_some_iff.mp h1).1
    simp only [List.length_cons, List.length_nil] at hk
    obtain rfl : k = 0 := by omega
    cases h1
    cases h2
    exact ⟨rfl, hR⟩
  · cases h
    rename_i h
    cases h
    rfl
theorem lk_nil {β : Type} {P : Str → β → Prop} : ∀ x i, ([] : List (Str × β)).lookup x = some i → P x i := fun _ _ h => by cases h
theorem lk_cons {β : Type} {P : Str → β → Prop} {a : Str} {j : β} {r : List (Str × β)} (h : P a j) (hr : ∀ x i, r.lookup x = some i → P x i) : ∀ x i, ((a, j) :: r).lookup x = some i → P x i := fun x i e => by
  rw [List.lookup_cons] at e
  split at e
  · rename_i q
    cases e
    rw [beq_iff_eq.mp q]
    exact h
  · exact hr x i e
section
variable {ss : List S} {os : List O} {Q Q' : R → List O → Prop}
theorem mo_spLaw : spLaw ss os Q → (∀ r os', Q r os' → Q' r os') → spLaw ss os Q' := by unfold spLaw; (intro h hq; revert h; (repeat' (first | (refine Exists.imp fun _ => ?_) | (refine And.imp_right ?_))); intro h; first | exact hq _ _ h | (intros; apply hq; apply h <;> assumption))
theorem mo_spLowest : spLowest ss os Q → (∀ r os', Q r os' → Q' r os') → spLowest ss os Q' := by unfold spLowest; (intro h hq; revert h; (repeat' (first | (refine Exists.imp fun _ => ?_) | (refine And.imp_right ?_))); intro h; first | exact hq _ _ h | (intros; apply hq; apply h <;> assumption))
theorem mo_spTurns : spTurns ss os Q → (∀ r os', Q r os' → Q' r os') → spTurns ss os Q' := by unfold spTurns; (intro h hq; revert h; (repeat' (first | (refine Exists.imp fun _ => ?_) | (refine And.imp_right ?_))); intro h; first | exact hq _ _ h | (intros; apply hq; apply h <;> assumption))
theorem mo_spPricked : spPricked ss os Q → (∀ r os', Q r os' → Q' r os') → spPricked ss os Q' := by unfold spPricked; (intro h hq; revert h; (repeat' (first | (refine Exists.imp fun _ => ?_) | (refine And.imp_right ?_))); intro h; first | exact hq _ _ h | (intros; apply hq; apply h <;> assumption))
theorem mo_spInOrder : spInOrder ss os Q → (∀ r os', Q r os' → Q' r os') → spInOrder ss os Q' := by unfold spInOrder; (intro h hq; revert h; (repeat' (first | (refine Exists.imp fun _ => ?_) | (refine And.imp_right ?_))); intro h; first | exact hq _ _ h | (intros; apply hq; apply h <;> assumption))
theorem mo_spBreaks : spBreaks ss os Q → (∀ r os', Q r os' → Q' r os') → spBreaks ss os Q' := by unfold spBreaks; (intro h hq; revert h; (repeat' (first | (refine Exists.imp fun _ => ?_) | (refine And.imp_right ?_))); intro h; first | exact hq _ _ h | (intros; apply hq; apply h <;> assumption))
theorem mo_spStretches : spStretches ss os Q → (∀ r os', Q r os' → Q' r os') → spStretches ss os Q' := by unfold spStretches; (intro h hq; revert h; (repeat' (first | (refine Exists.imp fun _ => ?_) | (refine And.imp_right ?_))); intro h; first | exact hq _ _ h | (intros; apply hq; apply h <;> assumption))
theorem mo_spBag : spBag ss os Q → (∀ r os', Q r os' → Q' r os') → spBag ss os Q' := by unfold spBag; (intro h hq; revert h; (repeat' (first | (refine Exists.imp fun _ => ?_) | (refine And.imp_right ?_))); intro h; first | exact hq _ _ h | (intros; apply hq; apply h <;> assumption))
theorem mo_spTake : spTake ss os Q → (∀ r os', Q r os' → Q' r os') → spTake ss os Q' := by unfold spTake; (intro h hq; revert h; (repeat' (first | (refine Exists.imp fun _ => ?_) | (refine And.imp_right ?_))); intro h; first | exact hq _ _ h | (intros; apply hq; apply h <;> assumption))
theorem mo_spOf : spOf ss os Q → (∀ r os', Q r os' → Q' r os') → spOf ss os Q' := by unfold spOf; (intro h hq; revert h; (repeat' (first | (refine Exists.imp fun _ => ?_) | (refine And.imp_right ?_))); intro h; first | exact hq _ _ h | (intros; apply hq; apply h <;> assumption))
theorem mo_spWinding : spWinding ss os Q → (∀ r os', Q r os' → Q' r os') → spWinding ss os Q' := by unfold spWinding; (intro h hq; revert h; (repeat' (first | (refine Exists.imp fun _ => ?_) | (refine And.imp_right ?_))); intro h; first | exact hq _ _ h | (intros; apply hq; apply h <;> assumption))
theorem mo_spAngle : spAngle ss os Q → (∀ r os', Q r os' → Q' r os') → spAngle ss os Q' := by unfold spAngle; (intro h hq; revert h; (repeat' (first | (refine Exists.imp fun _ => ?_) | (refine And.imp_right ?_))); intro h; first | exact hq _ _ h | (intros; apply hq; apply h <;> assumption))
theorem mo_spWorth : spWorth ss os Q → (∀ r os', Q r os' → Q' r os') → spWorth ss os Q' := by unfold spWorth; (intro h hq; revert h; (repeat' (first | (refine Exists.imp fun _ => ?_) | (refine And.imp_right ?_))); intro h; first | exact hq _ _ h | (intros; apply hq; apply h <;> assumption))
theorem mo_spOnePiece : spOnePiece ss os Q → (∀ r os', Q r os' → Q' r os') → spOnePiece ss os Q' := by unfold spOnePiece; (intro h hq; revert h; (repeat' (first | (refine Exists.imp fun _ => ?_) | (refine And.imp_right ?_))); intro h; first | exact hq _ _ h | (intros; apply hq; apply h <;> assumption))
theorem mo_spPartsRight : spPartsRight ss os Q → (∀ r os', Q r os' → Q' r os') → spPartsRight ss os Q' := by unfold spPartsRight; (intro h hq; revert h; (repeat' (first | (refine Exists.imp fun _ => ?_) | (refine And.imp_right ?_))); intro h; first | exact hq _ _ h | (intros; apply hq; apply h <;> assumption))
end
end N66

/-! N66, the ring: stretches part it, within one all needles prick alike. -/
namespace N66
open PySem PySem.Spec L2
theorem nlt_iff {a b : Nat × Nat} : ¬ ltF b a ↔ a.1 * b.2 ≤ b.1 * a.2 := by unfold ltF; omega
theorem le_ltF {a b c : Nat × Nat} (ha : 0 < a.2) (hb : 0 < b.2) (h1 : ¬ ltF b a) (h2 : ltF b c) : ltF a c := by
  rw [nlt_iff] at h1
  unfold ltF at *
  obtain ⟨a1, a2⟩ := a
  obtain ⟨b1, b2⟩ := b
  obtain ⟨c1, c2⟩ := c
  simp only at *
  have x1 : a1 * b2 * c2 ≤ b1 * a2 * c2 := Nat.mul_le_mul_right _ h1
  have x2 : b1 * c2 * a2 < c1 * b2 * a2 := Nat.mul_lt_mul_of_pos_right h2 ha
  have e1 : b1 * a2 * c2 = b1 * c2 * a2 := Nat.mul_right_comm _ _ _
  have e2 : a1 * b2 * c2 = a1 * c2 * b2 := Nat.mul_right_comm _ _ _
  have e3 : c1 * b2 * a2 = c1 * a2 * b2 := Nat.mul_right_comm _ _ _
  have : a1 * c2 * b2 < c1 * a2 * b2 := by omega
  exact Nat.lt_of_mul_lt_mul_right this
theorem lt_leF {a b c : Nat × Nat} (hb : 0 < b.2) (hc : 0 < c.2) (h1 : ltF a b) (h2 : ¬ ltF c b) : ltF a c := by
  rw [nlt_iff] at h2
  unfold ltF at *
  obtain ⟨a1, a2⟩ := a
  obtain ⟨b1, b2⟩ := b
  obtain ⟨c1, c2⟩ := c
  simp only at *
  have x1 : a1 * b2 * c2 < b1 * a2 * c2 := Nat.mul_lt_mul_of_pos_right h1 hc
  have x2 : b1 * c2 * a2 ≤ c1 * b2 * a2 := Nat.mul_le_mul_right _ h2
  have e1 : b1 * a2 * c2 = b1 * c2 * a2 := Nat.mul_right_comm _ _ _
  have e2 : a1 * b2 * c2 = a1 * c2 * b2 := Nat.mul_right_comm _ _ _
  have e3 : c1 * b2 * a2 = c1 * a2 * b2 := Nat.mul_right_comm _ _ _
  have : a1 * c2 * b2 < c1 * a2 * b2 := by omega
  exact Nat.lt_of_mul_lt_mul_right this
/-! ### the list of the rows -/
def pairsL (M : List (Nat × Nat)) (e : Nat × Nat) : List ((Nat × Nat) × (Nat × Nat)) := M.zip (M.drop 1 ++ [e])
theorem pairsL_nil (e : Nat × Nat) : pairsL [] e = [] := rfl
theorem pairsL_one (m e : Nat × Nat) : pairsL [m] e = [(m, e)] := rfl
theorem pairsL_cons (m m2 : Nat × Nat) (r : List (Nat × Nat)) (e : Nat × Nat) : pairsL (m :: m2 :: r) e = (m, m2) :: pairsL (m2 :: r) e := rfl
theorem rowsL_eq (many : Nat) (W : Wd) : rowsL many W = (pairsL (marksL many W.g W.w) (1, 1)).map fun p => (p.1, p.2, prickedL many W p.1.1 p.1.2) := rfl
theorem pairs_fst {e : Nat × Nat} : ∀ {M : List (Nat × Nat)} {p}, p ∈ pairsL M e → p.1 ∈ M
  | [], _, h => by cases h
  | [m], p, h => by
    rw [pairsL_one, List.mem_singleton] at h
    rw [h]; exact List.mem_cons_self ..
  | m :: m2 :: r, p, h => by
    rw [pairsL_cons] at h
    rcases List.mem_cons.mp h with rfl | h
    · exact List.mem_cons_self ..
    · exact List.mem_cons_of_mem _ (pairs_fst h)
theorem pairs_snd {e : Nat × Nat} : ∀ {M : List (Nat × Nat)} {p}, p ∈ pairsL M e → p.2 ∈ M ∨ p.2 = e
  | [], _, h => by cases h
  | [m], p, h => by
    rw [pairsL_one, List.mem_singleton] at h
    rw [h]; exact .inr rfl
  | m :: m2 :: r, p, h => by
    rw [pairsL_cons] at h
    rcases List.mem_cons.mp h with rfl | h
    · exact .inl (by simp)
    · rcases pairs_snd h with h | h
      · exact .inl (List.mem_cons_of_mem _ h)
      · exact .inr h
theorem pairs_lt {e : Nat × Nat} : ∀ {M : List (Nat × Nat)} {p}, M.Pairwise ltF → (∀ x ∈ M, ltF x e) → p ∈ pairsL M e → ltF p.1 p.2
  | [], _, _, _, h => by cases h
  | [m], p, _, he, h => by
    rw [pairsL_one, List.mem_singleton] at h
    rw [h]; exact he m (List.mem_cons_self ..)
  | m :: m2 :: r, p, hs, he, h => by
    rw [pairsL_cons] at h
    rw [List.pairwise_cons] at hs
    rcases List.mem_cons.mp h with rfl | h
    · exact hs.1 m2 (List.mem_cons_self ..)
    · exact pairs_lt hs.2 (fun x hx => he x (List.mem_cons_of_mem _ hx)) h
/-- no mark lies within a row -/
theorem pairs_gap {e : Nat × Nat} : ∀ {M : List (Nat × Nat)} {p} {z}, M.Pairwise ltF → (∀ x ∈ M, 0 < x.2) → p ∈ pairsL M e → z ∈ M → ltF p.1 z → ¬ ltF z p.2
  | [], _, _, _, _, h, _, _ => by cases h
  | [m], p, z, _, _, h, hz, h1 => by
    rw [pairsL_one, List.mem_singleton] at h
    subst h
    rw [List.mem_singleton] at hz
    subst hz
    exact absurd h1 (ltF_irr _)
  | m :: m2 :: r, p, z, hs, hp, h, hz, h1 => by
    rw [pairsL_cons] at h
    rw [List.pairwise_cons] at hs
    rcases List.mem_cons.mp h with rfl | _
    · rcases List.mem_cons.mp hz with rfl | hz
      · exact absurd h1 (ltF_irr _)
      · rcases List.mem_cons.mp hz with rfl | hz
        · exact ltF_irr _
        · have := hs.2
          rw [List.pairwise_cons] at this
          exact ltF_asym _ _ (this.1 z hz)
    · rename_i hpp
      rcases List.mem_cons.mp hz with hz | hz
      · rw [hz] at h1
        exact absurd (hs.1 _ (pairs_fst hpp)) (ltF_asym _ _ h1)
      · exact pairs_gap hs.2 (fun x hx => hp x (List.mem_cons_of_mem _ hx)) hpp hz h1
/-- each angle lies in one row -/
theorem pairs_find {e x : Nat × Nat} (hx : 0 < x.2) (he : ltF x e) : ∀ {m : Nat × Nat} {r : List (Nat × Nat)}, (m :: r).Pairwise ltF → (∀ y ∈ m :: r, 0 < y.2) → ¬ ltF x m →
    ∃ p ∈ pairsL (m :: r) e, ¬ ltF x p.1 ∧ ltF x p.2 ∧ (pairsL (m :: r) e).filter (fun p => decide (¬ ltF x p.1) && decide (ltF x p.2)) = [p]
  | m, [], _, _, h => ⟨(m, e), by simp [pairsL_one], h, he, by simp [pairsL_one, h, he]⟩
  | m, m2 :: r, hs, hp, h => by
    rw [List.pairwise_cons] at hs
    by_cases h2 : ltF x m2
    · refine ⟨(m, m2), by simp [pairsL_cons], h, h2, ?_⟩
      rw [pairsL_cons, List.filter_cons, if_pos (by simp [h, h2])]
      congr 1
      rw [List.filter_eq_nil_iff]
      intro p hp1
      have h3 := pairs_fst hp1
      have : ltF x p.1 := by
        rcases List.mem_cons.mp h3 with h3 | h3
        · rw [h3]; exact h2
        · have hs2 := hs.2
          rw [List.pairwise_cons] at hs2
          exact ltF_tr (hp m2 (by simp)) h2 (hs2.1 _ h3)
      simp [this]
    · obtain ⟨p, h3, h4, h5, h6⟩ := pairs_find hx he hs.2 (fun y hy => hp y (List.mem_cons_of_mem _ hy)) h2
      refine ⟨p, by rw [pairsL_cons]; exact List.mem_cons_of_mem _ h3, h4, h5, ?_⟩
      rw [pairsL_cons, List.filter_cons, if_neg (by simp [h2]), h6]
section
variable {many : Nat} {W : Wd}
theorem marks_one (hW : W.Ok) (hm : many ≤ 30) {x : Nat × Nat} (h : x ∈ marksL many W.g W.w) : ltF x (1, 1) := by
  obtain ⟨_, _, h, _⟩ := marks_bnd hW hm h
  unfold ltF
  simp only
  omega
theorem marks_hd (hW : W.Ok) (hm : many ≤ 30) : ∃ r, marksL many W.g W.w = (0, 1) :: r := by
  have h0 : ((0, 1) : Nat × Nat) ∈ marksL many W.g W.w := marksL_mem.mpr (keysL_mem.mpr (.inl rfl))
  have hs := marksL_sorted (many := many) hW hm
  cases z : marksL many W.g W.w with
  | nil => rw [z] at h0; cases h0
  | cons m r =>
    rw [z] at h0 hs
    rw [List.pairwise_cons] at hs
    rcases List.mem_cons.mp h0 with h | h
    · exact ⟨r, by rw [h]⟩
    · have := hs.1 _ h
      unfold ltF at this
      simp only at this
      omega
theorem turn_mono {a x : Nat × Nat} {b l : Nat} (ha : 0 < a.2) (hx : 0 < x.2) (h : ¬ ltF x a) : halfOf a.1 a.2 b l ≤ halfOf x.1 x.2 b l := by
  rw [nlt_iff] at h
  unfold halfOf
  refine Nat.add_le_add_left ?_ _
  rw [Nat.le_div_iff_mul_le hx]
  have h1 : a.1 * l / a.2 * a.2 ≤ a.1 * l := Nat.div_mul_le_self _ _
  refine Nat.le_of_mul_le_mul_right (c := a.2) ?_ ha
  have h2 : a.1 * l / a.2 * a.2 * x.2 ≤ a.1 * l * x.2 := Nat.mul_le_mul_right _ h1
  have h3 : a.1 * x.2 * l ≤ x.1 * a.2 * l := Nat.mul_le_mul_right _ h
  have e1 : a.1 * l / a.2 * a.2 * x.2 = a.1 * l / a.2 * x.2 * a.2 := Nat.mul_right_comm _ _ _
  have e2 : a.1 * l * x.2 = a.1 * x.2 * l := Nat.mul_right_comm _ _ _
  have e3 : x.1 * a.2 * l = x.1 * l * a.2 := Nat.mul_right_comm _ _ _
  omega
theorem half_top {x : Nat × Nat} {b l : Nat} (hx : 0 < x.2) (h1 : x.1 < x.2) (hl : 0 < l) : halfOf x.1 x.2 b l < b + l := by
  rw [half_hi hx, Nat.mul_comm l]
  exact Nat.mul_lt_mul_of_pos_right h1 hl
theorem cellsT_congr {e : Nat} {x y : Nat × Nat} : ∀ {ts : List (Nat × Nat)}, (∀ t ∈ ts, (halfOf x.1 x.2 t.1 t.2 < 2 * many ↔ halfOf y.1 y.2 t.1 t.2 < 2 * many) ∧ (halfOf x.1 x.2 t.1 t.2 < 2 * many → halfOf x.1 x.2 t.1 t.2 / 2 = halfOf y.1 y.2 t.1 t.2 / 2)) → cellsT many e x.1 x.2 ts = cellsT many e y.1 y.2 ts
  | [], _ => rfl
  | (b, l) :: ts, h => by
    obtain ⟨h1, h2⟩ := h (b, l) (List.mem_cons_self ..)
    have ih := cellsT_congr (e := e) fun t ht => h t (List.mem_cons_of_mem _ ht)
    simp only at h1 h2
    simp only [cellsT]
    rw [ih]
    by_cases hx : halfOf x.1 x.2 b l < 2 * many
    · rw [if_pos hx, if_pos (h1.mp hx), h2 hx]
    · rw [if_neg hx, if_neg fun z => hx (h1.mpr z)]
/-- within a row all needles prick alike -/
theorem row_alike (hW : W.Ok) (hm : many ≤ 30) {p : (Nat × Nat) × (Nat × Nat)} (hp : p ∈ pairsL (marksL many W.g W.w) (1, 1)) {x : Nat × Nat} (hx : 0 < x.2) (hx1 : x.1 < x.2) (h1 : ¬ ltF x p.1) (h2 : ltF x p.2) : prickedL many W x.1 x.2 = prickedL many W p.1.1 p.1.2 := by
  unfold prickedL
  congr 1
  symm
  obtain ⟨a0, _, a1, _⟩ := marks_bnd hW hm (pairs_fst hp)
  have no : ∀ (t : Nat × Nat) (h : Nat), t ∈ turnsL many W.g W.w → halfOf p.1.1 p.1.2 t.1 t.2 < h → h ≤ halfOf x.1 x.2 t.1 t.2 → h ≤ 2 * many → h % 2 = 0 → False := by
    intro t h ht l1 l2 l3 l4
    obtain ⟨_, _, t4⟩ := turnsL_bnd hW hm ht
    have t0 : 0 < t.2 := by omega
    have b1 : t.1 ≤ halfOf p.1.1 p.1.2 t.1 t.2 := Nat.le_add_right _ _
    have b2 := half_top (b := t.1) hx hx1 t0
    have hz : lowF (h - t.1) t.2 ∈ marksL many W.g W.w := mark_mem ht (by omega) (by omega) l3 l4
    have c1 : ltF p.1 (lowF (h - t.1) t.2) := by
      rw [lt_low t0]
      exact (half_hi (b := t.1) a0).mp (by omega)
    have c2 : ¬ ltF x (lowF (h - t.1) t.2) := by
      rw [lt_low t0]
      have := (half_lo (p := x.1) (b := t.1) (m := h - t.1) (l := t.2) hx).mp (by omega)
      omega
    have c3 : ltF (lowF (h - t.1) t.2) p.2 := le_ltF (lowF_red t0).2 hx c2 h2
    exact pairs_gap (marksL_sorted hW hm) (fun x hx => (marks_bnd hW hm hx).1) hp hz c1 c3
  refine cellsT_congr fun t ht => ?_
  have mo := turn_mono (b := t.1) (l := t.2) a0 hx h1
  refine ⟨⟨fun z => ?_, fun z => by omega⟩, fun z => ?_⟩
  · rcases Nat.lt_or_ge (halfOf x.1 x.2 t.1 t.2) (2 * many) with w | w
    · exact w
    · exact (no t (2 * many) ht z w (Nat.le_refl _) (by omega)).elim
  · have zx : halfOf x.1 x.2 t.1 t.2 < 2 * many := by
      rcases Nat.lt_or_ge (halfOf x.1 x.2 t.1 t.2) (2 * many) with w | w
      · exact w
      · exact (no t (2 * many) ht z w (Nat.le_refl _) (by omega)).elim
    rcases Nat.lt_or_ge (halfOf p.1.1 p.1.2 t.1 t.2 / 2) (halfOf x.1 x.2 t.1 t.2 / 2) with w | w
    · exact (no t (2 * (halfOf x.1 x.2 t.1 t.2 / 2)) ht (by omega) (by omega) (by omega) (by omega)).elim
    · omega
/-- the one row in which an angle lies -/
theorem rows_find (hW : W.Ok) (hm : many ≤ 30) {x : Nat × Nat} (hx : 0 < x.2) (hx1 : x.1 < x.2) : ∃ r ∈ rowsL many W, r.2.2 = prickedL many W x.1 x.2 ∧ ¬ ltF x r.1 ∧ ltF x r.2.1 ∧ (rowsL many W).filter (fun r => decide (¬ ltF x r.1) && decide (ltF x r.2.1)) = [r] := by
  obtain ⟨r, hr⟩ := marks_hd (many := many) hW hm
  have hs := marksL_sorted (many := many) hW hm
  have hq : ∀ y ∈ marksL many W.g W.w, 0 < y.2 := fun y hy => (marks_bnd hW hm hy).1
  have h1 : ltF x (1, 1) := by unfold ltF; simp only; omega
  have h0 : ¬ ltF x (0, 1) := by unfold ltF; simp only; omega
  have key : ∃ p ∈ pairsL (marksL many W.g W.w) (1, 1), ¬ ltF x p.1 ∧ ltF x p.2 ∧ (pairsL (marksL many W.g W.w) (1, 1)).filter (fun p => decide (¬ ltF x p.1) && decide (ltF x p.2)) = [p] := by
    rw [hr] at hs hq ⊢
    exact pairs_find hx h1 hs hq h0
  obtain ⟨p, hp, k1, k2, k3⟩ := key
  refine ⟨(p.1, p.2, prickedL many W p.1.1 p.1.2), ?_, (row_alike hW hm hp hx hx1 k1 k2).symm, k1, k2, ?_⟩
  · rw [rowsL_eq]
    exact List.mem_map.mpr ⟨p, hp, rfl⟩
  · rw [rowsL_eq, List.filter_map]
    rw [show ((fun r : Row => decide (¬ ltF x r.1) && decide (ltF x r.2.1)) ∘ fun p : (Nat × Nat) × (Nat × Nat) => (p.1, p.2, prickedL many W p.1.1 p.1.2)) = fun p => decide (¬ ltF x p.1) && decide (ltF x p.2) from rfl, k3]
    rfl
end
end N66

/-! N66: a cell's rows are next to one another on the ring. -/
namespace N66
open PySem PySem.Spec L2
theorem turnsF_cover {many w : Nat} : ∀ {n b l h : Nat}, 2 * many - b ≤ n → 1 ≤ l → b ≤ h → h < 2 * many → ∃ t ∈ turnsF many w n b l, t.1 ≤ h ∧ h < t.1 + t.2
  | 0, b, l, h, h1, _, h2, h3 => by omega
  | n + 1, b, l, h, h1, hl, h2, h3 => by
    unfold turnsF
    rw [if_pos (by omega)]
    rcases Nat.lt_or_ge h (b + l) with z | z
    · exact ⟨(b, l), List.mem_cons_self .., h2, z⟩
    · obtain ⟨t, k1, k2⟩ := turnsF_cover (w := w) (n := n) (b := b + l) (l := l + w) (h := h) (by omega) (by omega) z h3
      exact ⟨t, List.mem_cons_of_mem _ k1, k2⟩
section
variable {many : Nat} {W : Wd}
theorem turns_cover (hW : W.Ok) {h : Nat} (hh : h < 2 * many) : ∃ t ∈ turnsL many W.g W.w, t.1 ≤ h ∧ h < t.1 + t.2 := turnsF_cover (by omega) (by have := hW.g4; omega) (Nat.zero_le _) hh
theorem turns_next (hW : W.Ok) {t : Nat × Nat} (ht : t ∈ turnsL many W.g W.w) (t0 : 0 < t.2) (h : t.1 + t.2 < 2 * many) : ∃ l, (t.1 + t.2, l) ∈ turnsL many W.g W.w := by
  obtain ⟨u, hu, h1, h2⟩ := turns_cover hW h
  have : u.1 = t.1 + t.2 := by
    rcases Nat.lt_or_ge u.1 (t.1 + t.2) with z | z
    · have e := turnsL_one (h := t.1 + t.2 - 1) ht hu (by omega) (by omega) (by omega) (by omega)
      rw [← e] at h2
      omega
    · omega
  exact ⟨u.2, by rw [← this]; exact hu⟩
/-- which angles prick a cell -/
theorem prk_cases (hW : W.Ok) (hm : many ≤ 30) {c : Nat} (hc : c < many) :
    (∃ A ∈ marksL many W.g W.w, ∃ B : Nat × Nat, (B ∈ marksL many W.g W.w ∨ B = (1, 1)) ∧ ltF A B ∧ ∀ x : Nat × Nat, 0 < x.2 → x.1 < x.2 → (Prk many W x c ↔ ¬ ltF x A ∧ ltF x B)) ∨
    (∃ A ∈ marksL many W.g W.w, ∃ B ∈ marksL many W.g W.w, ltF B A ∧ ltF (0, 1) B ∧ ∀ x : Nat × Nat, 0 < x.2 → x.1 < x.2 → (Prk many W x c ↔ ¬ ltF x A ∨ ltF x B)) := by
  obtain ⟨⟨b, l⟩, ht, h1, h2⟩ := turns_cover (many := many) hW (h := 2 * c) (by omega)
  obtain ⟨_, _, l4⟩ := turnsL_bnd hW hm ht
  simp only at h1 h2 l4
  have l0 : 0 < l := by omega
  have hA : lowF (2 * c - b) l ∈ marksL many W.g W.w := mark_mem (t := (b, l)) ht h1 h2 (by omega) (by omega)
  -- a half of this turn at x
  have onT : ∀ {x : Nat × Nat} {u : Nat × Nat} {h : Nat}, 0 < x.2 → x.1 < x.2 → u ∈ turnsL many W.g W.w → halfOf x.1 x.2 u.1 u.2 = h → u.1 ≤ h ∧ h < u.1 + u.2 := by
    intro x u h hx hx1 hu e
    obtain ⟨_, _, u4⟩ := turnsL_bnd hW hm hu
    have := half_top (b := u.1) hx hx1 (l := u.2) (by omega)
    have b1 : u.1 ≤ halfOf x.1 x.2 u.1 u.2 := Nat.le_add_right _ _
    omega
  have lo : ∀ {x : Nat × Nat}, 0 < x.2 → (¬ ltF x (lowF (2 * c - b) l) ↔ 2 * c ≤ halfOf x.1 x.2 b l) := by
    intro x hx
    rw [lt_low l0, Nat.not_lt, ← half_lo (b := b) hx]
    rw [Nat.add_sub_cancel' h1]
  by_cases hs : 2 * c + 1 < b + l
  · left
    have one : ∀ x : Nat × Nat, 0 < x.2 → x.1 < x.2 → (Prk many W x c ↔ 2 * c ≤ halfOf x.1 x.2 b l ∧ halfOf x.1 x.2 b l < 2 * c + 2) := by
      intro x hx hx1
      constructor
      · rintro ⟨u, hu, k1, k2⟩
        obtain ⟨k3, k4⟩ := onT hx hx1 hu rfl
        have : u = (b, l) := by
          have hh : halfOf x.1 x.2 u.1 u.2 = 2 * c ∨ halfOf x.1 x.2 u.1 u.2 = 2 * c + 1 := by omega
          rcases hh with hh | hh
          · exact turnsL_one (h := 2 * c) hu ht (by omega) (by omega) h1 h2
          · exact turnsL_one (h := 2 * c + 1) hu ht (by omega) (by omega) (by simp only; omega) (by simp only; omega)
        subst this
        simp only at k2
        omega
      · rintro ⟨k1, k2⟩
        exact ⟨(b, l), ht, by simp only; omega, by simp only; omega⟩
    by_cases hb : 2 * c + 2 < b + l
    · refine ⟨_, hA, lowF (2 * c + 2 - b) l, .inl (mark_mem (t := (b, l)) ht (by simp only; omega) hb (by omega) (by omega)), ?_, fun x hx hx1 => ?_⟩
      · rw [lt_low l0]
        have e := lowF_eq (p := 2 * c - b) l0
        have := (lowF_red (p := 2 * c - b) l0).2
        rw [e]
        exact Nat.mul_lt_mul_of_pos_right (by omega) this
      · rw [one x hx hx1, lo hx, lt_low l0, ← half_hi (b := b) hx, show b + (2 * c + 2 - b) = 2 * c + 2 by omega]
    · refine ⟨_, hA, (1, 1), .inr rfl, marks_one hW hm hA, fun x hx hx1 => ?_⟩
      have t1 := half_top (b := b) hx hx1 l0
      have t2 : ltF x (1, 1) := by unfold ltF; simp only; omega
      rw [one x hx hx1, lo hx]
      constructor
      · exact fun h => ⟨h.1, t2⟩
      · exact fun h => ⟨h.1, by omega⟩
  · right
    have hbl : b + l = 2 * c + 1 := by omega
    obtain ⟨l2, ht2⟩ := turns_next hW ht l0 (by simp only; omega)
    simp only at ht2
    rw [hbl] at ht2
    obtain ⟨_, _, l24⟩ := turnsL_bnd hW hm ht2
    simp only at l24
    have l20 : 0 < l2 := by omega
    have hB : lowF (2 * c + 2 - (2 * c + 1)) l2 ∈ marksL many W.g W.w := mark_mem (t := (2 * c + 1, l2)) ht2 (by simp only; omega) (by simp only; omega) (by omega) (by omega)
    rw [show 2 * c + 2 - (2 * c + 1) = 1 by omega] at hB
    refine ⟨_, hA, _, hB, ?_, ?_, fun x hx hx1 => ?_⟩
    · rw [lt_low l0]
      have e := lowF_eq (p := 1) l20
      have r := (lowF_red (p := 1) l20).2
      -- (lowF 1 l2).1 * l < (l - 1) * (lowF 1 l2).2
      refine Nat.lt_of_mul_lt_mul_right (a := l2) ?_
      rw [Nat.mul_right_comm, e, Nat.one_mul, Nat.mul_right_comm, Nat.mul_comm ((2 * c - b) * l2)]
      refine Nat.mul_lt_mul_of_pos_left ?_ r
      rw [show 2 * c - b = l - 1 by omega]
      have : (l - 1) * 4 ≤ (l - 1) * l2 := Nat.mul_le_mul_left _ l24
      omega
    · rw [lt_low l20]
      simp
    · rw [lo hx, lt_low l20, ← half_hi (b := 2 * c + 1) hx]
      constructor
      · rintro ⟨u, hu, k1, k2⟩
        obtain ⟨k3, k4⟩ := onT hx hx1 hu rfl
        have hh : halfOf x.1 x.2 u.1 u.2 = 2 * c ∨ halfOf x.1 x.2 u.1 u.2 = 2 * c + 1 := by omega
        rcases hh with hh | hh
        · have : u = (b, l) := turnsL_one (h := 2 * c) hu ht (by omega) (by omega) h1 h2
          subst this
          simp only at hh
          exact .inl (by omega)
        · have : u = (2 * c + 1, l2) := turnsL_one (h := 2 * c + 1) hu ht2 (by omega) (by omega) (by simp only; omega) (by simp only; omega)
          subst this
          simp only at hh
          exact .inr (by omega)
      · rintro (h | h)
        · have := half_top (b := b) hx hx1 l0
          exact ⟨(b, l), ht, by simp only; omega, by simp only; omega⟩
        · have b1 : 2 * c + 1 ≤ halfOf x.1 x.2 (2 * c + 1) l2 := Nat.le_add_right _ _
          exact ⟨(2 * c + 1, l2), ht2, by simp only; omega, by simp only; omega⟩
end
/-! ### places in a sorted list -/
theorem at_le {M : List (Nat × Nat)} (hs : M.Pairwise ltF) {p i : Nat} {A x : Nat × Nat} (hp : M[p]? = some A) (hi : M[i]? = some x) : ¬ ltF x A ↔ p ≤ i := by
  obtain ⟨a1, rfl⟩ := List.getElem?_eq_some_iff.mp hp
  obtain ⟨a2, rfl⟩ := List.getElem?_eq_some_iff.mp hi
  constructor
  · intro h
    rcases Nat.lt_or_ge i p with z | z
    · exact absurd (List.pairwise_iff_getElem.mp hs i p a2 a1 z) h
    · exact z
  · intro h
    rcases Nat.lt_or_ge p i with z | z
    · exact ltF_asym _ _ (List.pairwise_iff_getElem.mp hs p i a1 a2 z)
    · obtain rfl : p = i := by omega
      exact ltF_irr _
theorem at_lt {M : List (Nat × Nat)} (hs : M.Pairwise ltF) {p i : Nat} {A x : Nat × Nat} (hp : M[p]? = some A) (hi : M[i]? = some x) : ltF x A ↔ i < p := by
  have := at_le hs hp hi
  constructor
  · intro h
    rcases Nat.lt_or_ge i p with z | z
    · exact z
    · exact absurd h (this.mpr z)
  · intro h
    by_cases z : ltF x A
    · exact z
    · have := this.mp z; omega
/-! ### how often a run changes, round the ring -/
def prevI (n i : Nat) : Nat := if i = 0 then n - 1 else i - 1
def chgs (n : Nat) (f : Nat → Bool) : Nat := ((List.range n).filter fun i => f i != f (prevI n i)).length
theorem filt_or {α : Type} {a b : α → Bool} : ∀ {l : List α}, (∀ x ∈ l, ¬ (a x = true ∧ b x = true)) → (l.filter fun x => a x || b x).length = (l.filter a).length + (l.filter b).length
  | [], _ => rfl
  | x :: l, h => by
    have ih := filt_or (a := a) (b := b) fun y hy => h y (List.mem_cons_of_mem _ hy)
    have hx := h x (List.mem_cons_self ..)
    simp only [List.filter_cons]
    cases ha : a x <;> cases hb : b x <;> simp [ih] <;> first | omega | (exact absurd ⟨ha, hb⟩ hx)
theorem filt_eq {n p : Nat} (h : p < n) : ((List.range n).filter fun i => decide (i = p)).length = 1 := by
  induction n with
  | zero => omega
  | succ n ih =>
    rw [List.range_succ, List.filter_append, List.length_append]
    by_cases hn : p = n
    · subst hn
      rw [show ((List.range p).filter fun i => decide (i = p)) = [] from by
        rw [List.filter_eq_nil_iff]
        intro i hi
        have := List.mem_range.mp hi
        simp only [decide_eq_true_eq]; omega]
      simp
    · rw [ih (by omega)]
      simp [Ne.symm hn]
theorem chgs_two {n p q : Nat} {f : Nat → Bool} (hp : p < n) (hq : q < n) (hpq : p ≠ q) (h : ∀ i, i < n → ((f i != f (prevI n i)) = true ↔ i = p ∨ i = q)) : chgs n f = 2 := by
  unfold chgs
  have : ((List.range n).filter fun i => f i != f (prevI n i)) = (List.range n).filter fun i => decide (i = p) || decide (i = q) := by
    refine List.filter_congr fun i hi => ?_
    have := h i (List.mem_range.mp hi)
    rw [Bool.eq_iff_iff, this]
    simp
  rw [this, filt_or (fun x _ => by simp only [decide_eq_true_eq]; omega), filt_eq hp, filt_eq hq]
theorem chgs_none {n : Nat} {f : Nat → Bool} (h : ∀ i, i < n → f i = f (prevI n i)) : chgs n f = 0 := by
  unfold chgs
  rw [List.filter_eq_nil_iff.mpr]
  · rfl
  · intro i hi
    rw [h i (List.mem_range.mp hi)]
    simp
theorem chgs_run {n p q : Nat} {f : Nat → Bool} (hpq : p < q) (hq : q ≤ n) (h : ∀ i, i < n → (f i = true ↔ p ≤ i ∧ i < q)) : chgs n f = 0 ∨ chgs n f = 2 := by
  have hf : ∀ i, i < n → f i = decide (p ≤ i ∧ i < q) := fun i hi => by rw [Bool.eq_iff_iff, h i hi]; simp
  have hpr : ∀ i, i < n → prevI n i < n := fun i hi => by unfold prevI; split <;> omega
  rcases Nat.eq_zero_or_pos p with p0 | p0
  · rcases Nat.lt_or_ge q n with z | z
    · right
      refine chgs_two (p := 0) (q := q) (by omega) z (by omega) fun i hi => ?_
      rw [hf i hi, hf _ (hpr i hi), bne_iff_ne, ne_eq, decide_eq_decide]
      unfold prevI
      split <;> omega
    · left
      refine chgs_none fun i hi => ?_
      rw [hf i hi, hf _ (hpr i hi), decide_eq_decide]
      unfold prevI
      split <;> omega
  · right
    rcases Nat.lt_or_ge q n with z | z
    · refine chgs_two (p := p) (q := q) (by omega) z (by omega) fun i hi => ?_
      rw [hf i hi, hf _ (hpr i hi), bne_iff_ne, ne_eq, decide_eq_decide]
      unfold prevI
      split <;> omega
    · refine chgs_two (p := 0) (q := p) (by omega) (by omega) (by omega) fun i hi => ?_
      rw [hf i hi, hf _ (hpr i hi), bne_iff_ne, ne_eq, decide_eq_decide]
      unfold prevI
      split <;> omega
theorem chgs_gap {n p q : Nat} {f : Nat → Bool} (hq0 : 0 < q) (hpq : q < p) (hq : p < n) (h : ∀ i, i < n → (f i = true ↔ p ≤ i ∨ i < q)) : chgs n f = 0 ∨ chgs n f = 2 := by
  have hf : ∀ i, i < n → f i = decide (p ≤ i ∨ i < q) := fun i hi => by rw [Bool.eq_iff_iff, h i hi]; simp
  have hpr : ∀ i, i < n → prevI n i < n := fun i hi => by unfold prevI; split <;> omega
  right
  refine chgs_two (p := p) (q := q) (by omega) (by omega) (by omega) fun i hi => ?_
  rw [hf i hi, hf _ (hpr i hi), bne_iff_ne, ne_eq, decide_eq_decide]
  unfold prevI
  split <;> omega
section
variable {many : Nat} {W : Wd}
theorem pairsL_len {e : Nat × Nat} : ∀ {M : List (Nat × Nat)}, (pairsL M e).length = M.length
  | [] => rfl
  | [m] => rfl
  | m :: m2 :: r => by rw [pairsL_cons, List.length_cons, pairsL_len (M := m2 :: r)]; rfl
theorem rowsL_length : (rowsL many W).length = (marksL many W.g W.w).length := by rw [rowsL_eq, List.length_map, pairsL_len]
/-- a cell's rows -/
theorem one_piece (hW : W.Ok) (hm : many ≤ 30) {c : Nat} (hc : c < many) (f : Nat → Bool) (hf : ∀ i x, (marksL many W.g W.w)[i]? = some x → (f i = true ↔ Prk many W x c)) :
    (chgs (marksL many W.g W.w).length f = 0 ∨ chgs (marksL many W.g W.w).length f = 2) ∧ ∃ i, i < (marksL many W.g W.w).length ∧ f i = true := by
  have hs := marksL_sorted (many := many) hW hm
  have prk : ∀ i, i < (marksL many W.g W.w).length → ∃ x, (marksL many W.g W.w)[i]? = some x ∧ 0 < x.2 ∧ x.1 < x.2 := fun i hi => by
    have e := List.getElem?_eq_getElem hi
    obtain ⟨a, _, b, _⟩ := marks_bnd hW hm (List.mem_of_getElem? e)
    exact ⟨_, e, a, b⟩
  rcases prk_cases (many := many) hW hm hc with ⟨A, hA, B, hB, hAB, h⟩ | ⟨A, hA, B, hB, hAB, h0, h⟩
  · obtain ⟨p, hp⟩ := List.getElem?_of_mem hA
    have hpn := (List.getElem?_eq_some_iff.mp hp).1
    obtain ⟨q, hq, hpq, hqB⟩ : ∃ q, q ≤ (marksL many W.g W.w).length ∧ p < q ∧ ∀ i x, (marksL many W.g W.w)[i]? = some x → (ltF x B ↔ i < q) := by
      rcases hB with hB | hB
      · obtain ⟨q, hq⟩ := List.getElem?_of_mem hB
        exact ⟨q, Nat.le_of_lt (List.getElem?_eq_some_iff.mp hq).1, (at_lt hs hq hp).mp hAB, fun i x hx => at_lt hs hq hx⟩
      · subst hB
        exact ⟨_, Nat.le_refl _, hpn, fun i x hx => ⟨fun _ => (List.getElem?_eq_some_iff.mp hx).1, fun _ => marks_one hW hm (List.mem_of_getElem? hx)⟩⟩
    have key : ∀ i, i < (marksL many W.g W.w).length → (f i = true ↔ p ≤ i ∧ i < q) := fun i hi => by
      obtain ⟨x, hx, x0, x1⟩ := prk i hi
      rw [hf i x hx, h x x0 x1, at_le hs hp hx, hqB i x hx]
    exact ⟨chgs_run hpq hq key, p, hpn, (key p hpn).mpr ⟨Nat.le_refl _, hpq⟩⟩
  · obtain ⟨p, hp⟩ := List.getElem?_of_mem hA
    obtain ⟨q, hq⟩ := List.getElem?_of_mem hB
    have hpn := (List.getElem?_eq_some_iff.mp hp).1
    have key : ∀ i, i < (marksL many W.g W.w).length → (f i = true ↔ p ≤ i ∨ i < q) := fun i hi => by
      obtain ⟨x, hx, x0, x1⟩ := prk i hi
      rw [hf i x hx, h x x0 x1, at_le hs hp hx, at_lt hs hq hx]
    have hqp := (at_lt hs hp hq).mp hAB
    have q0 : 0 < q := by
      obtain ⟨r, hr⟩ := marks_hd (many := many) hW hm
      have e0 : (marksL many W.g W.w)[0]? = some (0, 1) := by rw [hr]; rfl
      exact (at_lt hs hq e0).mp h0
    exact ⟨chgs_gap q0 hqp hpn key, p, hpn, (key p hpn).mpr (.inl (Nat.le_refl _))⟩
end
end N66

/-! N66: the second law's looks at the rows. -/
namespace N66
open PySem PySem.Spec L2
theorem rngD_0 (n : Nat) : rngD 0 (n : Int) = (List.range n).map fun i : Nat => D.int i := by
  unfold rngD
  simp
theorem inD_ints {x : Int} : ∀ {ys : List Int}, inD (.int x) (ys.map D.int) = decide (x ∈ ys)
  | [] => by simp [inD]
  | y :: ys => by
    have ih := inD_ints (x := x) (ys := ys)
    unfold inD at ih ⊢
    rw [List.map_cons, List.any_cons, ih]
    simp only [eqD, List.mem_cons, Bool.decide_or]
    congr 1
    rw [Bool.eq_iff_iff]
    simp only [beq_iff_eq, decide_eq_true_eq]
    exact ⟨fun h => h.symm, fun h => h.symm⟩
theorem flat_ints {xs : List Int} (n : Nat) : ∀ y ∈ xs.map D.int, Flat n y := fun y hy => by
  obtain ⟨i, _, rfl⟩ := List.mem_map.mp hy
  exact flat_int n i
def bitI (b : Bool) : Int := if b then 1 else 0
theorem bitI_ne (a b : Bool) : (!eqD (.int (bitI a)) (.int (bitI b))) = (a != b) := by
  cases a <;> cases b <;> rfl
theorem w_law_in_one_piece (T : Tab) (mo : MoTab T) (ss : List S) (os : List O) (Q : R → List O → Prop) (h : spOnePiece ss os Q) : bodyW T p_law_in_one_piece 6 ss os Q := by
  obtain ⟨many, W, c, rfl, hW, hm1, hm, hc, h⟩ := h
  simp only [p_law_in_one_piece, bodyW, e_var, e_cst, e_dct, e_bin, e_neg, e_not, e_cmp, e_cmp2, e_and, e_or, e_ite, e_tup, e_lst, e_idx, e_slc, e_rev, e_fn, e_call, es_nil, es_cons, o_none, o_some, t_tt, t_and, t_or, t_not, t_val, i_seq, i_rng, i_enm, i_zip, p_nil, p_cons, s_set, s_setO, s_unp, s_par, s_aug, s_ext, s_iff, s_ret, s_app, s_pop, s_stL, s_stD, s_appN, s_popN, s_drop, s_cont, s_brk, ss_nil, ss_cons, getS, setS, setPs, rs_val, rs_obj, rs_new, rsv_d, rsv_last, b_add, b_addL, b_addT, b_sub, b_mul, b_div, b_mod, b_pow, c_eq, c_ne, c_lt, c_le, c_gt, c_ge, c_inL, c_inT, c_niL, c_niT, c_isB, c_isN, c_isI, c_isT, c_inN, c_inI, c_inTu, tr_non, tr_bl, tr_int, tr_lst, tr_tup, x_lst, x_tup, sl_l, sl_t, rv_l, nw_f, nw_t, au_add, au_sub, au_mul, la_last, bd_nm, bd_tp, sq_l, sq_t, f_len, f_isi, f_sortD, f_sortO, f_tupL, f_tupO, f_lstT, f_lstL, f_lstD, f_min2, f_minL, f_all, f_any, f_intB, f_str, z_ll, z_tt, ad_nil, ad_cons, objAt, setAll, wipeA, wipeS, List.map_cons, List.map_nil, List.length_cons, List.length_nil, List.replicate, List.cons_append, List.nil_append, Nat.zero_add, Nat.reduceAdd, Nat.reduceSub, Wd.d, tupI, frI, prI, ixD, at3_0, at3_1, at3_2, at2_0, at2_1, eqD, Flat, and_true, true_and, and_self, if_true, if_false, Bool.false_eq_true, reduceIte]
  have hl : (rowsL many W).length ≤ lim := Nat.le_trans (rowsL_len hm) (by decide)
  -- the marks
  refine lc_mapL mo (rowsL many W) rowI (fun r => .int (bitI (decide ((c : Int) ∈ r.2.2)))) ?_ hl (fun r _ => ?_) ?_
  · simp only [bodyW, e_var, e_cst, e_dct, e_bin, e_neg, e_not, e_cmp, e_cmp2, e_and, e_or, e_ite, e_tup, e_lst, e_idx, e_slc, e_rev, e_fn, e_call, es_nil, es_cons, o_none, o_some, t_tt, t_and, t_or, t_not, t_val, i_seq, i_rng, i_enm, i_zip, p_nil, p_cons, s_set, s_setO, s_unp, s_par, s_aug, s_ext, s_iff, s_ret, s_app, s_pop, s_stL, s_stD, s_appN, s_popN, s_drop, s_cont, s_brk, ss_nil, ss_cons, getS, setS, setPs, rs_val, rs_obj, rs_new, rsv_d, rsv_last, b_add, b_addL, b_addT, b_sub, b_mul, b_div, b_mod, b_pow, c_eq, c_ne, c_lt, c_le, c_gt, c_ge, c_inL, c_inT, c_niL, c_niT, c_isB, c_isN, c_isI, c_isT, c_inN, c_inI, c_inTu, tr_non, tr_bl, tr_int, tr_lst, tr_tup, x_lst, x_tup, sl_l, sl_t, rv_l, nw_f, nw_t, au_add, au_sub, au_mul, la_last, bd_nm, bd_tp, sq_l, sq_t, f_len, f_isi, f_sortD, f_sortO, f_tupL, f_tupO, f_lstT, f_lstL, f_lstD, f_min2, f_minL, f_all, f_any, f_intB, f_str, z_ll, z_tt, ad_nil, ad_cons, objAt, setAll, wipeA, wipeS, List.map_cons, List.map_nil, List.length_cons, List.length_nil, List.replicate, List.cons_append, List.nil_append, Nat.zero_add, Nat.reduceAdd, Nat.reduceSub, Wd.d, tupI, frI, prI, ixD, at3_0, at3_1, at3_2, at2_0, at2_1, eqD, Flat, and_true, true_and, and_self, if_true, if_false, Bool.false_eq_true, reduceIte]
  · simp only [bodyW, e_var, e_cst, e_dct, e_bin, e_neg, e_not, e_cmp, e_cmp2, e_and, e_or, e_ite, e_tup, e_lst, e_idx, e_slc, e_rev, e_fn, e_call, es_nil, es_cons, o_none, o_some, t_tt, t_and, t_or, t_not, t_val, i_seq, i_rng, i_enm, i_zip, p_nil, p_cons, s_set, s_setO, s_unp, s_par, s_aug, s_ext, s_iff, s_ret, s_app, s_pop, s_stL, s_stD, s_appN, s_popN, s_drop, s_cont, s_brk, ss_nil, ss_cons, getS, setS, setPs, rs_val, rs_obj, rs_new, rsv_d, rsv_last, b_add, b_addL, b_addT, b_sub, b_mul, b_div, b_mod, b_pow, c_eq, c_ne, c_lt, c_le, c_gt, c_ge, c_inL, c_inT, c_niL, c_niT, c_isB, c_isN, c_isI, c_isT, c_inN, c_inI, c_inTu, tr_non, tr_bl, tr_int, tr_lst, tr_tup, x_lst, x_tup, sl_l, sl_t, rv_l, nw_f, nw_t, au_add, au_sub, au_mul, la_last, bd_nm, bd_tp, sq_l, sq_t, f_len, f_isi, f_sortD, f_sortO, f_tupL, f_tupO, f_lstT, f_lstL, f_lstD, f_min2, f_minL, f_all, f_any, f_intB, f_str, z_ll, z_tt, ad_nil, ad_cons, objAt, setAll, wipeA, wipeS, List.map_cons, List.map_nil, List.length_cons, List.length_nil, List.replicate, List.cons_append, List.nil_append, Nat.zero_add, Nat.reduceAdd, Nat.reduceSub, Wd.d, tupI, frI, prI, ixD, at3_0, at3_1, at3_2, at2_0, at2_1, eqD, Flat, and_true, true_and, and_self, if_true, if_false, Bool.false_eq_true, reduceIte, rowI, inD_ints]
    exact ⟨flat_ints 0, rfl⟩
  simp only [bodyW, e_var, e_cst, e_dct, e_bin, e_neg, e_not, e_cmp, e_cmp2, e_and, e_or, e_ite, e_tup, e_lst, e_idx, e_slc, e_rev, e_fn, e_call, es_nil, es_cons, o_none, o_some, t_tt, t_and, t_or, t_not, t_val, i_seq, i_rng, i_enm, i_zip, p_nil, p_cons, s_set, s_setO, s_unp, s_par, s_aug, s_ext, s_iff, s_ret, s_app, s_pop, s_stL, s_stD, s_appN, s_popN, s_drop, s_cont, s_brk, ss_nil, ss_cons, getS, setS, setPs, rs_val, rs_obj, rs_new, rsv_d, rsv_last, b_add, b_addL, b_addT, b_sub, b_mul, b_div, b_mod, b_pow, c_eq, c_ne, c_lt, c_le, c_gt, c_ge, c_inL, c_inT, c_niL, c_niT, c_isB, c_isN, c_isI, c_isT, c_inN, c_inI, c_inTu, tr_non, tr_bl, tr_int, tr_lst, tr_tup, x_lst, x_tup, sl_l, sl_t, rv_l, nw_f, nw_t, au_add, au_sub, au_mul, la_last, bd_nm, bd_tp, sq_l, sq_t, f_len, f_isi, f_sortD, f_sortO, f_tupL, f_tupO, f_lstT, f_lstL, f_lstD, f_min2, f_minL, f_all, f_any, f_intB, f_str, z_ll, z_tt, ad_nil, ad_cons, objAt, setAll, wipeA, wipeS, List.map_cons, List.map_nil, List.length_cons, List.length_nil, List.replicate, List.cons_append, List.nil_append, Nat.zero_add, Nat.reduceAdd, Nat.reduceSub, Wd.d, tupI, frI, prI, ixD, at3_0, at3_1, at3_2, at2_0, at2_1, eqD, Flat, and_true, true_and, and_self, if_true, if_false, Bool.false_eq_true, reduceIte]
  -- the turns
  let f : Nat → Bool := fun i => match (rowsL many W)[i]? with
    | some r => decide ((c : Int) ∈ r.2.2)
    | none => false
  have fget : ∀ i, i < (rowsL many W).length → atI ((rowsL many W).map fun r => D.int (bitI (decide ((c : Int) ∈ r.2.2)))) ((i : Nat) : Int) = some (.int (bitI (f i))) := fun i hi => by
    refine ixI ?_
    rw [List.getElem?_map]
    simp only [f, List.getElem?_eq_getElem hi]
    rfl
  have n0 : 0 < (rowsL many W).length := by
    rw [rowsL_length]
    obtain ⟨r, hr⟩ := marks_hd (many := many) hW hm
    rw [hr]
    simp
  refine lc_filL mo (List.range (rowsL many W).length) (fun i : Nat => .int i) (fun _ => .int 1) (fun i => f i != f (prevI (rowsL many W).length i)) ?_ (by rw [List.length_range]; exact hl) (fun i hi => ?_) ?_
  · simp only [bodyW, e_var, e_cst, e_dct, e_bin, e_neg, e_not, e_cmp, e_cmp2, e_and, e_or, e_ite, e_tup, e_lst, e_idx, e_slc, e_rev, e_fn, e_call, es_nil, es_cons, o_none, o_some, t_tt, t_and, t_or, t_not, t_val, i_seq, i_rng, i_enm, i_zip, p_nil, p_cons, s_set, s_setO, s_unp, s_par, s_aug, s_ext, s_iff, s_ret, s_app, s_pop, s_stL, s_stD, s_appN, s_popN, s_drop, s_cont, s_brk, ss_nil, ss_cons, getS, setS, setPs, rs_val, rs_obj, rs_new, rsv_d, rsv_last, b_add, b_addL, b_addT, b_sub, b_mul, b_div, b_mod, b_pow, c_eq, c_ne, c_lt, c_le, c_gt, c_ge, c_inL, c_inT, c_niL, c_niT, c_isB, c_isN, c_isI, c_isT, c_inN, c_inI, c_inTu, tr_non, tr_bl, tr_int, tr_lst, tr_tup, x_lst, x_tup, sl_l, sl_t, rv_l, nw_f, nw_t, au_add, au_sub, au_mul, la_last, bd_nm, bd_tp, sq_l, sq_t, f_len, f_isi, f_sortD, f_sortO, f_tupL, f_tupO, f_lstT, f_lstL, f_lstD, f_min2, f_minL, f_all, f_any, f_intB, f_str, z_ll, z_tt, ad_nil, ad_cons, objAt, setAll, wipeA, wipeS, List.map_cons, List.map_nil, List.length_cons, List.length_nil, List.replicate, List.cons_append, List.nil_append, Nat.zero_add, Nat.reduceAdd, Nat.reduceSub, Wd.d, tupI, frI, prI, ixD, at3_0, at3_1, at3_2, at2_0, at2_1, eqD, Flat, and_true, true_and, and_self, if_true, if_false, Bool.false_eq_true, reduceIte, List.length_map, rngD_0]
    unfold lim at hl
    omega
  · have hi := List.mem_range.mp hi
    simp only [bodyW, e_var, e_cst, e_dct, e_bin, e_neg, e_not, e_cmp, e_cmp2, e_and, e_or, e_ite, e_tup, e_lst, e_idx, e_slc, e_rev, e_fn, e_call, es_nil, es_cons, o_none, o_some, t_tt, t_and, t_or, t_not, t_val, i_seq, i_rng, i_enm, i_zip, p_nil, p_cons, s_set, s_setO, s_unp, s_par, s_aug, s_ext, s_iff, s_ret, s_app, s_pop, s_stL, s_stD, s_appN, s_popN, s_drop, s_cont, s_brk, ss_nil, ss_cons, getS, setS, setPs, rs_val, rs_obj, rs_new, rsv_d, rsv_last, b_add, b_addL, b_addT, b_sub, b_mul, b_div, b_mod, b_pow, c_eq, c_ne, c_lt, c_le, c_gt, c_ge, c_inL, c_inT, c_niL, c_niT, c_isB, c_isN, c_isI, c_isT, c_inN, c_inI, c_inTu, tr_non, tr_bl, tr_int, tr_lst, tr_tup, x_lst, x_tup, sl_l, sl_t, rv_l, nw_f, nw_t, au_add, au_sub, au_mul, la_last, bd_nm, bd_tp, sq_l, sq_t, f_len, f_isi, f_sortD, f_sortO, f_tupL, f_tupO, f_lstT, f_lstL, f_lstD, f_min2, f_minL, f_all, f_any, f_intB, f_str, z_ll, z_tt, ad_nil, ad_cons, objAt, setAll, wipeA, wipeS, List.map_cons, List.map_nil, List.length_cons, List.length_nil, List.replicate, List.cons_append, List.nil_append, Nat.zero_add, Nat.reduceAdd, Nat.reduceSub, Wd.d, tupI, frI, prI, ixD, at3_0, at3_1, at3_2, at2_0, at2_1, eqD, Flat, and_true, true_and, and_self, if_true, if_false, Bool.false_eq_true, reduceIte]
    rw [fget i hi]
    have hp : atI ((rowsL many W).map fun r => D.int (bitI (decide ((c : Int) ∈ r.2.2)))) ((i : Int) - 1) = some (.int (bitI (f (prevI (rowsL many W).length i)))) := by
      unfold prevI
      split
      · rename_i e
        subst e
        have hsp : ∃ ds, ((rowsL many W).map fun r => D.int (bitI (decide ((c : Int) ∈ r.2.2)))) = ds ++ [D.int (bitI (f ((rowsL many W).length - 1)))] := by
          refine ⟨((rowsL many W).map fun r => D.int (bitI (decide ((c : Int) ∈ r.2.2)))).dropLast, ?_⟩
          have hne : ((rowsL many W).map fun r => D.int (bitI (decide ((c : Int) ∈ r.2.2)))) ≠ [] := fun z => by
            have := congrArg List.length z
            rw [List.length_map] at this
            simp only [List.length_nil] at this
            omega
          conv => lhs; rw [← List.dropLast_concat_getLast hne]
          congr 2
          rw [List.getLast_eq_getElem]
          simp only [List.getElem_map, List.length_map, f]
          rw [List.getElem?_eq_getElem (by omega)]
        obtain ⟨ds, hd⟩ := hsp
        rw [hd]
        exact at_last1 _ _
      · rename_i e
        rw [show ((i : Int) - 1) = ((i - 1 : Nat) : Int) by omega]
        exact fget _ (by omega)
    rw [hp]
    simp only [bodyW, e_var, e_cst, e_dct, e_bin, e_neg, e_not, e_cmp, e_cmp2, e_and, e_or, e_ite, e_tup, e_lst, e_idx, e_slc, e_rev, e_fn, e_call, es_nil, es_cons, o_none, o_some, t_tt, t_and, t_or, t_not, t_val, i_seq, i_rng, i_enm, i_zip, p_nil, p_cons, s_set, s_setO, s_unp, s_par, s_aug, s_ext, s_iff, s_ret, s_app, s_pop, s_stL, s_stD, s_appN, s_popN, s_drop, s_cont, s_brk, ss_nil, ss_cons, getS, setS, setPs, rs_val, rs_obj, rs_new, rsv_d, rsv_last, b_add, b_addL, b_addT, b_sub, b_mul, b_div, b_mod, b_pow, c_eq, c_ne, c_lt, c_le, c_gt, c_ge, c_inL, c_inT, c_niL, c_niT, c_isB, c_isN, c_isI, c_isT, c_inN, c_inI, c_inTu, tr_non, tr_bl, tr_int, tr_lst, tr_tup, x_lst, x_tup, sl_l, sl_t, rv_l, nw_f, nw_t, au_add, au_sub, au_mul, la_last, bd_nm, bd_tp, sq_l, sq_t, f_len, f_isi, f_sortD, f_sortO, f_tupL, f_tupO, f_lstT, f_lstL, f_lstD, f_min2, f_minL, f_all, f_any, f_intB, f_str, z_ll, z_tt, ad_nil, ad_cons, objAt, setAll, wipeA, wipeS, List.map_cons, List.map_nil, List.length_cons, List.length_nil, List.replicate, List.cons_append, List.nil_append, Nat.zero_add, Nat.reduceAdd, Nat.reduceSub, Wd.d, tupI, frI, prI, ixD, at3_0, at3_1, at3_2, at2_0, at2_1, eqD, Flat, and_true, true_and, and_self, if_true, if_false, Bool.false_eq_true, reduceIte]
    exact ⟨by rw [← bitI_ne]; rfl, fun _ => trivial⟩
  · -- the answer
    obtain ⟨c', hc', ec⟩ : ∃ c', c' < many ∧ (c : Int) = cellE many W.e c' := by
      by_cases he : W.e = 0
      · exact ⟨c, hc, by simp [cellE, he]⟩
      · exact ⟨many - 1 - c, by omega, by simp only [cellE, he, if_false]; omega⟩
    obtain ⟨k1, i, k2, k3⟩ := one_piece (many := many) hW hm hc' f fun i x hx => by
      have hi := (List.getElem?_eq_some_iff.mp hx).1
      rw [← rowsL_length] at hi
      have hr := List.getElem?_eq_getElem hi
      obtain ⟨g1, _, g3⟩ := rowsL_get hr
      rw [hx] at g1
      have g1 := Option.some.inj g1
      simp only [f, hr, decide_eq_true_eq]
      rw [g3, ← g1, ec]
      exact pricked_iff
    rw [← rowsL_length] at k1 k2
    unfold chgs at k1
    simp only [bodyW, e_var, e_cst, e_dct, e_bin, e_neg, e_not, e_cmp, e_cmp2, e_and, e_or, e_ite, e_tup, e_lst, e_idx, e_slc, e_rev, e_fn, e_call, es_nil, es_cons, o_none, o_some, t_tt, t_and, t_or, t_not, t_val, i_seq, i_rng, i_enm, i_zip, p_nil, p_cons, s_set, s_setO, s_unp, s_par, s_aug, s_ext, s_iff, s_ret, s_app, s_pop, s_stL, s_stD, s_appN, s_popN, s_drop, s_cont, s_brk, ss_nil, ss_cons, getS, setS, setPs, rs_val, rs_obj, rs_new, rsv_d, rsv_last, b_add, b_addL, b_addT, b_sub, b_mul, b_div, b_mod, b_pow, c_eq, c_ne, c_lt, c_le, c_gt, c_ge, c_inL, c_inT, c_niL, c_niT, c_isB, c_isN, c_isI, c_isT, c_inN, c_inI, c_inTu, tr_non, tr_bl, tr_int, tr_lst, tr_tup, x_lst, x_tup, sl_l, sl_t, rv_l, nw_f, nw_t, au_add, au_sub, au_mul, la_last, bd_nm, bd_tp, sq_l, sq_t, f_len, f_isi, f_sortD, f_sortO, f_tupL, f_tupO, f_lstT, f_lstL, f_lstD, f_min2, f_minL, f_all, f_any, f_intB, f_str, z_ll, z_tt, ad_nil, ad_cons, objAt, setAll, wipeA, wipeS, List.map_cons, List.map_nil, List.length_cons, List.length_nil, List.replicate, List.cons_append, List.nil_append, Nat.zero_add, Nat.reduceAdd, Nat.reduceSub, Wd.d, tupI, frI, prI, ixD, at3_0, at3_1, at3_2, at2_0, at2_1, eqD, Flat, and_true, true_and, and_self, if_true, if_false, Bool.false_eq_true, reduceIte, List.length_map]
    have hin : inD (.int (((List.range (rowsL many W).length).filter fun i => f i != f (prevI (rowsL many W).length i)).length : Int)) [.int 0, .int 2] = true := by
      generalize ((List.range (rowsL many W).length).filter fun i => f i != f (prevI (rowsL many W).length i)).length = z at k1 ⊢
      rcases k1 with rfl | rfl <;> decide
    refine ⟨by decide, fun y hy => ?_, ?_⟩
    · simp only [List.mem_cons, List.not_mem_nil, or_false] at hy
      rcases hy with rfl | rfl <;> trivial
    rw [hin, if_pos rfl]
    refine ⟨fun y hy => ?_, ?_⟩
    · obtain ⟨r, _, rfl⟩ := List.mem_map.mp hy
      exact flat_int 8 _
    · have : inD (.int 1) ((rowsL many W).map fun r => D.int (bitI (decide ((c : Int) ∈ r.2.2)))) = true := by
        unfold inD
        rw [List.any_eq_true]
        refine ⟨.int 1, ?_, rfl⟩
        rw [List.mem_map]
        have hr := List.getElem?_eq_getElem k2
        refine ⟨_, List.getElem_mem k2, ?_⟩
        have : f i = decide ((c : Int) ∈ (rowsL many W)[i].2.2) := by simp only [f, hr]
        rw [← this, k3]
        rfl
      rw [this]
      simp only [leave_val, tk_self]
      exact h
end N66

/-! N66: all pricked parts together are what the strip's halves are on their turns. -/
namespace N66
open PySem PySem.Spec L2
theorem worthF_mul {B : Nat} {x : Nat × Nat} (h : x.2 ∣ B) : worthF B x * x.2 = x.1 * B := by
  unfold worthF
  rw [Nat.mul_assoc, Nat.div_mul_cancel h]
/-- the parts of the pairs that begin ahead of e, together -/
def partsE (B : Nat) (e : Nat × Nat) : List ((Nat × Nat) × (Nat × Nat)) → Nat
  | [] => 0
  | p :: ps => (if ltF p.1 e then worthF B p.2 - worthF B p.1 else 0) + partsE B e ps
theorem parts_none {B : Nat} {e : Nat × Nat} : ∀ {ps : List ((Nat × Nat) × (Nat × Nat))}, (∀ p ∈ ps, ¬ ltF p.1 e) → partsE B e ps = 0
  | [], _ => rfl
  | p :: ps, h => by
    unfold partsE
    rw [if_neg (h p (List.mem_cons_self ..)), parts_none fun q hq => h q (List.mem_cons_of_mem _ hq)]
theorem parts_tele {B : Nat} (hB : 0 < B) {z : Nat × Nat} (hz : z.2 ∣ B) {e : Nat × Nat} : ∀ {m : Nat × Nat} {r : List (Nat × Nat)}, (m :: r).Pairwise ltF → (∀ y ∈ m :: r, 0 < y.2 ∧ y.2 ∣ B ∧ ltF y z) → (e ∈ m :: r ∨ e = z) → partsE B e (pairsL (m :: r) z) + worthF B m = worthF B e
  | m, [], _, hd, he => by
    have h1 := hd m (List.mem_cons_self ..)
    rw [pairsL_one]
    simp only [partsE]
    have hl := Nat.le_of_lt ((worth_lt hB h1.2.1 hz).mpr h1.2.2)
    rcases he with he | he
    · rw [List.mem_singleton] at he
      subst he
      rw [if_neg (ltF_irr _)]
      omega
    · subst he
      rw [if_pos h1.2.2]
      omega
  | m, m2 :: r, hs, hd, he => by
    rw [pairsL_cons]
    simp only [partsE]
    rw [List.pairwise_cons] at hs
    have h1 := hd m (List.mem_cons_self ..)
    have h2 := hd m2 (List.mem_cons_of_mem _ (List.mem_cons_self ..))
    have hl := Nat.le_of_lt ((worth_lt hB h1.2.1 h2.2.1).mpr (hs.1 m2 (List.mem_cons_self ..)))
    by_cases hm : e = m
    · subst hm
      rw [if_neg (ltF_irr _), parts_none]
      · omega
      · intro p hp
        exact ltF_asym _ _ (hs.1 _ (pairs_fst hp))
    · have he' : e ∈ m2 :: r ∨ e = z := by
        rcases he with he | he
        · rcases List.mem_cons.mp he with he | he
          · exact absurd he hm
          · exact .inl he
        · exact .inr he
      have ih := parts_tele hB hz hs.2 (fun y hy => hd y (List.mem_cons_of_mem _ hy)) he'
      have hlt : ltF m e := by
        rcases he' with he | he
        · exact hs.1 e he
        · rw [he]; exact h1.2.2
      rw [if_pos hlt]
      omega
section
variable {many : Nat} {W : Wd}
/-- where a turn's strip ends -/
def endT (many : Nat) (t : Nat × Nat) : Nat × Nat := if 2 * many - t.1 < t.2 then lowF (2 * many - t.1) t.2 else (1, 1)
theorem endT_mem {t : Nat × Nat} (ht : t ∈ turnsL many W.g W.w) (hb : t.1 < 2 * many) : endT many t ∈ marksL many W.g W.w ∨ endT many t = (1, 1) := by
  unfold endT
  split
  · exact .inl (mark_mem ht (by omega) (by omega) (Nat.le_refl _) (by omega))
  · exact .inr rfl
theorem endT_hit {t x : Nat × Nat} (hb : t.1 < 2 * many) (ht : 0 < t.2) (hx : 0 < x.2) (hx1 : x.1 < x.2) : halfOf x.1 x.2 t.1 t.2 < 2 * many ↔ ltF x (endT many t) := by
  unfold endT
  split
  · rw [lt_low ht, ← half_hi (b := t.1) hx, show t.1 + (2 * many - t.1) = 2 * many by omega]
  · have h1 := half_top (b := t.1) hx hx1 ht
    have h2 : ltF x (1, 1) := by unfold ltF; simp only; omega
    exact ⟨fun _ => h2, fun _ => by omega⟩
theorem cellsT_count {e : Nat} {x : Nat × Nat} : ∀ {ts : List (Nat × Nat)}, (cellsT many e x.1 x.2 ts).length = ts.countP fun t => decide (halfOf x.1 x.2 t.1 t.2 < 2 * many)
  | [] => rfl
  | (b, l) :: ts => by
    have ih := cellsT_count (e := e) (x := x) (ts := ts)
    simp only [cellsT, List.countP_cons]
    split
    · rename_i h
      rw [List.length_cons, ih]
      simp [h]
    · rename_i h
      rw [ih]
      simp [h]
/-- the sum of all rows, each as often as it pricks -/
def sumR (B : Nat) : List Row → Nat
  | [] => 0
  | r :: rs => r.2.2.length * (worthF B r.2.1 - worthF B r.1) + sumR B rs
def sumT (B many : Nat) (M : List (Nat × Nat)) : List (Nat × Nat) → Nat
  | [] => 0
  | t :: ts => partsE B (endT many t) (pairsL M (1, 1)) + sumT B many M ts
theorem sum_swap (B : Nat) {ts : List (Nat × Nat)} (hts : ∀ t ∈ ts, t.1 < 2 * many ∧ 0 < t.2) : ∀ {ps : List ((Nat × Nat) × (Nat × Nat))}, (∀ p ∈ ps, 0 < p.1.2 ∧ p.1.1 < p.1.2) →
    sumR B (ps.map fun p => (p.1, p.2, sortI (cellsT many W.e p.1.1 p.1.2 ts))) = (ts.map fun t => partsE B (endT many t) ps).sum
  | [], _ => by
    have : (ts.map fun t => partsE B (endT many t) []).sum = 0 := by
      induction ts with
      | nil => rfl
      | cons t ts ih =>
        rw [List.map_cons, List.sum_cons, ih fun u hu => hts u (List.mem_cons_of_mem _ hu)]
        rfl
    rw [this]
    rfl
  | p :: ps, h => by
    have ih := sum_swap B hts (ps := ps) fun q hq => h q (List.mem_cons_of_mem _ hq)
    rw [List.map_cons]
    simp only [sumR]
    rw [ih]
    obtain ⟨p0, p1⟩ := h p (List.mem_cons_self ..)
    rw [sortI_len, cellsT_count]
    clear ih
    induction ts with
    | nil => simp
    | cons t ts ih2 =>
      have ih3 := ih2 fun u hu => hts u (List.mem_cons_of_mem _ hu)
      obtain ⟨t1, t2⟩ := hts t (List.mem_cons_self ..)
      rw [List.countP_cons, List.map_cons, List.sum_cons, List.map_cons, List.sum_cons, ← ih3]
      have := endT_hit (many := many) t1 t2 p0 p1
      simp only [partsE]
      by_cases hh : halfOf p.1.1 p.1.2 t.1 t.2 < 2 * many
      · rw [if_pos (this.mp hh), if_pos (by simpa using hh), Nat.add_mul, Nat.one_mul]
        omega
      · rw [if_neg fun z => hh (this.mpr z), if_neg (by simpa using hh), Nat.add_zero]
        omega
def Bm (many : Nat) (W : Wd) : Nat := prodQ (marksL many W.g W.w)
theorem Bm_pos (hW : W.Ok) (hm : many ≤ 30) : 0 < Bm many W := prodQ_pos fun x hx => (marks_bnd hW hm hx).1
/-- each turn's share -/
theorem share (hW : W.Ok) (hm : many ≤ 30) {t : Nat × Nat} (ht : t ∈ turnsL many W.g W.w) : partsE (Bm many W) (endT many t) (pairsL (marksL many W.g W.w) (1, 1)) * t.2 = min t.2 (2 * many - t.1) * Bm many W := by
  obtain ⟨_, tb, t4⟩ := turnsL_bnd hW hm ht
  have t0 : 0 < t.2 := by omega
  have hB := Bm_pos (many := many) hW hm
  obtain ⟨r, hr⟩ := marks_hd (many := many) hW hm
  have hs := marksL_sorted (many := many) hW hm
  have key : partsE (Bm many W) (endT many t) (pairsL (marksL many W.g W.w) (1, 1)) = worthF (Bm many W) (endT many t) := by
    have hd : ∀ y ∈ marksL many W.g W.w, 0 < y.2 ∧ y.2 ∣ Bm many W ∧ ltF y (1, 1) := fun y hy => ⟨(marks_bnd hW hm hy).1, prodQ_dvd hy, marks_one hW hm hy⟩
    have he := endT_mem ht tb
    rw [hr] at hs hd he ⊢
    have := parts_tele hB (z := (1, 1)) (Nat.one_dvd _) hs hd he
    have w0 : worthF (Bm many W) (0, 1) = 0 := by unfold worthF; simp
    omega
  rw [key]
  unfold endT
  split
  · rename_i hlt
    have hmem : lowF (2 * many - t.1) t.2 ∈ marksL many W.g W.w := mark_mem ht (by omega) (by omega) (Nat.le_refl _) (by omega)
    have hv := worthF_mul (B := Bm many W) (prodQ_dvd hmem)
    have e := lowF_eq (p := 2 * many - t.1) t0
    have r0 := (lowF_red (p := 2 * many - t.1) t0).2
    rw [Nat.min_eq_right (by omega)]
    refine Nat.eq_of_mul_eq_mul_right r0 ?_
    rw [Nat.mul_right_comm, hv, Nat.mul_right_comm, e, Nat.mul_right_comm]
  · rw [Nat.min_eq_left (by omega)]
    unfold worthF
    rw [Nat.div_one, Nat.one_mul, Nat.mul_comm]
theorem sum_rows (hW : W.Ok) (hm : many ≤ 30) : sumR (Bm many W) (rowsL many W) = ((turnsL many W.g W.w).map fun t => partsE (Bm many W) (endT many t) (pairsL (marksL many W.g W.w) (1, 1))).sum := by
  rw [rowsL_eq]
  refine sum_swap _ (fun t ht => ?_) (fun p hp => ?_)
  · obtain ⟨_, tb, t4⟩ := turnsL_bnd hW hm ht
    exact ⟨tb, by omega⟩
  · obtain ⟨a, _, b, _⟩ := marks_bnd hW hm (pairs_fst hp)
    exact ⟨a, b⟩
end
end N66

/-! N66: the measure, the def. -/
namespace N66
open PySem PySem.Spec L2
theorem sumR_app (B : Nat) : ∀ xs ys : List Row, sumR B (xs ++ ys) = sumR B xs + sumR B ys
  | [], ys => by simp [sumR]
  | x :: xs, ys => by
    rw [List.cons_append]
    simp only [sumR]
    rw [sumR_app B xs ys]
    omega
section
variable {many : Nat} {W : Wd}
theorem row_mem {r : Row} (h : r ∈ rowsL many W) : (r.1, r.2.1) ∈ pairsL (marksL many W.g W.w) (1, 1) ∧ r.2.2 = prickedL many W r.1.1 r.1.2 := by
  rw [rowsL_eq] at h
  obtain ⟨p, hp, rfl⟩ := List.mem_map.mp h
  exact ⟨hp, rfl⟩
/-- a row's numbers -/
theorem row_bnd (hW : W.Ok) (hm : many ≤ 30) {r : Row} (h : r ∈ rowsL many W) : (0 < r.1.2 ∧ r.1.2 ≤ 500 ∧ r.1.1 < r.1.2) ∧ (0 < r.2.1.2 ∧ r.2.1.2 ≤ 500 ∧ r.2.1.1 ≤ r.2.1.2) ∧ ltF r.1 r.2.1 ∧ r.1.2 ∣ Bm many W ∧ r.2.1.2 ∣ Bm many W ∧ r.2.2.length ≤ 60 := by
  obtain ⟨hp, hc⟩ := row_mem h
  have h1 := pairs_fst hp
  have h2 := pairs_snd hp
  have h3 := pairs_lt (marksL_sorted hW hm) (fun x hx => marks_one hW hm hx) hp
  obtain ⟨a1, a2, a3, _⟩ := marks_bnd hW hm h1
  simp only at a1 a2 a3 h1 h2 h3
  refine ⟨⟨a1, a2, a3⟩, ?_, h3, prodQ_dvd h1, ?_, ?_⟩
  · rcases h2 with h2 | h2
    · obtain ⟨b1, b2, b3, _⟩ := marks_bnd hW hm h2
      exact ⟨b1, b2, Nat.le_of_lt b3⟩
    · rw [h2]; exact ⟨by decide, by decide, by decide⟩
  · rcases h2 with h2 | h2
    · exact prodQ_dvd h2
    · rw [h2]; exact Nat.one_dvd _
  · rw [hc]
    unfold prickedL
    rw [sortI_len]
    have := cellsT_len many W.e r.1.1 r.1.2 (turnsL many W.g W.w)
    have := turnsL_len many W.g W.w
    omega
/-- one row more -/
theorem row_step {B top bottom s n : Nat} {a b : Nat × Nat} (hB : 0 < B) (ha : a.2 ∣ B) (hb : b.2 ∣ B) (hl : ltF a b) (h : top * B = bottom * s) :
    (top * (a.2 * b.2) + n * (b.1 * a.2 - a.1 * b.2) * bottom) * B = bottom * (a.2 * b.2) * (s + n * (worthF B b - worthF B a)) := by
  have va := worthF_mul ha
  have vb := worthF_mul hb
  have hle := Nat.le_of_lt ((worth_lt hB ha hb).mpr hl)
  unfold ltF at hl
  -- wide * B = under * dv
  have key : (b.1 * a.2 - a.1 * b.2) * B = a.2 * b.2 * (worthF B b - worthF B a) := by
    rw [Nat.sub_mul, Nat.mul_sub]
    congr 1
    · rw [Nat.mul_right_comm, ← vb, Nat.mul_assoc, Nat.mul_comm (worthF B b), Nat.mul_comm b.2 a.2]
    · rw [Nat.mul_right_comm, ← va, Nat.mul_assoc, Nat.mul_comm (worthF B a)]
  rw [Nat.add_mul, Nat.mul_add]
  congr 1
  · rw [Nat.mul_right_comm, h, Nat.mul_right_comm]
  · rw [Nat.mul_right_comm, Nat.mul_assoc n, key]
    simp only [Nat.mul_comm, Nat.mul_left_comm, Nat.mul_assoc]
theorem turn_step {B dt db u l p s : Nat} (h : dt * B = db * s) (hu : u * l = p * B) : (dt * l + p * db) * B = db * l * (s + u) := by
  rw [Nat.add_mul, Nat.mul_add]
  congr 1
  · rw [Nat.mul_right_comm, h, Nat.mul_right_comm]
  · rw [Nat.mul_right_comm, ← hu]
    simp only [Nat.mul_comm, Nat.mul_left_comm, Nat.mul_assoc]
theorem share_le {B : Nat} {e : Nat × Nat} : ∀ {t : Nat × Nat}, True := fun {_} => trivial
end
theorem log_lt {n k : Nat} (h : n < 2 ^ k) (hk : 0 < k) : n.log2 < k := by
  rcases Nat.eq_zero_or_pos n with rfl | h0
  · simpa using hk
  · exact (Nat.log2_lt (by omega)).mpr h
theorem wide_mul {a b i j : Nat} (ha : a < 2 ^ i) (hb : b < 2 ^ j) (hi : 0 < i) (hj : 0 < j) (h : i + j < 1000000) : MulOk (a : Int) (b : Int) := by
  refine .inr ?_
  unfold CMulW
  have h1 := log_lt ha hi
  have h2 := log_lt hb hj
  simp only [Int.natAbs_natCast]
  omega
theorem w_law_parts_right (T : Tab) (mo : MoTab T) (ss : List S) (os : List O) (Q : R → List O → Prop) (h : spPartsRight ss os Q) : bodyW T p_law_parts_right 15 ss os Q := by
  obtain ⟨many, W, rfl, hW, hm1, hm, h⟩ := h
  have hB := Bm_pos (many := many) hW hm
  have hrl := rowsL_len (W := W) hm
  simp only [p_law_parts_right, bodyW, e_var, e_cst, e_dct, e_bin, e_neg, e_not, e_cmp, e_cmp2, e_and, e_or, e_ite, e_tup, e_lst, e_idx, e_slc, e_rev, e_fn, e_call, es_nil, es_cons, o_none, o_some, t_tt, t_and, t_or, t_not, t_val, i_seq, i_rng, i_enm, i_zip, p_nil, p_cons, s_set, s_setO, s_unp, s_par, s_aug, s_ext, s_iff, s_ret, s_app, s_pop, s_stL, s_stD, s_appN, s_popN, s_drop, s_cont, s_brk, ss_nil, ss_cons, getS, setS, setPs, rs_val, rs_obj, rs_new, rsv_d, rsv_last, b_add, b_addL, b_addT, b_sub, b_mul, b_div, b_mod, b_pow, c_eq, c_ne, c_lt, c_le, c_gt, c_ge, c_inL, c_inT, c_niL, c_niT, c_isB, c_isN, c_isI, c_isT, c_inN, c_inI, c_inTu, tr_non, tr_bl, tr_int, tr_lst, tr_tup, x_lst, x_tup, sl_l, sl_t, rv_l, nw_f, nw_t, au_add, au_sub, au_mul, la_last, bd_nm, bd_tp, sq_l, sq_t, f_len, f_isi, f_sortD, f_sortO, f_tupL, f_tupO, f_lstT, f_lstL, f_lstD, f_min2, f_minL, f_all, f_any, f_intB, f_str, z_ll, z_tt, ad_nil, ad_cons, objAt, setAll, wipeA, wipeS, List.map_cons, List.map_nil, List.length_cons, List.length_nil, List.replicate, List.cons_append, List.nil_append, Nat.zero_add, Nat.reduceAdd, Nat.reduceSub, Wd.d, tupI, frI, prI, ixD, at3_0, at3_1, at3_2, at2_0, at2_1, eqD, Flat, and_true, true_and, and_self, if_true, if_false, Bool.false_eq_true, reduceIte]
  refine for_i mo (fun its os1 => its = (rowsL many W).map rowI ∧ os1 = os) ?_ fun its os1 ⟨e1, e2⟩ => ?_
  · simp only [bodyW, e_var, e_cst, e_dct, e_bin, e_neg, e_not, e_cmp, e_cmp2, e_and, e_or, e_ite, e_tup, e_lst, e_idx, e_slc, e_rev, e_fn, e_call, es_nil, es_cons, o_none, o_some, t_tt, t_and, t_or, t_not, t_val, i_seq, i_rng, i_enm, i_zip, p_nil, p_cons, s_set, s_setO, s_unp, s_par, s_aug, s_ext, s_iff, s_ret, s_app, s_pop, s_stL, s_stD, s_appN, s_popN, s_drop, s_cont, s_brk, ss_nil, ss_cons, getS, setS, setPs, rs_val, rs_obj, rs_new, rsv_d, rsv_last, b_add, b_addL, b_addT, b_sub, b_mul, b_div, b_mod, b_pow, c_eq, c_ne, c_lt, c_le, c_gt, c_ge, c_inL, c_inT, c_niL, c_niT, c_isB, c_isN, c_isI, c_isT, c_inN, c_inI, c_inTu, tr_non, tr_bl, tr_int, tr_lst, tr_tup, x_lst, x_tup, sl_l, sl_t, rv_l, nw_f, nw_t, au_add, au_sub, au_mul, la_last, bd_nm, bd_tp, sq_l, sq_t, f_len, f_isi, f_sortD, f_sortO, f_tupL, f_tupO, f_lstT, f_lstL, f_lstD, f_min2, f_minL, f_all, f_any, f_intB, f_str, z_ll, z_tt, ad_nil, ad_cons, objAt, setAll, wipeA, wipeS, List.map_cons, List.map_nil, List.length_cons, List.length_nil, List.replicate, List.cons_append, List.nil_append, Nat.zero_add, Nat.reduceAdd, Nat.reduceSub, Wd.d, tupI, frI, prI, ixD, at3_0, at3_1, at3_2, at2_0, at2_1, eqD, Flat, and_true, true_and, and_self, if_true, if_false, Bool.false_eq_true, reduceIte]
  subst e1 e2
  refine ⟨fun i env os' => ∃ (top bottom : Nat) (x5 x6 x7 x8 x9 : Option S), env = [some (.d (.int many)), some (.d W.d), some (.d (.lst ((rowsL many W).map rowI))), some (.d (.int top)), some (.d (.int bottom)), x5, x6, x7, x8, x9, none, none, none, none, none] ∧ os' = os1 ∧ top * Bm many W = bottom * sumR (Bm many W) ((rowsL many W).take i) ∧ 0 < bottom ∧ bottom ≤ 2 ^ (18 * i), ⟨0, 1, none, none, none, none, none, rfl, rfl, by simp [sumR], by decide, by simp⟩, fun i x env os' hx ⟨top, bottom, x5, x6, x7, x8, x9, he, ho, hs, b0, b1⟩ => ?_, fun env os' ⟨top, bottom, x5, x6, x7, x8, x9, he, ho, hs, b0, b1⟩ => ?_⟩
  · subst he ho
    obtain ⟨⟨a, b, cs⟩, hr, rfl⟩ := map_get hx
    obtain ⟨⟨a1, a2, a3⟩, ⟨c1, c2, c3⟩, hlt, d1, d2, hcl⟩ := row_bnd hW hm (List.mem_of_getElem? hr)
    simp only at a1 a2 a3 c1 c2 c3 hlt d1 d2 hcl
    simp only [bodyW, e_var, e_cst, e_dct, e_bin, e_neg, e_not, e_cmp, e_cmp2, e_and, e_or, e_ite, e_tup, e_lst, e_idx, e_slc, e_rev, e_fn, e_call, es_nil, es_cons, o_none, o_some, t_tt, t_and, t_or, t_not, t_val, i_seq, i_rng, i_enm, i_zip, p_nil, p_cons, s_set, s_setO, s_unp, s_par, s_aug, s_ext, s_iff, s_ret, s_app, s_pop, s_stL, s_stD, s_appN, s_popN, s_drop, s_cont, s_brk, ss_nil, ss_cons, getS, setS, setPs, rs_val, rs_obj, rs_new, rsv_d, rsv_last, b_add, b_addL, b_addT, b_sub, b_mul, b_div, b_mod, b_pow, c_eq, c_ne, c_lt, c_le, c_gt, c_ge, c_inL, c_inT, c_niL, c_niT, c_isB, c_isN, c_isI, c_isT, c_inN, c_inI, c_inTu, tr_non, tr_bl, tr_int, tr_lst, tr_tup, x_lst, x_tup, sl_l, sl_t, rv_l, nw_f, nw_t, au_add, au_sub, au_mul, la_last, bd_nm, bd_tp, sq_l, sq_t, f_len, f_isi, f_sortD, f_sortO, f_tupL, f_tupO, f_lstT, f_lstL, f_lstD, f_min2, f_minL, f_all, f_any, f_intB, f_str, z_ll, z_tt, ad_nil, ad_cons, objAt, setAll, wipeA, wipeS, List.map_cons, List.map_nil, List.length_cons, List.length_nil, List.replicate, List.cons_append, List.nil_append, Nat.zero_add, Nat.reduceAdd, Nat.reduceSub, Wd.d, tupI, frI, prI, ixD, at3_0, at3_1, at3_2, at2_0, at2_1, eqD, Flat, and_true, true_and, and_self, if_true, if_false, Bool.false_eq_true, reduceIte, rowI]
    have hun : (a.2 : Int) * b.2 = ((a.2 * b.2 : Nat) : Int) := by simp
    have hwd : (b.1 : Int) * a.2 - a.1 * b.2 = ((b.1 * a.2 - a.1 * b.2 : Nat) : Int) := by
      unfold ltF at hlt
      rw [Int.ofNat_sub (Nat.le_of_lt hlt)]
      simp
    have hle : a.2 * b.2 ≤ 500 * 500 := Nat.mul_le_mul a2 c2
    have hwl : b.1 * a.2 - a.1 * b.2 ≤ 500 * 500 := Nat.le_trans (Nat.sub_le _ _) (Nat.mul_le_mul (Nat.le_trans c3 c2) a2)
    have hnw : cs.length * (b.1 * a.2 - a.1 * b.2) ≤ 60 * (500 * 500) := Nat.mul_le_mul hcl hwl
    rw [hun, hwd, List.length_map]
    have hcw : (cs.length : Int) * ((b.1 * a.2 - a.1 * b.2 : Nat) : Int) = ((cs.length * (b.1 * a.2 - a.1 * b.2) : Nat) : Int) := by simp
    rw [hcw]
    refine ⟨small_mul' (by omega), small_mul' (by omega), small_mul' (by omega), small_mul (by omega), small_mul' (by omega), small_mul' (by omega), small_mul (by omega), ?_⟩
    refine ⟨top * (a.2 * b.2) + cs.length * (b.1 * a.2 - a.1 * b.2) * bottom, bottom * (a.2 * b.2), some (.d (frI a)), some (.d (frI b)), some (.d (tupI cs)), some (.d (.int ((a.2 * b.2 : Nat) : Int))), some (.d (.int ((b.1 * a.2 - a.1 * b.2 : Nat) : Int))), ?_, ?_, ?_, ?_⟩
    · simp only [frI, tupI, List.map_cons, List.map_nil, Int.natCast_add, Int.natCast_mul]
    · rw [take_snoc hr, sumR_app]
      have := row_step (n := cs.length) hB d1 d2 hlt hs
      rw [this]
      simp only [sumR, Nat.add_zero]
    · exact Nat.mul_pos b0 (Nat.mul_pos a1 c1)
    · rw [show 18 * (i + 1) = 18 * i + 18 by omega, Nat.pow_add]
      exact Nat.mul_le_mul b1 (Nat.le_trans hle (by decide))
  · subst he ho
    rw [List.length_map] at hs b1
    rw [List.take_length] at hs
    simp only [bodyW, e_var, e_cst, e_dct, e_bin, e_neg, e_not, e_cmp, e_cmp2, e_and, e_or, e_ite, e_tup, e_lst, e_idx, e_slc, e_rev, e_fn, e_call, es_nil, es_cons, o_none, o_some, t_tt, t_and, t_or, t_not, t_val, i_seq, i_rng, i_enm, i_zip, p_nil, p_cons, s_set, s_setO, s_unp, s_par, s_aug, s_ext, s_iff, s_ret, s_app, s_pop, s_stL, s_stD, s_appN, s_popN, s_drop, s_cont, s_brk, ss_nil, ss_cons, getS, setS, setPs, rs_val, rs_obj, rs_new, rsv_d, rsv_last, b_add, b_addL, b_addT, b_sub, b_mul, b_div, b_mod, b_pow, c_eq, c_ne, c_lt, c_le, c_gt, c_ge, c_inL, c_inT, c_niL, c_niT, c_isB, c_isN, c_isI, c_isT, c_inN, c_inI, c_inTu, tr_non, tr_bl, tr_int, tr_lst, tr_tup, x_lst, x_tup, sl_l, sl_t, rv_l, nw_f, nw_t, au_add, au_sub, au_mul, la_last, bd_nm, bd_tp, sq_l, sq_t, f_len, f_isi, f_sortD, f_sortO, f_tupL, f_tupO, f_lstT, f_lstL, f_lstD, f_min2, f_minL, f_all, f_any, f_intB, f_str, z_ll, z_tt, ad_nil, ad_cons, objAt, setAll, wipeA, wipeS, List.map_cons, List.map_nil, List.length_cons, List.length_nil, List.replicate, List.cons_append, List.nil_append, Nat.zero_add, Nat.reduceAdd, Nat.reduceSub, Wd.d, tupI, frI, prI, ixD, at3_0, at3_1, at3_2, at2_0, at2_1, eqD, Flat, and_true, true_and, and_self, if_true, if_false, Bool.false_eq_true, reduceIte]
    refine whl_i (fun m env o2 => ∃ (b l dt db : Nat) (acc : List (Nat × Nat)) (x14 : Option S), env = [some (.d (.int many)), some (.d W.d), some (.d (.lst ((rowsL many W).map rowI))), some (.d (.int top)), some (.d (.int bottom)), x5, x6, x7, x8, x9, some (.d (.int b)), some (.d (.int l)), some (.d (.int dt)), some (.d (.int db)), x14] ∧ o2 = os' ∧ acc ++ turnsF many W.w m b l = turnsL many W.g W.w ∧ 2 * many - b ≤ m ∧ acc.length + m ≤ 2 * many ∧ 1 ≤ l ∧
        dt * Bm many W = db * (acc.map fun t => partsE (Bm many W) (endT many t) (pairsL (marksL many W.g W.w) (1, 1))).sum ∧ 0 < db ∧ db ≤ 2 ^ (9 * acc.length)) (m := 2 * many)
      ⟨0, W.g, 0, 1, [], none, rfl, rfl, rfl, by omega, by simp, by have := hW.g4; omega, by simp, by decide, by simp⟩ fun m env o2 ⟨b, l, dt, db, acc, x14, he, ho, ha, hb1, hb2, hl, hd, db0, db1⟩ => ?_
    subst he ho
    simp only [bodyW, e_var, e_cst, e_dct, e_bin, e_neg, e_not, e_cmp, e_cmp2, e_and, e_or, e_ite, e_tup, e_lst, e_idx, e_slc, e_rev, e_fn, e_call, es_nil, es_cons, o_none, o_some, t_tt, t_and, t_or, t_not, t_val, i_seq, i_rng, i_enm, i_zip, p_nil, p_cons, s_set, s_setO, s_unp, s_par, s_aug, s_ext, s_iff, s_ret, s_app, s_pop, s_stL, s_stD, s_appN, s_popN, s_drop, s_cont, s_brk, ss_nil, ss_cons, getS, setS, setPs, rs_val, rs_obj, rs_new, rsv_d, rsv_last, b_add, b_addL, b_addT, b_sub, b_mul, b_div, b_mod, b_pow, c_eq, c_ne, c_lt, c_le, c_gt, c_ge, c_inL, c_inT, c_niL, c_niT, c_isB, c_isN, c_isI, c_isT, c_inN, c_inI, c_inTu, tr_non, tr_bl, tr_int, tr_lst, tr_tup, x_lst, x_tup, sl_l, sl_t, rv_l, nw_f, nw_t, au_add, au_sub, au_mul, la_last, bd_nm, bd_tp, sq_l, sq_t, f_len, f_isi, f_sortD, f_sortO, f_tupL, f_tupO, f_lstT, f_lstL, f_lstD, f_min2, f_minL, f_all, f_any, f_intB, f_str, z_ll, z_tt, ad_nil, ad_cons, objAt, setAll, wipeA, wipeS, List.map_cons, List.map_nil, List.length_cons, List.length_nil, List.replicate, List.cons_append, List.nil_append, Nat.zero_add, Nat.reduceAdd, Nat.reduceSub, Wd.d, tupI, frI, prI, ixD, at3_0, at3_1, at3_2, at2_0, at2_1, eqD, Flat, and_true, true_and, and_self, if_true, if_false, Bool.false_eq_true, reduceIte]
    refine ⟨mul_lit _ _ (by decide), ?_⟩
    by_cases hb : b < 2 * many
    · rw [if_pos (by simp; omega)]
      obtain ⟨m', rfl⟩ : ∃ m', m = m' + 1 := ⟨m - 1, by omega⟩
      have ha2 : acc ++ (b, l) :: turnsF many W.w m' (b + l) (l + W.w) = turnsL many W.g W.w := by
        unfold turnsF at ha
        rw [if_pos hb] at ha
        exact ha
      have hmem : (b, l) ∈ turnsL many W.g W.w := by rw [← ha2]; simp
      obtain ⟨l500, b2, l4⟩ := turnsL_bnd hW hm hmem
      simp only at l500 b2 l4
      have hmin : (if (2 : Int) * many - b < (l : Int) then (2 : Int) * many - b else (l : Int)) = ((min l (2 * many - b) : Nat) : Int) := by
        split <;> omega
      rw [hmin]
      have hminl : min l (2 * many - b) ≤ 500 := Nat.le_trans (Nat.min_le_left _ _) l500
      refine ⟨mul_lit _ _ (by decide), small_mul (by omega), small_mul' (by omega), small_mul (by omega), m', by omega, ?_⟩
      refine ⟨b + l, l + W.w, dt * l + min l (2 * many - b) * db, db * l, acc ++ [(b, l)], some (.d (.int ((min l (2 * many - b) : Nat) : Int))), ?_, by rw [← ha2]; simp, by omega, by simp; omega, by omega, ?_, Nat.mul_pos db0 (by omega), ?_⟩
      · simp only [Wd.d, tupI, List.map_cons, List.map_nil, Int.natCast_add, Int.natCast_mul]
      · rw [List.map_append, List.sum_append, List.map_singleton, List.sum_singleton]
        exact turn_step hd (share hW hm hmem)
      · rw [List.length_append, List.length_singleton, show 9 * (acc.length + 1) = 9 * acc.length + 9 by omega, Nat.pow_add]
        exact Nat.mul_le_mul db1 (Nat.le_trans l500 (by decide))
    · rw [if_neg (by simp; omega)]
      rw [turnsF_end hb, List.append_nil] at ha
      subst ha
      rw [← sum_rows hW hm] at hd
      have eq : top * db = dt * bottom := by
        refine Nat.eq_of_mul_eq_mul_right hB ?_
        rw [Nat.mul_right_comm top, hs, Nat.mul_right_comm dt, hd]
        simp only [Nat.mul_comm, Nat.mul_left_comm]
      obtain ⟨k1, k10, k1l, hdbl⟩ : ∃ k, 0 < k ∧ k ≤ 600 ∧ db < 2 ^ k := by
        have := turnsL_len many W.g W.w
        exact ⟨9 * (turnsL many W.g W.w).length + 1, by omega, by omega, Nat.lt_of_le_of_lt db1 (Nat.pow_lt_pow_right (by decide) (by omega))⟩
      obtain ⟨k2, k20, k2l, hbl⟩ : ∃ k, 0 < k ∧ k ≤ 72001 ∧ bottom < 2 ^ k :=
        ⟨18 * (rowsL many W).length + 1, by omega, by omega, Nat.lt_of_le_of_lt b1 (Nat.pow_lt_pow_right (by decide) (by omega))⟩
      have hsum : sumR (Bm many W) (rowsL many W) ≤ 60 * Bm many W := by
        rw [sum_rows hW hm]
        have : ∀ ts : List (Nat × Nat), (∀ t ∈ ts, t ∈ turnsL many W.g W.w) → (ts.map fun t => partsE (Bm many W) (endT many t) (pairsL (marksL many W.g W.w) (1, 1))).sum ≤ ts.length * Bm many W := by
          intro ts
          induction ts with
          | nil => simp
          | cons t ts ih =>
            intro hts
            have ih := ih fun u hu => hts u (List.mem_cons_of_mem _ hu)
            have ht := hts t (List.mem_cons_self ..)
            obtain ⟨_, _, t4⟩ := turnsL_bnd hW hm ht
            have sh := share hW hm ht
            have : partsE (Bm many W) (endT many t) (pairsL (marksL many W.g W.w) (1, 1)) ≤ Bm many W := by
              refine Nat.le_of_mul_le_mul_right (c := t.2) ?_ (by omega)
              rw [sh, Nat.mul_comm (Bm many W)]
              exact Nat.mul_le_mul_right _ (Nat.min_le_left _ _)
            rw [List.map_cons, List.sum_cons, List.length_cons, Nat.add_mul, Nat.one_mul]
            omega
        refine Nat.le_trans (this _ fun t ht => ht) (Nat.mul_le_mul_right _ ?_)
        have := turnsL_len many W.g W.w
        omega
      have small : ∀ {a c k : Nat}, a * Bm many W = c * sumR (Bm many W) (rowsL many W) → c < 2 ^ k → a < 2 ^ (k + 6) := by
        intro a c k e hc
        have h1 : c * sumR (Bm many W) (rowsL many W) ≤ c * (60 * Bm many W) := Nat.mul_le_mul_left _ hsum
        have h2 : a * Bm many W ≤ (c * 60) * Bm many W := by rw [e, Nat.mul_assoc]; exact h1
        have h3 := Nat.le_of_mul_le_mul_right h2 hB
        rw [Nat.pow_add]
        have : c * 60 < 2 ^ k * 2 ^ 6 := by
          have : c * 60 ≤ c * 64 := Nat.mul_le_mul_left _ (by decide)
          have : c * 64 < 2 ^ k * 64 := Nat.mul_lt_mul_of_pos_right hc (by decide)
          omega
        omega
      have hc1 : ((top : Int) * db) = ((top * db : Nat) : Int) := by simp
      have hc2 : ((dt : Int) * bottom) = ((dt * bottom : Nat) : Int) := by simp
      refine ⟨wide_mul (small hs hbl) hdbl (by omega) (by omega) (by omega), wide_mul (small hd hdbl) hbl (by omega) (by omega) (by omega), ?_⟩
      rw [hc1, hc2, eq, beq_self_eq_true]
      simp only [leave_val, tk_self]
      exact h
end N66

/-! N66: from the other end; a longer strip. -/
namespace N66
open PySem PySem.Spec L2
def Wd.mir (W : Wd) : Wd := ⟨W.g, W.w, 1 - W.e⟩
theorem Wd.mir_ok {W : Wd} (h : W.Ok) : W.mir.Ok := ⟨h.g4, h.g16, h.w8, Nat.sub_le _ _⟩
theorem cellE_mir {many e c : Nat} (he : e ≤ 1) : cellE many (1 - e) c = (many : Int) - 1 - cellE many e c := by
  unfold cellE
  rcases Nat.lt_or_ge 0 e with h | h
  · obtain rfl : e = 1 := by omega
    simp
    omega
  · obtain rfl : e = 0 := by omega
    simp
theorem cellsT_mir {many e p q : Nat} (he : e ≤ 1) : ∀ ts : List (Nat × Nat), cellsT many (1 - e) p q ts = (cellsT many e p q ts).map fun z => (many : Int) - 1 - z
  | [] => rfl
  | (b, l) :: ts => by
    have ih := cellsT_mir (many := many) (p := p) (q := q) he ts
    simp only [cellsT]
    split
    · rw [ih, cellE_mir he, List.map_cons]
    · exact ih
theorem sortI_neg (a : Int) (xs : List Int) : sortI (xs.map fun z => a - z) = (sortI xs).reverse.map fun z => a - z := by
  symm
  refine sortI_eq ?_ ?_
  · exact ((List.reverse_perm _).trans (sortI_perm xs)).map _
  · rw [List.pairwise_map, List.pairwise_reverse]
    exact (sortI_sorted xs).imp fun h => by omega
theorem pricked_mir {many : Nat} {W : Wd} (hW : W.Ok) (p q : Nat) : prickedL many W.mir p q = (prickedL many W p q).reverse.map fun z => (many : Int) - 1 - z := by
  unfold prickedL Wd.mir
  simp only
  rw [cellsT_mir hW.e1, sortI_neg]
/-! ### a longer strip -/
def oldI (many e : Nat) (xs : List Int) : List Int := (xs.filter fun z => decide (0 ≤ z - (e : Int)) && decide (z - (e : Int) < many)).map fun z => z - (e : Int)
theorem old_cons (many e : Nat) (x : Int) (xs : List Int) : oldI many e (x :: xs) = if 0 ≤ x - (e : Int) ∧ x - (e : Int) < many then (x - (e : Int)) :: oldI many e xs else oldI many e xs := by
  unfold oldI
  rw [List.filter_cons]
  by_cases h : 0 ≤ x - (e : Int) ∧ x - (e : Int) < many
  · rw [if_pos (by simpa using h), if_pos h, List.map_cons]
  · rw [if_neg (by simpa using h), if_neg h]
theorem old_turns {many e p q w : Nat} (he : e ≤ 1) : ∀ {n n' b l : Nat}, 2 * (many + 1) - b ≤ n → 2 * many - b ≤ n' → 1 ≤ l → oldI many e (cellsT (many + 1) e p q (turnsF (many + 1) w n b l)) = cellsT many e p q (turnsF many w n' b l)
  | 0, n', b, l, h1, h2, hl => by
    rw [turnsF_end (n := n') (by omega)]
    rfl
  | n + 1, n', b, l, h1, h2, hl => by
    by_cases hb : b < 2 * (many + 1)
    · have e1 : turnsF (many + 1) w (n + 1) b l = (b, l) :: turnsF (many + 1) w n (b + l) (l + w) := by
        rw [turnsF, if_pos hb]
      rw [e1]
      simp only [cellsT]
      by_cases hb2 : b < 2 * many
      · obtain ⟨m', rfl⟩ : ∃ m', n' = m' + 1 := ⟨n' - 1, by omega⟩
        have e2 : turnsF many w (m' + 1) b l = (b, l) :: turnsF many w m' (b + l) (l + w) := by
          rw [turnsF, if_pos hb2]
        have ih := old_turns (many := many) (p := p) (q := q) (w := w) he (n := n) (n' := m') (b := b + l) (l := l + w) (by omega) (by omega) (by omega)
        rw [e2]
        simp only [cellsT]
        by_cases hh : halfOf p q b l < 2 * many
        · rw [if_pos (by omega), if_pos hh, old_cons, ih, if_pos]
          · congr 1
            unfold cellE
            split <;> omega
          · unfold cellE
            split <;> omega
        · rw [if_neg hh]
          split
          · rw [old_cons, if_neg, ih]
            unfold cellE
            split <;> omega
          · exact ih
      · rw [turnsF_end hb2]
        have ih := old_turns (many := many) (p := p) (q := q) (w := w) he (n := n) (n' := 0) (b := b + l) (l := l + w) (by omega) (by omega) (by omega)
        have hh : 2 * many ≤ halfOf p q b l := Nat.le_trans (by omega) (Nat.le_add_right b _)
        have e0 : cellsT many e p q (turnsF many w 0 (b + l) (l + w)) = [] := rfl
        rw [e0] at ih
        split
        · rw [old_cons, if_neg, ih]
          · rfl
          · unfold cellE
            split <;> omega
        · rw [ih]
          rfl
    · rw [turnsF_end hb, turnsF_end (n := n') (by omega)]
      rfl
theorem old_sort (many e : Nat) (xs : List Int) : oldI many e (sortI xs) = sortI (oldI many e xs) := by
  refine sortI_eq ?_ ?_
  · unfold oldI
    exact ((sortI_perm xs).filter _).map _
  · unfold oldI
    rw [List.pairwise_map]
    exact ((sortI_sorted xs).filter _).imp fun h => by omega
theorem pricked_old {many : Nat} {W : Wd} (hW : W.Ok) (p q : Nat) : oldI many W.e (prickedL (many + 1) W p q) = prickedL many W p q := by
  unfold prickedL
  rw [old_sort]
  congr 1
  exact old_turns hW.e1 (by omega) (by omega) (by have := hW.g4; omega)
end N66

/-! N66: the second law. -/
namespace N66
open PySem PySem.Spec L2
theorem eqD_fr (x y : Nat × Nat) : eqD (frI x) (frI y) = decide (x = y) := by
  unfold frI
  rw [eq_tupI]
  refine decide_eq_decide.mpr ?_
  constructor
  · intro h
    simp only [List.cons.injEq, Int.natCast_inj, and_true] at h
    exact Prod.ext h.1 h.2
  · intro h; rw [h]
theorem ne_fr {x y : Nat × Nat} (h : x = y) : ¬ (!eqD (frI x) (frI y)) = true := by rw [eqD_fr, h]; simp
theorem flat_fr (n : Nat) (x : Nat × Nat) : Flat (n + 1) (frI x) := flat_tupI n _
theorem rows_first {many : Nat} {W : Wd} (hW : W.Ok) (hm : many ≤ 30) : ∃ r, (rowsL many W)[0]? = some r ∧ r.1 = (0, 1) := by
  obtain ⟨t, ht⟩ := marks_hd (many := many) hW hm
  have h0 : 0 < (rowsL many W).length := by rw [rowsL_length, ht]; simp
  have e := List.getElem?_eq_getElem h0
  obtain ⟨g1, _, _⟩ := rowsL_get e
  rw [ht] at g1
  exact ⟨_, e, (Option.some.inj g1).symm⟩
theorem rows_last {many : Nat} {W : Wd} (hW : W.Ok) (hm : many ≤ 30) : ∃ rs r, rowsL many W = rs ++ [r] ∧ r.2.1 = (1, 1) := by
  obtain ⟨t, ht⟩ := marks_hd (many := many) hW hm
  have h0 : 0 < (rowsL many W).length := by rw [rowsL_length, ht]; simp
  have hne : rowsL many W ≠ [] := fun z => by rw [z] at h0; simp at h0
  refine ⟨(rowsL many W).dropLast, (rowsL many W).getLast hne, (List.dropLast_concat_getLast hne).symm, ?_⟩
  have e : (rowsL many W)[(rowsL many W).length - 1]? = some ((rowsL many W).getLast hne) := by
    rw [List.getLast_eq_getElem]
    exact List.getElem?_eq_getElem (by omega)
  obtain ⟨_, g2, _⟩ := rowsL_get e
  rw [rowsL_length] at g2
  rw [List.getElem?_append_right (by simp)] at g2
  have hl : (marksL many W.g W.w).length - 1 - ((marksL many W.g W.w).drop 1).length = 0 := by rw [List.length_drop]; omega
  rw [hl] at g2
  exact (Option.some.inj g2).symm
theorem rows_next {many : Nat} {W : Wd} {i : Nat} {r s : Row} (h1 : (rowsL many W)[i]? = some r) (h2 : (rowsL many W)[i + 1]? = some s) : r.2.1 = s.1 := by
  obtain ⟨_, a2, _⟩ := rowsL_get h1
  obtain ⟨b1, _, _⟩ := rowsL_get h2
  have hl := (List.getElem?_eq_some_iff.mp b1).1
  rw [List.getElem?_append_left (by rw [List.length_drop]; omega), List.getElem?_drop, Nat.add_comm 1 i, b1] at a2
  exact (Option.some.inj a2).symm
theorem zip_drop {α : Type} {xs : List α} {i : Nat} {p : α × α} (h : (xs.zip (xs.drop 1))[i]? = some p) : xs[i]? = some p.1 ∧ xs[i + 1]? = some p.2 := by
  rw [List.getElem?_zip_eq_some] at h
  rw [List.getElem?_drop, Nat.add_comm 1 i] at h
  exact h
theorem rowI_mem {many : Nat} {W : Wd} (hW : W.Ok) (hm : many ≤ 30) {r : Row} (h : r ∈ rowsL many W) : r.1.1 < 2 ^ 60 ∧ r.1.2 < 2 ^ 60 ∧ r.2.1.1 < 2 ^ 60 ∧ r.2.1.2 < 2 ^ 60 := by
  obtain ⟨⟨a1, a2, a3⟩, ⟨b1, b2, b3⟩, _⟩ := row_bnd hW hm h
  exact ⟨by omega, by omega, by omega, by omega⟩
theorem cut_2 (a b c : D) : cutD [a, b, c] none (some 2) = [a, b] := by
  unfold cutD
  rw [HT.sIx_none, show HT.sIx [a, b, c].length [a, b, c].length (some 2) = 2 from HT.sIx_nat 3 3 2]
  rfl
theorem eqD_lst (xs ys : List Int) : eqD (.lst (xs.map D.int)) (.lst (ys.map D.int)) = decide (xs = ys) := by
  rw [eqD, eqDs_ints]
theorem flat_lst (n : Nat) (xs : List Int) : Flat (n + 1) (.lst (xs.map D.int)) := by
  simp only [Flat]
  exact flat_ints n
theorem w_law02 (T : Tab) (mo : MoTab T) (h4 : T 4 = spPricked) (h7 : T 7 = spStretches) (h30 : T 30 = spBag) (h31 : T 31 = spTake) (h33 : T 33 = spWinding) (h35 : T 35 = spAngle) (h57 : T 57 = spWorth) (h58 : T 58 = spOnePiece) (h59 : T 59 = spPartsRight)
    (ss : List S) (os : List O) (Q : R → List O → Prop) (h : spLaw ss os Q) : bodyW T p_law02 17 ss os Q := by
  obtain ⟨ns, rfl, rfl, hn, h⟩ := h
  simp only [p_law02, bodyW, e_var, e_cst, e_dct, e_bin, e_neg, e_not, e_cmp, e_cmp2, e_and, e_or, e_ite, e_tup, e_lst, e_idx, e_slc, e_rev, e_fn, e_call, es_nil, es_cons, o_none, o_some, t_tt, t_and, t_or, t_not, t_val, i_seq, i_rng, i_enm, i_zip, p_nil, p_cons, s_set, s_setO, s_unp, s_par, s_aug, s_ext, s_iff, s_ret, s_app, s_pop, s_stL, s_stD, s_appN, s_popN, s_drop, s_cont, s_brk, ss_nil, ss_cons, getS, setS, setPs, rs_val, rs_obj, rs_new, rsv_d, rsv_last, b_add, b_addL, b_addT, b_sub, b_mul, b_div, b_mod, b_pow, c_eq, c_ne, c_lt, c_le, c_gt, c_ge, c_inL, c_inT, c_niL, c_niT, c_isB, c_isN, c_isI, c_isT, c_inN, c_inI, c_inTu, tr_non, tr_bl, tr_int, tr_lst, tr_tup, x_lst, x_tup, sl_l, sl_t, rv_l, nw_f, nw_t, au_add, au_sub, au_mul, la_last, bd_nm, bd_tp, sq_l, sq_t, f_len, f_isi, f_sortD, f_sortO, f_tupL, f_tupO, f_lstT, f_lstL, f_lstD, f_min2, f_minL, f_all, f_any, f_intB, f_str, z_ll, z_tt, ad_nil, ad_cons, objAt, setAll, wipeA, wipeS, List.map_cons, List.map_nil, List.length_cons, List.length_nil, List.replicate, List.cons_append, List.nil_append, Nat.zero_add, Nat.reduceAdd, Nat.reduceSub, Wd.d, tupI, frI, prI, ixD, at3_0, at3_1, at3_2, at2_0, at2_1, eqD, Flat, and_true, true_and, and_self, if_true, if_false, Bool.false_eq_true, reduceIte]
  refine for_i mo (fun its os1 => (∃ n : Nat, n ≤ 10 ∧ its = rngD 0 (n : Int)) ∧ os1 = [.scr ns]) ?_ fun its os1 ⟨⟨n, hn10, e1⟩, e2⟩ => ?_
  · simp only [bodyW, e_var, e_cst, e_dct, e_bin, e_neg, e_not, e_cmp, e_cmp2, e_and, e_or, e_ite, e_tup, e_lst, e_idx, e_slc, e_rev, e_fn, e_call, es_nil, es_cons, o_none, o_some, t_tt, t_and, t_or, t_not, t_val, i_seq, i_rng, i_enm, i_zip, p_nil, p_cons, s_set, s_setO, s_unp, s_par, s_aug, s_ext, s_iff, s_ret, s_app, s_pop, s_stL, s_stD, s_appN, s_popN, s_drop, s_cont, s_brk, ss_nil, ss_cons, getS, setS, setPs, rs_val, rs_obj, rs_new, rsv_d, rsv_last, b_add, b_addL, b_addT, b_sub, b_mul, b_div, b_mod, b_pow, c_eq, c_ne, c_lt, c_le, c_gt, c_ge, c_inL, c_inT, c_niL, c_niT, c_isB, c_isN, c_isI, c_isT, c_inN, c_inI, c_inTu, tr_non, tr_bl, tr_int, tr_lst, tr_tup, x_lst, x_tup, sl_l, sl_t, rv_l, nw_f, nw_t, au_add, au_sub, au_mul, la_last, bd_nm, bd_tp, sq_l, sq_t, f_len, f_isi, f_sortD, f_sortO, f_tupL, f_tupO, f_lstT, f_lstL, f_lstD, f_min2, f_minL, f_all, f_any, f_intB, f_str, z_ll, z_tt, ad_nil, ad_cons, objAt, setAll, wipeA, wipeS, List.map_cons, List.map_nil, List.length_cons, List.length_nil, List.replicate, List.cons_append, List.nil_append, Nat.zero_add, Nat.reduceAdd, Nat.reduceSub, Wd.d, tupI, frI, prI, ixD, at3_0, at3_1, at3_2, at2_0, at2_1, eqD, Flat, and_true, true_and, and_self, if_true, if_false, Bool.false_eq_true, reduceIte, rsv_scr (show ([O.scr ns] : List O)[0]? = some (.scr ns) from rfl), List.length_map]
    have e : (if (8 : Int) < (ns.length : Int) then (8 : Int) else (ns.length : Int)) + 2 = ((min ns.length 8 + 2 : Nat) : Int) := by split <;> omega
    rw [e]
    exact ⟨by omega, min ns.length 8 + 2, by omega, rfl⟩
  subst e1 e2
  refine ⟨fun i env os' => ∃ x1 x2 x3 x4 x5 x6 x7 x8 x9 x10 x11 x12 x13 x14 x15 x16, env = [some (.o 0), x1, x2, x3, x4, x5, x6, x7, x8, x9, x10, x11, x12, x13, x14, x15, x16] ∧ os'[0]? = some (.scr ns), ⟨none, none, none, none, none, none, none, none, none, none, none, none, none, none, none, none, rfl, rfl⟩,
    fun i x env os' hx ⟨x1, x2, x3, x4, x5, x6, x7, x8, x9, x10, x11, x12, x13, x14, x15, x16, he, ho⟩ => ?_, fun env os' ⟨x1, x2, x3, x4, x5, x6, x7, x8, x9, x10, x11, x12, x13, x14, x15, x16, he, ho⟩ => ?_⟩
  · subst he
    obtain ⟨rfl, hi⟩ := rngD_get hx
    simp only [bodyW, e_var, e_cst, e_dct, e_bin, e_neg, e_not, e_cmp, e_cmp2, e_and, e_or, e_ite, e_tup, e_lst, e_idx, e_slc, e_rev, e_fn, e_call, es_nil, es_cons, o_none, o_some, t_tt, t_and, t_or, t_not, t_val, i_seq, i_rng, i_enm, i_zip, p_nil, p_cons, s_set, s_setO, s_unp, s_par, s_aug, s_ext, s_iff, s_ret, s_app, s_pop, s_stL, s_stD, s_appN, s_popN, s_drop, s_cont, s_brk, ss_nil, ss_cons, getS, setS, setPs, rs_val, rs_obj, rs_new, rsv_d, rsv_last, b_add, b_addL, b_addT, b_sub, b_mul, b_div, b_mod, b_pow, c_eq, c_ne, c_lt, c_le, c_gt, c_ge, c_inL, c_inT, c_niL, c_niT, c_isB, c_isN, c_isI, c_isT, c_inN, c_inI, c_inTu, tr_non, tr_bl, tr_int, tr_lst, tr_tup, x_lst, x_tup, sl_l, sl_t, rv_l, nw_f, nw_t, au_add, au_sub, au_mul, la_last, bd_nm, bd_tp, sq_l, sq_t, f_len, f_isi, f_sortD, f_sortO, f_tupL, f_tupO, f_lstT, f_lstL, f_lstD, f_min2, f_minL, f_all, f_any, f_intB, f_str, z_ll, z_tt, ad_nil, ad_cons, objAt, setAll, wipeA, wipeS, List.map_cons, List.map_nil, List.length_cons, List.length_nil, List.replicate, List.cons_append, List.nil_append, Nat.zero_add, Nat.reduceAdd, Nat.reduceSub, Wd.d, tupI, frI, prI, ixD, at3_0, at3_1, at3_2, at2_0, at2_1, eqD, Flat, and_true, true_and, and_self, if_true, if_false, Bool.false_eq_true, reduceIte, h30, Int.zero_add]
    refine ⟨0, i, ns, rfl, ho, by omega, fun a b ha hb => ?_⟩
    simp only [bodyW, e_var, e_cst, e_dct, e_bin, e_neg, e_not, e_cmp, e_cmp2, e_and, e_or, e_ite, e_tup, e_lst, e_idx, e_slc, e_rev, e_fn, e_call, es_nil, es_cons, o_none, o_some, t_tt, t_and, t_or, t_not, t_val, i_seq, i_rng, i_enm, i_zip, p_nil, p_cons, s_set, s_setO, s_unp, s_par, s_aug, s_ext, s_iff, s_ret, s_app, s_pop, s_stL, s_stD, s_appN, s_popN, s_drop, s_cont, s_brk, ss_nil, ss_cons, getS, setS, setPs, rs_val, rs_obj, rs_new, rsv_d, rsv_last, b_add, b_addL, b_addT, b_sub, b_mul, b_div, b_mod, b_pow, c_eq, c_ne, c_lt, c_le, c_gt, c_ge, c_inL, c_inT, c_niL, c_niT, c_isB, c_isN, c_isI, c_isT, c_inN, c_inI, c_inTu, tr_non, tr_bl, tr_int, tr_lst, tr_tup, x_lst, x_tup, sl_l, sl_t, rv_l, nw_f, nw_t, au_add, au_sub, au_mul, la_last, bd_nm, bd_tp, sq_l, sq_t, f_len, f_isi, f_sortD, f_sortO, f_tupL, f_tupO, f_lstT, f_lstL, f_lstD, f_min2, f_minL, f_all, f_any, f_intB, f_str, z_ll, z_tt, ad_nil, ad_cons, objAt, setAll, wipeA, wipeS, List.map_cons, List.map_nil, List.length_cons, List.length_nil, List.replicate, List.cons_append, List.nil_append, Nat.zero_add, Nat.reduceAdd, Nat.reduceSub, Wd.d, tupI, frI, prI, ixD, at3_0, at3_1, at3_2, at2_0, at2_1, eqD, Flat, and_true, true_and, and_self, if_true, if_false, Bool.false_eq_true, reduceIte, h33, h31, h7]
    have hbag : Bag (os' ++ [bagO a b]) os'.length := ⟨a, b, by simp, ha, hb⟩
    refine ⟨os'.length, rfl, hbag, fun W os2 hW k1 => ?_⟩
    simp only [bodyW, e_var, e_cst, e_dct, e_bin, e_neg, e_not, e_cmp, e_cmp2, e_and, e_or, e_ite, e_tup, e_lst, e_idx, e_slc, e_rev, e_fn, e_call, es_nil, es_cons, o_none, o_some, t_tt, t_and, t_or, t_not, t_val, i_seq, i_rng, i_enm, i_zip, p_nil, p_cons, s_set, s_setO, s_unp, s_par, s_aug, s_ext, s_iff, s_ret, s_app, s_pop, s_stL, s_stD, s_appN, s_popN, s_drop, s_cont, s_brk, ss_nil, ss_cons, getS, setS, setPs, rs_val, rs_obj, rs_new, rsv_d, rsv_last, b_add, b_addL, b_addT, b_sub, b_mul, b_div, b_mod, b_pow, c_eq, c_ne, c_lt, c_le, c_gt, c_ge, c_inL, c_inT, c_niL, c_niT, c_isB, c_isN, c_isI, c_isT, c_inN, c_inI, c_inTu, tr_non, tr_bl, tr_int, tr_lst, tr_tup, x_lst, x_tup, sl_l, sl_t, rv_l, nw_f, nw_t, au_add, au_sub, au_mul, la_last, bd_nm, bd_tp, sq_l, sq_t, f_len, f_isi, f_sortD, f_sortO, f_tupL, f_tupO, f_lstT, f_lstL, f_lstD, f_min2, f_minL, f_all, f_any, f_intB, f_str, z_ll, z_tt, ad_nil, ad_cons, objAt, setAll, wipeA, wipeS, List.map_cons, List.map_nil, List.length_cons, List.length_nil, List.replicate, List.cons_append, List.nil_append, Nat.zero_add, Nat.reduceAdd, Nat.reduceSub, Wd.d, tupI, frI, prI, ixD, at3_0, at3_1, at3_2, at2_0, at2_1, eqD, Flat, and_true, true_and, and_self, if_true, if_false, Bool.false_eq_true, reduceIte]
    refine ⟨os'.length, 24, rfl, k1.bag, by decide, by decide, fun y os3 hy k2 => ?_⟩
    have em : (1 : Int) + y = ((1 + y : Nat) : Int) := by simp
    simp only [bodyW, e_var, e_cst, e_dct, e_bin, e_neg, e_not, e_cmp, e_cmp2, e_and, e_or, e_ite, e_tup, e_lst, e_idx, e_slc, e_rev, e_fn, e_call, es_nil, es_cons, o_none, o_some, t_tt, t_and, t_or, t_not, t_val, i_seq, i_rng, i_enm, i_zip, p_nil, p_cons, s_set, s_setO, s_unp, s_par, s_aug, s_ext, s_iff, s_ret, s_app, s_pop, s_stL, s_stD, s_appN, s_popN, s_drop, s_cont, s_brk, ss_nil, ss_cons, getS, setS, setPs, rs_val, rs_obj, rs_new, rsv_d, rsv_last, b_add, b_addL, b_addT, b_sub, b_mul, b_div, b_mod, b_pow, c_eq, c_ne, c_lt, c_le, c_gt, c_ge, c_inL, c_inT, c_niL, c_niT, c_isB, c_isN, c_isI, c_isT, c_inN, c_inI, c_inTu, tr_non, tr_bl, tr_int, tr_lst, tr_tup, x_lst, x_tup, sl_l, sl_t, rv_l, nw_f, nw_t, au_add, au_sub, au_mul, la_last, bd_nm, bd_tp, sq_l, sq_t, f_len, f_isi, f_sortD, f_sortO, f_tupL, f_tupO, f_lstT, f_lstL, f_lstD, f_min2, f_minL, f_all, f_any, f_intB, f_str, z_ll, z_tt, ad_nil, ad_cons, objAt, setAll, wipeA, wipeS, List.map_cons, List.map_nil, List.length_cons, List.length_nil, List.replicate, List.cons_append, List.nil_append, Nat.zero_add, Nat.reduceAdd, Nat.reduceSub, Wd.d, tupI, frI, prI, ixD, at3_0, at3_1, at3_2, at2_0, at2_1, eqD, Flat, and_true, true_and, and_self, if_true, if_false, Bool.false_eq_true, reduceIte, em]
    have hm1 : 1 ≤ 1 + y := by omega
    have hm : 1 + y ≤ 24 := by omega
    generalize 1 + y = many at hm1 hm ⊢
    have hm30 : many ≤ 30 := by omega
    have kk := k1.tr k2
    have ho3 : os3[0]? = some (.scr ns) := by
      have hp : 0 < os'.length := (List.getElem?_eq_some_iff.mp ho).1
      rw [kk.old 0 (by omega)]
      exact g_old ho
    have hb3 := kk.bag
    clear hbag k1 k2 kk em hx
    generalize os'.length = j at hb3 ⊢
    refine ⟨many, W, rfl, hW, hm1, hm30, ?_⟩
    simp only [bodyW, e_var, e_cst, e_dct, e_bin, e_neg, e_not, e_cmp, e_cmp2, e_and, e_or, e_ite, e_tup, e_lst, e_idx, e_slc, e_rev, e_fn, e_call, es_nil, es_cons, o_none, o_some, t_tt, t_and, t_or, t_not, t_val, i_seq, i_rng, i_enm, i_zip, p_nil, p_cons, s_set, s_setO, s_unp, s_par, s_aug, s_ext, s_iff, s_ret, s_app, s_pop, s_stL, s_stD, s_appN, s_popN, s_drop, s_cont, s_brk, ss_nil, ss_cons, getS, setS, setPs, rs_val, rs_obj, rs_new, rsv_d, rsv_last, b_add, b_addL, b_addT, b_sub, b_mul, b_div, b_mod, b_pow, c_eq, c_ne, c_lt, c_le, c_gt, c_ge, c_inL, c_inT, c_niL, c_niT, c_isB, c_isN, c_isI, c_isT, c_inN, c_inI, c_inTu, tr_non, tr_bl, tr_int, tr_lst, tr_tup, x_lst, x_tup, sl_l, sl_t, rv_l, nw_f, nw_t, au_add, au_sub, au_mul, la_last, bd_nm, bd_tp, sq_l, sq_t, f_len, f_isi, f_sortD, f_sortO, f_tupL, f_tupO, f_lstT, f_lstL, f_lstD, f_min2, f_minL, f_all, f_any, f_intB, f_str, z_ll, z_tt, ad_nil, ad_cons, objAt, setAll, wipeA, wipeS, List.map_cons, List.map_nil, List.length_cons, List.length_nil, List.replicate, List.cons_append, List.nil_append, Nat.zero_add, Nat.reduceAdd, Nat.reduceSub, Wd.d, tupI, frI, prI, ixD, at3_0, at3_1, at3_2, at2_0, at2_1, eqD, Flat, and_true, true_and, and_self, if_true, if_false, Bool.false_eq_true, reduceIte]
    -- the ring's ends
    obtain ⟨r0, hr0, hr01⟩ := rows_first (many := many) hW hm30
    have a0 : atI ((rowsL many W).map rowI) 0 = some (rowI r0) := ixI (i := 0) (by rw [List.getElem?_map, hr0]; rfl)
    obtain ⟨rs, r9, hrs, hr9⟩ := rows_last (many := many) hW hm30
    have a9 : atI ((rowsL many W).map rowI) (-1) = some (rowI r9) := by rw [hrs, List.map_append]; exact at_last1 _ _
    rw [a0, a9]
    simp only [bodyW, e_var, e_cst, e_dct, e_bin, e_neg, e_not, e_cmp, e_cmp2, e_and, e_or, e_ite, e_tup, e_lst, e_idx, e_slc, e_rev, e_fn, e_call, es_nil, es_cons, o_none, o_some, t_tt, t_and, t_or, t_not, t_val, i_seq, i_rng, i_enm, i_zip, p_nil, p_cons, s_set, s_setO, s_unp, s_par, s_aug, s_ext, s_iff, s_ret, s_app, s_pop, s_stL, s_stD, s_appN, s_popN, s_drop, s_cont, s_brk, ss_nil, ss_cons, getS, setS, setPs, rs_val, rs_obj, rs_new, rsv_d, rsv_last, b_add, b_addL, b_addT, b_sub, b_mul, b_div, b_mod, b_pow, c_eq, c_ne, c_lt, c_le, c_gt, c_ge, c_inL, c_inT, c_niL, c_niT, c_isB, c_isN, c_isI, c_isT, c_inN, c_inI, c_inTu, tr_non, tr_bl, tr_int, tr_lst, tr_tup, x_lst, x_tup, sl_l, sl_t, rv_l, nw_f, nw_t, au_add, au_sub, au_mul, la_last, bd_nm, bd_tp, sq_l, sq_t, f_len, f_isi, f_sortD, f_sortO, f_tupL, f_tupO, f_lstT, f_lstL, f_lstD, f_min2, f_minL, f_all, f_any, f_intB, f_str, z_ll, z_tt, ad_nil, ad_cons, objAt, setAll, wipeA, wipeS, List.map_cons, List.map_nil, List.length_cons, List.length_nil, List.replicate, List.cons_append, List.nil_append, Nat.zero_add, Nat.reduceAdd, Nat.reduceSub, rowI, ixD, at3_0, at3_1]
    have f01 : ∀ (a b : Int), ∀ d ∈ [D.int a, D.int b], Flat 7 d := fun a b d hd => by
      simp only [List.mem_cons, List.not_mem_nil, or_false] at hd
      rcases hd with rfl | rfl <;> exact flat_int 7 _
    refine ⟨by decide, flat_fr 7 _, f01 _ _, ifn (ne_fr (y := (0, 1)) hr01) ⟨by decide, flat_fr 7 _, f01 _ _, ifn (ne_fr (y := (1, 1)) hr9) ?_⟩⟩
    -- next to one another
    refine for_i mo (fun its os1 => its = ((rowsL many W).zip ((rowsL many W).drop 1)).map (fun p => .tup [rowI p.1, rowI p.2]) ∧ os1 = os3) ?_ fun its os1 ⟨e1, e2⟩ => ?_
    · simp only [bodyW, e_var, e_cst, e_dct, e_bin, e_neg, e_not, e_cmp, e_cmp2, e_and, e_or, e_ite, e_tup, e_lst, e_idx, e_slc, e_rev, e_fn, e_call, es_nil, es_cons, o_none, o_some, t_tt, t_and, t_or, t_not, t_val, i_seq, i_rng, i_enm, i_zip, p_nil, p_cons, s_set, s_setO, s_unp, s_par, s_aug, s_ext, s_iff, s_ret, s_app, s_pop, s_stL, s_stD, s_appN, s_popN, s_drop, s_cont, s_brk, ss_nil, ss_cons, getS, setS, setPs, rs_val, rs_obj, rs_new, rsv_d, rsv_last, b_add, b_addL, b_addT, b_sub, b_mul, b_div, b_mod, b_pow, c_eq, c_ne, c_lt, c_le, c_gt, c_ge, c_inL, c_inT, c_niL, c_niT, c_isB, c_isN, c_isI, c_isT, c_inN, c_inI, c_inTu, tr_non, tr_bl, tr_int, tr_lst, tr_tup, x_lst, x_tup, sl_l, sl_t, rv_l, nw_f, nw_t, au_add, au_sub, au_mul, la_last, bd_nm, bd_tp, sq_l, sq_t, f_len, f_isi, f_sortD, f_sortO, f_tupL, f_tupO, f_lstT, f_lstL, f_lstD, f_min2, f_minL, f_all, f_any, f_intB, f_str, z_ll, z_tt, ad_nil, ad_cons, objAt, setAll, wipeA, wipeS, List.map_cons, List.map_nil, List.length_cons, List.length_nil, List.replicate, List.cons_append, List.nil_append, Nat.zero_add, Nat.reduceAdd, Nat.reduceSub, cut_1]
      rw [← List.map_drop, zipD_map]
      exact ⟨by trivial, by trivial⟩
    subst e1 e2
    refine ⟨fun _ env os' => ∃ x6 x7, env = [some (.o 0), some (.d (.int i)), some (.o j), some (.d W.d), some (.d (.int many)), some (.d (.lst ((rowsL many W).map rowI))), x6, x7, x8, x9, x10, x11, x12, x13, x14, x15, x16] ∧ os' = os1, ⟨x6, x7, rfl, rfl⟩, fun m x env os' hx ⟨y6, y7, he, ho⟩ => ?_, fun env os' ⟨y6, y7, he, ho⟩ => ?_⟩
    · subst he ho
      obtain ⟨⟨r, s⟩, hrs, rfl⟩ := map_get hx
      obtain ⟨g1, g2⟩ := zip_drop hrs
      simp only at g1 g2
      simp only [bodyW, e_var, e_cst, e_dct, e_bin, e_neg, e_not, e_cmp, e_cmp2, e_and, e_or, e_ite, e_tup, e_lst, e_idx, e_slc, e_rev, e_fn, e_call, es_nil, es_cons, o_none, o_some, t_tt, t_and, t_or, t_not, t_val, i_seq, i_rng, i_enm, i_zip, p_nil, p_cons, s_set, s_setO, s_unp, s_par, s_aug, s_ext, s_iff, s_ret, s_app, s_pop, s_stL, s_stD, s_appN, s_popN, s_drop, s_cont, s_brk, ss_nil, ss_cons, getS, setS, setPs, rs_val, rs_obj, rs_new, rsv_d, rsv_last, b_add, b_addL, b_addT, b_sub, b_mul, b_div, b_mod, b_pow, c_eq, c_ne, c_lt, c_le, c_gt, c_ge, c_inL, c_inT, c_niL, c_niT, c_isB, c_isN, c_isI, c_isT, c_inN, c_inI, c_inTu, tr_non, tr_bl, tr_int, tr_lst, tr_tup, x_lst, x_tup, sl_l, sl_t, rv_l, nw_f, nw_t, au_add, au_sub, au_mul, la_last, bd_nm, bd_tp, sq_l, sq_t, f_len, f_isi, f_sortD, f_sortO, f_tupL, f_tupO, f_lstT, f_lstL, f_lstD, f_min2, f_minL, f_all, f_any, f_intB, f_str, z_ll, z_tt, ad_nil, ad_cons, objAt, setAll, wipeA, wipeS, List.map_cons, List.map_nil, List.length_cons, List.length_nil, List.replicate, List.cons_append, List.nil_append, Nat.zero_add, Nat.reduceAdd, Nat.reduceSub, rowI, ixD, at3_0, at3_1, at3_2, h57]
      refine ⟨flat_fr 7 _, flat_fr 7 _, ifn (ne_fr (rows_next g1 g2)) ⟨flat_tupI 7 _, flat_tupI 7 _, ?_⟩⟩
      refine ifn (fun z => rows_adj hW hm30 hm1 g1 g2 (of_decide_eq_true ((eq_tupI _ _).symm.trans z))) ?_
      have hrm := List.mem_of_getElem? g1
      obtain ⟨b1, b2, b3, b4⟩ := rowI_mem hW hm30 hrm
      refine ⟨r.1, r.2.1, rfl, b1, b2, b3, b4, ?_⟩
      have hlt := (row_bnd hW hm30 hrm).2.2.1
      simp only [bodyW, e_var, e_cst, e_dct, e_bin, e_neg, e_not, e_cmp, e_cmp2, e_and, e_or, e_ite, e_tup, e_lst, e_idx, e_slc, e_rev, e_fn, e_call, es_nil, es_cons, o_none, o_some, t_tt, t_and, t_or, t_not, t_val, i_seq, i_rng, i_enm, i_zip, p_nil, p_cons, s_set, s_setO, s_unp, s_par, s_aug, s_ext, s_iff, s_ret, s_app, s_pop, s_stL, s_stD, s_appN, s_popN, s_drop, s_cont, s_brk, ss_nil, ss_cons, getS, setS, setPs, rs_val, rs_obj, rs_new, rsv_d, rsv_last, b_add, b_addL, b_addT, b_sub, b_mul, b_div, b_mod, b_pow, c_eq, c_ne, c_lt, c_le, c_gt, c_ge, c_inL, c_inT, c_niL, c_niT, c_isB, c_isN, c_isI, c_isT, c_inN, c_inI, c_inTu, tr_non, tr_bl, tr_int, tr_lst, tr_tup, x_lst, x_tup, sl_l, sl_t, rv_l, nw_f, nw_t, au_add, au_sub, au_mul, la_last, bd_nm, bd_tp, sq_l, sq_t, f_len, f_isi, f_sortD, f_sortO, f_tupL, f_tupO, f_lstT, f_lstL, f_lstD, f_min2, f_minL, f_all, f_any, f_intB, f_str, z_ll, z_tt, ad_nil, ad_cons, objAt, setAll, wipeA, wipeS, List.map_cons, List.map_nil, List.length_cons, List.length_nil, List.replicate, List.cons_append, List.nil_append, Nat.zero_add, Nat.reduceAdd, Nat.reduceSub, decide_eq_true hlt]
      exact ifn (by decide) ⟨_, _, rfl, trivial⟩
    subst he ho
    simp only [bodyW, e_var, e_cst, e_dct, e_bin, e_neg, e_not, e_cmp, e_cmp2, e_and, e_or, e_ite, e_tup, e_lst, e_idx, e_slc, e_rev, e_fn, e_call, es_nil, es_cons, o_none, o_some, t_tt, t_and, t_or, t_not, t_val, i_seq, i_rng, i_enm, i_zip, p_nil, p_cons, s_set, s_setO, s_unp, s_par, s_aug, s_ext, s_iff, s_ret, s_app, s_pop, s_stL, s_stD, s_appN, s_popN, s_drop, s_cont, s_brk, ss_nil, ss_cons, getS, setS, setPs, rs_val, rs_obj, rs_new, rsv_d, rsv_last, b_add, b_addL, b_addT, b_sub, b_mul, b_div, b_mod, b_pow, c_eq, c_ne, c_lt, c_le, c_gt, c_ge, c_inL, c_inT, c_niL, c_niT, c_isB, c_isN, c_isI, c_isT, c_inN, c_inI, c_inTu, tr_non, tr_bl, tr_int, tr_lst, tr_tup, x_lst, x_tup, sl_l, sl_t, rv_l, nw_f, nw_t, au_add, au_sub, au_mul, la_last, bd_nm, bd_tp, sq_l, sq_t, f_len, f_isi, f_sortD, f_sortO, f_tupL, f_tupO, f_lstT, f_lstL, f_lstD, f_min2, f_minL, f_all, f_any, f_intB, f_str, z_ll, z_tt, ad_nil, ad_cons, objAt, setAll, wipeA, wipeS, List.map_cons, List.map_nil, List.length_cons, List.length_nil, List.replicate, List.cons_append, List.nil_append, Nat.zero_add, Nat.reduceAdd, Nat.reduceSub, Wd.d, tupI, frI, prI, ixD, at3_0, at3_1, at3_2, at2_0, at2_1, eqD, Flat, and_true, true_and, and_self, if_true, if_false, Bool.false_eq_true, reduceIte, h58]
    have hlm : (List.range many).length ≤ lim := by rw [List.length_range]; unfold lim; omega
    refine lc_filL mo (List.range many) (fun c : Nat => .int c) (fun c => .int c) (fun _ => false) ?_ hlm (fun c hc => ?_) ?_
    · simp only [bodyW, e_var, e_cst, e_dct, e_bin, e_neg, e_not, e_cmp, e_cmp2, e_and, e_or, e_ite, e_tup, e_lst, e_idx, e_slc, e_rev, e_fn, e_call, es_nil, es_cons, o_none, o_some, t_tt, t_and, t_or, t_not, t_val, i_seq, i_rng, i_enm, i_zip, p_nil, p_cons, s_set, s_setO, s_unp, s_par, s_aug, s_ext, s_iff, s_ret, s_app, s_pop, s_stL, s_stD, s_appN, s_popN, s_drop, s_cont, s_brk, ss_nil, ss_cons, getS, setS, setPs, rs_val, rs_obj, rs_new, rsv_d, rsv_last, b_add, b_addL, b_addT, b_sub, b_mul, b_div, b_mod, b_pow, c_eq, c_ne, c_lt, c_le, c_gt, c_ge, c_inL, c_inT, c_niL, c_niT, c_isB, c_isN, c_isI, c_isT, c_inN, c_inI, c_inTu, tr_non, tr_bl, tr_int, tr_lst, tr_tup, x_lst, x_tup, sl_l, sl_t, rv_l, nw_f, nw_t, au_add, au_sub, au_mul, la_last, bd_nm, bd_tp, sq_l, sq_t, f_len, f_isi, f_sortD, f_sortO, f_tupL, f_tupO, f_lstT, f_lstL, f_lstD, f_min2, f_minL, f_all, f_any, f_intB, f_str, z_ll, z_tt, ad_nil, ad_cons, objAt, setAll, wipeA, wipeS, List.map_cons, List.map_nil, List.length_cons, List.length_nil, List.replicate, List.cons_append, List.nil_append, Nat.zero_add, Nat.reduceAdd, Nat.reduceSub, rngD_0]
      exact ⟨by omega, by trivial, by trivial⟩
    · simp only [bodyW, e_var, e_cst, e_dct, e_bin, e_neg, e_not, e_cmp, e_cmp2, e_and, e_or, e_ite, e_tup, e_lst, e_idx, e_slc, e_rev, e_fn, e_call, es_nil, es_cons, o_none, o_some, t_tt, t_and, t_or, t_not, t_val, i_seq, i_rng, i_enm, i_zip, p_nil, p_cons, s_set, s_setO, s_unp, s_par, s_aug, s_ext, s_iff, s_ret, s_app, s_pop, s_stL, s_stD, s_appN, s_popN, s_drop, s_cont, s_brk, ss_nil, ss_cons, getS, setS, setPs, rs_val, rs_obj, rs_new, rsv_d, rsv_last, b_add, b_addL, b_addT, b_sub, b_mul, b_div, b_mod, b_pow, c_eq, c_ne, c_lt, c_le, c_gt, c_ge, c_inL, c_inT, c_niL, c_niT, c_isB, c_isN, c_isI, c_isT, c_inN, c_inI, c_inTu, tr_non, tr_bl, tr_int, tr_lst, tr_tup, x_lst, x_tup, sl_l, sl_t, rv_l, nw_f, nw_t, au_add, au_sub, au_mul, la_last, bd_nm, bd_tp, sq_l, sq_t, f_len, f_isi, f_sortD, f_sortO, f_tupL, f_tupO, f_lstT, f_lstL, f_lstD, f_min2, f_minL, f_all, f_any, f_intB, f_str, z_ll, z_tt, ad_nil, ad_cons, objAt, setAll, wipeA, wipeS, List.map_cons, List.map_nil, List.length_cons, List.length_nil, List.replicate, List.cons_append, List.nil_append, Nat.zero_add, Nat.reduceAdd, Nat.reduceSub, h58]
      refine ⟨⟨many, W, c, rfl, hW, hm1, hm30, List.mem_range.mp hc, ?_⟩, fun z => by cases z⟩
      simp only [bodyW, e_var, e_cst, e_dct, e_bin, e_neg, e_not, e_cmp, e_cmp2, e_and, e_or, e_ite, e_tup, e_lst, e_idx, e_slc, e_rev, e_fn, e_call, es_nil, es_cons, o_none, o_some, t_tt, t_and, t_or, t_not, t_val, i_seq, i_rng, i_enm, i_zip, p_nil, p_cons, s_set, s_setO, s_unp, s_par, s_aug, s_ext, s_iff, s_ret, s_app, s_pop, s_stL, s_stD, s_appN, s_popN, s_drop, s_cont, s_brk, ss_nil, ss_cons, getS, setS, setPs, rs_val, rs_obj, rs_new, rsv_d, rsv_last, b_add, b_addL, b_addT, b_sub, b_mul, b_div, b_mod, b_pow, c_eq, c_ne, c_lt, c_le, c_gt, c_ge, c_inL, c_inT, c_niL, c_niT, c_isB, c_isN, c_isI, c_isT, c_inN, c_inI, c_inTu, tr_non, tr_bl, tr_int, tr_lst, tr_tup, x_lst, x_tup, sl_l, sl_t, rv_l, nw_f, nw_t, au_add, au_sub, au_mul, la_last, bd_nm, bd_tp, sq_l, sq_t, f_len, f_isi, f_sortD, f_sortO, f_tupL, f_tupO, f_lstT, f_lstL, f_lstD, f_min2, f_minL, f_all, f_any, f_intB, f_str, z_ll, z_tt, ad_nil, ad_cons, objAt, setAll, wipeA, wipeS, List.map_cons, List.map_nil, List.length_cons, List.length_nil, List.replicate, List.cons_append, List.nil_append, Nat.zero_add, Nat.reduceAdd, Nat.reduceSub]
      exact ⟨by trivial, by trivial⟩
    have hfil : ((List.range many).filter fun _ => false) = [] := by rw [List.filter_eq_nil_iff]; simp
    simp only [bodyW, e_var, e_cst, e_dct, e_bin, e_neg, e_not, e_cmp, e_cmp2, e_and, e_or, e_ite, e_tup, e_lst, e_idx, e_slc, e_rev, e_fn, e_call, es_nil, es_cons, o_none, o_some, t_tt, t_and, t_or, t_not, t_val, i_seq, i_rng, i_enm, i_zip, p_nil, p_cons, s_set, s_setO, s_unp, s_par, s_aug, s_ext, s_iff, s_ret, s_app, s_pop, s_stL, s_stD, s_appN, s_popN, s_drop, s_cont, s_brk, ss_nil, ss_cons, getS, setS, setPs, rs_val, rs_obj, rs_new, rsv_d, rsv_last, b_add, b_addL, b_addT, b_sub, b_mul, b_div, b_mod, b_pow, c_eq, c_ne, c_lt, c_le, c_gt, c_ge, c_inL, c_inT, c_niL, c_niT, c_isB, c_isN, c_isI, c_isT, c_inN, c_inI, c_inTu, tr_non, tr_bl, tr_int, tr_lst, tr_tup, x_lst, x_tup, sl_l, sl_t, rv_l, nw_f, nw_t, au_add, au_sub, au_mul, la_last, bd_nm, bd_tp, sq_l, sq_t, f_len, f_isi, f_sortD, f_sortO, f_tupL, f_tupO, f_lstT, f_lstL, f_lstD, f_min2, f_minL, f_all, f_any, f_intB, f_str, z_ll, z_tt, ad_nil, ad_cons, objAt, setAll, wipeA, wipeS, List.map_cons, List.map_nil, List.length_cons, List.length_nil, List.replicate, List.cons_append, List.nil_append, Nat.zero_add, Nat.reduceAdd, Nat.reduceSub, hfil, h59]
    refine ⟨by decide, by simp [Flat], by simp [Flat], ifn (by simp [eqD, eqDs]) ?_⟩
    refine ⟨many, W, rfl, hW, hm1, hm30, ?_⟩
    simp only [bodyW, e_var, e_cst, e_dct, e_bin, e_neg, e_not, e_cmp, e_cmp2, e_and, e_or, e_ite, e_tup, e_lst, e_idx, e_slc, e_rev, e_fn, e_call, es_nil, es_cons, o_none, o_some, t_tt, t_and, t_or, t_not, t_val, i_seq, i_rng, i_enm, i_zip, p_nil, p_cons, s_set, s_setO, s_unp, s_par, s_aug, s_ext, s_iff, s_ret, s_app, s_pop, s_stL, s_stD, s_appN, s_popN, s_drop, s_cont, s_brk, ss_nil, ss_cons, getS, setS, setPs, rs_val, rs_obj, rs_new, rsv_d, rsv_last, b_add, b_addL, b_addT, b_sub, b_mul, b_div, b_mod, b_pow, c_eq, c_ne, c_lt, c_le, c_gt, c_ge, c_inL, c_inT, c_niL, c_niT, c_isB, c_isN, c_isI, c_isT, c_inN, c_inI, c_inTu, tr_non, tr_bl, tr_int, tr_lst, tr_tup, x_lst, x_tup, sl_l, sl_t, rv_l, nw_f, nw_t, au_add, au_sub, au_mul, la_last, bd_nm, bd_tp, sq_l, sq_t, f_len, f_isi, f_sortD, f_sortO, f_tupL, f_tupO, f_lstT, f_lstL, f_lstD, f_min2, f_minL, f_all, f_any, f_intB, f_str, z_ll, z_tt, ad_nil, ad_cons, objAt, setAll, wipeA, wipeS, List.map_cons, List.map_nil, List.length_cons, List.length_nil, List.replicate, List.cons_append, List.nil_append, Nat.zero_add, Nat.reduceAdd, Nat.reduceSub]
    refine ifn (by decide) ?_
    -- needles at drawn angles
    refine for_i mo (fun its os1 => its = rngD 0 6 ∧ os1 = os') ?_ fun its os1 ⟨e1, e2⟩ => ?_
    · simp only [bodyW, e_var, e_cst, e_dct, e_bin, e_neg, e_not, e_cmp, e_cmp2, e_and, e_or, e_ite, e_tup, e_lst, e_idx, e_slc, e_rev, e_fn, e_call, es_nil, es_cons, o_none, o_some, t_tt, t_and, t_or, t_not, t_val, i_seq, i_rng, i_enm, i_zip, p_nil, p_cons, s_set, s_setO, s_unp, s_par, s_aug, s_ext, s_iff, s_ret, s_app, s_pop, s_stL, s_stD, s_appN, s_popN, s_drop, s_cont, s_brk, ss_nil, ss_cons, getS, setS, setPs, rs_val, rs_obj, rs_new, rsv_d, rsv_last, b_add, b_addL, b_addT, b_sub, b_mul, b_div, b_mod, b_pow, c_eq, c_ne, c_lt, c_le, c_gt, c_ge, c_inL, c_inT, c_niL, c_niT, c_isB, c_isN, c_isI, c_isT, c_inN, c_inI, c_inTu, tr_non, tr_bl, tr_int, tr_lst, tr_tup, x_lst, x_tup, sl_l, sl_t, rv_l, nw_f, nw_t, au_add, au_sub, au_mul, la_last, bd_nm, bd_tp, sq_l, sq_t, f_len, f_isi, f_sortD, f_sortO, f_tupL, f_tupO, f_lstT, f_lstL, f_lstD, f_min2, f_minL, f_all, f_any, f_intB, f_str, z_ll, z_tt, ad_nil, ad_cons, objAt, setAll, wipeA, wipeS, List.map_cons, List.map_nil, List.length_cons, List.length_nil, List.replicate, List.cons_append, List.nil_append, Nat.zero_add, Nat.reduceAdd, Nat.reduceSub]
      exact ⟨by decide, by trivial, by trivial⟩
    subst e1 e2
    refine ⟨fun _ env os' => ∃ x6 x7 x8 x9 x10 x11 x12 x13 x14 x15 x16, env = [some (.o 0), some (.d (.int i)), some (.o j), some (.d W.d), some (.d (.int many)), some (.d (.lst ((rowsL many W).map rowI))), x6, x7, x8, x9, x10, x11, x12, x13, x14, x15, x16] ∧ os'[0]? = some (.scr ns) ∧ Bag os' j, ⟨y6, y7, x8, x9, x10, x11, x12, x13, x14, x15, x16, rfl, ho3, hb3⟩, fun m x env os' hx ⟨x6, x7, x8, x9, x10, x11, x12, x13, x14, x15, x16, he, ho, hb⟩ => ?_, fun env os' ⟨x6, x7, x8, x9, x10, x11, x12, x13, x14, x15, x16, he, ho, hb⟩ => ?_⟩
    · subst he
      simp only [bodyW, e_var, e_cst, e_dct, e_bin, e_neg, e_not, e_cmp, e_cmp2, e_and, e_or, e_ite, e_tup, e_lst, e_idx, e_slc, e_rev, e_fn, e_call, es_nil, es_cons, o_none, o_some, t_tt, t_and, t_or, t_not, t_val, i_seq, i_rng, i_enm, i_zip, p_nil, p_cons, s_set, s_setO, s_unp, s_par, s_aug, s_ext, s_iff, s_ret, s_app, s_pop, s_stL, s_stD, s_appN, s_popN, s_drop, s_cont, s_brk, ss_nil, ss_cons, getS, setS, setPs, rs_val, rs_obj, rs_new, rsv_d, rsv_last, b_add, b_addL, b_addT, b_sub, b_mul, b_div, b_mod, b_pow, c_eq, c_ne, c_lt, c_le, c_gt, c_ge, c_inL, c_inT, c_niL, c_niT, c_isB, c_isN, c_isI, c_isT, c_inN, c_inI, c_inTu, tr_non, tr_bl, tr_int, tr_lst, tr_tup, x_lst, x_tup, sl_l, sl_t, rv_l, nw_f, nw_t, au_add, au_sub, au_mul, la_last, bd_nm, bd_tp, sq_l, sq_t, f_len, f_isi, f_sortD, f_sortO, f_tupL, f_tupO, f_lstT, f_lstL, f_lstD, f_min2, f_minL, f_all, f_any, f_intB, f_str, z_ll, z_tt, ad_nil, ad_cons, objAt, setAll, wipeA, wipeS, List.map_cons, List.map_nil, List.length_cons, List.length_nil, List.replicate, List.cons_append, List.nil_append, Nat.zero_add, Nat.reduceAdd, Nat.reduceSub, h35]
      refine ⟨j, rfl, hb, fun ang os4 hred hq hp kp => ?_⟩
      have j0 : (0 : Nat) ≠ j := fun e => by
        obtain ⟨u, v, hu, _⟩ := hb
        rw [← e, ho] at hu
        cases hu
      have ho4 : os4[0]? = some (.scr ns) := (kp.old 0 j0).trans ho
      have hb4 := kp.bag
      simp only [bodyW, e_var, e_cst, e_dct, e_bin, e_neg, e_not, e_cmp, e_cmp2, e_and, e_or, e_ite, e_tup, e_lst, e_idx, e_slc, e_rev, e_fn, e_call, es_nil, es_cons, o_none, o_some, t_tt, t_and, t_or, t_not, t_val, i_seq, i_rng, i_enm, i_zip, p_nil, p_cons, s_set, s_setO, s_unp, s_par, s_aug, s_ext, s_iff, s_ret, s_app, s_pop, s_stL, s_stD, s_appN, s_popN, s_drop, s_cont, s_brk, ss_nil, ss_cons, getS, setS, setPs, rs_val, rs_obj, rs_new, rsv_d, rsv_last, b_add, b_addL, b_addT, b_sub, b_mul, b_div, b_mod, b_pow, c_eq, c_ne, c_lt, c_le, c_gt, c_ge, c_inL, c_inT, c_niL, c_niT, c_isB, c_isN, c_isI, c_isT, c_inN, c_inI, c_inTu, tr_non, tr_bl, tr_int, tr_lst, tr_tup, x_lst, x_tup, sl_l, sl_t, rv_l, nw_f, nw_t, au_add, au_sub, au_mul, la_last, bd_nm, bd_tp, sq_l, sq_t, f_len, f_isi, f_sortD, f_sortO, f_tupL, f_tupO, f_lstT, f_lstL, f_lstD, f_min2, f_minL, f_all, f_any, f_intB, f_str, z_ll, z_tt, ad_nil, ad_cons, objAt, setAll, wipeA, wipeS, List.map_cons, List.map_nil, List.length_cons, List.length_nil, List.replicate, List.cons_append, List.nil_append, Nat.zero_add, Nat.reduceAdd, Nat.reduceSub]
      obtain ⟨r, hr, hrc, k1, k2, hfl⟩ := rows_find (many := many) hW hm30 hred.2 hp
      refine lc_filL mo (rowsL many W) rowI rowI (fun r => decide (¬ ltF ang r.1) && decide (ltF ang r.2.1)) ?_ (Nat.le_trans (rowsL_len hm30) (by decide)) (fun r hr => ?_) ?_
      · simp only [bodyW, e_var, e_cst, e_dct, e_bin, e_neg, e_not, e_cmp, e_cmp2, e_and, e_or, e_ite, e_tup, e_lst, e_idx, e_slc, e_rev, e_fn, e_call, es_nil, es_cons, o_none, o_some, t_tt, t_and, t_or, t_not, t_val, i_seq, i_rng, i_enm, i_zip, p_nil, p_cons, s_set, s_setO, s_unp, s_par, s_aug, s_ext, s_iff, s_ret, s_app, s_pop, s_stL, s_stD, s_appN, s_popN, s_drop, s_cont, s_brk, ss_nil, ss_cons, getS, setS, setPs, rs_val, rs_obj, rs_new, rsv_d, rsv_last, b_add, b_addL, b_addT, b_sub, b_mul, b_div, b_mod, b_pow, c_eq, c_ne, c_lt, c_le, c_gt, c_ge, c_inL, c_inT, c_niL, c_niT, c_isB, c_isN, c_isI, c_isT, c_inN, c_inI, c_inTu, tr_non, tr_bl, tr_int, tr_lst, tr_tup, x_lst, x_tup, sl_l, sl_t, rv_l, nw_f, nw_t, au_add, au_sub, au_mul, la_last, bd_nm, bd_tp, sq_l, sq_t, f_len, f_isi, f_sortD, f_sortO, f_tupL, f_tupO, f_lstT, f_lstL, f_lstD, f_min2, f_minL, f_all, f_any, f_intB, f_str, z_ll, z_tt, ad_nil, ad_cons, objAt, setAll, wipeA, wipeS, List.map_cons, List.map_nil, List.length_cons, List.length_nil, List.replicate, List.cons_append, List.nil_append, Nat.zero_add, Nat.reduceAdd, Nat.reduceSub]
        exact ⟨trivial, trivial⟩
      · obtain ⟨b1, b2, b3, b4⟩ := rowI_mem hW hm30 hr
        simp only [bodyW, e_var, e_cst, e_dct, e_bin, e_neg, e_not, e_cmp, e_cmp2, e_and, e_or, e_ite, e_tup, e_lst, e_idx, e_slc, e_rev, e_fn, e_call, es_nil, es_cons, o_none, o_some, t_tt, t_and, t_or, t_not, t_val, i_seq, i_rng, i_enm, i_zip, p_nil, p_cons, s_set, s_setO, s_unp, s_par, s_aug, s_ext, s_iff, s_ret, s_app, s_pop, s_stL, s_stD, s_appN, s_popN, s_drop, s_cont, s_brk, ss_nil, ss_cons, getS, setS, setPs, rs_val, rs_obj, rs_new, rsv_d, rsv_last, b_add, b_addL, b_addT, b_sub, b_mul, b_div, b_mod, b_pow, c_eq, c_ne, c_lt, c_le, c_gt, c_ge, c_inL, c_inT, c_niL, c_niT, c_isB, c_isN, c_isI, c_isT, c_inN, c_inI, c_inTu, tr_non, tr_bl, tr_int, tr_lst, tr_tup, x_lst, x_tup, sl_l, sl_t, rv_l, nw_f, nw_t, au_add, au_sub, au_mul, la_last, bd_nm, bd_tp, sq_l, sq_t, f_len, f_isi, f_sortD, f_sortO, f_tupL, f_tupO, f_lstT, f_lstL, f_lstD, f_min2, f_minL, f_all, f_any, f_intB, f_str, z_ll, z_tt, ad_nil, ad_cons, objAt, setAll, wipeA, wipeS, List.map_cons, List.map_nil, List.length_cons, List.length_nil, List.replicate, List.cons_append, List.nil_append, Nat.zero_add, Nat.reduceAdd, Nat.reduceSub, rowI, ixD, at3_0, at3_1, h57]
        refine ⟨⟨ang, r.1, rfl, by omega, by omega, b1, b2, ?_⟩, fun _ => ⟨by trivial, by trivial⟩⟩
        simp only [bodyW, e_var, e_cst, e_dct, e_bin, e_neg, e_not, e_cmp, e_cmp2, e_and, e_or, e_ite, e_tup, e_lst, e_idx, e_slc, e_rev, e_fn, e_call, es_nil, es_cons, o_none, o_some, t_tt, t_and, t_or, t_not, t_val, i_seq, i_rng, i_enm, i_zip, p_nil, p_cons, s_set, s_setO, s_unp, s_par, s_aug, s_ext, s_iff, s_ret, s_app, s_pop, s_stL, s_stD, s_appN, s_popN, s_drop, s_cont, s_brk, ss_nil, ss_cons, getS, setS, setPs, rs_val, rs_obj, rs_new, rsv_d, rsv_last, b_add, b_addL, b_addT, b_sub, b_mul, b_div, b_mod, b_pow, c_eq, c_ne, c_lt, c_le, c_gt, c_ge, c_inL, c_inT, c_niL, c_niT, c_isB, c_isN, c_isI, c_isT, c_inN, c_inI, c_inTu, tr_non, tr_bl, tr_int, tr_lst, tr_tup, x_lst, x_tup, sl_l, sl_t, rv_l, nw_f, nw_t, au_add, au_sub, au_mul, la_last, bd_nm, bd_tp, sq_l, sq_t, f_len, f_isi, f_sortD, f_sortO, f_tupL, f_tupO, f_lstT, f_lstL, f_lstD, f_min2, f_minL, f_all, f_any, f_intB, f_str, z_ll, z_tt, ad_nil, ad_cons, objAt, setAll, wipeA, wipeS, List.map_cons, List.map_nil, List.length_cons, List.length_nil, List.replicate, List.cons_append, List.nil_append, Nat.zero_add, Nat.reduceAdd, Nat.reduceSub]
        by_cases z : ltF ang r.1
        · simp only [z, decide_true, Bool.not_true, Bool.false_eq_true, if_false, decide_false, Bool.false_and, not_true_eq_false]
          exact ⟨trivial, trivial⟩
        · simp only [z, decide_false, Bool.not_false, if_true, not_false_eq_true, decide_true, Bool.true_and]
          exact ⟨ang, r.2.1, rfl, by omega, by omega, b3, b4, by trivial, by trivial⟩
      rw [hfl]
      simp only [bodyW, e_var, e_cst, e_dct, e_bin, e_neg, e_not, e_cmp, e_cmp2, e_and, e_or, e_ite, e_tup, e_lst, e_idx, e_slc, e_rev, e_fn, e_call, es_nil, es_cons, o_none, o_some, t_tt, t_and, t_or, t_not, t_val, i_seq, i_rng, i_enm, i_zip, p_nil, p_cons, s_set, s_setO, s_unp, s_par, s_aug, s_ext, s_iff, s_ret, s_app, s_pop, s_stL, s_stD, s_appN, s_popN, s_drop, s_cont, s_brk, ss_nil, ss_cons, getS, setS, setPs, rs_val, rs_obj, rs_new, rsv_d, rsv_last, b_add, b_addL, b_addT, b_sub, b_mul, b_div, b_mod, b_pow, c_eq, c_ne, c_lt, c_le, c_gt, c_ge, c_inL, c_inT, c_niL, c_niT, c_isB, c_isN, c_isI, c_isT, c_inN, c_inI, c_inTu, tr_non, tr_bl, tr_int, tr_lst, tr_tup, x_lst, x_tup, sl_l, sl_t, rv_l, nw_f, nw_t, au_add, au_sub, au_mul, la_last, bd_nm, bd_tp, sq_l, sq_t, f_len, f_isi, f_sortD, f_sortO, f_tupL, f_tupO, f_lstT, f_lstL, f_lstD, f_min2, f_minL, f_all, f_any, f_intB, f_str, z_ll, z_tt, ad_nil, ad_cons, objAt, setAll, wipeA, wipeS, List.map_cons, List.map_nil, List.length_cons, List.length_nil, List.replicate, List.cons_append, List.nil_append, Nat.zero_add, Nat.reduceAdd, Nat.reduceSub, h4]
      refine ⟨many, W, ang.1, ang.2, rfl, hW, hm30, hred.2, by omega, by omega, ?_⟩
      have x0 : atI [rowI r] 0 = some (rowI r) := rfl
      simp only [bodyW, e_var, e_cst, e_dct, e_bin, e_neg, e_not, e_cmp, e_cmp2, e_and, e_or, e_ite, e_tup, e_lst, e_idx, e_slc, e_rev, e_fn, e_call, es_nil, es_cons, o_none, o_some, t_tt, t_and, t_or, t_not, t_val, i_seq, i_rng, i_enm, i_zip, p_nil, p_cons, s_set, s_setO, s_unp, s_par, s_aug, s_ext, s_iff, s_ret, s_app, s_pop, s_stL, s_stD, s_appN, s_popN, s_drop, s_cont, s_brk, ss_nil, ss_cons, getS, setS, setPs, rs_val, rs_obj, rs_new, rsv_d, rsv_last, b_add, b_addL, b_addT, b_sub, b_mul, b_div, b_mod, b_pow, c_eq, c_ne, c_lt, c_le, c_gt, c_ge, c_inL, c_inT, c_niL, c_niT, c_isB, c_isN, c_isI, c_isT, c_inN, c_inI, c_inTu, tr_non, tr_bl, tr_int, tr_lst, tr_tup, x_lst, x_tup, sl_l, sl_t, rv_l, nw_f, nw_t, au_add, au_sub, au_mul, la_last, bd_nm, bd_tp, sq_l, sq_t, f_len, f_isi, f_sortD, f_sortO, f_tupL, f_tupO, f_lstT, f_lstL, f_lstD, f_min2, f_minL, f_all, f_any, f_intB, f_str, z_ll, z_tt, ad_nil, ad_cons, objAt, setAll, wipeA, wipeS, List.map_cons, List.map_nil, List.length_cons, List.length_nil, List.replicate, List.cons_append, List.nil_append, Nat.zero_add, Nat.reduceAdd, Nat.reduceSub, ixD, x0, Wd.d, tupI, cut_2, at3_2, h4]
      refine ⟨flat_int 8 _, flat_int 8 _, ifn (by decide) ?_⟩
      simp only [bodyW, e_var, e_cst, e_dct, e_bin, e_neg, e_not, e_cmp, e_cmp2, e_and, e_or, e_ite, e_tup, e_lst, e_idx, e_slc, e_rev, e_fn, e_call, es_nil, es_cons, o_none, o_some, t_tt, t_and, t_or, t_not, t_val, i_seq, i_rng, i_enm, i_zip, p_nil, p_cons, s_set, s_setO, s_unp, s_par, s_aug, s_ext, s_iff, s_ret, s_app, s_pop, s_stL, s_stD, s_appN, s_popN, s_drop, s_cont, s_brk, ss_nil, ss_cons, getS, setS, setPs, rs_val, rs_obj, rs_new, rsv_d, rsv_last, b_add, b_addL, b_addT, b_sub, b_mul, b_div, b_mod, b_pow, c_eq, c_ne, c_lt, c_le, c_gt, c_ge, c_inL, c_inT, c_niL, c_niT, c_isB, c_isN, c_isI, c_isT, c_inN, c_inI, c_inTu, tr_non, tr_bl, tr_int, tr_lst, tr_tup, x_lst, x_tup, sl_l, sl_t, rv_l, nw_f, nw_t, au_add, au_sub, au_mul, la_last, bd_nm, bd_tp, sq_l, sq_t, f_len, f_isi, f_sortD, f_sortO, f_tupL, f_tupO, f_lstT, f_lstL, f_lstD, f_min2, f_minL, f_all, f_any, f_intB, f_str, z_ll, z_tt, ad_nil, ad_cons, objAt, setAll, wipeA, wipeS, List.map_cons, List.map_nil, List.length_cons, List.length_nil, List.replicate, List.cons_append, List.nil_append, Nat.zero_add, Nat.reduceAdd, Nat.reduceSub, rowI, ixD, at3_2, tupI]
      refine ⟨flat_lst 7 _, flat_lst 7 _, ifn (by rw [eqD_lst, hrc]; simp) ?_⟩
      -- from the other end
      refine ⟨by decide, by decide, many, W.mir, ang.1, ang.2, ?_, Wd.mir_ok hW, hm30, hred.2, by omega, by omega, ?_⟩
      · have : ((1 : Int) - W.e) = ((1 - W.e : Nat) : Int) := by have := hW.e1; omega
        simp [Wd.mir, Wd.d, tupI, frI, this]
      simp only [bodyW, e_var, e_cst, e_dct, e_bin, e_neg, e_not, e_cmp, e_cmp2, e_and, e_or, e_ite, e_tup, e_lst, e_idx, e_slc, e_rev, e_fn, e_call, es_nil, es_cons, o_none, o_some, t_tt, t_and, t_or, t_not, t_val, i_seq, i_rng, i_enm, i_zip, p_nil, p_cons, s_set, s_setO, s_unp, s_par, s_aug, s_ext, s_iff, s_ret, s_app, s_pop, s_stL, s_stD, s_appN, s_popN, s_drop, s_cont, s_brk, ss_nil, ss_cons, getS, setS, setPs, rs_val, rs_obj, rs_new, rsv_d, rsv_last, b_add, b_addL, b_addT, b_sub, b_mul, b_div, b_mod, b_pow, c_eq, c_ne, c_lt, c_le, c_gt, c_ge, c_inL, c_inT, c_niL, c_niT, c_isB, c_isN, c_isI, c_isT, c_inN, c_inI, c_inTu, tr_non, tr_bl, tr_int, tr_lst, tr_tup, x_lst, x_tup, sl_l, sl_t, rv_l, nw_f, nw_t, au_add, au_sub, au_mul, la_last, bd_nm, bd_tp, sq_l, sq_t, f_len, f_isi, f_sortD, f_sortO, f_tupL, f_tupO, f_lstT, f_lstL, f_lstD, f_min2, f_minL, f_all, f_any, f_intB, f_str, z_ll, z_tt, ad_nil, ad_cons, objAt, setAll, wipeA, wipeS, List.map_cons, List.map_nil, List.length_cons, List.length_nil, List.replicate, List.cons_append, List.nil_append, Nat.zero_add, Nat.reduceAdd, Nat.reduceSub]
      have hpl : ∀ (n : Nat) (V : Wd), n ≤ 30 → (prickedL n V ang.1 ang.2).length ≤ lim := fun n V hn => by
        unfold prickedL
        rw [sortI_len]
        have h1 := cellsT_len n V.e ang.1 ang.2 (turnsL n V.g V.w)
        have h2 := turnsL_len n V.g V.w
        unfold lim
        omega
      refine lc_mapL mo (prickedL many W ang.1 ang.2).reverse D.int (fun z => .int ((many : Int) - 1 - z)) ?_ (by rw [List.length_reverse]; exact hpl many W hm30) (fun z _ => ?_) ?_
      · simp only [bodyW, e_var, e_cst, e_dct, e_bin, e_neg, e_not, e_cmp, e_cmp2, e_and, e_or, e_ite, e_tup, e_lst, e_idx, e_slc, e_rev, e_fn, e_call, es_nil, es_cons, o_none, o_some, t_tt, t_and, t_or, t_not, t_val, i_seq, i_rng, i_enm, i_zip, p_nil, p_cons, s_set, s_setO, s_unp, s_par, s_aug, s_ext, s_iff, s_ret, s_app, s_pop, s_stL, s_stD, s_appN, s_popN, s_drop, s_cont, s_brk, ss_nil, ss_cons, getS, setS, setPs, rs_val, rs_obj, rs_new, rsv_d, rsv_last, b_add, b_addL, b_addT, b_sub, b_mul, b_div, b_mod, b_pow, c_eq, c_ne, c_lt, c_le, c_gt, c_ge, c_inL, c_inT, c_niL, c_niT, c_isB, c_isN, c_isI, c_isT, c_inN, c_inI, c_inTu, tr_non, tr_bl, tr_int, tr_lst, tr_tup, x_lst, x_tup, sl_l, sl_t, rv_l, nw_f, nw_t, au_add, au_sub, au_mul, la_last, bd_nm, bd_tp, sq_l, sq_t, f_len, f_isi, f_sortD, f_sortO, f_tupL, f_tupO, f_lstT, f_lstL, f_lstD, f_min2, f_minL, f_all, f_any, f_intB, f_str, z_ll, z_tt, ad_nil, ad_cons, objAt, setAll, wipeA, wipeS, List.map_cons, List.map_nil, List.length_cons, List.length_nil, List.replicate, List.cons_append, List.nil_append, Nat.zero_add, Nat.reduceAdd, Nat.reduceSub, List.map_reverse]
        exact ⟨by trivial, by trivial⟩
      · simp only [bodyW, e_var, e_cst, e_dct, e_bin, e_neg, e_not, e_cmp, e_cmp2, e_and, e_or, e_ite, e_tup, e_lst, e_idx, e_slc, e_rev, e_fn, e_call, es_nil, es_cons, o_none, o_some, t_tt, t_and, t_or, t_not, t_val, i_seq, i_rng, i_enm, i_zip, p_nil, p_cons, s_set, s_setO, s_unp, s_par, s_aug, s_ext, s_iff, s_ret, s_app, s_pop, s_stL, s_stD, s_appN, s_popN, s_drop, s_cont, s_brk, ss_nil, ss_cons, getS, setS, setPs, rs_val, rs_obj, rs_new, rsv_d, rsv_last, b_add, b_addL, b_addT, b_sub, b_mul, b_div, b_mod, b_pow, c_eq, c_ne, c_lt, c_le, c_gt, c_ge, c_inL, c_inT, c_niL, c_niT, c_isB, c_isN, c_isI, c_isT, c_inN, c_inI, c_inTu, tr_non, tr_bl, tr_int, tr_lst, tr_tup, x_lst, x_tup, sl_l, sl_t, rv_l, nw_f, nw_t, au_add, au_sub, au_mul, la_last, bd_nm, bd_tp, sq_l, sq_t, f_len, f_isi, f_sortD, f_sortO, f_tupL, f_tupO, f_lstT, f_lstL, f_lstD, f_min2, f_minL, f_all, f_any, f_intB, f_str, z_ll, z_tt, ad_nil, ad_cons, objAt, setAll, wipeA, wipeS, List.map_cons, List.map_nil, List.length_cons, List.length_nil, List.replicate, List.cons_append, List.nil_append, Nat.zero_add, Nat.reduceAdd, Nat.reduceSub]
        exact ⟨by trivial, by trivial⟩
      simp only [bodyW, e_var, e_cst, e_dct, e_bin, e_neg, e_not, e_cmp, e_cmp2, e_and, e_or, e_ite, e_tup, e_lst, e_idx, e_slc, e_rev, e_fn, e_call, es_nil, es_cons, o_none, o_some, t_tt, t_and, t_or, t_not, t_val, i_seq, i_rng, i_enm, i_zip, p_nil, p_cons, s_set, s_setO, s_unp, s_par, s_aug, s_ext, s_iff, s_ret, s_app, s_pop, s_stL, s_stD, s_appN, s_popN, s_drop, s_cont, s_brk, ss_nil, ss_cons, getS, setS, setPs, rs_val, rs_obj, rs_new, rsv_d, rsv_last, b_add, b_addL, b_addT, b_sub, b_mul, b_div, b_mod, b_pow, c_eq, c_ne, c_lt, c_le, c_gt, c_ge, c_inL, c_inT, c_niL, c_niT, c_isB, c_isN, c_isI, c_isT, c_inN, c_inI, c_inTu, tr_non, tr_bl, tr_int, tr_lst, tr_tup, x_lst, x_tup, sl_l, sl_t, rv_l, nw_f, nw_t, au_add, au_sub, au_mul, la_last, bd_nm, bd_tp, sq_l, sq_t, f_len, f_isi, f_sortD, f_sortO, f_tupL, f_tupO, f_lstT, f_lstL, f_lstD, f_min2, f_minL, f_all, f_any, f_intB, f_str, z_ll, z_tt, ad_nil, ad_cons, objAt, setAll, wipeA, wipeS, List.map_cons, List.map_nil, List.length_cons, List.length_nil, List.replicate, List.cons_append, List.nil_append, Nat.zero_add, Nat.reduceAdd, Nat.reduceSub]
      have em : (prickedL many W ang.1 ang.2).reverse.map (fun z => D.int ((many : Int) - 1 - z)) = (prickedL many W.mir ang.1 ang.2).map D.int := by
        rw [pricked_mir hW, List.map_map]
        rfl
      rw [em]
      refine ⟨flat_lst 7 _, flat_lst 7 _, ifn (by rw [eqD_lst]; simp) ?_⟩
      -- a longer strip
      by_cases h24 : many < 24
      · refine ifp (by rw [decide_eq_true_eq]; omega) ?_
        refine ⟨many + 1, W, ang.1, ang.2, by simp [Wd.d, tupI], hW, by omega, hred.2, by omega, by omega, ?_⟩
        simp only [bodyW, e_var, e_cst, e_dct, e_bin, e_neg, e_not, e_cmp, e_cmp2, e_and, e_or, e_ite, e_tup, e_lst, e_idx, e_slc, e_rev, e_fn, e_call, es_nil, es_cons, o_none, o_some, t_tt, t_and, t_or, t_not, t_val, i_seq, i_rng, i_enm, i_zip, p_nil, p_cons, s_set, s_setO, s_unp, s_par, s_aug, s_ext, s_iff, s_ret, s_app, s_pop, s_stL, s_stD, s_appN, s_popN, s_drop, s_cont, s_brk, ss_nil, ss_cons, getS, setS, setPs, rs_val, rs_obj, rs_new, rsv_d, rsv_last, b_add, b_addL, b_addT, b_sub, b_mul, b_div, b_mod, b_pow, c_eq, c_ne, c_lt, c_le, c_gt, c_ge, c_inL, c_inT, c_niL, c_niT, c_isB, c_isN, c_isI, c_isT, c_inN, c_inI, c_inTu, tr_non, tr_bl, tr_int, tr_lst, tr_tup, x_lst, x_tup, sl_l, sl_t, rv_l, nw_f, nw_t, au_add, au_sub, au_mul, la_last, bd_nm, bd_tp, sq_l, sq_t, f_len, f_isi, f_sortD, f_sortO, f_tupL, f_tupO, f_lstT, f_lstL, f_lstD, f_min2, f_minL, f_all, f_any, f_intB, f_str, z_ll, z_tt, ad_nil, ad_cons, objAt, setAll, wipeA, wipeS, List.map_cons, List.map_nil, List.length_cons, List.length_nil, List.replicate, List.cons_append, List.nil_append, Nat.zero_add, Nat.reduceAdd, Nat.reduceSub]
        refine lc_filL mo (prickedL (many + 1) W ang.1 ang.2) D.int (fun z => .int (z - (W.e : Int))) (fun z => decide (0 ≤ z - (W.e : Int)) && decide (z - (W.e : Int) < many)) ?_ (hpl (many + 1) W (by omega)) (fun z _ => ?_) ?_
        · simp only [bodyW, e_var, e_cst, e_dct, e_bin, e_neg, e_not, e_cmp, e_cmp2, e_and, e_or, e_ite, e_tup, e_lst, e_idx, e_slc, e_rev, e_fn, e_call, es_nil, es_cons, o_none, o_some, t_tt, t_and, t_or, t_not, t_val, i_seq, i_rng, i_enm, i_zip, p_nil, p_cons, s_set, s_setO, s_unp, s_par, s_aug, s_ext, s_iff, s_ret, s_app, s_pop, s_stL, s_stD, s_appN, s_popN, s_drop, s_cont, s_brk, ss_nil, ss_cons, getS, setS, setPs, rs_val, rs_obj, rs_new, rsv_d, rsv_last, b_add, b_addL, b_addT, b_sub, b_mul, b_div, b_mod, b_pow, c_eq, c_ne, c_lt, c_le, c_gt, c_ge, c_inL, c_inT, c_niL, c_niT, c_isB, c_isN, c_isI, c_isT, c_inN, c_inI, c_inTu, tr_non, tr_bl, tr_int, tr_lst, tr_tup, x_lst, x_tup, sl_l, sl_t, rv_l, nw_f, nw_t, au_add, au_sub, au_mul, la_last, bd_nm, bd_tp, sq_l, sq_t, f_len, f_isi, f_sortD, f_sortO, f_tupL, f_tupO, f_lstT, f_lstL, f_lstD, f_min2, f_minL, f_all, f_any, f_intB, f_str, z_ll, z_tt, ad_nil, ad_cons, objAt, setAll, wipeA, wipeS, List.map_cons, List.map_nil, List.length_cons, List.length_nil, List.replicate, List.cons_append, List.nil_append, Nat.zero_add, Nat.reduceAdd, Nat.reduceSub]
          exact ⟨by trivial, by trivial⟩
        · simp only [bodyW, e_var, e_cst, e_dct, e_bin, e_neg, e_not, e_cmp, e_cmp2, e_and, e_or, e_ite, e_tup, e_lst, e_idx, e_slc, e_rev, e_fn, e_call, es_nil, es_cons, o_none, o_some, t_tt, t_and, t_or, t_not, t_val, i_seq, i_rng, i_enm, i_zip, p_nil, p_cons, s_set, s_setO, s_unp, s_par, s_aug, s_ext, s_iff, s_ret, s_app, s_pop, s_stL, s_stD, s_appN, s_popN, s_drop, s_cont, s_brk, ss_nil, ss_cons, getS, setS, setPs, rs_val, rs_obj, rs_new, rsv_d, rsv_last, b_add, b_addL, b_addT, b_sub, b_mul, b_div, b_mod, b_pow, c_eq, c_ne, c_lt, c_le, c_gt, c_ge, c_inL, c_inT, c_niL, c_niT, c_isB, c_isN, c_isI, c_isT, c_inN, c_inI, c_inTu, tr_non, tr_bl, tr_int, tr_lst, tr_tup, x_lst, x_tup, sl_l, sl_t, rv_l, nw_f, nw_t, au_add, au_sub, au_mul, la_last, bd_nm, bd_tp, sq_l, sq_t, f_len, f_isi, f_sortD, f_sortO, f_tupL, f_tupO, f_lstT, f_lstL, f_lstD, f_min2, f_minL, f_all, f_any, f_intB, f_str, z_ll, z_tt, ad_nil, ad_cons, objAt, setAll, wipeA, wipeS, List.map_cons, List.map_nil, List.length_cons, List.length_nil, List.replicate, List.cons_append, List.nil_append, Nat.zero_add, Nat.reduceAdd, Nat.reduceSub]
          refine ⟨?_, fun _ => ⟨by trivial, by trivial⟩⟩
          by_cases hz : 0 ≤ z - (W.e : Int)
          · rw [if_pos (by simpa using hz)]
            simp only [hz, decide_true, Bool.true_and]
            exact ⟨by trivial, by trivial⟩
          · rw [if_neg (by simpa using hz)]
            simp only [hz, decide_false, Bool.false_and]
            exact ⟨by trivial, by trivial⟩
        simp only [bodyW, e_var, e_cst, e_dct, e_bin, e_neg, e_not, e_cmp, e_cmp2, e_and, e_or, e_ite, e_tup, e_lst, e_idx, e_slc, e_rev, e_fn, e_call, es_nil, es_cons, o_none, o_some, t_tt, t_and, t_or, t_not, t_val, i_seq, i_rng, i_enm, i_zip, p_nil, p_cons, s_set, s_setO, s_unp, s_par, s_aug, s_ext, s_iff, s_ret, s_app, s_pop, s_stL, s_stD, s_appN, s_popN, s_drop, s_cont, s_brk, ss_nil, ss_cons, getS, setS, setPs, rs_val, rs_obj, rs_new, rsv_d, rsv_last, b_add, b_addL, b_addT, b_sub, b_mul, b_div, b_mod, b_pow, c_eq, c_ne, c_lt, c_le, c_gt, c_ge, c_inL, c_inT, c_niL, c_niT, c_isB, c_isN, c_isI, c_isT, c_inN, c_inI, c_inTu, tr_non, tr_bl, tr_int, tr_lst, tr_tup, x_lst, x_tup, sl_l, sl_t, rv_l, nw_f, nw_t, au_add, au_sub, au_mul, la_last, bd_nm, bd_tp, sq_l, sq_t, f_len, f_isi, f_sortD, f_sortO, f_tupL, f_tupO, f_lstT, f_lstL, f_lstD, f_min2, f_minL, f_all, f_any, f_intB, f_str, z_ll, z_tt, ad_nil, ad_cons, objAt, setAll, wipeA, wipeS, List.map_cons, List.map_nil, List.length_cons, List.length_nil, List.replicate, List.cons_append, List.nil_append, Nat.zero_add, Nat.reduceAdd, Nat.reduceSub]
        have eo : ((prickedL (many + 1) W ang.1 ang.2).filter fun z => decide (0 ≤ z - (W.e : Int)) && decide (z - (W.e : Int) < many)).map (fun z => D.int (z - (W.e : Int))) = (prickedL many W ang.1 ang.2).map D.int := by
          have := congrArg (List.map D.int) (pricked_old (many := many) hW ang.1 ang.2)
          rw [← this]
          unfold oldI
          rw [List.map_map]
          rfl
        rw [eo]
        refine ⟨flat_lst 7 _, flat_lst 7 _, ifn (by rw [eqD_lst]; simp) ?_⟩
        exact ⟨_, _, _, _, _, _, _, _, _, _, _, rfl, ho4, hb4⟩
      · refine ifn (by rw [decide_eq_true_eq]; omega) ?_
        exact ⟨_, _, _, _, _, _, _, _, _, _, _, rfl, ho4, hb4⟩
    · subst he
      exact ⟨_, _, _, _, _, _, _, _, _, _, _, _, _, _, _, _, rfl, ho⟩
  · subst he
    simp only [bodyW, e_var, e_cst, e_dct, e_bin, e_neg, e_not, e_cmp, e_cmp2, e_and, e_or, e_ite, e_tup, e_lst, e_idx, e_slc, e_rev, e_fn, e_call, es_nil, es_cons, o_none, o_some, t_tt, t_and, t_or, t_not, t_val, i_seq, i_rng, i_enm, i_zip, p_nil, p_cons, s_set, s_setO, s_unp, s_par, s_aug, s_ext, s_iff, s_ret, s_app, s_pop, s_stL, s_stD, s_appN, s_popN, s_drop, s_cont, s_brk, ss_nil, ss_cons, getS, setS, setPs, rs_val, rs_obj, rs_new, rsv_d, rsv_last, b_add, b_addL, b_addT, b_sub, b_mul, b_div, b_mod, b_pow, c_eq, c_ne, c_lt, c_le, c_gt, c_ge, c_inL, c_inT, c_niL, c_niT, c_isB, c_isN, c_isI, c_isT, c_inN, c_inI, c_inTu, tr_non, tr_bl, tr_int, tr_lst, tr_tup, x_lst, x_tup, sl_l, sl_t, rv_l, nw_f, nw_t, au_add, au_sub, au_mul, la_last, bd_nm, bd_tp, sq_l, sq_t, f_len, f_isi, f_sortD, f_sortO, f_tupL, f_tupO, f_lstT, f_lstL, f_lstD, f_min2, f_minL, f_all, f_any, f_intB, f_str, z_ll, z_tt, ad_nil, ad_cons, objAt, setAll, wipeA, wipeS, List.map_cons, List.map_nil, List.length_cons, List.length_nil, List.replicate, List.cons_append, List.nil_append, Nat.zero_add, Nat.reduceAdd, Nat.reduceSub, Wd.d, tupI, frI, prI, ixD, at3_0, at3_1, at3_2, at2_0, at2_1, eqD, Flat, and_true, true_and, and_self, if_true, if_false, Bool.false_eq_true, reduceIte, leave_val]
    have : os'.take 1 = [.scr ns] := by
      cases os' with
      | nil => cases ho
      | cons a r => cases ho; rfl
    rw [this]
    exact h
end N66

/-! N66, the law's own breaks and stretches. -/
namespace N66
open PySem PySem.Spec L2
def p_law_breaks : Ss := .cons (.par (.cons 2 true (.dct (.dT [([0, 1], .bl true)])) (.cons 3 false (.cst (.int 0)) (.cons 4 false (.idx (.var 1) (.cst (.int 0))) .nil)))) (.cons (.whl (.val (.cmp .Lt (.var 3) (.bin .Mult (.cst (.int 2)) (.var 0)))) (.cons (.for_ (.nm 5) (.rng (.cst (.int 0)) (.bin .Add (.var 0) (.cst (.int 1)))) (.cons (.iff (.val (.cmp2 .LtE .Lt (.var 3) (.bin .Mult (.cst (.int 2)) (.var 5)) (.bin .Add (.var 3) (.var 4)))) (.cons (.stD 2 (.call 34 (.cons (.bin .Sub (.bin .Mult (.cst (.int 2)) (.var 5)) (.var 3)) (.cons (.var 4) .nil))) (.cst (.bl true))) .nil) .nil) .nil)) (.cons (.par (.cons 3 false (.bin .Add (.var 3) (.var 4)) (.cons 4 false (.bin .Add (.var 4) (.idx (.var 1) (.cst (.int 1)))) .nil))) .nil))) (.cons (.ret (.call 98 (.cons (.var 2) .nil))) .nil))
def p_law_stretches : Ss := .cons (.set 2 (.call 37 (.cons (.var 0) (.cons (.var 1) .nil)))) (.cons (.setO 3 (.lst .nil)) (.cons (.for_ (.tp [4, 5]) (.zip (.cons (.var 2) (.cons (.bin .Add (.slc (.var 2) (.some (.cst (.int 1))) .none) (.lst (.cons (.tup (.cons (.cst (.int 1)) (.cons (.cst (.int 1)) .nil))) .nil))) .nil))) (.cons (.app 3 (.tup (.cons (.var 4) (.cons (.var 5) (.cons (.fn .tuple (.cons (.call 36 (.cons (.var 0) (.cons (.var 1) (.cons (.var 4) .nil)))) .nil)) .nil))))) .nil)) (.cons (.ret (.var 3)) .nil)))
/-! ### a law with the table of its key -/
def spLawT (P : Addr) (q : Str) : Fun1 := fun ss os Q => ∃ ns : List Int, ss = [.o 0] ∧ os = [.scr ns, .tbl P q] ∧ ns.length ≤ 63 ∧ Q (.val (.bl true)) os
def spLBreaks (P : Addr) (q : Str) : Fun1 := fun ss os Q => ∃ (many : Nat) (W : Wd), ss = [.d (.int many), .d W.d] ∧ W.Ok ∧ many ≤ 30 ∧ os[1]? = some (.tbl P q) ∧ Q (.new (.lst ((marksL many W.g W.w).map frI))) os
def spLStretches (P : Addr) (q : Str) : Fun1 := fun ss os Q => ∃ (many : Nat) (W : Wd), ss = [.d (.int many), .d W.d] ∧ W.Ok ∧ 1 ≤ many ∧ many ≤ 30 ∧ os[1]? = some (.tbl P q) ∧ Q (.new (.lst ((rowsL many W).map rowI))) os
def candL (t : Nat × Nat) (n : Nat) : List (Nat × Nat) := (List.range n).filterMap fun c => if t.1 ≤ 2 * c ∧ 2 * c < t.1 + t.2 then some (lowF (2 * c - t.1) t.2) else none
theorem candL_succ (t : Nat × Nat) (n : Nat) : candL t (n + 1) = candL t n ++ (if t.1 ≤ 2 * n ∧ 2 * n < t.1 + t.2 then [lowF (2 * n - t.1) t.2] else []) := by
  unfold candL
  rw [List.range_succ, List.filterMap_append]
  congr 1
  simp only [List.filterMap_cons, List.filterMap_nil]
  split
  · rename_i h; split at h
    · cases h
    · rename_i h2; rw [if_neg h2]
  · rename_i h; split at h
    · rename_i h2; cases h; rw [if_pos h2]
    · cases h
theorem candL_len (t : Nat × Nat) (n : Nat) : (candL t n).length ≤ n := by
  unfold candL
  refine Nat.le_trans (List.length_filterMap_le _ _) ?_
  rw [List.length_range]; exact Nat.le_refl _
theorem candL_mem {many : Nat} {t x : Nat × Nat} : x ∈ candL t (many + 1) ↔ x ∈ candT many t := by
  rw [candT_mem]
  unfold candL
  rw [List.mem_filterMap]
  constructor
  · rintro ⟨c, hc, e⟩
    rw [List.mem_range] at hc
    split at e
    · rename_i h
      exact ⟨2 * c, h.1, h.2, by omega, by omega, (Option.some.inj e).symm⟩
    · cases e
  · rintro ⟨h, h1, h2, h3, h4, rfl⟩
    have e : 2 * (h / 2) = h := by omega
    refine ⟨h / 2, by rw [List.mem_range]; omega, ?_⟩
    rw [e, if_pos ⟨h1, h2⟩]
def keysB (many : Nat) (ts : List (Nat × Nat)) : List (Nat × Nat) := (ts.flatMap fun t => candL t (many + 1)).foldl addK [(0, 1)]
theorem keysB_mem {many g w : Nat} {x : Nat × Nat} : x ∈ keysB many (turnsL many g w) ↔ x ∈ keysL many g w := by
  rw [keysL_mem]
  unfold keysB
  rw [foldK_mem, List.mem_singleton, List.mem_flatMap]
  constructor
  · rintro (h | ⟨t, ht, h⟩)
    · exact .inl h
    · exact .inr ⟨t, ht, candL_mem.mp h⟩
  · rintro (h | ⟨t, ht, h⟩)
    · exact .inl h
    · exact .inr ⟨t, ht, candL_mem.mpr h⟩
theorem keysB_nodup (many : Nat) (ts : List (Nat × Nat)) : (keysB many ts).Nodup := foldK_nodup (by simp)
theorem keysB_len (many : Nat) (ts : List (Nat × Nat)) (hm : many ≤ 30) (ht : ts.length ≤ 2 * many) : (keysB many ts).length ≤ 2000 := by
  unfold keysB
  refine Nat.le_trans (foldK_len _ _) ?_
  have h1 : ∀ ts : List (Nat × Nat), (ts.flatMap fun t => candL t (many + 1)).length ≤ 31 * ts.length := by
    intro ts
    induction ts with
    | nil => simp
    | cons t ts ih =>
      have := candL_len t (many + 1)
      simp only [List.flatMap_cons, List.length_append, List.length_cons]; omega
  have := h1 ts
  simp only [List.length_cons, List.length_nil]; omega
/-- by the key's order the fractions rise -/
theorem key_lt {a b : Nat × Nat} (ha : RedF a) (hb : RedF b) (ha5 : a.2 ≤ 500) (hb5 : b.2 ≤ 500) (ne : a ≠ b) (h : (a.1 : Int) * 1000000000 / a.2 ≤ (b.1 : Int) * 1000000000 / b.2) : ltF a b := by
  have h' : a.1 * 1000000000 / a.2 ≤ b.1 * 1000000000 / b.2 := by
    have e1 : ((a.1 : Int) * 1000000000 / a.2) = ((a.1 * 1000000000 / a.2 : Nat) : Int) := by simp
    have e2 : ((b.1 : Int) * 1000000000 / b.2) = ((b.1 * 1000000000 / b.2 : Nat) : Int) := by simp
    rw [e1, e2] at h
    exact Int.ofNat_le.mp h
  have n0 : a.1 * b.2 ≠ b.1 * a.2 := fun e => ne (red_one ha hb e)
  unfold ltF
  rcases Nat.lt_or_ge (a.1 * b.2) (b.1 * a.2) with z | z
  · exact z
  · exfalso
    have z' : b.1 * a.2 + 1 ≤ a.1 * b.2 := by omega
    obtain ⟨a1, a2⟩ := a
    obtain ⟨b1, b2⟩ := b
    have ha0 := ha.2
    have hb0 := hb.2
    simp only at *
    have k : b1 * 1000000000 / b2 + 1 ≤ a1 * 1000000000 / a2 := by
      rw [Nat.le_div_iff_mul_le ha0]
      refine Nat.le_of_mul_le_mul_right ?_ hb0
      have d1 : b1 * 1000000000 / b2 * b2 ≤ b1 * 1000000000 := Nat.div_mul_le_self _ _
      have d2 := Nat.mul_le_mul_right a2 d1
      have d3 : (b1 * a2 + 1) * 1000000000 ≤ a1 * b2 * 1000000000 := Nat.mul_le_mul_right _ z'
      have d4 : a2 * b2 ≤ 500 * 500 := Nat.mul_le_mul ha5 hb5
      have e1 : (b1 * 1000000000 / b2 + 1) * a2 * b2 = b1 * 1000000000 / b2 * b2 * a2 + a2 * b2 := by
        rw [Nat.add_mul, Nat.add_mul, Nat.one_mul, Nat.mul_right_comm]
      have e2 : b1 * 1000000000 * a2 = b1 * a2 * 1000000000 := Nat.mul_right_comm _ _ _
      have e3 : a1 * 1000000000 * b2 = a1 * b2 * 1000000000 := Nat.mul_right_comm _ _ _
      rw [e1, e3]
      rw [e2] at d2
      omega
    omega
theorem sorted_marks {many : Nat} {W : Wd} (hW : W.Ok) (hm : many ≤ 30) {qs : List (Int × Int)} (hp : qs.Perm ((keysB many (turnsL many W.g W.w)).map fun x => ((x.1 : Int), (x.2 : Int)))) (hs : qs.Pairwise (fun a b => a.1 * 1000000000 / a.2 ≤ b.1 * 1000000000 / b.2)) :
    (qs.map fun p => tupI [p.1, p.2]) = (marksL many W.g W.w).map frI := by
  have eL : qs = (qs.map fun p => (p.1.toNat, p.2.toNat)).map fun x : Nat × Nat => ((x.1 : Int), (x.2 : Int)) := by
    rw [List.map_map]
    have : ∀ p ∈ qs, ((fun x : Nat × Nat => ((x.1 : Int), (x.2 : Int))) ∘ fun p : Int × Int => (p.1.toNat, p.2.toNat)) p = id p := fun p h => by
      obtain ⟨x, _, rfl⟩ := List.mem_map.mp (hp.mem_iff.mp h)
      rfl
    rw [List.map_congr_left this, List.map_id]
  have hpL : (qs.map fun p : Int × Int => (p.1.toNat, p.2.toNat)).Perm (keysB many (turnsL many W.g W.w)) := by
    have := hp.map fun p : Int × Int => (p.1.toNat, p.2.toNat)
    rw [List.map_map] at this
    have e : ((fun p : Int × Int => (p.1.toNat, p.2.toNat)) ∘ fun x : Nat × Nat => ((x.1 : Int), (x.2 : Int))) = id := by funext x; rfl
    rw [e, List.map_id] at this
    exact this
  generalize (qs.map fun p : Int × Int => (p.1.toNat, p.2.toNat)) = L at eL hpL
  subst eL
  have red : ∀ x ∈ L, RedF x ∧ x.2 ≤ 500 := fun x hx => by
    obtain ⟨a, b, _⟩ := keysL_red hW hm (keysB_mem.mp (hpL.mem_iff.mp hx))
    exact ⟨a, b⟩
  have nd : L.Nodup := hpL.nodup_iff.mpr (keysB_nodup _ _)
  have hL : L = marksL many W.g W.w := by
    refine marksL_one hW hm nd (fun x => hpL.mem_iff.trans keysB_mem) ?_
    rw [List.pairwise_map] at hs
    have := hs.and nd
    refine this.imp_of_mem fun {a b} ha hb h => ?_
    obtain ⟨a1, a2⟩ := red a ha
    obtain ⟨b1, b2⟩ := red b hb
    exact key_lt a1 b1 a2 b2 h.2 h.1
  rw [hL, List.map_map]
  rfl
theorem get_app {os : List O} {i : Nat} {x o : O} (h : os[i]? = some x) : (os ++ [o])[i]? = some x := by
  rw [List.getElem?_append_left (List.getElem?_eq_some_iff.mp h).1]
  exact h
theorem w_law_breaks (T : Tab) (mo : MoTab T) {P : Addr} {q : Str} (h34 : T 34 = spLowest) (h98 : T 98 = spSrtK P q) (ss : List S) (os : List O) (Q : R → List O → Prop) (h : spLBreaks P q ss os Q) : bodyW T p_law_breaks 6 ss os Q := by
  obtain ⟨many, W, rfl, hW, hm, ho, h⟩ := h
  simp only [p_law_breaks, bodyW, e_var, e_cst, e_dct, e_bin, e_neg, e_not, e_cmp, e_cmp2, e_and, e_or, e_ite, e_tup, e_lst, e_idx, e_slc, e_rev, e_fn, e_call, es_nil, es_cons, o_none, o_some, t_tt, t_and, t_or, t_not, t_val, i_seq, i_rng, i_enm, i_zip, p_nil, p_cons, s_set, s_setO, s_unp, s_par, s_aug, s_ext, s_iff, s_ret, s_app, s_pop, s_stL, s_stD, s_appN, s_popN, s_drop, s_cont, s_brk, ss_nil, ss_cons, getS, setS, setPs, rs_val, rs_obj, rs_new, rsv_d, rsv_last, b_add, b_addL, b_addT, b_sub, b_mul, b_div, b_mod, b_pow, c_eq, c_ne, c_lt, c_le, c_gt, c_ge, c_inL, c_inT, c_niL, c_niT, c_isB, c_isN, c_isI, c_isT, c_inN, c_inI, c_inTu, tr_non, tr_bl, tr_int, tr_lst, tr_tup, x_lst, x_tup, sl_l, sl_t, rv_l, nw_f, nw_t, au_add, au_sub, au_mul, la_last, bd_nm, bd_tp, sq_l, sq_t, f_len, f_isi, f_sortD, f_sortO, f_tupL, f_tupO, f_lstT, f_lstL, f_lstD, f_min2, f_minL, f_all, f_any, f_intB, f_str, z_ll, z_tt, ad_nil, ad_cons, objAt, setAll, wipeA, wipeS, List.map_cons, List.map_nil, List.length_cons, List.length_nil, List.replicate, List.cons_append, List.nil_append, Nat.zero_add, Nat.reduceAdd, Nat.reduceSub, Wd.d, tupI, ixD, at3_0]
  refine whl_i (fun m env os' => ∃ (b l : Nat) (acc : List (Nat × Nat)) (x5 : Option S), env = [some (.d (.int many)), some (.d W.d), some (.o os.length), some (.d (.int b)), some (.d (.int l)), x5] ∧ os' = os ++ [.dT (kvK (.bl true) (keysB many acc))] ∧ acc ++ turnsF many W.w m b l = turnsL many W.g W.w ∧ 2 * many - b ≤ m ∧ acc.length + m ≤ 2 * many ∧ 1 ≤ l) (m := 2 * many)
    ⟨0, W.g, [], none, rfl, rfl, rfl, by omega, by simp, by have := hW.g4; omega⟩ fun m env os' ⟨b, l, acc, x5, he, ho', ha, hb1, hb2, hl⟩ => ?_
  subst he ho'
  simp only [bodyW, e_var, e_cst, e_dct, e_bin, e_neg, e_not, e_cmp, e_cmp2, e_and, e_or, e_ite, e_tup, e_lst, e_idx, e_slc, e_rev, e_fn, e_call, es_nil, es_cons, o_none, o_some, t_tt, t_and, t_or, t_not, t_val, i_seq, i_rng, i_enm, i_zip, p_nil, p_cons, s_set, s_setO, s_unp, s_par, s_aug, s_ext, s_iff, s_ret, s_app, s_pop, s_stL, s_stD, s_appN, s_popN, s_drop, s_cont, s_brk, ss_nil, ss_cons, getS, setS, setPs, rs_val, rs_obj, rs_new, rsv_d, rsv_last, b_add, b_addL, b_addT, b_sub, b_mul, b_div, b_mod, b_pow, c_eq, c_ne, c_lt, c_le, c_gt, c_ge, c_inL, c_inT, c_niL, c_niT, c_isB, c_isN, c_isI, c_isT, c_inN, c_inI, c_inTu, tr_non, tr_bl, tr_int, tr_lst, tr_tup, x_lst, x_tup, sl_l, sl_t, rv_l, nw_f, nw_t, au_add, au_sub, au_mul, la_last, bd_nm, bd_tp, sq_l, sq_t, f_len, f_isi, f_sortD, f_sortO, f_tupL, f_tupO, f_lstT, f_lstL, f_lstD, f_min2, f_minL, f_all, f_any, f_intB, f_str, z_ll, z_tt, ad_nil, ad_cons, objAt, setAll, wipeA, wipeS, List.map_cons, List.map_nil, List.length_cons, List.length_nil, List.replicate, List.cons_append, List.nil_append, Nat.zero_add, Nat.reduceAdd, Nat.reduceSub, Wd.d, tupI, frI, prI, ixD, at3_0, at3_1, at3_2, at2_0, at2_1, eqD, Flat]
  refine ⟨mul_lit _ _ (by decide), ?_⟩
  by_cases hb : b < 2 * many
  · rw [if_pos (by simp; omega)]
    obtain ⟨m', rfl⟩ : ∃ m', m = m' + 1 := ⟨m - 1, by omega⟩
    have ha2 : acc ++ (b, l) :: turnsF many W.w m' (b + l) (l + W.w) = turnsL many W.g W.w := by
      unfold turnsF at ha
      rw [if_pos hb] at ha
      exact ha
    have hmem : (b, l) ∈ turnsL many W.g W.w := by rw [← ha2]; simp
    obtain ⟨l500, b2, l4⟩ := turnsL_bnd hW hm hmem
    simp only at l500 b2 l4
    have ha3 : (acc ++ [(b, l)]) ++ turnsF many W.w m' (b + l) (l + W.w) = turnsL many W.g W.w := by rw [← ha2]; simp
    refine for_i mo (fun its os1 => its = rngD 0 ((many : Int) + 1) ∧ os1 = os ++ [.dT (kvK (.bl true) (keysB many acc))]) ?_ fun its os1 ⟨e1, e2⟩ => ?_
    · simp only [bodyW, e_var, e_cst, e_dct, e_bin, e_neg, e_not, e_cmp, e_cmp2, e_and, e_or, e_ite, e_tup, e_lst, e_idx, e_slc, e_rev, e_fn, e_call, es_nil, es_cons, o_none, o_some, t_tt, t_and, t_or, t_not, t_val, i_seq, i_rng, i_enm, i_zip, p_nil, p_cons, s_set, s_setO, s_unp, s_par, s_aug, s_ext, s_iff, s_ret, s_app, s_pop, s_stL, s_stD, s_appN, s_popN, s_drop, s_cont, s_brk, ss_nil, ss_cons, getS, setS, setPs, rs_val, rs_obj, rs_new, rsv_d, rsv_last, b_add, b_addL, b_addT, b_sub, b_mul, b_div, b_mod, b_pow, c_eq, c_ne, c_lt, c_le, c_gt, c_ge, c_inL, c_inT, c_niL, c_niT, c_isB, c_isN, c_isI, c_isT, c_inN, c_inI, c_inTu, tr_non, tr_bl, tr_int, tr_lst, tr_tup, x_lst, x_tup, sl_l, sl_t, rv_l, nw_f, nw_t, au_add, au_sub, au_mul, la_last, bd_nm, bd_tp, sq_l, sq_t, f_len, f_isi, f_sortD, f_sortO, f_tupL, f_tupO, f_lstT, f_lstL, f_lstD, f_min2, f_minL, f_all, f_any, f_intB, f_str, z_ll, z_tt, ad_nil, ad_cons, objAt, setAll, wipeA, wipeS, List.map_cons, List.map_nil, List.length_cons, List.length_nil, List.replicate, List.cons_append, List.nil_append, Nat.zero_add, Nat.reduceAdd, Nat.reduceSub]
      exact ⟨by omega, by trivial, by trivial⟩
    subst e1 e2
    refine ⟨fun j env os' => ∃ y5, env = [some (.d (.int many)), some (.d W.d), some (.o os.length), some (.d (.int b)), some (.d (.int l)), y5] ∧ os' = os ++ [.dT (kvK (.bl true) ((candL (b, l) j).foldl addK (keysB many acc)))], ⟨x5, by simp [Wd.d, tupI], by simp [candL]⟩, fun j y env os' hy ⟨y5, he, ho⟩ => ?_, fun env os' ⟨y5, he, ho⟩ => ?_⟩
    · subst he ho
      obtain ⟨rfl, hj⟩ := rngD_get hy
      simp only [bodyW, e_var, e_cst, e_dct, e_bin, e_neg, e_not, e_cmp, e_cmp2, e_and, e_or, e_ite, e_tup, e_lst, e_idx, e_slc, e_rev, e_fn, e_call, es_nil, es_cons, o_none, o_some, t_tt, t_and, t_or, t_not, t_val, i_seq, i_rng, i_enm, i_zip, p_nil, p_cons, s_set, s_setO, s_unp, s_par, s_aug, s_ext, s_iff, s_ret, s_app, s_pop, s_stL, s_stD, s_appN, s_popN, s_drop, s_cont, s_brk, ss_nil, ss_cons, getS, setS, setPs, rs_val, rs_obj, rs_new, rsv_d, rsv_last, b_add, b_addL, b_addT, b_sub, b_mul, b_div, b_mod, b_pow, c_eq, c_ne, c_lt, c_le, c_gt, c_ge, c_inL, c_inT, c_niL, c_niT, c_isB, c_isN, c_isI, c_isT, c_inN, c_inI, c_inTu, tr_non, tr_bl, tr_int, tr_lst, tr_tup, x_lst, x_tup, sl_l, sl_t, rv_l, nw_f, nw_t, au_add, au_sub, au_mul, la_last, bd_nm, bd_tp, sq_l, sq_t, f_len, f_isi, f_sortD, f_sortO, f_tupL, f_tupO, f_lstT, f_lstL, f_lstD, f_min2, f_minL, f_all, f_any, f_intB, f_str, z_ll, z_tt, ad_nil, ad_cons, objAt, setAll, wipeA, wipeS, List.map_cons, List.map_nil, List.length_cons, List.length_nil, List.replicate, List.cons_append, List.nil_append, Nat.zero_add, Nat.reduceAdd, Nat.reduceSub]
      rw [candL_succ]
      refine ⟨mul_lit _ _ (by decide), ?_⟩
      by_cases h1 : b ≤ 2 * j
      · rw [if_pos (by rw [decide_eq_true_eq]; omega)]
        by_cases h2 : 2 * j < b + l
        · rw [if_pos (by rw [decide_eq_true_eq]; omega), if_pos ⟨h1, h2⟩]
          refine ⟨mul_lit _ _ (by decide), ?_⟩
          rw [h34]
          refine ⟨2 * j - b, l, ?_, by omega, by omega, ?_⟩
          · have : (2 : Int) * (0 + j) - b = ((2 * j - b : Nat) : Int) := by omega
            rw [this]
          simp only [bodyW, e_var, e_cst, e_dct, e_bin, e_neg, e_not, e_cmp, e_cmp2, e_and, e_or, e_ite, e_tup, e_lst, e_idx, e_slc, e_rev, e_fn, e_call, es_nil, es_cons, o_none, o_some, t_tt, t_and, t_or, t_not, t_val, i_seq, i_rng, i_enm, i_zip, p_nil, p_cons, s_set, s_setO, s_unp, s_par, s_aug, s_ext, s_iff, s_ret, s_app, s_pop, s_stL, s_stD, s_appN, s_popN, s_drop, s_cont, s_brk, ss_nil, ss_cons, getS, setS, setPs, rs_val, rs_obj, rs_new, rsv_d, rsv_last, b_add, b_addL, b_addT, b_sub, b_mul, b_div, b_mod, b_pow, c_eq, c_ne, c_lt, c_le, c_gt, c_ge, c_inL, c_inT, c_niL, c_niT, c_isB, c_isN, c_isI, c_isT, c_inN, c_inI, c_inTu, tr_non, tr_bl, tr_int, tr_lst, tr_tup, x_lst, x_tup, sl_l, sl_t, rv_l, nw_f, nw_t, au_add, au_sub, au_mul, la_last, bd_nm, bd_tp, sq_l, sq_t, f_len, f_isi, f_sortD, f_sortO, f_tupL, f_tupO, f_lstT, f_lstL, f_lstD, f_min2, f_minL, f_all, f_any, f_intB, f_str, z_ll, z_tt, ad_nil, ad_cons, objAt, setAll, wipeA, wipeS, List.map_cons, List.map_nil, List.length_cons, List.length_nil, List.replicate, List.cons_append, List.nil_append, Nat.zero_add, Nat.reduceAdd, Nat.reduceSub, sd_last, frI]
          refine ⟨[((lowF (2 * j - b) l).1 : Int), ((lowF (2 * j - b) l).2 : Int)], rfl, ?_, ?_⟩
          · unfold kvK
            rw [List.length_map]
            have a1 := foldK_len (candL (b, l) j) (keysB many acc)
            have a2 := candL_len (b, l) j
            have a3 := keysB_len many acc hm (by omega)
            have : j < 31 + 1 := by omega
            unfold lim; omega
          · refine ⟨_, by simp [Wd.d, tupI]; rfl, ?_⟩
            rw [putK_kvK, List.foldl_append]
            rfl
        · rw [if_neg (by rw [decide_eq_true_eq]; omega), if_neg (fun z => h2 z.2), List.append_nil]
          exact ⟨_, by simp [Wd.d, tupI]; rfl, rfl⟩
      · rw [if_neg (by rw [decide_eq_true_eq]; omega)]
        simp only [Bool.false_eq_true, if_false]
        rw [if_neg (fun z : (b, l).1 ≤ 2 * j ∧ 2 * j < (b, l).1 + (b, l).2 => h1 z.1), List.append_nil]
        exact ⟨_, by simp [Wd.d, tupI]; rfl, rfl⟩
    · subst he ho
      rw [rngD_len]
      simp only [bodyW, e_var, e_cst, e_dct, e_bin, e_neg, e_not, e_cmp, e_cmp2, e_and, e_or, e_ite, e_tup, e_lst, e_idx, e_slc, e_rev, e_fn, e_call, es_nil, es_cons, o_none, o_some, t_tt, t_and, t_or, t_not, t_val, i_seq, i_rng, i_enm, i_zip, p_nil, p_cons, s_set, s_setO, s_unp, s_par, s_aug, s_ext, s_iff, s_ret, s_app, s_pop, s_stL, s_stD, s_appN, s_popN, s_drop, s_cont, s_brk, ss_nil, ss_cons, getS, setS, setPs, rs_val, rs_obj, rs_new, rsv_d, rsv_last, b_add, b_addL, b_addT, b_sub, b_mul, b_div, b_mod, b_pow, c_eq, c_ne, c_lt, c_le, c_gt, c_ge, c_inL, c_inT, c_niL, c_niT, c_isB, c_isN, c_isI, c_isT, c_inN, c_inI, c_inTu, tr_non, tr_bl, tr_int, tr_lst, tr_tup, x_lst, x_tup, sl_l, sl_t, rv_l, nw_f, nw_t, au_add, au_sub, au_mul, la_last, bd_nm, bd_tp, sq_l, sq_t, f_len, f_isi, f_sortD, f_sortO, f_tupL, f_tupO, f_lstT, f_lstL, f_lstD, f_min2, f_minL, f_all, f_any, f_intB, f_str, z_ll, z_tt, ad_nil, ad_cons, objAt, setAll, wipeA, wipeS, List.map_cons, List.map_nil, List.length_cons, List.length_nil, List.replicate, List.cons_append, List.nil_append, Nat.zero_add, Nat.reduceAdd, Nat.reduceSub, Wd.d, tupI, frI, prI, ixD, at3_0, at3_1, at3_2, at2_0, at2_1, eqD, Flat]
      have e : ((many : Int) + 1 - 0).toNat = many + 1 := by omega
      rw [e]
      refine ⟨m', by omega, b + l, l + W.w, acc ++ [(b, l)], y5, by simp, ?_, ha3, by omega, by simp; omega, by omega⟩
      have : (candL (b, l) (many + 1)).foldl addK (keysB many acc) = keysB many (acc ++ [(b, l)]) := by
        unfold keysB
        rw [List.flatMap_append, List.foldl_append]
        simp
      rw [this]
  · rw [if_neg (by simp; omega)]
    rw [turnsF_end hb, List.append_nil] at ha
    subst ha
    rw [h98]
    refine ⟨os.length, rfl, get_app ho, ?_⟩
    unfold srtKW
    simp only [g_last]
    refine ⟨(keysB many (turnsL many W.g W.w)).map fun x => ((x.1 : Int), (x.2 : Int)), ?_, fun p hp => ?_, fun qs hq hs => ?_⟩
    · unfold kvK
      rw [List.map_map, List.map_map]
      rfl
    · obtain ⟨x, hx, rfl⟩ := List.mem_map.mp hp
      obtain ⟨⟨_, r⟩, r2, r3⟩ := keysL_red hW hm (keysB_mem.mp hx)
      exact ⟨by simp, by simp only; omega, by simp only; omega, by simp only; omega⟩
    · simp only [leave_new, l_last]
      rw [sorted_marks hW hm hq hs]
      exact h
theorem w_law_stretches (T : Tab) (mo : MoTab T) {P : Addr} {q : Str} (h36 : T 36 = spPricked) (h37 : T 37 = spLBreaks P q) (ss : List S) (os : List O) (Q : R → List O → Prop) (h : spLStretches P q ss os Q) : bodyW T p_law_stretches 6 ss os Q := by
  obtain ⟨many, W, rfl, hW, hm1, hm, ho, h⟩ := h
  simp only [p_law_stretches, bodyW, e_var, e_cst, e_dct, e_bin, e_neg, e_not, e_cmp, e_cmp2, e_and, e_or, e_ite, e_tup, e_lst, e_idx, e_slc, e_rev, e_fn, e_call, es_nil, es_cons, o_none, o_some, t_tt, t_and, t_or, t_not, t_val, i_seq, i_rng, i_enm, i_zip, p_nil, p_cons, s_set, s_setO, s_unp, s_par, s_aug, s_ext, s_iff, s_ret, s_app, s_pop, s_stL, s_stD, s_appN, s_popN, s_drop, s_cont, s_brk, ss_nil, ss_cons, getS, setS, setPs, rs_val, rs_obj, rs_new, rsv_d, rsv_last, b_add, b_addL, b_addT, b_sub, b_mul, b_div, b_mod, b_pow, c_eq, c_ne, c_lt, c_le, c_gt, c_ge, c_inL, c_inT, c_niL, c_niT, c_isB, c_isN, c_isI, c_isT, c_inN, c_inI, c_inTu, tr_non, tr_bl, tr_int, tr_lst, tr_tup, x_lst, x_tup, sl_l, sl_t, rv_l, nw_f, nw_t, au_add, au_sub, au_mul, la_last, bd_nm, bd_tp, sq_l, sq_t, f_len, f_isi, f_sortD, f_sortO, f_tupL, f_tupO, f_lstT, f_lstL, f_lstD, f_min2, f_minL, f_all, f_any, f_intB, f_str, z_ll, z_tt, ad_nil, ad_cons, objAt, setAll, wipeA, wipeS, List.map_cons, List.map_nil, List.length_cons, List.length_nil, List.replicate, List.cons_append, List.nil_append, Nat.zero_add, Nat.reduceAdd, Nat.reduceSub, h37]
  refine ⟨many, W, rfl, hW, hm, ho, ?_⟩
  simp only [bodyW, e_var, e_cst, e_dct, e_bin, e_neg, e_not, e_cmp, e_cmp2, e_and, e_or, e_ite, e_tup, e_lst, e_idx, e_slc, e_rev, e_fn, e_call, es_nil, es_cons, o_none, o_some, t_tt, t_and, t_or, t_not, t_val, i_seq, i_rng, i_enm, i_zip, p_nil, p_cons, s_set, s_setO, s_unp, s_par, s_aug, s_ext, s_iff, s_ret, s_app, s_pop, s_stL, s_stD, s_appN, s_popN, s_drop, s_cont, s_brk, ss_nil, ss_cons, getS, setS, setPs, rs_val, rs_obj, rs_new, rsv_d, rsv_last, b_add, b_addL, b_addT, b_sub, b_mul, b_div, b_mod, b_pow, c_eq, c_ne, c_lt, c_le, c_gt, c_ge, c_inL, c_inT, c_niL, c_niT, c_isB, c_isN, c_isI, c_isT, c_inN, c_inI, c_inTu, tr_non, tr_bl, tr_int, tr_lst, tr_tup, x_lst, x_tup, sl_l, sl_t, rv_l, nw_f, nw_t, au_add, au_sub, au_mul, la_last, bd_nm, bd_tp, sq_l, sq_t, f_len, f_isi, f_sortD, f_sortO, f_tupL, f_tupO, f_lstT, f_lstL, f_lstD, f_min2, f_minL, f_all, f_any, f_intB, f_str, z_ll, z_tt, ad_nil, ad_cons, objAt, setAll, wipeA, wipeS, List.map_cons, List.map_nil, List.length_cons, List.length_nil, List.replicate, List.cons_append, List.nil_append, Nat.zero_add, Nat.reduceAdd, Nat.reduceSub, cut_1]
  have hml := marksL_len (W := W) hm
  refine ⟨by decide, ?_⟩
  have hz : zipD ((marksL many W.g W.w).map frI) (((marksL many W.g W.w).map frI).drop 1 ++ [D.tup [D.int 1, D.int 1]]) = (rowsL many W).map fun r => .tup [frI r.1, frI r.2.1] := by
    have e : ((marksL many W.g W.w).map frI).drop 1 ++ [D.tup [D.int 1, D.int 1]] = ((marksL many W.g W.w).drop 1 ++ [(1, 1)]).map frI := by
      rw [List.map_append, List.map_drop]
      rfl
    rw [e, zipD_map]
    unfold rowsL
    rw [List.map_map]
    rfl
  refine for_i mo (fun its os1 => its = (rowsL many W).map (fun r => .tup [frI r.1, frI r.2.1]) ∧ os1 = os ++ [.lst []]) ?_ fun its os1 ⟨e1, e2⟩ => ?_
  · simp only [bodyW, e_var, e_cst, e_dct, e_bin, e_neg, e_not, e_cmp, e_cmp2, e_and, e_or, e_ite, e_tup, e_lst, e_idx, e_slc, e_rev, e_fn, e_call, es_nil, es_cons, o_none, o_some, t_tt, t_and, t_or, t_not, t_val, i_seq, i_rng, i_enm, i_zip, p_nil, p_cons, s_set, s_setO, s_unp, s_par, s_aug, s_ext, s_iff, s_ret, s_app, s_pop, s_stL, s_stD, s_appN, s_popN, s_drop, s_cont, s_brk, ss_nil, ss_cons, getS, setS, setPs, rs_val, rs_obj, rs_new, rsv_d, rsv_last, b_add, b_addL, b_addT, b_sub, b_mul, b_div, b_mod, b_pow, c_eq, c_ne, c_lt, c_le, c_gt, c_ge, c_inL, c_inT, c_niL, c_niT, c_isB, c_isN, c_isI, c_isT, c_inN, c_inI, c_inTu, tr_non, tr_bl, tr_int, tr_lst, tr_tup, x_lst, x_tup, sl_l, sl_t, rv_l, nw_f, nw_t, au_add, au_sub, au_mul, la_last, bd_nm, bd_tp, sq_l, sq_t, f_len, f_isi, f_sortD, f_sortO, f_tupL, f_tupO, f_lstT, f_lstL, f_lstD, f_min2, f_minL, f_all, f_any, f_intB, f_str, z_ll, z_tt, ad_nil, ad_cons, objAt, setAll, wipeA, wipeS, List.map_cons, List.map_nil, List.length_cons, List.length_nil, List.replicate, List.cons_append, List.nil_append, Nat.zero_add, Nat.reduceAdd, Nat.reduceSub, cut_1]
    refine ⟨by decide, by decide, ?_, hz, trivial⟩
    rw [List.length_drop, List.length_map]; unfold lim; omega
  subst e1 e2
  refine ⟨fun i env os' => ∃ x4 x5 y2, env = [some (.d (.int many)), some (.d W.d), y2, some (.o os.length), x4, x5] ∧ os' = os ++ [.lst (((rowsL many W).take i).map rowI)], ⟨none, none, _, rfl, by simp⟩, fun i x env os' hx ⟨x4, x5, y2, he, ho⟩ => ?_, fun env os' ⟨x4, x5, y2, he, ho⟩ => ?_⟩
  · subst he ho
    obtain ⟨⟨a, b, cs⟩, hr, rfl⟩ := map_get hx
    obtain ⟨g1, g2, g3⟩ := rowsL_get hr
    simp only at g1 g2 g3
    subst g3
    obtain ⟨q0, q5, pq, _⟩ := marks_bnd hW hm (List.mem_of_getElem? g1)
    have hrl := rowsL_len (W := W) hm
    have hlen : (((rowsL many W).take i).map rowI).length < lim := by
      rw [List.length_map, List.length_take]; unfold lim; omega
    simp only [bodyW, e_var, e_cst, e_dct, e_bin, e_neg, e_not, e_cmp, e_cmp2, e_and, e_or, e_ite, e_tup, e_lst, e_idx, e_slc, e_rev, e_fn, e_call, es_nil, es_cons, o_none, o_some, t_tt, t_and, t_or, t_not, t_val, i_seq, i_rng, i_enm, i_zip, p_nil, p_cons, s_set, s_setO, s_unp, s_par, s_aug, s_ext, s_iff, s_ret, s_app, s_pop, s_stL, s_stD, s_appN, s_popN, s_drop, s_cont, s_brk, ss_nil, ss_cons, getS, setS, setPs, rs_val, rs_obj, rs_new, rsv_d, rsv_last, b_add, b_addL, b_addT, b_sub, b_mul, b_div, b_mod, b_pow, c_eq, c_ne, c_lt, c_le, c_gt, c_ge, c_inL, c_inT, c_niL, c_niT, c_isB, c_isN, c_isI, c_isT, c_inN, c_inI, c_inTu, tr_non, tr_bl, tr_int, tr_lst, tr_tup, x_lst, x_tup, sl_l, sl_t, rv_l, nw_f, nw_t, au_add, au_sub, au_mul, la_last, bd_nm, bd_tp, sq_l, sq_t, f_len, f_isi, f_sortD, f_sortO, f_tupL, f_tupO, f_lstT, f_lstL, f_lstD, f_min2, f_minL, f_all, f_any, f_intB, f_str, z_ll, z_tt, ad_nil, ad_cons, objAt, setAll, wipeA, wipeS, List.map_cons, List.map_nil, List.length_cons, List.length_nil, List.replicate, List.cons_append, List.nil_append, Nat.zero_add, Nat.reduceAdd, Nat.reduceSub, h36]
    refine ⟨many, W, a.1, a.2, rfl, hW, hm, q0, by omega, by omega, ?_⟩
    simp only [bodyW, e_var, e_cst, e_dct, e_bin, e_neg, e_not, e_cmp, e_cmp2, e_and, e_or, e_ite, e_tup, e_lst, e_idx, e_slc, e_rev, e_fn, e_call, es_nil, es_cons, o_none, o_some, t_tt, t_and, t_or, t_not, t_val, i_seq, i_rng, i_enm, i_zip, p_nil, p_cons, s_set, s_setO, s_unp, s_par, s_aug, s_ext, s_iff, s_ret, s_app, s_pop, s_stL, s_stD, s_appN, s_popN, s_drop, s_cont, s_brk, ss_nil, ss_cons, getS, setS, setPs, rs_val, rs_obj, rs_new, rsv_d, rsv_last, b_add, b_addL, b_addT, b_sub, b_mul, b_div, b_mod, b_pow, c_eq, c_ne, c_lt, c_le, c_gt, c_ge, c_inL, c_inT, c_niL, c_niT, c_isB, c_isN, c_isI, c_isT, c_inN, c_inI, c_inTu, tr_non, tr_bl, tr_int, tr_lst, tr_tup, x_lst, x_tup, sl_l, sl_t, rv_l, nw_f, nw_t, au_add, au_sub, au_mul, la_last, bd_nm, bd_tp, sq_l, sq_t, f_len, f_isi, f_sortD, f_sortO, f_tupL, f_tupO, f_lstT, f_lstL, f_lstD, f_min2, f_minL, f_all, f_any, f_intB, f_str, z_ll, z_tt, ad_nil, ad_cons, objAt, setAll, wipeA, wipeS, List.map_cons, List.map_nil, List.length_cons, List.length_nil, List.replicate, List.cons_append, List.nil_append, Nat.zero_add, Nat.reduceAdd, Nat.reduceSub, la_last, s_last]
    refine ⟨by decide, hlen, _, _, _, rfl, ?_⟩
    rw [take_snoc hr, List.map_append]
    rfl
  · subst he ho
    rw [List.length_map, List.take_length]
    simp only [bodyW, e_var, e_cst, e_dct, e_bin, e_neg, e_not, e_cmp, e_cmp2, e_and, e_or, e_ite, e_tup, e_lst, e_idx, e_slc, e_rev, e_fn, e_call, es_nil, es_cons, o_none, o_some, t_tt, t_and, t_or, t_not, t_val, i_seq, i_rng, i_enm, i_zip, p_nil, p_cons, s_set, s_setO, s_unp, s_par, s_aug, s_ext, s_iff, s_ret, s_app, s_pop, s_stL, s_stD, s_appN, s_popN, s_drop, s_cont, s_brk, ss_nil, ss_cons, getS, setS, setPs, rs_val, rs_obj, rs_new, rsv_d, rsv_last, b_add, b_addL, b_addT, b_sub, b_mul, b_div, b_mod, b_pow, c_eq, c_ne, c_lt, c_le, c_gt, c_ge, c_inL, c_inT, c_niL, c_niT, c_isB, c_isN, c_isI, c_isT, c_inN, c_inI, c_inTu, tr_non, tr_bl, tr_int, tr_lst, tr_tup, x_lst, x_tup, sl_l, sl_t, rv_l, nw_f, nw_t, au_add, au_sub, au_mul, la_last, bd_nm, bd_tp, sq_l, sq_t, f_len, f_isi, f_sortD, f_sortO, f_tupL, f_tupO, f_lstT, f_lstL, f_lstD, f_min2, f_minL, f_all, f_any, f_intB, f_str, z_ll, z_tt, ad_nil, ad_cons, objAt, setAll, wipeA, wipeS, List.map_cons, List.map_nil, List.length_cons, List.length_nil, List.replicate, List.cons_append, List.nil_append, Nat.zero_add, Nat.reduceAdd, Nat.reduceSub, leave_last]
    exact h
section
variable {ss : List S} {os : List O} {Q Q' : R → List O → Prop} {P : Addr} {q : Str}
theorem mo_spLawT : spLawT P q ss os Q → (∀ r os', Q r os' → Q' r os') → spLawT P q ss os Q' := by unfold spLawT; (intro h hq; revert h; (repeat' (first | (refine Exists.imp fun _ => ?_) | (refine And.imp_right ?_))); intro h; first | exact hq _ _ h | (intros; apply hq; apply h <;> assumption))
theorem mo_spLBreaks : spLBreaks P q ss os Q → (∀ r os', Q r os' → Q' r os') → spLBreaks P q ss os Q' := by unfold spLBreaks; (intro h hq; revert h; (repeat' (first | (refine Exists.imp fun _ => ?_) | (refine And.imp_right ?_))); intro h; first | exact hq _ _ h | (intros; apply hq; apply h <;> assumption))
theorem mo_spLStretches : spLStretches P q ss os Q → (∀ r os', Q r os' → Q' r os') → spLStretches P q ss os Q' := by unfold spLStretches; (intro h hq; revert h; (repeat' (first | (refine Exists.imp fun _ => ?_) | (refine And.imp_right ?_))); intro h; first | exact hq _ _ h | (intros; apply hq; apply h <;> assumption))
theorem mo_spSrtK : spSrtK P q ss os Q → (∀ r os', Q r os' → Q' r os') → spSrtK P q ss os Q' := by
  rintro ⟨k, h1, h2, h3⟩ hq
  exact ⟨k, h1, h2, srtKW_mo h3 fun r => hq r os⟩
end
end N66

/-! N66, the first law. -/
namespace N66
open PySem PySem.Spec L2
def p_is_from : Ss := .cons (.ret (.and (.fn (.isi "int") (.cons (.var 0) .nil)) (.and (.not (.fn (.isi "bool") (.cons (.var 0) .nil))) (.cmp2 .LtE .LtE (.var 1) (.var 0) (.var 2))))) .nil
def p_is_winding : Ss := .cons (.iff (.or (.not (.val (.fn (.isi "tuple") (.cons (.var 0) .nil)))) (.val (.cmp .NotEq (.fn .len (.cons (.var 0) .nil)) (.cst (.int 3))))) (.cons (.ret (.cst (.bl false))) .nil) .nil) (.cons (.ret (.and (.call 0 (.cons (.idx (.var 0) (.cst (.int 0))) (.cons (.cst (.int 4)) (.cons (.cst (.int 16)) .nil)))) (.and (.call 0 (.cons (.idx (.var 0) (.cst (.int 1))) (.cons (.cst (.int 0)) (.cons (.cst (.int 8)) .nil)))) (.call 0 (.cons (.idx (.var 0) (.cst (.int 2))) (.cons (.cst (.int 0)) (.cons (.cst (.int 1)) .nil))))))) .nil)
def p_law_is_winding : Ss := .cons (.iff (.or (.not (.val (.fn (.isi "tuple") (.cons (.var 0) .nil)))) (.val (.cmp .NotEq (.fn .len (.cons (.var 0) .nil)) (.cst (.int 3))))) (.cons (.ret (.cst (.bl false))) .nil) .nil) (.cons (.for_ (.tp [1, 2, 3]) (.zip (.cons (.var 0) (.cons (.tup (.cons (.cst (.int 4)) (.cons (.cst (.int 0)) (.cons (.cst (.int 0)) .nil)))) (.cons (.tup (.cons (.cst (.int 16)) (.cons (.cst (.int 8)) (.cons (.cst (.int 1)) .nil)))) .nil)))) (.cons (.iff (.or (.not (.val (.fn (.isi "int") (.cons (.var 1) .nil)))) (.or (.val (.fn (.isi "bool") (.cons (.var 1) .nil))) (.not (.val (.cmp2 .LtE .LtE (.var 2) (.var 1) (.var 3)))))) (.cons (.ret (.cst (.bl false))) .nil) .nil) .nil)) (.cons (.ret (.cst (.bl true))) .nil))
def p_law_odd : Ss := .cons (.unp [2, 3, 4] (.var 1)) (.cons (.setO 5 (.lst (.cons (.var 1) (.cons (.fn .list (.cons (.var 1) .nil)) (.cons (.slc (.var 1) .none (.some (.cst (.int 2)))) (.cons (.bin .Add (.var 1) (.tup (.cons (.cst (.int 0)) .nil))) (.cons (.tup (.cons (.cst (.int 3)) (.cons (.cst (.int 0)) (.cons (.cst (.int 0)) .nil)))) (.cons (.tup (.cons (.cst (.int 17)) (.cons (.cst (.int 0)) (.cons (.cst (.int 0)) .nil)))) (.cons (.tup (.cons (.cst (.int 4)) (.cons (.cst (.int 9)) (.cons (.cst (.int 0)) .nil)))) (.cons (.tup (.cons (.cst (.int 4)) (.cons (.neg (.cst (.int 1))) (.cons (.cst (.int 0)) .nil)))) .nil)))))))))) (.cons (.setO 5 (.bin .Add (.var 5) (.lst (.cons (.tup (.cons (.cst (.int 4)) (.cons (.cst (.int 0)) (.cons (.cst (.int 2)) .nil)))) (.cons (.tup (.cons (.cst (.bl true)) (.cons (.cst (.int 0)) (.cons (.cst (.int 0)) .nil)))) (.cons (.tup (.cons (.cst (.int 4)) (.cons (.cst (.bl false)) (.cons (.cst (.int 0)) .nil)))) (.cons (.tup (.cons (.cst (.int 4)) (.cons (.cst (.int 0)) (.cons (.cst (.bl true)) .nil)))) (.cons (.tup (.cons (.var 2) (.cons (.var 3) (.cons (.cst .non) .nil)))) (.cons (.cst .non) (.cons (.cst (.int 4)) (.cons (.tup .nil) .nil))))))))))) (.cons (.app 5 (.tup (.cons (.fn .str (.cons (.var 2) .nil)) (.cons (.var 3) (.cons (.var 4) .nil))))) (.cons (.ret (.bin .Add (.var 5) (.lst (.cons (.tup (.cons (.bin .Add (.var 2) (.call 32 (.cons (.var 0) (.cons (.lst (.cons (.neg (.cst (.int 1))) (.cons (.cst (.int 1)) (.cons (.cst (.int 12)) (.cons (.neg (.cst (.int 12))) .nil))))) .nil)))) (.cons (.var 3) (.cons (.var 4) .nil)))) (.cons (.tup (.cons (.var 3) (.cons (.var 2) (.cons (.var 4) .nil)))) .nil))))) .nil))))
def p_law01 : Ss := .cons (.for_ (.nm 1) (.rng (.cst (.int 0)) (.bin .Add (.fn .min2 (.cons (.fn .len (.cons (.var 0) .nil)) (.cons (.cst (.int 10)) .nil))) (.cst (.int 2)))) (.cons (.setO 2 (.call 30 (.cons (.var 0) (.cons (.var 1) .nil)))) (.cons (.set 3 (.call 33 (.cons (.var 2) .nil))) (.cons (.for_ (.nm 4) (.seq (.call 40 (.cons (.var 2) (.cons (.var 3) .nil)))) (.cons (.set 5 (.call 1 (.cons (.var 4) .nil))) (.cons (.iff (.or (.not (.val (.fn (.isi "bool") (.cons (.var 5) .nil)))) (.val (.cmp .NotEq (.var 5) (.call 39 (.cons (.var 4) .nil))))) (.cons (.ret (.cst (.bl false))) .nil) .nil) .nil))) (.cons (.for_ (.nm 6) (.seq (.lst (.cons (.bin .Add (.cst (.int 1)) (.call 31 (.cons (.var 2) (.cons (.cst (.int 24)) .nil)))) (.cons (.call 32 (.cons (.var 2) (.cons (.lst (.cons (.cst (.int 1)) (.cons (.cst (.int 2)) (.cons (.cst (.int 8)) (.cons (.cst (.int 24)) .nil))))) .nil))) .nil)))) (.cons (.iff (.val (.cmp .NotEq (.call 7 (.cons (.var 6) (.cons (.var 3) .nil))) (.call 38 (.cons (.var 6) (.cons (.var 3) .nil))))) (.cons (.ret (.cst (.bl false))) .nil) .nil) (.cons (.for_ (.nm 7) (.rng (.cst (.int 0)) (.cst (.int 6))) (.cons (.set 8 (.call 35 (.cons (.var 2) .nil))) (.cons (.iff (.val (.cmp .NotEq (.call 4 (.cons (.var 6) (.cons (.var 3) (.cons (.var 8) .nil)))) (.call 36 (.cons (.var 6) (.cons (.var 3) (.cons (.var 8) .nil)))))) (.cons (.ret (.cst (.bl false))) .nil) .nil) .nil))) (.cons (.appN (.call 4 (.cons (.var 6) (.cons (.var 3) (.cons (.tup (.cons (.cst (.int 0)) (.cons (.cst (.int 1)) .nil))) .nil)))) (.cst (.int 99))) (.cons (.popN (.call 7 (.cons (.var 6) (.cons (.var 3) .nil)))) (.cons (.iff (.val (.cmp .NotEq (.call 7 (.cons (.var 6) (.cons (.var 3) .nil))) (.call 38 (.cons (.var 6) (.cons (.var 3) .nil))))) (.cons (.ret (.cst (.bl false))) .nil) .nil) .nil)))))) .nil))))) (.cons (.ret (.and (.cmp .Eq (.call 4 (.cons (.cst (.int 8)) (.cons (.tup (.cons (.cst (.int 5)) (.cons (.cst (.int 1)) (.cons (.cst (.int 0)) .nil)))) (.cons (.tup (.cons (.cst (.int 1)) (.cons (.cst (.int 2)) .nil))) .nil)))) (.lst (.cons (.cst (.int 1)) (.cons (.cst (.int 4)) (.cons (.cst (.int 7)) .nil))))) (.cmp .Eq (.call 4 (.cons (.cst (.int 8)) (.cons (.tup (.cons (.cst (.int 5)) (.cons (.cst (.int 1)) (.cons (.cst (.int 1)) .nil)))) (.cons (.tup (.cons (.cst (.int 0)) (.cons (.cst (.int 1)) .nil))) .nil)))) (.lst (.cons (.cst (.int 2)) (.cons (.cst (.int 5)) (.cons (.cst (.int 7)) .nil))))))) .nil)
/-- what stands at a law's heart: the script, the key's table, the bag -/
structure Bs (P : Addr) (q : Str) (ns : List Int) (os : List O) (j : Nat) : Prop where
  scr : os[0]? = some (.scr ns)
  tbl : os[1]? = some (.tbl P q)
  bag : Bag os j
theorem Bs.j0 {P : Addr} {q : Str} {ns : List Int} {os : List O} {j : Nat} (h : Bs P q ns os j) : 0 ≠ j ∧ 1 ≠ j := by
  obtain ⟨a, b, hj, _⟩ := h.bag
  constructor
  · intro e
    rw [← e, h.scr] at hj
    cases hj
  · intro e
    rw [← e, h.tbl] at hj
    cases hj
theorem Bs.kp {P : Addr} {q : Str} {ns : List Int} {os os' : List O} {j : Nat} (h : Bs P q ns os j) (k : Kp j os os') : Bs P q ns os' j :=
  ⟨(k.old 0 h.j0.1).trans h.scr, (k.old 1 h.j0.2).trans h.tbl, k.bag⟩
theorem Bs.app {P : Addr} {q : Str} {ns : List Int} {os : List O} {j : Nat} {o : O} (h : Bs P q ns os j) : Bs P q ns (os ++ [o]) j := by
  obtain ⟨a, b, hj, h1, h2⟩ := h.bag
  exact ⟨g_old h.scr, g_old h.tbl, a, b, g_old hj, h1, h2⟩
theorem Bs.new {P : Addr} {q : Str} {ns : List Int} {os : List O} {a b : Nat} (h0 : os[0]? = some (.scr ns)) (h1 : os[1]? = some (.tbl P q)) (ha : a < 10 ^ 60) (hb : b < 2 ^ 31) : Bs P q ns (os ++ [bagO a b]) os.length :=
  ⟨g_old h0, g_old h1, a, b, by simp, ha, hb⟩
theorem take2 {P : Addr} {q : Str} {ns : List Int} {os : List O} (h0 : os[0]? = some (.scr ns)) (h1 : os[1]? = some (.tbl P q)) : os.take 2 = [.scr ns, .tbl P q] := by
  cases os with
  | nil => cases h0
  | cons a r => cases r with
    | nil => cases h1
    | cons b r =>
      cases h0
      cases h1
      rfl
/-! ### kinds -/
def Kn : D → Prop
  | .iset _ => False
  | .bad => False
  | _ => True
def intB : D → Bool
  | .int _ => true
  | .bl _ => true
  | _ => false
def blB : D → Bool
  | .bl _ => true
  | _ => false
def tupB : D → Bool
  | .tup _ => true
  | _ => false
theorem isi_int {os : List O} {Q : R → Prop} {d : D} (h : Kn d) : fnW os (.isi "int") [.d d] Q = Q (.val (.bl (intB d))) := by
  rw [f_isi]
  cases d <;> simp only [Kn] at h <;> simp only [tyD, intB]
  · rw [show kitB "NoneType" "int" = some false by decide +kernel]
  · rw [show kitB "bool" "int" = some true by decide +kernel]
  · rw [show kitB "int" "int" = some true by decide +kernel]
  · rw [show kitB "str" "int" = some false by decide +kernel]
  · rw [show kitB "list" "int" = some false by decide +kernel]
  · rw [show kitB "tuple" "int" = some false by decide +kernel]
theorem isi_bool {os : List O} {Q : R → Prop} {d : D} (h : Kn d) : fnW os (.isi "bool") [.d d] Q = Q (.val (.bl (blB d))) := by
  rw [f_isi]
  cases d <;> simp only [Kn] at h <;> simp only [tyD, blB]
  · rw [show kitB "NoneType" "bool" = some false by decide +kernel]
  · rw [show kitB "bool" "bool" = some true by decide +kernel]
  · rw [show kitB "int" "bool" = some false by decide +kernel]
  · rw [show kitB "str" "bool" = some false by decide +kernel]
  · rw [show kitB "list" "bool" = some false by decide +kernel]
  · rw [show kitB "tuple" "bool" = some false by decide +kernel]
theorem isi_tup {os : List O} {Q : R → Prop} {d : D} (h : Kn d) : fnW os (.isi "tuple") [.d d] Q = Q (.val (.bl (tupB d))) := by
  rw [f_isi]
  cases d <;> simp only [Kn] at h <;> simp only [tyD, tupB]
  · rw [show kitB "NoneType" "tuple" = some false by decide +kernel]
  · rw [show kitB "bool" "tuple" = some false by decide +kernel]
  · rw [show kitB "int" "tuple" = some false by decide +kernel]
  · rw [show kitB "str" "tuple" = some false by decide +kernel]
  · rw [show kitB "list" "tuple" = some false by decide +kernel]
  · rw [show kitB "tuple" "tuple" = some true by decide +kernel]
def fromB (d : D) (lo hi : Int) : Bool := match d with
  | .int i => decide (lo ≤ i) && decide (i ≤ hi)
  | _ => false
def spFrom : Fun1 := fun ss os Q => ∃ (d : D) (lo hi : Int), ss = [.d d, .d (.int lo), .d (.int hi)] ∧ Kn d ∧ Q (.val (.bl (fromB d lo hi))) os
theorem w_is_from (T : Tab) (ss : List S) (os : List O) (Q : R → List O → Prop) (h : spFrom ss os Q) : bodyW T p_is_from 3 ss os Q := by
  obtain ⟨d, lo, hi, rfl, hk, h⟩ := h
  simp only [p_is_from, bodyW, e_var, e_cst, e_dct, e_bin, e_neg, e_not, e_cmp, e_cmp2, e_and, e_or, e_ite, e_tup, e_lst, e_idx, e_slc, e_rev, e_fn, e_call, es_nil, es_cons, o_none, o_some, t_tt, t_and, t_or, t_not, t_val, i_seq, i_rng, i_enm, i_zip, p_nil, p_cons, s_set, s_setO, s_unp, s_par, s_aug, s_ext, s_iff, s_ret, s_app, s_pop, s_stL, s_stD, s_appN, s_popN, s_drop, s_cont, s_brk, ss_nil, ss_cons, getS, setS, setPs, rs_val, rs_obj, rs_new, rsv_d, rsv_last, b_add, b_addL, b_addT, b_sub, b_mul, b_div, b_mod, b_pow, c_eq, c_ne, c_lt, c_le, c_gt, c_ge, c_inL, c_inT, c_niL, c_niT, c_isB, c_isN, c_isI, c_isT, c_inN, c_inI, c_inTu, tr_non, tr_bl, tr_int, tr_lst, tr_tup, x_lst, x_tup, sl_l, sl_t, rv_l, nw_f, nw_t, au_add, au_sub, au_mul, la_last, bd_nm, bd_tp, sq_l, sq_t, f_len, f_isi, f_sortD, f_sortO, f_tupL, f_tupO, f_lstT, f_lstL, f_lstD, f_min2, f_minL, f_all, f_any, f_intB, f_str, z_ll, z_tt, ad_nil, ad_cons, objAt, setAll, wipeA, wipeS, List.map_cons, List.map_nil, List.length_cons, List.length_nil, List.replicate, List.cons_append, List.nil_append, Nat.zero_add, Nat.reduceAdd, Nat.reduceSub, isi_int hk, isi_bool hk, leave_val, tk_self]
  cases d <;> simp only [Kn] at hk <;> simp only [intB, blB, fromB, Bool.not_true, Bool.not_false, Bool.false_eq_true, if_true, if_false, bodyW, e_var, e_cst, e_dct, e_bin, e_neg, e_not, e_cmp, e_cmp2, e_and, e_or, e_ite, e_tup, e_lst, e_idx, e_slc, e_rev, e_fn, e_call, es_nil, es_cons, o_none, o_some, t_tt, t_and, t_or, t_not, t_val, i_seq, i_rng, i_enm, i_zip, p_nil, p_cons, s_set, s_setO, s_unp, s_par, s_aug, s_ext, s_iff, s_ret, s_app, s_pop, s_stL, s_stD, s_appN, s_popN, s_drop, s_cont, s_brk, ss_nil, ss_cons, getS, setS, setPs, rs_val, rs_obj, rs_new, rsv_d, rsv_last, b_add, b_addL, b_addT, b_sub, b_mul, b_div, b_mod, b_pow, c_eq, c_ne, c_lt, c_le, c_gt, c_ge, c_inL, c_inT, c_niL, c_niT, c_isB, c_isN, c_isI, c_isT, c_inN, c_inI, c_inTu, tr_non, tr_bl, tr_int, tr_lst, tr_tup, x_lst, x_tup, sl_l, sl_t, rv_l, nw_f, nw_t, au_add, au_sub, au_mul, la_last, bd_nm, bd_tp, sq_l, sq_t, f_len, f_isi, f_sortD, f_sortO, f_tupL, f_tupO, f_lstT, f_lstL, f_lstD, f_min2, f_minL, f_all, f_any, f_intB, f_str, z_ll, z_tt, ad_nil, ad_cons, objAt, setAll, wipeA, wipeS, List.map_cons, List.map_nil, List.length_cons, List.length_nil, List.replicate, List.cons_append, List.nil_append, Nat.zero_add, Nat.reduceAdd, Nat.reduceSub] at h ⊢
  all_goals first | exact h | skip
  rename_i i
  by_cases h1 : lo ≤ i
  · rw [if_pos (by simpa using h1)]
    simp only [h1, decide_true, Bool.true_and] at h
    exact h
  · rw [if_neg (by simpa using h1)]
    simp only [h1, decide_false, Bool.false_and] at h
    exact h
def windB (d : D) : Bool := match d with
  | .tup [a, b, c] => fromB a 4 16 && (fromB b 0 8 && fromB c 0 1)
  | _ => false
/-- known, its items too -/
def Kn2 : D → Prop
  | .tup ds => ∀ d ∈ ds, Kn d
  | d => Kn d
theorem Kn2.kn {d : D} (h : Kn2 d) : Kn d := by
  cases d <;> first | exact h | exact trivial
def spIsW : Fun1 := fun ss os Q => ∃ d : D, ss = [.d d] ∧ Kn2 d ∧ Q (.val (.bl (windB d))) os
theorem windB_no {d : D} (h : tupB d = false) : windB d = false := by
  cases d <;> first | rfl | cases h
theorem windB_len {ds : List D} (h : ds.length ≠ 3) : windB (.tup ds) = false := by
  match ds, h with
  | [], _ => rfl
  | [_], _ => rfl
  | [_, _], _ => rfl
  | [_, _, _], h => exact absurd rfl h
  | _ :: _ :: _ :: _ :: _, _ => rfl
theorem len3 {ds : List D} (h : ds.length = 3) : ∃ a b c, ds = [a, b, c] := by
  match ds, h with
  | [a, b, c], _ => exact ⟨a, b, c, rfl⟩
theorem w_is_winding (T : Tab) (h0 : T 0 = spFrom) (ss : List S) (os : List O) (Q : R → List O → Prop) (h : spIsW ss os Q) : bodyW T p_is_winding 1 ss os Q := by
  obtain ⟨d, rfl, hk, h⟩ := h
  simp only [p_is_winding, bodyW, e_var, e_cst, e_dct, e_bin, e_neg, e_not, e_cmp, e_cmp2, e_and, e_or, e_ite, e_tup, e_lst, e_idx, e_slc, e_rev, e_fn, e_call, es_nil, es_cons, o_none, o_some, t_tt, t_and, t_or, t_not, t_val, i_seq, i_rng, i_enm, i_zip, p_nil, p_cons, s_set, s_setO, s_unp, s_par, s_aug, s_ext, s_iff, s_ret, s_app, s_pop, s_stL, s_stD, s_appN, s_popN, s_drop, s_cont, s_brk, ss_nil, ss_cons, getS, setS, setPs, rs_val, rs_obj, rs_new, rsv_d, rsv_last, b_add, b_addL, b_addT, b_sub, b_mul, b_div, b_mod, b_pow, c_eq, c_ne, c_lt, c_le, c_gt, c_ge, c_inL, c_inT, c_niL, c_niT, c_isB, c_isN, c_isI, c_isT, c_inN, c_inI, c_inTu, tr_non, tr_bl, tr_int, tr_lst, tr_tup, x_lst, x_tup, sl_l, sl_t, rv_l, nw_f, nw_t, au_add, au_sub, au_mul, la_last, bd_nm, bd_tp, sq_l, sq_t, f_len, f_isi, f_sortD, f_sortO, f_tupL, f_tupO, f_lstT, f_lstL, f_lstD, f_min2, f_minL, f_all, f_any, f_intB, f_str, z_ll, z_tt, ad_nil, ad_cons, objAt, setAll, wipeA, wipeS, List.map_cons, List.map_nil, List.length_cons, List.length_nil, List.replicate, List.cons_append, List.nil_append, Nat.zero_add, Nat.reduceAdd, Nat.reduceSub, isi_tup hk.kn, h0]
  cases ht : tupB d with
  | false =>
    rw [windB_no ht] at h
    simp only [Bool.not_false, if_true, leave_val, tk_self]
    exact h
  | true =>
    cases d with
    | tup ds =>
      simp only [Bool.not_true, Bool.false_eq_true, if_false, bodyW, e_var, e_cst, e_dct, e_bin, e_neg, e_not, e_cmp, e_cmp2, e_and, e_or, e_ite, e_tup, e_lst, e_idx, e_slc, e_rev, e_fn, e_call, es_nil, es_cons, o_none, o_some, t_tt, t_and, t_or, t_not, t_val, i_seq, i_rng, i_enm, i_zip, p_nil, p_cons, s_set, s_setO, s_unp, s_par, s_aug, s_ext, s_iff, s_ret, s_app, s_pop, s_stL, s_stD, s_appN, s_popN, s_drop, s_cont, s_brk, ss_nil, ss_cons, getS, setS, setPs, rs_val, rs_obj, rs_new, rsv_d, rsv_last, b_add, b_addL, b_addT, b_sub, b_mul, b_div, b_mod, b_pow, c_eq, c_ne, c_lt, c_le, c_gt, c_ge, c_inL, c_inT, c_niL, c_niT, c_isB, c_isN, c_isI, c_isT, c_inN, c_inI, c_inTu, tr_non, tr_bl, tr_int, tr_lst, tr_tup, x_lst, x_tup, sl_l, sl_t, rv_l, nw_f, nw_t, au_add, au_sub, au_mul, la_last, bd_nm, bd_tp, sq_l, sq_t, f_len, f_isi, f_sortD, f_sortO, f_tupL, f_tupO, f_lstT, f_lstL, f_lstD, f_min2, f_minL, f_all, f_any, f_intB, f_str, z_ll, z_tt, ad_nil, ad_cons, objAt, setAll, wipeA, wipeS, List.map_cons, List.map_nil, List.length_cons, List.length_nil, List.replicate, List.cons_append, List.nil_append, Nat.zero_add, Nat.reduceAdd, Nat.reduceSub, eqD]
      refine ⟨flat_int 8 _, flat_int 8 _, ?_⟩
      by_cases h3 : ds.length = 3
      · obtain ⟨a, b, c, rfl⟩ := len3 h3
        simp only [List.length_cons, List.length_nil, bodyW, e_var, e_cst, e_dct, e_bin, e_neg, e_not, e_cmp, e_cmp2, e_and, e_or, e_ite, e_tup, e_lst, e_idx, e_slc, e_rev, e_fn, e_call, es_nil, es_cons, o_none, o_some, t_tt, t_and, t_or, t_not, t_val, i_seq, i_rng, i_enm, i_zip, p_nil, p_cons, s_set, s_setO, s_unp, s_par, s_aug, s_ext, s_iff, s_ret, s_app, s_pop, s_stL, s_stD, s_appN, s_popN, s_drop, s_cont, s_brk, ss_nil, ss_cons, getS, setS, setPs, rs_val, rs_obj, rs_new, rsv_d, rsv_last, b_add, b_addL, b_addT, b_sub, b_mul, b_div, b_mod, b_pow, c_eq, c_ne, c_lt, c_le, c_gt, c_ge, c_inL, c_inT, c_niL, c_niT, c_isB, c_isN, c_isI, c_isT, c_inN, c_inI, c_inTu, tr_non, tr_bl, tr_int, tr_lst, tr_tup, x_lst, x_tup, sl_l, sl_t, rv_l, nw_f, nw_t, au_add, au_sub, au_mul, la_last, bd_nm, bd_tp, sq_l, sq_t, f_len, f_isi, f_sortD, f_sortO, f_tupL, f_tupO, f_lstT, f_lstL, f_lstD, f_min2, f_minL, f_all, f_any, f_intB, f_str, z_ll, z_tt, ad_nil, ad_cons, objAt, setAll, wipeA, wipeS, List.map_cons, List.map_nil, List.length_cons, List.length_nil, List.replicate, List.cons_append, List.nil_append, Nat.zero_add, Nat.reduceAdd, Nat.reduceSub, Wd.d, tupI, frI, prI, ixD, at3_0, at3_1, at3_2, at2_0, at2_1, eqD, Flat, and_true, true_and, and_self, if_true, if_false, Bool.false_eq_true, reduceIte, Int.reduceBEq, beq_self_eq_true, leave_val, tk_self]
        have ka : Kn a := hk a (by simp)
        have kb : Kn b := hk b (by simp)
        have kc : Kn c := hk c (by simp)
        refine ifn (by decide) ⟨a, 4, 16, rfl, ka, ?_⟩
        simp only [bodyW, e_var, e_cst, e_dct, e_bin, e_neg, e_not, e_cmp, e_cmp2, e_and, e_or, e_ite, e_tup, e_lst, e_idx, e_slc, e_rev, e_fn, e_call, es_nil, es_cons, o_none, o_some, t_tt, t_and, t_or, t_not, t_val, i_seq, i_rng, i_enm, i_zip, p_nil, p_cons, s_set, s_setO, s_unp, s_par, s_aug, s_ext, s_iff, s_ret, s_app, s_pop, s_stL, s_stD, s_appN, s_popN, s_drop, s_cont, s_brk, ss_nil, ss_cons, getS, setS, setPs, rs_val, rs_obj, rs_new, rsv_d, rsv_last, b_add, b_addL, b_addT, b_sub, b_mul, b_div, b_mod, b_pow, c_eq, c_ne, c_lt, c_le, c_gt, c_ge, c_inL, c_inT, c_niL, c_niT, c_isB, c_isN, c_isI, c_isT, c_inN, c_inI, c_inTu, tr_non, tr_bl, tr_int, tr_lst, tr_tup, x_lst, x_tup, sl_l, sl_t, rv_l, nw_f, nw_t, au_add, au_sub, au_mul, la_last, bd_nm, bd_tp, sq_l, sq_t, f_len, f_isi, f_sortD, f_sortO, f_tupL, f_tupO, f_lstT, f_lstL, f_lstD, f_min2, f_minL, f_all, f_any, f_intB, f_str, z_ll, z_tt, ad_nil, ad_cons, objAt, setAll, wipeA, wipeS, List.map_cons, List.map_nil, List.length_cons, List.length_nil, List.replicate, List.cons_append, List.nil_append, Nat.zero_add, Nat.reduceAdd, Nat.reduceSub]
        unfold windB at h
        simp only at h
        cases fa : fromB a 4 16 with
        | false => rw [fa] at h; exact ifn (by decide) (by rw [tk_self]; exact h)
        | true =>
          rw [fa] at h
          refine ⟨b, 0, 8, rfl, kb, ?_⟩
          simp only [bodyW, e_var, e_cst, e_dct, e_bin, e_neg, e_not, e_cmp, e_cmp2, e_and, e_or, e_ite, e_tup, e_lst, e_idx, e_slc, e_rev, e_fn, e_call, es_nil, es_cons, o_none, o_some, t_tt, t_and, t_or, t_not, t_val, i_seq, i_rng, i_enm, i_zip, p_nil, p_cons, s_set, s_setO, s_unp, s_par, s_aug, s_ext, s_iff, s_ret, s_app, s_pop, s_stL, s_stD, s_appN, s_popN, s_drop, s_cont, s_brk, ss_nil, ss_cons, getS, setS, setPs, rs_val, rs_obj, rs_new, rsv_d, rsv_last, b_add, b_addL, b_addT, b_sub, b_mul, b_div, b_mod, b_pow, c_eq, c_ne, c_lt, c_le, c_gt, c_ge, c_inL, c_inT, c_niL, c_niT, c_isB, c_isN, c_isI, c_isT, c_inN, c_inI, c_inTu, tr_non, tr_bl, tr_int, tr_lst, tr_tup, x_lst, x_tup, sl_l, sl_t, rv_l, nw_f, nw_t, au_add, au_sub, au_mul, la_last, bd_nm, bd_tp, sq_l, sq_t, f_len, f_isi, f_sortD, f_sortO, f_tupL, f_tupO, f_lstT, f_lstL, f_lstD, f_min2, f_minL, f_all, f_any, f_intB, f_str, z_ll, z_tt, ad_nil, ad_cons, objAt, setAll, wipeA, wipeS, List.map_cons, List.map_nil, List.length_cons, List.length_nil, List.replicate, List.cons_append, List.nil_append, Nat.zero_add, Nat.reduceAdd, Nat.reduceSub]
          cases fb : fromB b 0 8 with
          | false => rw [fb] at h; exact ifn (by decide) (by rw [tk_self]; exact h)
          | true =>
            rw [fb] at h
            exact ⟨c, 0, 1, rfl, kc, by simp only [leave_val, tk_self]; exact h⟩
      · rw [windB_len h3] at h
        refine ifp (by simp; omega) ?_
        simp only [bodyW, e_var, e_cst, e_dct, e_bin, e_neg, e_not, e_cmp, e_cmp2, e_and, e_or, e_ite, e_tup, e_lst, e_idx, e_slc, e_rev, e_fn, e_call, es_nil, es_cons, o_none, o_some, t_tt, t_and, t_or, t_not, t_val, i_seq, i_rng, i_enm, i_zip, p_nil, p_cons, s_set, s_setO, s_unp, s_par, s_aug, s_ext, s_iff, s_ret, s_app, s_pop, s_stL, s_stD, s_appN, s_popN, s_drop, s_cont, s_brk, ss_nil, ss_cons, getS, setS, setPs, rs_val, rs_obj, rs_new, rsv_d, rsv_last, b_add, b_addL, b_addT, b_sub, b_mul, b_div, b_mod, b_pow, c_eq, c_ne, c_lt, c_le, c_gt, c_ge, c_inL, c_inT, c_niL, c_niT, c_isB, c_isN, c_isI, c_isT, c_inN, c_inI, c_inTu, tr_non, tr_bl, tr_int, tr_lst, tr_tup, x_lst, x_tup, sl_l, sl_t, rv_l, nw_f, nw_t, au_add, au_sub, au_mul, la_last, bd_nm, bd_tp, sq_l, sq_t, f_len, f_isi, f_sortD, f_sortO, f_tupL, f_tupO, f_lstT, f_lstL, f_lstD, f_min2, f_minL, f_all, f_any, f_intB, f_str, z_ll, z_tt, ad_nil, ad_cons, objAt, setAll, wipeA, wipeS, List.map_cons, List.map_nil, List.length_cons, List.length_nil, List.replicate, List.cons_append, List.nil_append, Nat.zero_add, Nat.reduceAdd, Nat.reduceSub, leave_val, tk_self]
        exact h
    | _ => cases ht
theorem w_law_is_winding (T : Tab) (mo : MoTab T) (ss : List S) (os : List O) (Q : R → List O → Prop) (h : spIsW ss os Q) : bodyW T p_law_is_winding 4 ss os Q := by
  obtain ⟨d, rfl, hk, h⟩ := h
  simp only [p_law_is_winding, bodyW, e_var, e_cst, e_dct, e_bin, e_neg, e_not, e_cmp, e_cmp2, e_and, e_or, e_ite, e_tup, e_lst, e_idx, e_slc, e_rev, e_fn, e_call, es_nil, es_cons, o_none, o_some, t_tt, t_and, t_or, t_not, t_val, i_seq, i_rng, i_enm, i_zip, p_nil, p_cons, s_set, s_setO, s_unp, s_par, s_aug, s_ext, s_iff, s_ret, s_app, s_pop, s_stL, s_stD, s_appN, s_popN, s_drop, s_cont, s_brk, ss_nil, ss_cons, getS, setS, setPs, rs_val, rs_obj, rs_new, rsv_d, rsv_last, b_add, b_addL, b_addT, b_sub, b_mul, b_div, b_mod, b_pow, c_eq, c_ne, c_lt, c_le, c_gt, c_ge, c_inL, c_inT, c_niL, c_niT, c_isB, c_isN, c_isI, c_isT, c_inN, c_inI, c_inTu, tr_non, tr_bl, tr_int, tr_lst, tr_tup, x_lst, x_tup, sl_l, sl_t, rv_l, nw_f, nw_t, au_add, au_sub, au_mul, la_last, bd_nm, bd_tp, sq_l, sq_t, f_len, f_isi, f_sortD, f_sortO, f_tupL, f_tupO, f_lstT, f_lstL, f_lstD, f_min2, f_minL, f_all, f_any, f_intB, f_str, z_ll, z_tt, ad_nil, ad_cons, objAt, setAll, wipeA, wipeS, List.map_cons, List.map_nil, List.length_cons, List.length_nil, List.replicate, List.cons_append, List.nil_append, Nat.zero_add, Nat.reduceAdd, Nat.reduceSub, isi_tup hk.kn]
  cases ht : tupB d with
  | false =>
    rw [windB_no ht] at h
    simp only [Bool.not_false, if_true, leave_val, tk_self]
    exact h
  | true =>
    cases d with
    | tup ds =>
      simp only [Bool.not_true, Bool.false_eq_true, if_false, bodyW, e_var, e_cst, e_dct, e_bin, e_neg, e_not, e_cmp, e_cmp2, e_and, e_or, e_ite, e_tup, e_lst, e_idx, e_slc, e_rev, e_fn, e_call, es_nil, es_cons, o_none, o_some, t_tt, t_and, t_or, t_not, t_val, i_seq, i_rng, i_enm, i_zip, p_nil, p_cons, s_set, s_setO, s_unp, s_par, s_aug, s_ext, s_iff, s_ret, s_app, s_pop, s_stL, s_stD, s_appN, s_popN, s_drop, s_cont, s_brk, ss_nil, ss_cons, getS, setS, setPs, rs_val, rs_obj, rs_new, rsv_d, rsv_last, b_add, b_addL, b_addT, b_sub, b_mul, b_div, b_mod, b_pow, c_eq, c_ne, c_lt, c_le, c_gt, c_ge, c_inL, c_inT, c_niL, c_niT, c_isB, c_isN, c_isI, c_isT, c_inN, c_inI, c_inTu, tr_non, tr_bl, tr_int, tr_lst, tr_tup, x_lst, x_tup, sl_l, sl_t, rv_l, nw_f, nw_t, au_add, au_sub, au_mul, la_last, bd_nm, bd_tp, sq_l, sq_t, f_len, f_isi, f_sortD, f_sortO, f_tupL, f_tupO, f_lstT, f_lstL, f_lstD, f_min2, f_minL, f_all, f_any, f_intB, f_str, z_ll, z_tt, ad_nil, ad_cons, objAt, setAll, wipeA, wipeS, List.map_cons, List.map_nil, List.length_cons, List.length_nil, List.replicate, List.cons_append, List.nil_append, Nat.zero_add, Nat.reduceAdd, Nat.reduceSub, eqD]
      refine ⟨flat_int 8 _, flat_int 8 _, ?_⟩
      by_cases h3 : ds.length = 3
      · obtain ⟨a, b, c, rfl⟩ := len3 h3
        refine ifn (by simp) ?_
        have ka : Kn a := hk a (by simp)
        have kb : Kn b := hk b (by simp)
        have kc : Kn c := hk c (by simp)
        -- one turn
        have hL : ∀ L : List (D × Int × Int), L = [(a, 4, 16), (b, 0, 8), (c, 0, 1)] → wpS T (.for_ (.tp [1, 2, 3]) (.zip (.cons (.var 0) (.cons (.tup (.cons (.cst (.int 4)) (.cons (.cst (.int 0)) (.cons (.cst (.int 0)) .nil)))) (.cons (.tup (.cons (.cst (.int 16)) (.cons (.cst (.int 8)) (.cons (.cst (.int 1)) .nil)))) .nil)))) (.cons (.iff (.or (.not (.val (.fn (.isi "int") (.cons (.var 1) .nil)))) (.or (.val (.fn (.isi "bool") (.cons (.var 1) .nil))) (.not (.val (.cmp2 .LtE .LtE (.var 2) (.var 1) (.var 3)))))) (.cons (.ret (.cst (.bl false))) .nil) .nil) .nil)) { nx := fun _ os' => Q (.val (.bl true)) (os'.take os.length), rt := fun r os' => leave os.length Q r os' } [some (.d (.tup [a, b, c])), none, none, none] os := by
          intro L eL
          refine for_i mo (fun its os1 => its = L.map (fun p => .tup [p.1, .int p.2.1, .int p.2.2]) ∧ os1 = os) ?_ fun its os1 ⟨e1, e2⟩ => ?_
          · simp only [bodyW, e_var, e_cst, e_dct, e_bin, e_neg, e_not, e_cmp, e_cmp2, e_and, e_or, e_ite, e_tup, e_lst, e_idx, e_slc, e_rev, e_fn, e_call, es_nil, es_cons, o_none, o_some, t_tt, t_and, t_or, t_not, t_val, i_seq, i_rng, i_enm, i_zip, p_nil, p_cons, s_set, s_setO, s_unp, s_par, s_aug, s_ext, s_iff, s_ret, s_app, s_pop, s_stL, s_stD, s_appN, s_popN, s_drop, s_cont, s_brk, ss_nil, ss_cons, getS, setS, setPs, rs_val, rs_obj, rs_new, rsv_d, rsv_last, b_add, b_addL, b_addT, b_sub, b_mul, b_div, b_mod, b_pow, c_eq, c_ne, c_lt, c_le, c_gt, c_ge, c_inL, c_inT, c_niL, c_niT, c_isB, c_isN, c_isI, c_isT, c_inN, c_inI, c_inTu, tr_non, tr_bl, tr_int, tr_lst, tr_tup, x_lst, x_tup, sl_l, sl_t, rv_l, nw_f, nw_t, au_add, au_sub, au_mul, la_last, bd_nm, bd_tp, sq_l, sq_t, f_len, f_isi, f_sortD, f_sortO, f_tupL, f_tupO, f_lstT, f_lstL, f_lstD, f_min2, f_minL, f_all, f_any, f_intB, f_str, z_ll, z_tt, ad_nil, ad_cons, objAt, setAll, wipeA, wipeS, List.map_cons, List.map_nil, List.length_cons, List.length_nil, List.replicate, List.cons_append, List.nil_append, Nat.zero_add, Nat.reduceAdd, Nat.reduceSub, z_ttt]
            subst eL
            exact ⟨by decide, by decide, by trivial, by trivial⟩
          subst e1 e2
          have kL : ∀ p ∈ L, Kn p.1 := by
            subst eL
            intro p hp
            simp only [List.mem_cons, List.not_mem_nil, or_false] at hp
            rcases hp with rfl | rfl | rfl
            · exact ka
            · exact kb
            · exact kc
          have hw : windB (.tup [a, b, c]) = L.all (fun p => fromB p.1 p.2.1 p.2.2) := by subst eL; simp [windB]
          rw [hw] at h
          refine ⟨fun i env os' => ∃ x1 x2 x3, env = [some (.d (.tup [a, b, c])), x1, x2, x3] ∧ os' = os1 ∧ (L.take i).all (fun p => fromB p.1 p.2.1 p.2.2) = true, ⟨none, none, none, rfl, rfl, by simp⟩, fun i x env os' hx ⟨x1, x2, x3, he, ho, hall⟩ => ?_, fun env os' ⟨x1, x2, x3, he, ho, hall⟩ => ?_⟩
          · subst he ho
            obtain ⟨⟨y, lo, hi⟩, hp, rfl⟩ := map_get hx
            have ky : Kn y := kL _ (List.mem_of_getElem? hp)
            simp only [bodyW, e_var, e_cst, e_dct, e_bin, e_neg, e_not, e_cmp, e_cmp2, e_and, e_or, e_ite, e_tup, e_lst, e_idx, e_slc, e_rev, e_fn, e_call, es_nil, es_cons, o_none, o_some, t_tt, t_and, t_or, t_not, t_val, i_seq, i_rng, i_enm, i_zip, p_nil, p_cons, s_set, s_setO, s_unp, s_par, s_aug, s_ext, s_iff, s_ret, s_app, s_pop, s_stL, s_stD, s_appN, s_popN, s_drop, s_cont, s_brk, ss_nil, ss_cons, getS, setS, setPs, rs_val, rs_obj, rs_new, rsv_d, rsv_last, b_add, b_addL, b_addT, b_sub, b_mul, b_div, b_mod, b_pow, c_eq, c_ne, c_lt, c_le, c_gt, c_ge, c_inL, c_inT, c_niL, c_niT, c_isB, c_isN, c_isI, c_isT, c_inN, c_inI, c_inTu, tr_non, tr_bl, tr_int, tr_lst, tr_tup, x_lst, x_tup, sl_l, sl_t, rv_l, nw_f, nw_t, au_add, au_sub, au_mul, la_last, bd_nm, bd_tp, sq_l, sq_t, f_len, f_isi, f_sortD, f_sortO, f_tupL, f_tupO, f_lstT, f_lstL, f_lstD, f_min2, f_minL, f_all, f_any, f_intB, f_str, z_ll, z_tt, ad_nil, ad_cons, objAt, setAll, wipeA, wipeS, List.map_cons, List.map_nil, List.length_cons, List.length_nil, List.replicate, List.cons_append, List.nil_append, Nat.zero_add, Nat.reduceAdd, Nat.reduceSub, isi_int ky, isi_bool ky]
            have no : fromB y lo hi = false → Q (.val (.bl false)) os' := fun z => by
              have : L.all (fun p => fromB p.1 p.2.1 p.2.2) = false := by
                rw [List.all_eq_false]
                exact ⟨_, List.mem_of_getElem? hp, by simp [z]⟩
              rw [this] at h
              exact h
            have yes : fromB y lo hi = true → (L.take (i + 1)).all (fun p => fromB p.1 p.2.1 p.2.2) = true := fun z => by
              rw [take_snoc hp, List.all_append, hall]
              simp [z]
            cases y <;> simp only [Kn] at ky <;> simp only [intB, blB, Bool.not_true, Bool.not_false, Bool.false_eq_true, if_true, if_false, bodyW, e_var, e_cst, e_dct, e_bin, e_neg, e_not, e_cmp, e_cmp2, e_and, e_or, e_ite, e_tup, e_lst, e_idx, e_slc, e_rev, e_fn, e_call, es_nil, es_cons, o_none, o_some, t_tt, t_and, t_or, t_not, t_val, i_seq, i_rng, i_enm, i_zip, p_nil, p_cons, s_set, s_setO, s_unp, s_par, s_aug, s_ext, s_iff, s_ret, s_app, s_pop, s_stL, s_stD, s_appN, s_popN, s_drop, s_cont, s_brk, ss_nil, ss_cons, getS, setS, setPs, rs_val, rs_obj, rs_new, rsv_d, rsv_last, b_add, b_addL, b_addT, b_sub, b_mul, b_div, b_mod, b_pow, c_eq, c_ne, c_lt, c_le, c_gt, c_ge, c_inL, c_inT, c_niL, c_niT, c_isB, c_isN, c_isI, c_isT, c_inN, c_inI, c_inTu, tr_non, tr_bl, tr_int, tr_lst, tr_tup, x_lst, x_tup, sl_l, sl_t, rv_l, nw_f, nw_t, au_add, au_sub, au_mul, la_last, bd_nm, bd_tp, sq_l, sq_t, f_len, f_isi, f_sortD, f_sortO, f_tupL, f_tupO, f_lstT, f_lstL, f_lstD, f_min2, f_minL, f_all, f_any, f_intB, f_str, z_ll, z_tt, ad_nil, ad_cons, objAt, setAll, wipeA, wipeS, List.map_cons, List.map_nil, List.length_cons, List.length_nil, List.replicate, List.cons_append, List.nil_append, Nat.zero_add, Nat.reduceAdd, Nat.reduceSub, leave_val, tk_self]
            all_goals first | exact no rfl | skip
            rename_i v
            by_cases h1 : lo ≤ v
            · by_cases h2 : v ≤ hi
              · simp only [h1, h2, decide_true, if_true, Bool.not_true, Bool.false_eq_true, if_false]
                exact ⟨_, _, _, rfl, by trivial, yes (by simp [fromB, h1, h2])⟩
              · simp only [h1, h2, decide_true, decide_false, if_true, Bool.not_false, Bool.false_eq_true, if_false]
                exact no (by simp [fromB, h2])
            · simp only [h1, decide_false, if_true, Bool.not_false, Bool.false_eq_true, if_false]
              exact no (by simp [fromB, h1])
          · subst ho
            rw [List.length_map, List.take_length] at hall
            rw [hall] at h
            show Q (.val (.bl true)) (List.take os'.length os')
            rw [tk_self]
            exact h
        have := hL _ rfl
        simp only [bodyW, e_var, e_cst, e_dct, e_bin, e_neg, e_not, e_cmp, e_cmp2, e_and, e_or, e_ite, e_tup, e_lst, e_idx, e_slc, e_rev, e_fn, e_call, es_nil, es_cons, o_none, o_some, t_tt, t_and, t_or, t_not, t_val, i_seq, i_rng, i_enm, i_zip, p_nil, p_cons, s_set, s_setO, s_unp, s_par, s_aug, s_ext, s_iff, s_ret, s_app, s_pop, s_stL, s_stD, s_appN, s_popN, s_drop, s_cont, s_brk, ss_nil, ss_cons, getS, setS, setPs, rs_val, rs_obj, rs_new, rsv_d, rsv_last, b_add, b_addL, b_addT, b_sub, b_mul, b_div, b_mod, b_pow, c_eq, c_ne, c_lt, c_le, c_gt, c_ge, c_inL, c_inT, c_niL, c_niT, c_isB, c_isN, c_isI, c_isT, c_inN, c_inI, c_inTu, tr_non, tr_bl, tr_int, tr_lst, tr_tup, x_lst, x_tup, sl_l, sl_t, rv_l, nw_f, nw_t, au_add, au_sub, au_mul, la_last, bd_nm, bd_tp, sq_l, sq_t, f_len, f_isi, f_sortD, f_sortO, f_tupL, f_tupO, f_lstT, f_lstL, f_lstD, f_min2, f_minL, f_all, f_any, f_intB, f_str, z_ll, z_tt, ad_nil, ad_cons, objAt, setAll, wipeA, wipeS, List.map_cons, List.map_nil, List.length_cons, List.length_nil, List.replicate, List.cons_append, List.nil_append, Nat.zero_add, Nat.reduceAdd, Nat.reduceSub, leave_val, tk_self] at this ⊢
        exact this
      · rw [windB_len h3] at h
        refine ifp (by simp; omega) ?_
        simp only [bodyW, e_var, e_cst, e_dct, e_bin, e_neg, e_not, e_cmp, e_cmp2, e_and, e_or, e_ite, e_tup, e_lst, e_idx, e_slc, e_rev, e_fn, e_call, es_nil, es_cons, o_none, o_some, t_tt, t_and, t_or, t_not, t_val, i_seq, i_rng, i_enm, i_zip, p_nil, p_cons, s_set, s_setO, s_unp, s_par, s_aug, s_ext, s_iff, s_ret, s_app, s_pop, s_stL, s_stD, s_appN, s_popN, s_drop, s_cont, s_brk, ss_nil, ss_cons, getS, setS, setPs, rs_val, rs_obj, rs_new, rsv_d, rsv_last, b_add, b_addL, b_addT, b_sub, b_mul, b_div, b_mod, b_pow, c_eq, c_ne, c_lt, c_le, c_gt, c_ge, c_inL, c_inT, c_niL, c_niT, c_isB, c_isN, c_isI, c_isT, c_inN, c_inI, c_inTu, tr_non, tr_bl, tr_int, tr_lst, tr_tup, x_lst, x_tup, sl_l, sl_t, rv_l, nw_f, nw_t, au_add, au_sub, au_mul, la_last, bd_nm, bd_tp, sq_l, sq_t, f_len, f_isi, f_sortD, f_sortO, f_tupL, f_tupO, f_lstT, f_lstL, f_lstD, f_min2, f_minL, f_all, f_any, f_intB, f_str, z_ll, z_tt, ad_nil, ad_cons, objAt, setAll, wipeA, wipeS, List.map_cons, List.map_nil, List.length_cons, List.length_nil, List.replicate, List.cons_append, List.nil_append, Nat.zero_add, Nat.reduceAdd, Nat.reduceSub, leave_val, tk_self]
        exact h
    | _ => cases ht
section
variable {ss : List S} {os : List O} {Q Q' : R → List O → Prop}
theorem mo_spFrom : spFrom ss os Q → (∀ r os', Q r os' → Q' r os') → spFrom ss os Q' := by unfold spFrom; (intro h hq; revert h; (repeat' (first | (refine Exists.imp fun _ => ?_) | (refine And.imp_right ?_))); intro h; first | exact hq _ _ h | (intros; apply hq; apply h <;> assumption))
theorem mo_spIsW : spIsW ss os Q → (∀ r os', Q r os' → Q' r os') → spIsW ss os Q' := by unfold spIsW; (intro h hq; revert h; (repeat' (first | (refine Exists.imp fun _ => ?_) | (refine And.imp_right ?_))); intro h; first | exact hq _ _ h | (intros; apply hq; apply h <;> assumption))
end
end N66

/-! N66, the first law: odd things, the law. -/
namespace N66
open PySem PySem.Spec L2
/-! ### statements one by one -/
section
variable {T : Tab} {env : Env} {os : List O} {P : DEnds} {rest : Ss}
theorem st_setO (mo : MoTab T) {i : Nat} {a : Xp} (Z : R → List O → Prop) (hz : wpE T a env os Z) (h : ∀ r os1, Z r os1 → newW true r os1 fun d os2 => wpSs T rest P (setS env i d) os2) : wpSs T (.cons (.setO i a) rest) P env os := by
  rw [ss_cons, s_setO]
  exact moE mo a hz h
theorem st_set (mo : MoTab T) {i : Nat} {a : Xp} (Z : R → List O → Prop) (hz : wpE T a env os Z) (h : ∀ r os1, Z r os1 → wpSs T rest P (setS env i r.s) os1) : wpSs T (.cons (.set i a) rest) P env os := by
  rw [ss_cons, s_set]
  exact moE mo a hz h
theorem st_ret (mo : MoTab T) {a : Xp} (Z : R → List O → Prop) (hz : wpE T a env os Z) (h : ∀ r os1, Z r os1 → P.rt r os1) : wpSs T (.cons (.ret a) rest) P env os := by
  rw [ss_cons, s_ret]
  exact moE mo a hz h
theorem st_unp (mo : MoTab T) {js : List Nat} {a : Xp} (Z : R → List O → Prop) (hz : wpE T a env os Z) (h : ∀ r os1, Z r os1 → match r.s with
    | .d d => bindT (.tp js) d env fun e => wpSs T rest P e os1
    | _ => False) : wpSs T (.cons (.unp js a) rest) P env os := by
  rw [ss_cons, s_unp]
  exact moE mo a hz h
theorem st_iff (mo : MoTab T) {c : Ts} {a b : Ss} (Z : Bool → List O → Prop) (hz : wpT T c env os Z) (h : ∀ k os1, Z k os1 → if k = true then wpSs T a { P with nx := wpSs T rest P } env os1 else wpSs T b { P with nx := wpSs T rest P } env os1) : wpSs T (.cons (.iff c a b) rest) P env os := by
  rw [ss_cons, s_iff]
  exact moT mo c hz h
/-- a check that does not strike -/
theorem st_no (mo : MoTab T) {c : Ts} {a : Ss} (Z : List O → Prop) (hz : wpT T c env os fun k os1 => k = false ∧ Z os1) (h : ∀ os1, Z os1 → wpSs T rest P env os1) : wpSs T (.cons (.iff c a .nil) rest) P env os := by
  refine st_iff mo _ hz fun k os1 ⟨e, z⟩ => ?_
  subst e
  rw [if_neg (by decide), ss_nil]
  exact h os1 z
theorem st_for (mo : MoTab T) {tg : Tg} {src : Src} {b : Ss} (Z : List D → List O → Prop) (hz : wpI T src env os Z) (h : ∀ items os1, Z items os1 → ∃ W : Nat → Env → List O → Prop, W 0 env os1 ∧
      (∀ (i : Nat) (x : D) (env : Env) (os : List O), items[i]? = some x → W i env os → bindT tg x env fun env' => wpSs T b { P with nx := W (i + 1), ct := W (i + 1), bk := wpSs T rest P } env' os) ∧
      ∀ env os, W items.length env os → wpSs T rest P env os) : wpSs T (.cons (.for_ tg src b) rest) P env os := by
  rw [ss_cons]
  exact for_i mo Z hz h
end
theorem Kp.cut {k : Nat} {os l os' : List O} (h : Kp k (os ++ l) os') (hk : k < os.length) : Kp k os (os'.take os.length) := by
  have hl := h.len
  rw [List.length_append] at hl
  have get : ∀ j, j < os.length → (os'.take os.length)[j]? = os'[j]? := fun j hj => by rw [List.getElem?_take, if_pos hj]
  refine ⟨by rw [List.length_take]; omega, ?_, fun j hj => ?_⟩
  · obtain ⟨a, b, h1, h2, h3⟩ := h.bag
    exact ⟨a, b, by rw [get k hk]; exact h1, h2, h3⟩
  · by_cases z : j < os.length
    · rw [get j z, h.old j hj, List.getElem?_append_left z]
    · rw [List.getElem?_eq_none (by rw [List.length_take]; omega), List.getElem?_eq_none (by omega)]
theorem Bag.lt {os : List O} {k : Nat} (h : Bag os k) : k < os.length := by
  obtain ⟨a, b, h1, _⟩ := h
  exact (List.getElem?_eq_some_iff.mp h1).1
theorem Bag.app {os : List O} {k : Nat} {o : O} (h : Bag os k) : Bag (os ++ [o]) k := by
  obtain ⟨a, b, h1, h2, h3⟩ := h
  exact ⟨a, b, g_old h1, h2, h3⟩
def spOdd : Fun1 := fun ss os Q => ∃ (k : Nat) (W : Wd), ss = [.o k, .d W.d] ∧ Bag os k ∧ W.Ok ∧ ∀ ds os', (∀ d ∈ ds, Kn2 d) → Kp k os os' → Q (.new (.lst ds)) os'
theorem newW_new {o : O} {os : List O} {Q : S → List O → Prop} : newW true (.new o) os Q = Q (.o os.length) (os ++ [o]) := rfl
theorem w_law_odd (T : Tab) (mo : MoTab T) (h32 : T 32 = spOf) (ss : List S) (os : List O) (Q : R → List O → Prop) (h : spOdd ss os Q) : bodyW T p_law_odd 6 ss os Q := by
  obtain ⟨k, W, rfl, hb, hW, h⟩ := h
  unfold bodyW p_law_odd
  simp only [getS, setS, setPs, setAll, List.map_cons, List.map_nil, List.replicate, List.cons_append, List.nil_append, List.length_cons, List.length_nil, Nat.zero_add, Nat.reduceAdd, Nat.reduceSub]
  refine st_unp mo (fun r os1 => r = .val W.d ∧ os1 = os) (by simp only [bodyW, e_var, e_cst, e_dct, e_bin, e_neg, e_not, e_cmp, e_cmp2, e_and, e_or, e_ite, e_tup, e_lst, e_idx, e_slc, e_rev, e_fn, e_call, es_nil, es_cons, o_none, o_some, t_tt, t_and, t_or, t_not, t_val, i_seq, i_rng, i_enm, i_zip, p_nil, p_cons, s_set, s_setO, s_unp, s_par, s_aug, s_ext, s_iff, s_ret, s_app, s_pop, s_stL, s_stD, s_appN, s_popN, s_drop, s_cont, s_brk, ss_nil, ss_cons, getS, setS, setPs, rs_val, rs_obj, rs_new, rsv_d, rsv_last, b_add, b_addL, b_addT, b_sub, b_mul, b_div, b_mod, b_pow, c_eq, c_ne, c_lt, c_le, c_gt, c_ge, c_inL, c_inT, c_niL, c_niT, c_isB, c_isN, c_isI, c_isT, c_inN, c_inI, c_inTu, tr_non, tr_bl, tr_int, tr_lst, tr_tup, x_lst, x_tup, sl_l, sl_t, rv_l, nw_f, nw_t, au_add, au_sub, au_mul, la_last, bd_nm, bd_tp, sq_l, sq_t, f_len, f_isi, f_sortD, f_sortO, f_tupL, f_tupO, f_lstT, f_lstL, f_lstD, f_min2, f_minL, f_all, f_any, f_intB, f_str, z_ll, z_tt, ad_nil, ad_cons, objAt, setAll, wipeA, wipeS, List.map_cons, List.map_nil, List.length_cons, List.length_nil, List.replicate, List.cons_append, List.nil_append, Nat.zero_add, Nat.reduceAdd, Nat.reduceSub]; exact ⟨by trivial, by trivial⟩) fun r os1 ⟨e1, e2⟩ => ?_
  subst e1 e2
  simp only [rs_val, Wd.d, tupI, List.map_cons, List.map_nil, bd_tp, setAll, setS]
  refine st_setO mo (fun r os' => (∃ ds, r = .new (.lst ds) ∧ ds.length < 50 ∧ ∀ d ∈ ds, Kn2 d) ∧ os' = os1) ?_ fun r os' ⟨⟨ds, e1, hl, hk⟩, e2⟩ => ?_
  · simp only [bodyW, e_var, e_cst, e_dct, e_bin, e_neg, e_not, e_cmp, e_cmp2, e_and, e_or, e_ite, e_tup, e_lst, e_idx, e_slc, e_rev, e_fn, e_call, es_nil, es_cons, o_none, o_some, t_tt, t_and, t_or, t_not, t_val, i_seq, i_rng, i_enm, i_zip, p_nil, p_cons, s_set, s_setO, s_unp, s_par, s_aug, s_ext, s_iff, s_ret, s_app, s_pop, s_stL, s_stD, s_appN, s_popN, s_drop, s_cont, s_brk, ss_nil, ss_cons, getS, setS, setPs, rs_val, rs_obj, rs_new, rsv_d, rsv_last, b_add, b_addL, b_addT, b_sub, b_mul, b_div, b_mod, b_pow, c_eq, c_ne, c_lt, c_le, c_gt, c_ge, c_inL, c_inT, c_niL, c_niT, c_isB, c_isN, c_isI, c_isT, c_inN, c_inI, c_inTu, tr_non, tr_bl, tr_int, tr_lst, tr_tup, x_lst, x_tup, sl_l, sl_t, rv_l, nw_f, nw_t, au_add, au_sub, au_mul, la_last, bd_nm, bd_tp, sq_l, sq_t, f_len, f_isi, f_sortD, f_sortO, f_tupL, f_tupO, f_lstT, f_lstL, f_lstD, f_min2, f_minL, f_all, f_any, f_intB, f_str, z_ll, z_tt, ad_nil, ad_cons, objAt, setAll, wipeA, wipeS, List.map_cons, List.map_nil, List.length_cons, List.length_nil, List.replicate, List.cons_append, List.nil_append, Nat.zero_add, Nat.reduceAdd, Nat.reduceSub, Wd.d, tupI, frI, prI, ixD, at3_0, at3_1, at3_2, at2_0, at2_1, eqD, Flat, cut_2]
    refine ⟨by decide, by decide, by decide, by decide, by decide, by decide, by decide, ⟨_, rfl, by simp, ?_⟩, trivial⟩
    simp [Kn2, Kn]
  subst e1 e2
  rw [newW_new]
  simp only [getS, setS, setPs, setAll, List.map_cons, List.map_nil, List.replicate, List.cons_append, List.nil_append, List.length_cons, List.length_nil, Nat.zero_add, Nat.reduceAdd, Nat.reduceSub]
  refine st_setO mo (fun r os2 => (∃ ds, r = .new (.lst ds) ∧ ds.length < 100 ∧ ∀ d ∈ ds, Kn2 d) ∧ os2 = os' ++ [.lst ds]) ?_ fun r os2 ⟨⟨ds2, e1, hl2, hk2⟩, e2⟩ => ?_
  · simp only [bodyW, e_var, e_cst, e_dct, e_bin, e_neg, e_not, e_cmp, e_cmp2, e_and, e_or, e_ite, e_tup, e_lst, e_idx, e_slc, e_rev, e_fn, e_call, es_nil, es_cons, o_none, o_some, t_tt, t_and, t_or, t_not, t_val, i_seq, i_rng, i_enm, i_zip, p_nil, p_cons, s_set, s_setO, s_unp, s_par, s_aug, s_ext, s_iff, s_ret, s_app, s_pop, s_stL, s_stD, s_appN, s_popN, s_drop, s_cont, s_brk, ss_nil, ss_cons, getS, setS, setPs, rs_val, rs_obj, rs_new, rsv_d, rsv_last, b_add, b_addL, b_addT, b_sub, b_mul, b_div, b_mod, b_pow, c_eq, c_ne, c_lt, c_le, c_gt, c_ge, c_inL, c_inT, c_niL, c_niT, c_isB, c_isN, c_isI, c_isT, c_inN, c_inI, c_inTu, tr_non, tr_bl, tr_int, tr_lst, tr_tup, x_lst, x_tup, sl_l, sl_t, rv_l, nw_f, nw_t, au_add, au_sub, au_mul, la_last, bd_nm, bd_tp, sq_l, sq_t, f_len, f_isi, f_sortD, f_sortO, f_tupL, f_tupO, f_lstT, f_lstL, f_lstD, f_min2, f_minL, f_all, f_any, f_intB, f_str, z_ll, z_tt, ad_nil, ad_cons, objAt, setAll, wipeA, wipeS, List.map_cons, List.map_nil, List.length_cons, List.length_nil, List.replicate, List.cons_append, List.nil_append, Nat.zero_add, Nat.reduceAdd, Nat.reduceSub, Wd.d, tupI, frI, prI, ixD, at3_0, at3_1, at3_2, at2_0, at2_1, eqD, Flat]
    refine ⟨by decide, by decide, by decide, by decide, by decide, by decide, by decide, by unfold lim; omega, ⟨_, rfl, ?_, ?_⟩, trivial⟩
    · simp only [List.length_append, List.length_cons, List.length_nil]; omega
    · intro d hd
      rcases List.mem_append.mp hd with hd' | hd'
      · exact hk d hd'
      · clear hd
        revert d
        simp [Kn2, Kn]
  subst e1 e2
  rw [newW_new]
  rw [ss_cons, s_app]
  simp only [getS, setS, setPs, setAll, List.map_cons, List.map_nil, List.replicate, List.cons_append, List.nil_append, List.length_cons, List.length_nil, Nat.zero_add, Nat.reduceAdd, Nat.reduceSub, objAt, la_last]
  refine moE mo _ (Q := fun r os3 => r = .val (.tup [.str (toString (W.g : Int)), .int W.w, .int W.e]) ∧ os3 = (os' ++ [.lst ds]) ++ [.lst ds2]) ?_ fun r os3 ⟨e1, e2⟩ => ?_
  · simp only [bodyW, e_var, e_cst, e_dct, e_bin, e_neg, e_not, e_cmp, e_cmp2, e_and, e_or, e_ite, e_tup, e_lst, e_idx, e_slc, e_rev, e_fn, e_call, es_nil, es_cons, o_none, o_some, t_tt, t_and, t_or, t_not, t_val, i_seq, i_rng, i_enm, i_zip, p_nil, p_cons, s_set, s_setO, s_unp, s_par, s_aug, s_ext, s_iff, s_ret, s_app, s_pop, s_stL, s_stD, s_appN, s_popN, s_drop, s_cont, s_brk, ss_nil, ss_cons, getS, setS, setPs, rs_val, rs_obj, rs_new, rsv_d, rsv_last, b_add, b_addL, b_addT, b_sub, b_mul, b_div, b_mod, b_pow, c_eq, c_ne, c_lt, c_le, c_gt, c_ge, c_inL, c_inT, c_niL, c_niT, c_isB, c_isN, c_isI, c_isT, c_inN, c_inI, c_inTu, tr_non, tr_bl, tr_int, tr_lst, tr_tup, x_lst, x_tup, sl_l, sl_t, rv_l, nw_f, nw_t, au_add, au_sub, au_mul, la_last, bd_nm, bd_tp, sq_l, sq_t, f_len, f_isi, f_sortD, f_sortO, f_tupL, f_tupO, f_lstT, f_lstL, f_lstD, f_min2, f_minL, f_all, f_any, f_intB, f_str, z_ll, z_tt, ad_nil, ad_cons, objAt, setAll, wipeA, wipeS, List.map_cons, List.map_nil, List.length_cons, List.length_nil, List.replicate, List.cons_append, List.nil_append, Nat.zero_add, Nat.reduceAdd, Nat.reduceSub]
    refine ⟨?_, by decide, by trivial, by trivial⟩
    have := hW.g16
    exact Nat.lt_of_le_of_lt (Nat.log2_le_self _) (by simp; omega)
  subst e1 e2
  simp only [rs_val, la_last, s_last]
  refine ⟨by unfold lim; omega, ?_⟩
  refine st_ret mo (fun r os3 => ∃ es, r = .new (.lst es) ∧ (∀ d ∈ es, Kn2 d) ∧ Kp k ((os' ++ [.lst ds]) ++ [.lst (ds2 ++ [.tup [.str (toString (W.g : Int)), .int W.w, .int W.e]])]) os3) ?_ fun r os3 ⟨es, e1, hk3, kp⟩ => ?_
  · simp only [bodyW, e_var, e_cst, e_dct, e_bin, e_neg, e_not, e_cmp, e_cmp2, e_and, e_or, e_ite, e_tup, e_lst, e_idx, e_slc, e_rev, e_fn, e_call, es_nil, es_cons, o_none, o_some, t_tt, t_and, t_or, t_not, t_val, i_seq, i_rng, i_enm, i_zip, p_nil, p_cons, s_set, s_setO, s_unp, s_par, s_aug, s_ext, s_iff, s_ret, s_app, s_pop, s_stL, s_stD, s_appN, s_popN, s_drop, s_cont, s_brk, ss_nil, ss_cons, getS, setS, setPs, rs_val, rs_obj, rs_new, rsv_d, rsv_last, b_add, b_addL, b_addT, b_sub, b_mul, b_div, b_mod, b_pow, c_eq, c_ne, c_lt, c_le, c_gt, c_ge, c_inL, c_inT, c_niL, c_niT, c_isB, c_isN, c_isI, c_isT, c_inN, c_inI, c_inTu, tr_non, tr_bl, tr_int, tr_lst, tr_tup, x_lst, x_tup, sl_l, sl_t, rv_l, nw_f, nw_t, au_add, au_sub, au_mul, la_last, bd_nm, bd_tp, sq_l, sq_t, f_len, f_isi, f_sortD, f_sortO, f_tupL, f_tupO, f_lstT, f_lstL, f_lstD, f_min2, f_minL, f_all, f_any, f_intB, f_str, z_ll, z_tt, ad_nil, ad_cons, objAt, setAll, wipeA, wipeS, List.map_cons, List.map_nil, List.length_cons, List.length_nil, List.replicate, List.cons_append, List.nil_append, Nat.zero_add, Nat.reduceAdd, Nat.reduceSub, h32]
    refine ⟨by decide, k, _, rfl, hb.app.app, by simp, by simp [lim], fun d os3 hd kp => ?_⟩
    obtain ⟨v, rfl⟩ : ∃ v : Int, d = .int v := by
      simp only [List.mem_cons, List.not_mem_nil, or_false] at hd
      rcases hd with rfl | rfl | rfl | rfl <;> exact ⟨_, rfl⟩
    have hne : (os' ++ [O.lst ds]).length ≠ k := by
      have := hb.lt
      rw [List.length_append]
      omega
    have ho := (kp.old _ hne).trans (g_last _ _)
    have hr : rsv os3 (.o (os' ++ [O.lst ds]).length) = _ := rsv_of ho
    simp only [bodyW, e_var, e_cst, e_dct, e_bin, e_neg, e_not, e_cmp, e_cmp2, e_and, e_or, e_ite, e_tup, e_lst, e_idx, e_slc, e_rev, e_fn, e_call, es_nil, es_cons, o_none, o_some, t_tt, t_and, t_or, t_not, t_val, i_seq, i_rng, i_enm, i_zip, p_nil, p_cons, s_set, s_setO, s_unp, s_par, s_aug, s_ext, s_iff, s_ret, s_app, s_pop, s_stL, s_stD, s_appN, s_popN, s_drop, s_cont, s_brk, ss_nil, ss_cons, getS, setS, setPs, rs_val, rs_obj, rs_new, rsv_d, rsv_last, b_add, b_addL, b_addT, b_sub, b_mul, b_div, b_mod, b_pow, c_eq, c_ne, c_lt, c_le, c_gt, c_ge, c_inL, c_inT, c_niL, c_niT, c_isB, c_isN, c_isI, c_isT, c_inN, c_inI, c_inTu, tr_non, tr_bl, tr_int, tr_lst, tr_tup, x_lst, x_tup, sl_l, sl_t, rv_l, nw_f, nw_t, au_add, au_sub, au_mul, la_last, bd_nm, bd_tp, sq_l, sq_t, f_len, f_isi, f_sortD, f_sortO, f_tupL, f_tupO, f_lstT, f_lstL, f_lstD, f_min2, f_minL, f_all, f_any, f_intB, f_str, z_ll, z_tt, ad_nil, ad_cons, objAt, setAll, wipeA, wipeS, List.map_cons, List.map_nil, List.length_cons, List.length_nil, List.replicate, List.cons_append, List.nil_append, Nat.zero_add, Nat.reduceAdd, Nat.reduceSub, hr]
    refine ⟨by decide, by decide, by decide, ?_, _, rfl, ?_, kp⟩
    · simp only [List.length_append, List.length_cons, List.length_nil]; unfold lim; omega
    · intro d hd
      rcases List.mem_append.mp hd with hd' | hd'
      · rcases List.mem_append.mp hd' with hd2 | hd2
        · exact hk2 d hd2
        · clear hd hd'
          revert d
          simp [Kn2, Kn]
      · clear hd
        revert d
        simp [Kn2, Kn]
  subst e1
  show leave os'.length Q (.new (.lst es)) os3
  rw [leave_new]
  rw [List.append_assoc] at kp
  exact h _ _ hk3 (kp.cut hb.lt)
theorem eqD_self : ∀ {n : Nat} {d : D}, Flat n d → eqD d d = true := by
  intro n
  induction n with
  | zero =>
    intro d h
    cases d <;> simp only [Flat] at h <;> simp [eqD]
  | succ n ih =>
    have all : ∀ ds : List D, (∀ d ∈ ds, Flat n d) → eqDs ds ds = true := by
      intro ds
      induction ds with
      | nil => intro _; simp [eqDs]
      | cons d ds ih2 =>
        intro h
        rw [eqDs, ih (h d (List.mem_cons_self ..)), ih2 fun x hx => h x (List.mem_cons_of_mem _ hx)]
        rfl
    intro d h
    cases d <;> simp only [Flat] at h <;> simp only [eqD, beq_self_eq_true]
    · exact all _ h
    · exact all _ h
theorem flat_rowI (n : Nat) (r : Row) : Flat (n + 2) (rowI r) := by
  unfold rowI
  simp only [Flat]
  intro d hd
  simp only [List.mem_cons, List.not_mem_nil, or_false] at hd
  rcases hd with rfl | rfl | rfl
  · exact flat_tupI n _
  · exact flat_tupI n _
  · exact flat_tupI n _
theorem flat_rows (n : Nat) (rs : List Row) : Flat (n + 3) (.lst (rs.map rowI)) := by
  simp only [Flat]
  intro d hd
  obtain ⟨r, _, rfl⟩ := List.mem_map.mp hd
  exact flat_rowI n r
theorem flat_tup3 (n : Nat) {d : D} (h : Flat n d) (m : Nat) : Flat (n + m) d := h.le (by omega)
theorem rows_ne {many : Nat} {W : Wd} (hW : W.Ok) (hm : many ≤ 30) : (rowsL many W).map rowI ≠ [] := by
  obtain ⟨r, hr, _⟩ := rows_first (many := many) hW hm
  intro h
  rw [List.map_eq_nil_iff] at h
  rw [h] at hr
  cases hr
theorem w_law01 (T : Tab) (mo : MoTab T) {P : Addr} {q : Str} (h1 : T 1 = spIsW) (h4 : T 4 = spPricked) (h7 : T 7 = spStretches) (h30 : T 30 = spBag) (h31 : T 31 = spTake) (h32 : T 32 = spOf) (h33 : T 33 = spWinding) (h35 : T 35 = spAngle) (h36 : T 36 = spPricked) (h38 : T 38 = spLStretches P q) (h39 : T 39 = spIsW) (h40 : T 40 = spOdd)
    (ss : List S) (os : List O) (Q : R → List O → Prop) (h : spLawT P q ss os Q) : bodyW T p_law01 9 ss os Q := by
  obtain ⟨ns, rfl, rfl, hn, h⟩ := h
  unfold bodyW p_law01
  simp only [getS, setS, setPs, setAll, List.map_cons, List.map_nil, List.replicate, List.cons_append, List.nil_append, List.length_cons, List.length_nil, Nat.zero_add, Nat.reduceAdd, Nat.reduceSub]
  refine st_for mo (fun its os1 => (∃ n : Nat, n ≤ 12 ∧ its = rngD 0 (n : Int)) ∧ os1 = [.scr ns, .tbl P q]) ?_ fun its os1 ⟨⟨n, hn10, e1⟩, e2⟩ => ?_
  · simp only [bodyW, e_var, e_cst, e_dct, e_bin, e_neg, e_not, e_cmp, e_cmp2, e_and, e_or, e_ite, e_tup, e_lst, e_idx, e_slc, e_rev, e_fn, e_call, es_nil, es_cons, o_none, o_some, t_tt, t_and, t_or, t_not, t_val, i_seq, i_rng, i_enm, i_zip, p_nil, p_cons, s_set, s_setO, s_unp, s_par, s_aug, s_ext, s_iff, s_ret, s_app, s_pop, s_stL, s_stD, s_appN, s_popN, s_drop, s_cont, s_brk, ss_nil, ss_cons, getS, setS, setPs, rs_val, rs_obj, rs_new, rsv_d, rsv_last, b_add, b_addL, b_addT, b_sub, b_mul, b_div, b_mod, b_pow, c_eq, c_ne, c_lt, c_le, c_gt, c_ge, c_inL, c_inT, c_niL, c_niT, c_isB, c_isN, c_isI, c_isT, c_inN, c_inI, c_inTu, tr_non, tr_bl, tr_int, tr_lst, tr_tup, x_lst, x_tup, sl_l, sl_t, rv_l, nw_f, nw_t, au_add, au_sub, au_mul, la_last, bd_nm, bd_tp, sq_l, sq_t, f_len, f_isi, f_sortD, f_sortO, f_tupL, f_tupO, f_lstT, f_lstL, f_lstD, f_min2, f_minL, f_all, f_any, f_intB, f_str, z_ll, z_tt, ad_nil, ad_cons, objAt, setAll, wipeA, wipeS, List.map_cons, List.map_nil, List.length_cons, List.length_nil, List.replicate, List.cons_append, List.nil_append, Nat.zero_add, Nat.reduceAdd, Nat.reduceSub, Wd.d, tupI, frI, prI, ixD, at3_0, at3_1, at3_2, at2_0, at2_1, eqD, Flat, and_true, true_and, and_self, if_true, if_false, Bool.false_eq_true, reduceIte, rsv_scr (show ([O.scr ns, O.tbl P q] : List O)[0]? = some (.scr ns) from rfl), List.length_map]
    have e : (if (10 : Int) < (ns.length : Int) then (10 : Int) else (ns.length : Int)) + 2 = ((min ns.length 10 + 2 : Nat) : Int) := by split <;> omega
    rw [e]
    exact ⟨by omega, min ns.length 10 + 2, by omega, rfl⟩
  subst e1 e2
  refine ⟨fun i env os' => ∃ x1 x2 x3 x4 x5 x6 x7 x8, env = [some (.o 0), x1, x2, x3, x4, x5, x6, x7, x8] ∧ os'[0]? = some (.scr ns) ∧ os'[1]? = some (.tbl P q), ⟨none, none, none, none, none, none, none, none, rfl, rfl, rfl⟩,
    fun i x env os' hx ⟨x1, x2, x3, x4, x5, x6, x7, x8, he, ho, ho1⟩ => ?_, fun env os' ⟨x1, x2, x3, x4, x5, x6, x7, x8, he, ho, ho1⟩ => ?_⟩
  · subst he
    obtain ⟨rfl, hi⟩ := rngD_get hx
    simp only [bd_nm, getS, setS, setPs, setAll, List.map_cons, List.map_nil, List.replicate, List.cons_append, List.nil_append, List.length_cons, List.length_nil, Nat.zero_add, Nat.reduceAdd, Nat.reduceSub]
    refine st_setO mo (fun r os1 => ∃ a b, r = .new (bagO a b) ∧ a < 10 ^ 60 ∧ b < 2 ^ 31 ∧ os1 = os') ?_ fun r os1 ⟨a, b, e1, ha, hb, e2⟩ => ?_
    · simp only [bodyW, e_var, e_cst, e_dct, e_bin, e_neg, e_not, e_cmp, e_cmp2, e_and, e_or, e_ite, e_tup, e_lst, e_idx, e_slc, e_rev, e_fn, e_call, es_nil, es_cons, o_none, o_some, t_tt, t_and, t_or, t_not, t_val, i_seq, i_rng, i_enm, i_zip, p_nil, p_cons, s_set, s_setO, s_unp, s_par, s_aug, s_ext, s_iff, s_ret, s_app, s_pop, s_stL, s_stD, s_appN, s_popN, s_drop, s_cont, s_brk, ss_nil, ss_cons, getS, setS, setPs, rs_val, rs_obj, rs_new, rsv_d, rsv_last, b_add, b_addL, b_addT, b_sub, b_mul, b_div, b_mod, b_pow, c_eq, c_ne, c_lt, c_le, c_gt, c_ge, c_inL, c_inT, c_niL, c_niT, c_isB, c_isN, c_isI, c_isT, c_inN, c_inI, c_inTu, tr_non, tr_bl, tr_int, tr_lst, tr_tup, x_lst, x_tup, sl_l, sl_t, rv_l, nw_f, nw_t, au_add, au_sub, au_mul, la_last, bd_nm, bd_tp, sq_l, sq_t, f_len, f_isi, f_sortD, f_sortO, f_tupL, f_tupO, f_lstT, f_lstL, f_lstD, f_min2, f_minL, f_all, f_any, f_intB, f_str, z_ll, z_tt, ad_nil, ad_cons, objAt, setAll, wipeA, wipeS, List.map_cons, List.map_nil, List.length_cons, List.length_nil, List.replicate, List.cons_append, List.nil_append, Nat.zero_add, Nat.reduceAdd, Nat.reduceSub, h30, Int.zero_add]
      exact ⟨0, i, ns, rfl, ho, by omega, fun a b ha hb => ⟨a, b, rfl, ha, hb, rfl⟩⟩
    subst e1 e2
    rw [newW_new]
    have bs := Bs.new ho ho1 ha hb
    simp only [getS, setS, setPs, setAll, List.map_cons, List.map_nil, List.replicate, List.cons_append, List.nil_append, List.length_cons, List.length_nil, Nat.zero_add, Nat.reduceAdd, Nat.reduceSub]
    generalize os1 ++ [bagO a b] = os2 at bs ⊢
    generalize os1.length = j at bs ⊢
    refine st_set mo (fun r os3 => ∃ W : Wd, r = .val W.d ∧ W.Ok ∧ Bs P q ns os3 j) ?_ fun r os3 ⟨W, e1, hW, bs3⟩ => ?_
    · simp only [bodyW, e_var, e_cst, e_dct, e_bin, e_neg, e_not, e_cmp, e_cmp2, e_and, e_or, e_ite, e_tup, e_lst, e_idx, e_slc, e_rev, e_fn, e_call, es_nil, es_cons, o_none, o_some, t_tt, t_and, t_or, t_not, t_val, i_seq, i_rng, i_enm, i_zip, p_nil, p_cons, s_set, s_setO, s_unp, s_par, s_aug, s_ext, s_iff, s_ret, s_app, s_pop, s_stL, s_stD, s_appN, s_popN, s_drop, s_cont, s_brk, ss_nil, ss_cons, getS, setS, setPs, rs_val, rs_obj, rs_new, rsv_d, rsv_last, b_add, b_addL, b_addT, b_sub, b_mul, b_div, b_mod, b_pow, c_eq, c_ne, c_lt, c_le, c_gt, c_ge, c_inL, c_inT, c_niL, c_niT, c_isB, c_isN, c_isI, c_isT, c_inN, c_inI, c_inTu, tr_non, tr_bl, tr_int, tr_lst, tr_tup, x_lst, x_tup, sl_l, sl_t, rv_l, nw_f, nw_t, au_add, au_sub, au_mul, la_last, bd_nm, bd_tp, sq_l, sq_t, f_len, f_isi, f_sortD, f_sortO, f_tupL, f_tupO, f_lstT, f_lstL, f_lstD, f_min2, f_minL, f_all, f_any, f_intB, f_str, z_ll, z_tt, ad_nil, ad_cons, objAt, setAll, wipeA, wipeS, List.map_cons, List.map_nil, List.length_cons, List.length_nil, List.replicate, List.cons_append, List.nil_append, Nat.zero_add, Nat.reduceAdd, Nat.reduceSub, h33]
      exact ⟨j, rfl, bs.bag, fun W os' hW kp => ⟨W, rfl, hW, bs.kp kp⟩⟩
    subst e1
    simp only [getS, setS, setPs, setAll, List.map_cons, List.map_nil, List.replicate, List.cons_append, List.nil_append, List.length_cons, List.length_nil, Nat.zero_add, Nat.reduceAdd, Nat.reduceSub, rs_val]
    clear bs hx
    -- odd things
    refine st_for mo (fun its os4 => (∀ d ∈ its, Kn2 d) ∧ Bs P q ns os4 j) ?_ fun its os4 ⟨hk, bs4⟩ => ?_
    · simp only [bodyW, e_var, e_cst, e_dct, e_bin, e_neg, e_not, e_cmp, e_cmp2, e_and, e_or, e_ite, e_tup, e_lst, e_idx, e_slc, e_rev, e_fn, e_call, es_nil, es_cons, o_none, o_some, t_tt, t_and, t_or, t_not, t_val, i_seq, i_rng, i_enm, i_zip, p_nil, p_cons, s_set, s_setO, s_unp, s_par, s_aug, s_ext, s_iff, s_ret, s_app, s_pop, s_stL, s_stD, s_appN, s_popN, s_drop, s_cont, s_brk, ss_nil, ss_cons, getS, setS, setPs, rs_val, rs_obj, rs_new, rsv_d, rsv_last, b_add, b_addL, b_addT, b_sub, b_mul, b_div, b_mod, b_pow, c_eq, c_ne, c_lt, c_le, c_gt, c_ge, c_inL, c_inT, c_niL, c_niT, c_isB, c_isN, c_isI, c_isT, c_inN, c_inI, c_inTu, tr_non, tr_bl, tr_int, tr_lst, tr_tup, x_lst, x_tup, sl_l, sl_t, rv_l, nw_f, nw_t, au_add, au_sub, au_mul, la_last, bd_nm, bd_tp, sq_l, sq_t, f_len, f_isi, f_sortD, f_sortO, f_tupL, f_tupO, f_lstT, f_lstL, f_lstD, f_min2, f_minL, f_all, f_any, f_intB, f_str, z_ll, z_tt, ad_nil, ad_cons, objAt, setAll, wipeA, wipeS, List.map_cons, List.map_nil, List.length_cons, List.length_nil, List.replicate, List.cons_append, List.nil_append, Nat.zero_add, Nat.reduceAdd, Nat.reduceSub, h40]
      exact ⟨j, W, rfl, bs3.bag, hW, fun ds os' hd kp => ⟨hd, bs3.kp kp⟩⟩
    refine ⟨fun _ env os' => ∃ x4 x5 x6 x7 x8, env = [some (.o 0), some (.d (.int (0 + (i : Int)))), some (.o j), some (.d W.d), x4, x5, x6, x7, x8] ∧ Bs P q ns os' j, ⟨_, _, _, _, _, rfl, bs4⟩, fun m x env os' hx ⟨x4, x5, x6, x7, x8, he, bs'⟩ => ?_, fun env os' ⟨x4, x5, x6, x7, x8, he, bs'⟩ => ?_⟩
    · subst he
      have kx := hk x (List.mem_of_getElem? hx)
      simp only [bd_nm, getS, setS, setPs, setAll, List.map_cons, List.map_nil, List.replicate, List.cons_append, List.nil_append, List.length_cons, List.length_nil, Nat.zero_add, Nat.reduceAdd, Nat.reduceSub]
      refine st_set mo (fun r os5 => r = .val (.bl (windB x)) ∧ os5 = os') (by simp only [bodyW, e_var, e_cst, e_dct, e_bin, e_neg, e_not, e_cmp, e_cmp2, e_and, e_or, e_ite, e_tup, e_lst, e_idx, e_slc, e_rev, e_fn, e_call, es_nil, es_cons, o_none, o_some, t_tt, t_and, t_or, t_not, t_val, i_seq, i_rng, i_enm, i_zip, p_nil, p_cons, s_set, s_setO, s_unp, s_par, s_aug, s_ext, s_iff, s_ret, s_app, s_pop, s_stL, s_stD, s_appN, s_popN, s_drop, s_cont, s_brk, ss_nil, ss_cons, getS, setS, setPs, rs_val, rs_obj, rs_new, rsv_d, rsv_last, b_add, b_addL, b_addT, b_sub, b_mul, b_div, b_mod, b_pow, c_eq, c_ne, c_lt, c_le, c_gt, c_ge, c_inL, c_inT, c_niL, c_niT, c_isB, c_isN, c_isI, c_isT, c_inN, c_inI, c_inTu, tr_non, tr_bl, tr_int, tr_lst, tr_tup, x_lst, x_tup, sl_l, sl_t, rv_l, nw_f, nw_t, au_add, au_sub, au_mul, la_last, bd_nm, bd_tp, sq_l, sq_t, f_len, f_isi, f_sortD, f_sortO, f_tupL, f_tupO, f_lstT, f_lstL, f_lstD, f_min2, f_minL, f_all, f_any, f_intB, f_str, z_ll, z_tt, ad_nil, ad_cons, objAt, setAll, wipeA, wipeS, List.map_cons, List.map_nil, List.length_cons, List.length_nil, List.replicate, List.cons_append, List.nil_append, Nat.zero_add, Nat.reduceAdd, Nat.reduceSub, h1]; exact ⟨x, rfl, kx, by trivial, by trivial⟩) fun r os5 ⟨e1, e2⟩ => ?_
      subst e1 e2
      simp only [getS, setS, setPs, setAll, List.map_cons, List.map_nil, List.replicate, List.cons_append, List.nil_append, List.length_cons, List.length_nil, Nat.zero_add, Nat.reduceAdd, Nat.reduceSub, rs_val]
      refine st_no mo (fun os6 => os6 = os5) ?_ fun os6 e => ?_
      · simp only [bodyW, e_var, e_cst, e_dct, e_bin, e_neg, e_not, e_cmp, e_cmp2, e_and, e_or, e_ite, e_tup, e_lst, e_idx, e_slc, e_rev, e_fn, e_call, es_nil, es_cons, o_none, o_some, t_tt, t_and, t_or, t_not, t_val, i_seq, i_rng, i_enm, i_zip, p_nil, p_cons, s_set, s_setO, s_unp, s_par, s_aug, s_ext, s_iff, s_ret, s_app, s_pop, s_stL, s_stD, s_appN, s_popN, s_drop, s_cont, s_brk, ss_nil, ss_cons, getS, setS, setPs, rs_val, rs_obj, rs_new, rsv_d, rsv_last, b_add, b_addL, b_addT, b_sub, b_mul, b_div, b_mod, b_pow, c_eq, c_ne, c_lt, c_le, c_gt, c_ge, c_inL, c_inT, c_niL, c_niT, c_isB, c_isN, c_isI, c_isT, c_inN, c_inI, c_inTu, tr_non, tr_bl, tr_int, tr_lst, tr_tup, x_lst, x_tup, sl_l, sl_t, rv_l, nw_f, nw_t, au_add, au_sub, au_mul, la_last, bd_nm, bd_tp, sq_l, sq_t, f_len, f_isi, f_sortD, f_sortO, f_tupL, f_tupO, f_lstT, f_lstL, f_lstD, f_min2, f_minL, f_all, f_any, f_intB, f_str, z_ll, z_tt, ad_nil, ad_cons, objAt, setAll, wipeA, wipeS, List.map_cons, List.map_nil, List.length_cons, List.length_nil, List.replicate, List.cons_append, List.nil_append, Nat.zero_add, Nat.reduceAdd, Nat.reduceSub, isi_bool (show Kn (.bl (windB x)) from trivial), blB, Bool.not_true, h39]
        refine ifn (by decide) ⟨x, rfl, kx, ?_⟩
        simp only [bodyW, e_var, e_cst, e_dct, e_bin, e_neg, e_not, e_cmp, e_cmp2, e_and, e_or, e_ite, e_tup, e_lst, e_idx, e_slc, e_rev, e_fn, e_call, es_nil, es_cons, o_none, o_some, t_tt, t_and, t_or, t_not, t_val, i_seq, i_rng, i_enm, i_zip, p_nil, p_cons, s_set, s_setO, s_unp, s_par, s_aug, s_ext, s_iff, s_ret, s_app, s_pop, s_stL, s_stD, s_appN, s_popN, s_drop, s_cont, s_brk, ss_nil, ss_cons, getS, setS, setPs, rs_val, rs_obj, rs_new, rsv_d, rsv_last, b_add, b_addL, b_addT, b_sub, b_mul, b_div, b_mod, b_pow, c_eq, c_ne, c_lt, c_le, c_gt, c_ge, c_inL, c_inT, c_niL, c_niT, c_isB, c_isN, c_isI, c_isT, c_inN, c_inI, c_inTu, tr_non, tr_bl, tr_int, tr_lst, tr_tup, x_lst, x_tup, sl_l, sl_t, rv_l, nw_f, nw_t, au_add, au_sub, au_mul, la_last, bd_nm, bd_tp, sq_l, sq_t, f_len, f_isi, f_sortD, f_sortO, f_tupL, f_tupO, f_lstT, f_lstL, f_lstD, f_min2, f_minL, f_all, f_any, f_intB, f_str, z_ll, z_tt, ad_nil, ad_cons, objAt, setAll, wipeA, wipeS, List.map_cons, List.map_nil, List.length_cons, List.length_nil, List.replicate, List.cons_append, List.nil_append, Nat.zero_add, Nat.reduceAdd, Nat.reduceSub]
        exact ⟨flat_bl 8 _, flat_bl 8 _, by simp [eqD], by trivial⟩
      · subst e
        rw [ss_nil]
        exact ⟨_, _, _, _, _, rfl, bs'⟩
    subst he
    clear hk bs4 bs3
    -- strips
    refine st_for mo (fun its os4 => (∃ ms : List Nat, its = ms.map (fun m : Nat => D.int m) ∧ ∀ m ∈ ms, 1 ≤ m ∧ m ≤ 24) ∧ Bs P q ns os4 j) ?_ fun its os4 ⟨⟨ms, e1, hms⟩, bs4⟩ => ?_
    · simp only [bodyW, e_var, e_cst, e_dct, e_bin, e_neg, e_not, e_cmp, e_cmp2, e_and, e_or, e_ite, e_tup, e_lst, e_idx, e_slc, e_rev, e_fn, e_call, es_nil, es_cons, o_none, o_some, t_tt, t_and, t_or, t_not, t_val, i_seq, i_rng, i_enm, i_zip, p_nil, p_cons, s_set, s_setO, s_unp, s_par, s_aug, s_ext, s_iff, s_ret, s_app, s_pop, s_stL, s_stD, s_appN, s_popN, s_drop, s_cont, s_brk, ss_nil, ss_cons, getS, setS, setPs, rs_val, rs_obj, rs_new, rsv_d, rsv_last, b_add, b_addL, b_addT, b_sub, b_mul, b_div, b_mod, b_pow, c_eq, c_ne, c_lt, c_le, c_gt, c_ge, c_inL, c_inT, c_niL, c_niT, c_isB, c_isN, c_isI, c_isT, c_inN, c_inI, c_inTu, tr_non, tr_bl, tr_int, tr_lst, tr_tup, x_lst, x_tup, sl_l, sl_t, rv_l, nw_f, nw_t, au_add, au_sub, au_mul, la_last, bd_nm, bd_tp, sq_l, sq_t, f_len, f_isi, f_sortD, f_sortO, f_tupL, f_tupO, f_lstT, f_lstL, f_lstD, f_min2, f_minL, f_all, f_any, f_intB, f_str, z_ll, z_tt, ad_nil, ad_cons, objAt, setAll, wipeA, wipeS, List.map_cons, List.map_nil, List.length_cons, List.length_nil, List.replicate, List.cons_append, List.nil_append, Nat.zero_add, Nat.reduceAdd, Nat.reduceSub, h31, h32]
      refine ⟨j, 24, rfl, bs'.bag, by decide, by decide, fun y os5 hy k5 => ?_⟩
      simp only [bodyW, e_var, e_cst, e_dct, e_bin, e_neg, e_not, e_cmp, e_cmp2, e_and, e_or, e_ite, e_tup, e_lst, e_idx, e_slc, e_rev, e_fn, e_call, es_nil, es_cons, o_none, o_some, t_tt, t_and, t_or, t_not, t_val, i_seq, i_rng, i_enm, i_zip, p_nil, p_cons, s_set, s_setO, s_unp, s_par, s_aug, s_ext, s_iff, s_ret, s_app, s_pop, s_stL, s_stD, s_appN, s_popN, s_drop, s_cont, s_brk, ss_nil, ss_cons, getS, setS, setPs, rs_val, rs_obj, rs_new, rsv_d, rsv_last, b_add, b_addL, b_addT, b_sub, b_mul, b_div, b_mod, b_pow, c_eq, c_ne, c_lt, c_le, c_gt, c_ge, c_inL, c_inT, c_niL, c_niT, c_isB, c_isN, c_isI, c_isT, c_inN, c_inI, c_inTu, tr_non, tr_bl, tr_int, tr_lst, tr_tup, x_lst, x_tup, sl_l, sl_t, rv_l, nw_f, nw_t, au_add, au_sub, au_mul, la_last, bd_nm, bd_tp, sq_l, sq_t, f_len, f_isi, f_sortD, f_sortO, f_tupL, f_tupO, f_lstT, f_lstL, f_lstD, f_min2, f_minL, f_all, f_any, f_intB, f_str, z_ll, z_tt, ad_nil, ad_cons, objAt, setAll, wipeA, wipeS, List.map_cons, List.map_nil, List.length_cons, List.length_nil, List.replicate, List.cons_append, List.nil_append, Nat.zero_add, Nat.reduceAdd, Nat.reduceSub]
      refine ⟨by decide, j, _, rfl, k5.bag, by simp, by simp [lim], fun d os6 hd k6 => ?_⟩
      simp only [bodyW, e_var, e_cst, e_dct, e_bin, e_neg, e_not, e_cmp, e_cmp2, e_and, e_or, e_ite, e_tup, e_lst, e_idx, e_slc, e_rev, e_fn, e_call, es_nil, es_cons, o_none, o_some, t_tt, t_and, t_or, t_not, t_val, i_seq, i_rng, i_enm, i_zip, p_nil, p_cons, s_set, s_setO, s_unp, s_par, s_aug, s_ext, s_iff, s_ret, s_app, s_pop, s_stL, s_stD, s_appN, s_popN, s_drop, s_cont, s_brk, ss_nil, ss_cons, getS, setS, setPs, rs_val, rs_obj, rs_new, rsv_d, rsv_last, b_add, b_addL, b_addT, b_sub, b_mul, b_div, b_mod, b_pow, c_eq, c_ne, c_lt, c_le, c_gt, c_ge, c_inL, c_inT, c_niL, c_niT, c_isB, c_isN, c_isI, c_isT, c_inN, c_inI, c_inTu, tr_non, tr_bl, tr_int, tr_lst, tr_tup, x_lst, x_tup, sl_l, sl_t, rv_l, nw_f, nw_t, au_add, au_sub, au_mul, la_last, bd_nm, bd_tp, sq_l, sq_t, f_len, f_isi, f_sortD, f_sortO, f_tupL, f_tupO, f_lstT, f_lstL, f_lstD, f_min2, f_minL, f_all, f_any, f_intB, f_str, z_ll, z_tt, ad_nil, ad_cons, objAt, setAll, wipeA, wipeS, List.map_cons, List.map_nil, List.length_cons, List.length_nil, List.replicate, List.cons_append, List.nil_append, Nat.zero_add, Nat.reduceAdd, Nat.reduceSub]
      obtain ⟨m, rfl, hm⟩ : ∃ m : Nat, d = .int m ∧ 1 ≤ m ∧ m ≤ 24 := by
        simp only [List.mem_cons, List.not_mem_nil, or_false] at hd
        rcases hd with rfl | rfl | rfl | rfl
        · exact ⟨1, rfl, by omega⟩
        · exact ⟨2, rfl, by omega⟩
        · exact ⟨8, rfl, by omega⟩
        · exact ⟨24, rfl, by omega⟩
      refine ⟨by decide, ⟨[1 + y, m], by simp, fun x hx => ?_⟩, (bs'.kp k5).kp k6⟩
      simp only [List.mem_cons, List.not_mem_nil, or_false] at hx
      rcases hx with rfl | rfl
      · omega
      · exact hm
    subst e1
    refine ⟨fun _ env os' => ∃ x4 x5 x6 x7 x8, env = [some (.o 0), some (.d (.int (0 + (i : Int)))), some (.o j), some (.d W.d), x4, x5, x6, x7, x8] ∧ Bs P q ns os' j, ⟨_, _, _, _, _, rfl, bs4⟩, fun m x env os' hx ⟨x4, x5, x6, x7, x8, he, bs'⟩ => ?_, fun env os' ⟨x4, x5, x6, x7, x8, he, bs'⟩ => ?_⟩
    · subst he
      obtain ⟨many, hmm, rfl⟩ := map_get hx
      obtain ⟨hm1, hm24⟩ := hms many (List.mem_of_getElem? hmm)
      have hm30 : many ≤ 30 := by omega
      simp only [bd_nm, getS, setS, setPs, setAll, List.map_cons, List.map_nil, List.replicate, List.cons_append, List.nil_append, List.length_cons, List.length_nil, Nat.zero_add, Nat.reduceAdd, Nat.reduceSub]
      have check : ∀ (e8 e7 : Option S) (os5 : List O), Bs P q ns os5 j → wpT T (.val (.cmp .NotEq (.call 7 (.cons (.var 6) (.cons (.var 3) .nil))) (.call 38 (.cons (.var 6) (.cons (.var 3) .nil))))) [some (.o 0), some (.d (.int (0 + (i : Int)))), some (.o j), some (.d W.d), x4, x5, some (.d (.int many)), e7, e8] os5 fun k os1 => k = false ∧ os1 = os5 := fun e8 e7 os5 bs5 => by
        simp only [bodyW, e_var, e_cst, e_dct, e_bin, e_neg, e_not, e_cmp, e_cmp2, e_and, e_or, e_ite, e_tup, e_lst, e_idx, e_slc, e_rev, e_fn, e_call, es_nil, es_cons, o_none, o_some, t_tt, t_and, t_or, t_not, t_val, i_seq, i_rng, i_enm, i_zip, p_nil, p_cons, s_set, s_setO, s_unp, s_par, s_aug, s_ext, s_iff, s_ret, s_app, s_pop, s_stL, s_stD, s_appN, s_popN, s_drop, s_cont, s_brk, ss_nil, ss_cons, getS, setS, setPs, rs_val, rs_obj, rs_new, rsv_d, rsv_last, b_add, b_addL, b_addT, b_sub, b_mul, b_div, b_mod, b_pow, c_eq, c_ne, c_lt, c_le, c_gt, c_ge, c_inL, c_inT, c_niL, c_niT, c_isB, c_isN, c_isI, c_isT, c_inN, c_inI, c_inTu, tr_non, tr_bl, tr_int, tr_lst, tr_tup, x_lst, x_tup, sl_l, sl_t, rv_l, nw_f, nw_t, au_add, au_sub, au_mul, la_last, bd_nm, bd_tp, sq_l, sq_t, f_len, f_isi, f_sortD, f_sortO, f_tupL, f_tupO, f_lstT, f_lstL, f_lstD, f_min2, f_minL, f_all, f_any, f_intB, f_str, z_ll, z_tt, ad_nil, ad_cons, objAt, setAll, wipeA, wipeS, List.map_cons, List.map_nil, List.length_cons, List.length_nil, List.replicate, List.cons_append, List.nil_append, Nat.zero_add, Nat.reduceAdd, Nat.reduceSub, h7, h38]
        refine ⟨many, W, rfl, hW, hm1, hm30, many, W, rfl, hW, hm1, hm30, bs5.tbl, ?_⟩
        simp only [bodyW, e_var, e_cst, e_dct, e_bin, e_neg, e_not, e_cmp, e_cmp2, e_and, e_or, e_ite, e_tup, e_lst, e_idx, e_slc, e_rev, e_fn, e_call, es_nil, es_cons, o_none, o_some, t_tt, t_and, t_or, t_not, t_val, i_seq, i_rng, i_enm, i_zip, p_nil, p_cons, s_set, s_setO, s_unp, s_par, s_aug, s_ext, s_iff, s_ret, s_app, s_pop, s_stL, s_stD, s_appN, s_popN, s_drop, s_cont, s_brk, ss_nil, ss_cons, getS, setS, setPs, rs_val, rs_obj, rs_new, rsv_d, rsv_last, b_add, b_addL, b_addT, b_sub, b_mul, b_div, b_mod, b_pow, c_eq, c_ne, c_lt, c_le, c_gt, c_ge, c_inL, c_inT, c_niL, c_niT, c_isB, c_isN, c_isI, c_isT, c_inN, c_inI, c_inTu, tr_non, tr_bl, tr_int, tr_lst, tr_tup, x_lst, x_tup, sl_l, sl_t, rv_l, nw_f, nw_t, au_add, au_sub, au_mul, la_last, bd_nm, bd_tp, sq_l, sq_t, f_len, f_isi, f_sortD, f_sortO, f_tupL, f_tupO, f_lstT, f_lstL, f_lstD, f_min2, f_minL, f_all, f_any, f_intB, f_str, z_ll, z_tt, ad_nil, ad_cons, objAt, setAll, wipeA, wipeS, List.map_cons, List.map_nil, List.length_cons, List.length_nil, List.replicate, List.cons_append, List.nil_append, Nat.zero_add, Nat.reduceAdd, Nat.reduceSub]
        refine ⟨flat_rows 5 _, flat_rows 5 _, ?_, trivial⟩
        rw [eqD_self (flat_rows 5 _)]
        rfl
      refine st_no mo (fun os5 => os5 = os') (check _ _ _ bs') fun os5 e => ?_
      subst e
      refine st_for mo (fun its os6 => its = rngD 0 6 ∧ os6 = os5) (by simp only [bodyW, e_var, e_cst, e_dct, e_bin, e_neg, e_not, e_cmp, e_cmp2, e_and, e_or, e_ite, e_tup, e_lst, e_idx, e_slc, e_rev, e_fn, e_call, es_nil, es_cons, o_none, o_some, t_tt, t_and, t_or, t_not, t_val, i_seq, i_rng, i_enm, i_zip, p_nil, p_cons, s_set, s_setO, s_unp, s_par, s_aug, s_ext, s_iff, s_ret, s_app, s_pop, s_stL, s_stD, s_appN, s_popN, s_drop, s_cont, s_brk, ss_nil, ss_cons, getS, setS, setPs, rs_val, rs_obj, rs_new, rsv_d, rsv_last, b_add, b_addL, b_addT, b_sub, b_mul, b_div, b_mod, b_pow, c_eq, c_ne, c_lt, c_le, c_gt, c_ge, c_inL, c_inT, c_niL, c_niT, c_isB, c_isN, c_isI, c_isT, c_inN, c_inI, c_inTu, tr_non, tr_bl, tr_int, tr_lst, tr_tup, x_lst, x_tup, sl_l, sl_t, rv_l, nw_f, nw_t, au_add, au_sub, au_mul, la_last, bd_nm, bd_tp, sq_l, sq_t, f_len, f_isi, f_sortD, f_sortO, f_tupL, f_tupO, f_lstT, f_lstL, f_lstD, f_min2, f_minL, f_all, f_any, f_intB, f_str, z_ll, z_tt, ad_nil, ad_cons, objAt, setAll, wipeA, wipeS, List.map_cons, List.map_nil, List.length_cons, List.length_nil, List.replicate, List.cons_append, List.nil_append, Nat.zero_add, Nat.reduceAdd, Nat.reduceSub]; exact ⟨by decide, by trivial, by trivial⟩) fun its os6 ⟨e1, e2⟩ => ?_
      subst e1 e2
      refine ⟨fun _ env os' => ∃ x7 x8, env = [some (.o 0), some (.d (.int (0 + (i : Int)))), some (.o j), some (.d W.d), x4, x5, some (.d (.int many)), x7, x8] ∧ Bs P q ns os' j, ⟨_, _, rfl, bs'⟩, fun m x env os' hx ⟨x7, x8, he, bs'⟩ => ?_, fun env os' ⟨x7, x8, he, bs'⟩ => ?_⟩
      · subst he
        simp only [bd_nm, getS, setS, setPs, setAll, List.map_cons, List.map_nil, List.replicate, List.cons_append, List.nil_append, List.length_cons, List.length_nil, Nat.zero_add, Nat.reduceAdd, Nat.reduceSub]
        refine st_set mo (fun r os7 => ∃ y : Nat × Nat, r = .val (frI y) ∧ RedF y ∧ y.2 ≤ 1000 ∧ y.1 < y.2 ∧ Bs P q ns os7 j) ?_ fun r os7 ⟨y, e1, hr, hy1, hy2, bs7⟩ => ?_
        · simp only [bodyW, e_var, e_cst, e_dct, e_bin, e_neg, e_not, e_cmp, e_cmp2, e_and, e_or, e_ite, e_tup, e_lst, e_idx, e_slc, e_rev, e_fn, e_call, es_nil, es_cons, o_none, o_some, t_tt, t_and, t_or, t_not, t_val, i_seq, i_rng, i_enm, i_zip, p_nil, p_cons, s_set, s_setO, s_unp, s_par, s_aug, s_ext, s_iff, s_ret, s_app, s_pop, s_stL, s_stD, s_appN, s_popN, s_drop, s_cont, s_brk, ss_nil, ss_cons, getS, setS, setPs, rs_val, rs_obj, rs_new, rsv_d, rsv_last, b_add, b_addL, b_addT, b_sub, b_mul, b_div, b_mod, b_pow, c_eq, c_ne, c_lt, c_le, c_gt, c_ge, c_inL, c_inT, c_niL, c_niT, c_isB, c_isN, c_isI, c_isT, c_inN, c_inI, c_inTu, tr_non, tr_bl, tr_int, tr_lst, tr_tup, x_lst, x_tup, sl_l, sl_t, rv_l, nw_f, nw_t, au_add, au_sub, au_mul, la_last, bd_nm, bd_tp, sq_l, sq_t, f_len, f_isi, f_sortD, f_sortO, f_tupL, f_tupO, f_lstT, f_lstL, f_lstD, f_min2, f_minL, f_all, f_any, f_intB, f_str, z_ll, z_tt, ad_nil, ad_cons, objAt, setAll, wipeA, wipeS, List.map_cons, List.map_nil, List.length_cons, List.length_nil, List.replicate, List.cons_append, List.nil_append, Nat.zero_add, Nat.reduceAdd, Nat.reduceSub, h35]
          exact ⟨j, rfl, bs'.bag, fun y os8 a b c k8 => ⟨y, rfl, a, b, c, bs'.kp k8⟩⟩
        subst e1
        simp only [getS, setS, setPs, setAll, List.map_cons, List.map_nil, List.replicate, List.cons_append, List.nil_append, List.length_cons, List.length_nil, Nat.zero_add, Nat.reduceAdd, Nat.reduceSub, rs_val]
        refine st_no mo (fun os8 => os8 = os7) ?_ fun os8 e => ?_
        · simp only [bodyW, e_var, e_cst, e_dct, e_bin, e_neg, e_not, e_cmp, e_cmp2, e_and, e_or, e_ite, e_tup, e_lst, e_idx, e_slc, e_rev, e_fn, e_call, es_nil, es_cons, o_none, o_some, t_tt, t_and, t_or, t_not, t_val, i_seq, i_rng, i_enm, i_zip, p_nil, p_cons, s_set, s_setO, s_unp, s_par, s_aug, s_ext, s_iff, s_ret, s_app, s_pop, s_stL, s_stD, s_appN, s_popN, s_drop, s_cont, s_brk, ss_nil, ss_cons, getS, setS, setPs, rs_val, rs_obj, rs_new, rsv_d, rsv_last, b_add, b_addL, b_addT, b_sub, b_mul, b_div, b_mod, b_pow, c_eq, c_ne, c_lt, c_le, c_gt, c_ge, c_inL, c_inT, c_niL, c_niT, c_isB, c_isN, c_isI, c_isT, c_inN, c_inI, c_inTu, tr_non, tr_bl, tr_int, tr_lst, tr_tup, x_lst, x_tup, sl_l, sl_t, rv_l, nw_f, nw_t, au_add, au_sub, au_mul, la_last, bd_nm, bd_tp, sq_l, sq_t, f_len, f_isi, f_sortD, f_sortO, f_tupL, f_tupO, f_lstT, f_lstL, f_lstD, f_min2, f_minL, f_all, f_any, f_intB, f_str, z_ll, z_tt, ad_nil, ad_cons, objAt, setAll, wipeA, wipeS, List.map_cons, List.map_nil, List.length_cons, List.length_nil, List.replicate, List.cons_append, List.nil_append, Nat.zero_add, Nat.reduceAdd, Nat.reduceSub, h4, h36]
          refine ⟨many, W, y.1, y.2, rfl, hW, hm30, hr.2, by omega, by omega, many, W, y.1, y.2, rfl, hW, hm30, hr.2, by omega, by omega, ?_⟩
          simp only [bodyW, e_var, e_cst, e_dct, e_bin, e_neg, e_not, e_cmp, e_cmp2, e_and, e_or, e_ite, e_tup, e_lst, e_idx, e_slc, e_rev, e_fn, e_call, es_nil, es_cons, o_none, o_some, t_tt, t_and, t_or, t_not, t_val, i_seq, i_rng, i_enm, i_zip, p_nil, p_cons, s_set, s_setO, s_unp, s_par, s_aug, s_ext, s_iff, s_ret, s_app, s_pop, s_stL, s_stD, s_appN, s_popN, s_drop, s_cont, s_brk, ss_nil, ss_cons, getS, setS, setPs, rs_val, rs_obj, rs_new, rsv_d, rsv_last, b_add, b_addL, b_addT, b_sub, b_mul, b_div, b_mod, b_pow, c_eq, c_ne, c_lt, c_le, c_gt, c_ge, c_inL, c_inT, c_niL, c_niT, c_isB, c_isN, c_isI, c_isT, c_inN, c_inI, c_inTu, tr_non, tr_bl, tr_int, tr_lst, tr_tup, x_lst, x_tup, sl_l, sl_t, rv_l, nw_f, nw_t, au_add, au_sub, au_mul, la_last, bd_nm, bd_tp, sq_l, sq_t, f_len, f_isi, f_sortD, f_sortO, f_tupL, f_tupO, f_lstT, f_lstL, f_lstD, f_min2, f_minL, f_all, f_any, f_intB, f_str, z_ll, z_tt, ad_nil, ad_cons, objAt, setAll, wipeA, wipeS, List.map_cons, List.map_nil, List.length_cons, List.length_nil, List.replicate, List.cons_append, List.nil_append, Nat.zero_add, Nat.reduceAdd, Nat.reduceSub]
          refine ⟨flat_lst 7 _, flat_lst 7 _, ?_, trivial⟩
          rw [eqD_self (flat_lst 7 _)]
          rfl
        · subst e
          rw [ss_nil]
          exact ⟨_, _, rfl, bs7⟩
      · subst he
        rw [ss_cons, s_appN]
        refine moE mo _ (Q := fun r os7 => r = .new (.lst ((prickedL many W 0 1).map D.int)) ∧ os7 = os') ?_ fun r os7 ⟨e1, e2⟩ => ?_
        · simp only [bodyW, e_var, e_cst, e_dct, e_bin, e_neg, e_not, e_cmp, e_cmp2, e_and, e_or, e_ite, e_tup, e_lst, e_idx, e_slc, e_rev, e_fn, e_call, es_nil, es_cons, o_none, o_some, t_tt, t_and, t_or, t_not, t_val, i_seq, i_rng, i_enm, i_zip, p_nil, p_cons, s_set, s_setO, s_unp, s_par, s_aug, s_ext, s_iff, s_ret, s_app, s_pop, s_stL, s_stD, s_appN, s_popN, s_drop, s_cont, s_brk, ss_nil, ss_cons, getS, setS, setPs, rs_val, rs_obj, rs_new, rsv_d, rsv_last, b_add, b_addL, b_addT, b_sub, b_mul, b_div, b_mod, b_pow, c_eq, c_ne, c_lt, c_le, c_gt, c_ge, c_inL, c_inT, c_niL, c_niT, c_isB, c_isN, c_isI, c_isT, c_inN, c_inI, c_inTu, tr_non, tr_bl, tr_int, tr_lst, tr_tup, x_lst, x_tup, sl_l, sl_t, rv_l, nw_f, nw_t, au_add, au_sub, au_mul, la_last, bd_nm, bd_tp, sq_l, sq_t, f_len, f_isi, f_sortD, f_sortO, f_tupL, f_tupO, f_lstT, f_lstL, f_lstD, f_min2, f_minL, f_all, f_any, f_intB, f_str, z_ll, z_tt, ad_nil, ad_cons, objAt, setAll, wipeA, wipeS, List.map_cons, List.map_nil, List.length_cons, List.length_nil, List.replicate, List.cons_append, List.nil_append, Nat.zero_add, Nat.reduceAdd, Nat.reduceSub, h4]
          exact ⟨by decide, many, W, 0, 1, rfl, hW, hm30, by decide, by decide, by decide, by trivial, by trivial⟩
        subst e1 e2
        simp only
        refine ⟨?_, ?_⟩
        · rw [List.length_map]
          unfold prickedL
          rw [sortI_len]
          have h1 := cellsT_len many W.e 0 1 (turnsL many W.g W.w)
          have h2 := turnsL_len many W.g W.w
          unfold lim
          omega
        rw [e_cst]
        show wpSs T _ _ _ _
        rw [ss_cons, s_popN]
        refine moE mo _ (Q := fun r os8 => r = .new (.lst ((rowsL many W).map rowI)) ∧ os8 = os7) ?_ fun r os8 ⟨e1, e2⟩ => ?_
        · simp only [bodyW, e_var, e_cst, e_dct, e_bin, e_neg, e_not, e_cmp, e_cmp2, e_and, e_or, e_ite, e_tup, e_lst, e_idx, e_slc, e_rev, e_fn, e_call, es_nil, es_cons, o_none, o_some, t_tt, t_and, t_or, t_not, t_val, i_seq, i_rng, i_enm, i_zip, p_nil, p_cons, s_set, s_setO, s_unp, s_par, s_aug, s_ext, s_iff, s_ret, s_app, s_pop, s_stL, s_stD, s_appN, s_popN, s_drop, s_cont, s_brk, ss_nil, ss_cons, getS, setS, setPs, rs_val, rs_obj, rs_new, rsv_d, rsv_last, b_add, b_addL, b_addT, b_sub, b_mul, b_div, b_mod, b_pow, c_eq, c_ne, c_lt, c_le, c_gt, c_ge, c_inL, c_inT, c_niL, c_niT, c_isB, c_isN, c_isI, c_isT, c_inN, c_inI, c_inTu, tr_non, tr_bl, tr_int, tr_lst, tr_tup, x_lst, x_tup, sl_l, sl_t, rv_l, nw_f, nw_t, au_add, au_sub, au_mul, la_last, bd_nm, bd_tp, sq_l, sq_t, f_len, f_isi, f_sortD, f_sortO, f_tupL, f_tupO, f_lstT, f_lstL, f_lstD, f_min2, f_minL, f_all, f_any, f_intB, f_str, z_ll, z_tt, ad_nil, ad_cons, objAt, setAll, wipeA, wipeS, List.map_cons, List.map_nil, List.length_cons, List.length_nil, List.replicate, List.cons_append, List.nil_append, Nat.zero_add, Nat.reduceAdd, Nat.reduceSub, h7]
          exact ⟨many, W, rfl, hW, hm1, hm30, by trivial, by trivial⟩
        subst e1 e2
        simp only
        refine ⟨rows_ne hW hm30, ?_⟩
        refine st_no mo (fun os5 => os5 = os8) (check _ _ _ bs') fun os5 e => ?_
        subst e
        rw [ss_nil]
        exact ⟨_, _, _, _, _, rfl, bs'⟩
    · subst he
      rw [ss_nil]
      exact ⟨_, _, _, _, _, _, _, _, rfl, bs'.scr, bs'.tbl⟩
  · subst he
    refine st_ret mo (fun r os1 => r = .val (.bl true) ∧ os1 = os') ?_ fun r os1 ⟨e1, e2⟩ => ?_
    · simp only [bodyW, e_var, e_cst, e_dct, e_bin, e_neg, e_not, e_cmp, e_cmp2, e_and, e_or, e_ite, e_tup, e_lst, e_idx, e_slc, e_rev, e_fn, e_call, es_nil, es_cons, o_none, o_some, t_tt, t_and, t_or, t_not, t_val, i_seq, i_rng, i_enm, i_zip, p_nil, p_cons, s_set, s_setO, s_unp, s_par, s_aug, s_ext, s_iff, s_ret, s_app, s_pop, s_stL, s_stD, s_appN, s_popN, s_drop, s_cont, s_brk, ss_nil, ss_cons, getS, setS, setPs, rs_val, rs_obj, rs_new, rsv_d, rsv_last, b_add, b_addL, b_addT, b_sub, b_mul, b_div, b_mod, b_pow, c_eq, c_ne, c_lt, c_le, c_gt, c_ge, c_inL, c_inT, c_niL, c_niT, c_isB, c_isN, c_isI, c_isT, c_inN, c_inI, c_inTu, tr_non, tr_bl, tr_int, tr_lst, tr_tup, x_lst, x_tup, sl_l, sl_t, rv_l, nw_f, nw_t, au_add, au_sub, au_mul, la_last, bd_nm, bd_tp, sq_l, sq_t, f_len, f_isi, f_sortD, f_sortO, f_tupL, f_tupO, f_lstT, f_lstL, f_lstD, f_min2, f_minL, f_all, f_any, f_intB, f_str, z_ll, z_tt, ad_nil, ad_cons, objAt, setAll, wipeA, wipeS, List.map_cons, List.map_nil, List.length_cons, List.length_nil, List.replicate, List.cons_append, List.nil_append, Nat.zero_add, Nat.reduceAdd, Nat.reduceSub, h4]
      refine ⟨by decide, by decide, 8, ⟨5, 1, 0⟩, 1, 2, rfl, ⟨by decide, by decide, by decide, by decide⟩, by decide, by decide, by decide, by decide, ?_⟩
      simp only [bodyW, e_var, e_cst, e_dct, e_bin, e_neg, e_not, e_cmp, e_cmp2, e_and, e_or, e_ite, e_tup, e_lst, e_idx, e_slc, e_rev, e_fn, e_call, es_nil, es_cons, o_none, o_some, t_tt, t_and, t_or, t_not, t_val, i_seq, i_rng, i_enm, i_zip, p_nil, p_cons, s_set, s_setO, s_unp, s_par, s_aug, s_ext, s_iff, s_ret, s_app, s_pop, s_stL, s_stD, s_appN, s_popN, s_drop, s_cont, s_brk, ss_nil, ss_cons, getS, setS, setPs, rs_val, rs_obj, rs_new, rsv_d, rsv_last, b_add, b_addL, b_addT, b_sub, b_mul, b_div, b_mod, b_pow, c_eq, c_ne, c_lt, c_le, c_gt, c_ge, c_inL, c_inT, c_niL, c_niT, c_isB, c_isN, c_isI, c_isT, c_inN, c_inI, c_inTu, tr_non, tr_bl, tr_int, tr_lst, tr_tup, x_lst, x_tup, sl_l, sl_t, rv_l, nw_f, nw_t, au_add, au_sub, au_mul, la_last, bd_nm, bd_tp, sq_l, sq_t, f_len, f_isi, f_sortD, f_sortO, f_tupL, f_tupO, f_lstT, f_lstL, f_lstD, f_min2, f_minL, f_all, f_any, f_intB, f_str, z_ll, z_tt, ad_nil, ad_cons, objAt, setAll, wipeA, wipeS, List.map_cons, List.map_nil, List.length_cons, List.length_nil, List.replicate, List.cons_append, List.nil_append, Nat.zero_add, Nat.reduceAdd, Nat.reduceSub]
      refine ⟨by decide, flat_lst 7 _, flat_lst 7 [1, 4, 7], ?_⟩
      have p1 : prickedL 8 ⟨5, 1, 0⟩ 1 2 = [1, 4, 7] := by decide
      have p2 : prickedL 8 ⟨5, 1, 1⟩ 0 1 = [2, 5, 7] := by decide
      rw [p1]
      refine ifp (eqD_self (flat_lst 7 [1, 4, 7])) ?_
      refine ⟨by decide, by decide, 8, ⟨5, 1, 1⟩, 0, 1, rfl, ⟨by decide, by decide, by decide, by decide⟩, by decide, by decide, by decide, by decide, ?_⟩
      simp only [bodyW, e_var, e_cst, e_dct, e_bin, e_neg, e_not, e_cmp, e_cmp2, e_and, e_or, e_ite, e_tup, e_lst, e_idx, e_slc, e_rev, e_fn, e_call, es_nil, es_cons, o_none, o_some, t_tt, t_and, t_or, t_not, t_val, i_seq, i_rng, i_enm, i_zip, p_nil, p_cons, s_set, s_setO, s_unp, s_par, s_aug, s_ext, s_iff, s_ret, s_app, s_pop, s_stL, s_stD, s_appN, s_popN, s_drop, s_cont, s_brk, ss_nil, ss_cons, getS, setS, setPs, rs_val, rs_obj, rs_new, rsv_d, rsv_last, b_add, b_addL, b_addT, b_sub, b_mul, b_div, b_mod, b_pow, c_eq, c_ne, c_lt, c_le, c_gt, c_ge, c_inL, c_inT, c_niL, c_niT, c_isB, c_isN, c_isI, c_isT, c_inN, c_inI, c_inTu, tr_non, tr_bl, tr_int, tr_lst, tr_tup, x_lst, x_tup, sl_l, sl_t, rv_l, nw_f, nw_t, au_add, au_sub, au_mul, la_last, bd_nm, bd_tp, sq_l, sq_t, f_len, f_isi, f_sortD, f_sortO, f_tupL, f_tupO, f_lstT, f_lstL, f_lstD, f_min2, f_minL, f_all, f_any, f_intB, f_str, z_ll, z_tt, ad_nil, ad_cons, objAt, setAll, wipeA, wipeS, List.map_cons, List.map_nil, List.length_cons, List.length_nil, List.replicate, List.cons_append, List.nil_append, Nat.zero_add, Nat.reduceAdd, Nat.reduceSub]
      rw [p2]
      refine ⟨by decide, flat_lst 7 _, flat_lst 7 [2, 5, 7], ?_, trivial⟩
      rw [show eqD (.lst ([2, 5, 7].map D.int)) (.lst [.int 2, .int 5, .int 7]) = true from eqD_self (flat_lst 7 [2, 5, 7])]
    subst e1 e2
    show leave 2 Q (.val (.bl true)) os1
    rw [leave_val, take2 ho ho1]
    exact h
section
variable {ss : List S} {os : List O} {Q Q' : R → List O → Prop}
theorem mo_spOdd : spOdd ss os Q → (∀ r os', Q r os' → Q' r os') → spOdd ss os Q' := by unfold spOdd; (intro h hq; revert h; (repeat' (first | (refine Exists.imp fun _ => ?_) | (refine And.imp_right ?_))); intro h; first | exact hq _ _ h | (intros; apply hq; apply h <;> assumption))
end
end N66

/-! N66, the end of a law whose breaks hold a key lambda. -/
namespace N66
open PySem PySem.Spec PyProof.Rows L2 LamX
/-- the lambda's name -/
def qK : Str := ("_law_breaks" : Str) ++ ".<locals>." ++ "<lambda>"
theorem tab_code {K : PySem.W.Frag} {x : Str} {f c P : Addr} {oc : Value} {od : Option Addr} {fd : FuncData} {sl : Array (Option Value)} (a : PySem.W.nsIn K mainGlobals x = some (some (.ref f))) (l : K.lookup f = some ⟨oc, od, .func fd, sl⟩) (ht : PySem.W.tabIn K x = some (c, P)) : fd.code = .ref c := by
  unfold PySem.W.tabIn at ht
  rw [a] at ht
  simp only [l] at ht
  split at ht
  · rename_i c2 hc
    rw [hc]
    split at ht
    · split at ht
      · cases ht; rfl
      · cases ht
    · cases ht
  · cases ht
theorem law_inT {K : PySem.W.Frag} {H : Hp} {a P : Addr} {q : Str} {ns : List Int} (hK : noLst K = true) (hl : ns.length ≤ 63) (hP : H P = some (.tbl #[])) (hS : SqL K H a (ns.map V.int)) : spT (spLawT P q) [.ref a] H (fun v _ => v = .bl true) fun _ _ _ => False := by
  have hR : Rd H a (.lst (ns.map V.int)) := by
    rcases hS with h | ⟨o, its, n, h1, h2, _⟩
    · exact h
    · exact (no_lst hK h1 h2).elim
  have ne : a ≠ P := fun e => by
    rcases hR with h | ⟨o, h⟩
    · rw [e, hP] at h; cases h
    · rw [e, hP] at h; cases h
  refine ⟨[.o 0], [.scr ns, .tbl P q], fun _ => none, [(a, []), (P, [])], ⟨(fun _ _ h => by cases h), rfl, fun k j p r h1 h2 n => ?_, fun _ _ _ _ _ => rfl, fun k p o h1 h2 => ?_⟩, .cons ⟨_, rfl, rfl⟩ .nil, ns, rfl, rfl, hl, fun v H' B' _ _ h => ?_⟩
  · match k, j, h1, h2, n with
    | 0, 0, _, _, n => exact absurd rfl n
    | 1, 1, _, _, n => exact absurd rfl n
    | 0, 1, h1, h2, _ =>
      cases h1; cases h2
      intro b hb hb2
      simp only [fp, List.mem_singleton] at hb hb2
      exact ne (hb.symm.trans hb2)
    | 1, 0, h1, h2, _ =>
      cases h1; cases h2
      intro b hb hb2
      simp only [fp, List.mem_singleton] at hb hb2
      exact ne (hb2.symm.trans hb)
  · match k, h1, h2 with
    | 0, h1, h2 => cases h1; cases h2; exact ⟨rfl, hR⟩
    | 1, h1, h2 =>
      cases h1; cases h2
      exact ⟨⟨rfl, rfl⟩, #[], hP, by constructor, fun pos cv hc => by cases hc⟩
  · cases h
    rename_i h
    cases h
    rfl
theorem walk_tab {l : PySem.W.OpenLaw} {k : Nat} {q : Program} {loose : List Str} {XP : (Str → Option Value) → Heap → Prop} {YP : World → Heap → Prop} {d dy : DefRec} {K : Params → PySem.W.Frag} {qn : Str}
    (hn : l.most = some 63) (hdf : d.params.defaults = []) (hr : Room k callerA) (hY : ∀ (w : World) (h : Heap), YP w h → (K w.params).In h) (hrec : (recsOf q).find? (fun e => e.name == ("_law_breaks" : Str)) = some dy)
    (ht : ∀ w : World, ∃ c P, PySem.W.tabIn (K w.params) "_law_breaks" = some (c, P) ∧ (K w.params).lookup P = none) (hK : ∀ w : World, noLst (K w.params) = true)
    (F : ∀ (w : World) (mg : Str → Option Value) (fa : Addr) (h : Heap) (c P : Addr), (K w.params).In h → h.Ns mainGlobals mg → mg d.name = some (.ref fa) → PySem.W.tabIn (K w.params) "_law_breaks" = some (c, P) →
      ∃ fd : FuncData, (∀ (s : Shared) (u : Value), BindsTo s fd ⟨[u], []⟩ [("script", u)]) ∧ ∀ base : Heap, (K w.params).In base → base.Ns mainGlobals mg → TabB base mg c P → FnOk l.prog w (K w.params) mg base CX0 k fa fd ["script"] (spT (spLawT P qn))) :
    PySem.W.WalkO q loose XP YP l.row.toRowW d [] (fun f vs => PySem.call f vs) := by
  refine Att.attach_callB hn hdf fun w s₀ s₁ mg mb fa o pm cd doc a vs ns G Y ho hd hcd hmg hobj hints hlen hbits hg => ?_
  have KX := hY w _ Y
  obtain ⟨c, P, h1, h2⟩ := ht w
  obtain ⟨fd, hb, hF⟩ := F w mg fa _ c P KX G.T.g hmg h1
  obtain ⟨t1, t2⟩ := PySem.W.tab_of G.T KX hrec h1
  have one : ∀ {R : Addr × Addr → Prop}, R (c, P) → ∀ p ∈ [(c, P)], R p := fun h p hp => by
    rw [List.mem_singleton.mp hp]; exact h
  exact law_callTs (cs := [(c, P)]) KX G.T.g G.T.b G.T.builtins G.T.nolimit hg (one t2) (one h2) (one t1) G.T.bmain hobj hints (Nat.le_trans hlen (by decide)) hr (fun base k1 k2 k3 => hF base k1 k2 (k3 (c, P) (by simp))) hb (fun H hH hS => law_inT (hK w) hlen (hH (c, P) (by simp)) hS) fun H e s' h => h
/-- the oracle of the breaks -/
theorem orc_breaks {T : Tab} {Pg : Program} {w : World} {K : PySem.W.Frag} {mg : Str → Option Value} {base : Heap} {c P f : Addr} {k : Nat} {N : List Str} {scope : Scope} {cd : Value} (hT : T 98 = spSrtK P qK) (hN : N[2]? = some ("found" : Str)) (hv : scope.names.lookup ("found" : Str) = some .local) (hs : scope.names.lookup ("sorted" : Str) = some .globalImplicit)
    (hm : mg "sorted" = none) (TB : TabB base mg c P) (hc : cd = .ref c) (A : Around) (outer : List PySem.Env) (s : Shared) (H : Hp) (E : XK) (hr : Room k (A.deeper (PyProof.Rows.envOfC "_law_breaks" scope s.heap.objs.size f cd))) (e : Expr) (x : Xp) (h : orcK "found" 2 e = some x) :
    PE (cxOf CX0 Pg w K mg base N "_law_breaks" scope f cd A outer s H E).nox e (liftE (wpE T x)) := by
  refine orcK_snd (X := (cxOf CX0 Pg w K mg base N "_law_breaks" scope f cd A outer s H E).nox) (c := c) (P := P) ?_ hN (.inl hv) (by decide +kernel) (by decide +kernel) hs hm TB hc rfl ?_ ?_ h
  · exact hT
  · have := hr.dp
    show (A.deeper _).depth < recursionLimit
    omega
  · have := hr.un
    show (A.deeper _).units + 2 < cLine
    omega
end N66

/-! N66, harmless stretches; wishes drawn. -/
namespace N66
open PySem PySem.Spec L2
def p_harmless : Ss := .cons (.ret (.lc (.var 3) (.nm 3) (.seq (.call 7 (.cons (.var 0) (.cons (.var 1) .nil)))) (.val (.fn .all (.cons (.lc (.cmp .In (.var 4) (.var 2)) (.nm 4) (.seq (.idx (.var 3) (.cst (.int 2)))) .tt [4]) .nil))) [3])) .nil
def p_law_wished : Ss := .cons (.set 3 (.call 31 (.cons (.var 0) (.cons (.cst (.int 4)) .nil)))) (.cons (.iff (.val (.cmp .Eq (.var 3) (.cst (.int 0)))) (.cons (.ret (.fn .tuple (.cons (.lc (.var 4) (.nm 4) (.rng (.cst (.int 0)) (.var 1)) (.val (.cmp .Eq (.call 31 (.cons (.var 0) (.cons (.cst (.int 2)) .nil))) (.cst (.int 0)))) [4]) .nil))) .nil) .nil) (.cons (.iff (.val (.cmp .Eq (.var 3) (.cst (.int 1)))) (.cons (.ret (.call 32 (.cons (.var 0) (.cons (.lst (.cons (.tup .nil) (.cons (.tupR (.cst (.int 0)) (.var 1) (.cst (.int 1))) (.cons (.slc (.tupR (.cst (.int 0)) (.var 1) (.cst (.int 1))) (.some (.cst (.int 1))) .none) (.cons (.tup (.cons (.bin .Sub (.var 1) (.cst (.int 1))) .nil)) .nil))))) .nil)))) .nil) .nil) (.cons (.setO 5 (.dct (.dK []))) (.cons (.for_ (.nm 6) (.rng (.cst (.int 0)) (.bin .Add (.cst (.int 1)) (.call 31 (.cons (.var 0) (.cons (.cst (.int 5)) .nil))))) (.cons (.for_ (.nm 4) (.seq (.call 36 (.cons (.var 1) (.cons (.var 2) (.cons (.call 35 (.cons (.var 0) .nil)) .nil))))) (.cons (.stD 5 (.var 4) (.cst (.bl true))) .nil)) .nil)) (.cons (.iff (.val (.cmp .Eq (.var 3) (.cst (.int 3)))) (.cons (.stD 5 (.call 31 (.cons (.var 0) (.cons (.var 1) .nil))) (.cst (.bl true))) .nil) .nil) (.cons (.ret (.fn .tuple (.cons (.fn .sorted (.cons (.var 5) .nil)) .nil))) .nil))))))
/-! ### cells in range -/
theorem cellE_rng {many e c : Nat} (h : c < many) : 0 ≤ cellE many e c ∧ cellE many e c < many := by
  unfold cellE
  split <;> omega
theorem pricked_rng {many : Nat} {W : Wd} {x : Nat × Nat} {z : Int} (h : z ∈ prickedL many W x.1 x.2) : 0 ≤ z ∧ z < many := by
  obtain ⟨c, ⟨t, _, h1, h2⟩, rfl⟩ := pricked_mem.mp h
  exact cellE_rng (by omega)
theorem pricked_len {many : Nat} {W : Wd} (hm : many ≤ 30) (p q : Nat) : (prickedL many W p q).length ≤ 60 := by
  unfold prickedL
  rw [sortI_len]
  have h1 := cellsT_len many W.e p q (turnsL many W.g W.w)
  have h2 := turnsL_len many W.g W.w
  omega
/-! ### harmless -/
def harmB (hs : List Int) (r : Row) : Bool := r.2.2.all fun c => decide (c ∈ hs)
def harmL (many : Nat) (W : Wd) (hs : List Int) : List Row := (rowsL many W).filter (harmB hs)
def spHarmless : Fun1 := fun ss os Q => ∃ (many : Nat) (W : Wd) (hs : List Int), ss = [.d (.int many), .d W.d, .d (tupI hs)] ∧ W.Ok ∧ 1 ≤ many ∧ many ≤ 30 ∧ Q (.new (.lst ((harmL many W hs).map rowI))) os
theorem row_cells {many : Nat} {W : Wd} (hm : many ≤ 30) {r : Row} (h : r ∈ rowsL many W) : r.2.2.length ≤ 60 ∧ ∀ c ∈ r.2.2, 0 ≤ c ∧ c < many := by
  obtain ⟨i, hi⟩ := List.mem_iff_getElem?.mp h
  obtain ⟨_, _, e⟩ := rowsL_get hi
  rw [e]
  exact ⟨pricked_len hm _ _, fun c hc => pricked_rng hc⟩
theorem w_harmless (T : Tab) (mo : MoTab T) (h7 : T 7 = spStretches) (ss : List S) (os : List O) (Q : R → List O → Prop) (h : spHarmless ss os Q) : bodyW T p_harmless 5 ss os Q := by
  obtain ⟨many, W, hs, rfl, hW, hm1, hm, h⟩ := h
  unfold bodyW p_harmless
  simp only [getS, setS, setPs, setAll, List.map_cons, List.map_nil, List.replicate, List.cons_append, List.nil_append, List.length_cons, List.length_nil, Nat.zero_add, Nat.reduceAdd, Nat.reduceSub]
  refine st_ret mo (fun r os1 => r = .new (.lst ((harmL many W hs).map rowI)) ∧ os1 = os) ?_ fun r os1 ⟨e1, e2⟩ => ?_
  · refine lc_filL mo (rowsL many W) rowI rowI (harmB hs) ?_ (Nat.le_trans (rowsL_len hm) (by decide)) (fun r hr => ?_) ⟨rfl, rfl⟩
    · simp only [bodyW, e_var, e_cst, e_dct, e_bin, e_neg, e_not, e_cmp, e_cmp2, e_and, e_or, e_ite, e_tup, e_lst, e_idx, e_slc, e_rev, e_fn, e_call, es_nil, es_cons, o_none, o_some, t_tt, t_and, t_or, t_not, t_val, i_seq, i_rng, i_enm, i_zip, p_nil, p_cons, s_set, s_setO, s_unp, s_par, s_aug, s_ext, s_iff, s_ret, s_app, s_pop, s_stL, s_stD, s_appN, s_popN, s_drop, s_cont, s_brk, ss_nil, ss_cons, getS, setS, setPs, rs_val, rs_obj, rs_new, rsv_d, rsv_last, b_add, b_addL, b_addT, b_sub, b_mul, b_div, b_mod, b_pow, c_eq, c_ne, c_lt, c_le, c_gt, c_ge, c_inL, c_inT, c_niL, c_niT, c_isB, c_isN, c_isI, c_isT, c_inN, c_inI, c_inTu, tr_non, tr_bl, tr_int, tr_lst, tr_tup, x_lst, x_tup, sl_l, sl_t, rv_l, nw_f, nw_t, au_add, au_sub, au_mul, la_last, bd_nm, bd_tp, sq_l, sq_t, f_len, f_isi, f_sortD, f_sortO, f_tupL, f_tupO, f_lstT, f_lstL, f_lstD, f_min2, f_minL, f_all, f_any, f_intB, f_str, z_ll, z_tt, ad_nil, ad_cons, objAt, setAll, wipeA, wipeS, List.map_cons, List.map_nil, List.length_cons, List.length_nil, List.replicate, List.cons_append, List.nil_append, Nat.zero_add, Nat.reduceAdd, Nat.reduceSub, h7]
      exact ⟨many, W, rfl, hW, hm1, hm, by trivial, by trivial⟩
    · obtain ⟨hl, hc⟩ := row_cells hm hr
      simp only [wipeA, wipeS, bd_nm, getS, setS, setPs, setAll, List.map_cons, List.map_nil, List.replicate, List.cons_append, List.nil_append, List.length_cons, List.length_nil, Nat.zero_add, Nat.reduceAdd, Nat.reduceSub]
      refine ⟨?_, fun _ => by simp only [bodyW, e_var, e_cst, e_dct, e_bin, e_neg, e_not, e_cmp, e_cmp2, e_and, e_or, e_ite, e_tup, e_lst, e_idx, e_slc, e_rev, e_fn, e_call, es_nil, es_cons, o_none, o_some, t_tt, t_and, t_or, t_not, t_val, i_seq, i_rng, i_enm, i_zip, p_nil, p_cons, s_set, s_setO, s_unp, s_par, s_aug, s_ext, s_iff, s_ret, s_app, s_pop, s_stL, s_stD, s_appN, s_popN, s_drop, s_cont, s_brk, ss_nil, ss_cons, getS, setS, setPs, rs_val, rs_obj, rs_new, rsv_d, rsv_last, b_add, b_addL, b_addT, b_sub, b_mul, b_div, b_mod, b_pow, c_eq, c_ne, c_lt, c_le, c_gt, c_ge, c_inL, c_inT, c_niL, c_niT, c_isB, c_isN, c_isI, c_isT, c_inN, c_inI, c_inTu, tr_non, tr_bl, tr_int, tr_lst, tr_tup, x_lst, x_tup, sl_l, sl_t, rv_l, nw_f, nw_t, au_add, au_sub, au_mul, la_last, bd_nm, bd_tp, sq_l, sq_t, f_len, f_isi, f_sortD, f_sortO, f_tupL, f_tupO, f_lstT, f_lstL, f_lstD, f_min2, f_minL, f_all, f_any, f_intB, f_str, z_ll, z_tt, ad_nil, ad_cons, objAt, setAll, wipeA, wipeS, List.map_cons, List.map_nil, List.length_cons, List.length_nil, List.replicate, List.cons_append, List.nil_append, Nat.zero_add, Nat.reduceAdd, Nat.reduceSub]; exact ⟨by trivial, by trivial⟩⟩
      rw [t_val, e_fn, es_cons]
      refine lc_mapL mo r.2.2 D.int (fun c => .bl (decide (c ∈ hs))) ?_ (Nat.le_trans hl (by decide)) (fun c hc => ?_) ?_
      · simp only [bodyW, e_var, e_cst, e_dct, e_bin, e_neg, e_not, e_cmp, e_cmp2, e_and, e_or, e_ite, e_tup, e_lst, e_idx, e_slc, e_rev, e_fn, e_call, es_nil, es_cons, o_none, o_some, t_tt, t_and, t_or, t_not, t_val, i_seq, i_rng, i_enm, i_zip, p_nil, p_cons, s_set, s_setO, s_unp, s_par, s_aug, s_ext, s_iff, s_ret, s_app, s_pop, s_stL, s_stD, s_appN, s_popN, s_drop, s_cont, s_brk, ss_nil, ss_cons, getS, setS, setPs, rs_val, rs_obj, rs_new, rsv_d, rsv_last, b_add, b_addL, b_addT, b_sub, b_mul, b_div, b_mod, b_pow, c_eq, c_ne, c_lt, c_le, c_gt, c_ge, c_inL, c_inT, c_niL, c_niT, c_isB, c_isN, c_isI, c_isT, c_inN, c_inI, c_inTu, tr_non, tr_bl, tr_int, tr_lst, tr_tup, x_lst, x_tup, sl_l, sl_t, rv_l, nw_f, nw_t, au_add, au_sub, au_mul, la_last, bd_nm, bd_tp, sq_l, sq_t, f_len, f_isi, f_sortD, f_sortO, f_tupL, f_tupO, f_lstT, f_lstL, f_lstD, f_min2, f_minL, f_all, f_any, f_intB, f_str, z_ll, z_tt, ad_nil, ad_cons, objAt, setAll, wipeA, wipeS, List.map_cons, List.map_nil, List.length_cons, List.length_nil, List.replicate, List.cons_append, List.nil_append, Nat.zero_add, Nat.reduceAdd, Nat.reduceSub, Wd.d, tupI, frI, prI, ixD, at3_0, at3_1, at3_2, at2_0, at2_1, eqD, Flat, rowI]
        exact ⟨by trivial, by trivial⟩
      · simp only [bodyW, e_var, e_cst, e_dct, e_bin, e_neg, e_not, e_cmp, e_cmp2, e_and, e_or, e_ite, e_tup, e_lst, e_idx, e_slc, e_rev, e_fn, e_call, es_nil, es_cons, o_none, o_some, t_tt, t_and, t_or, t_not, t_val, i_seq, i_rng, i_enm, i_zip, p_nil, p_cons, s_set, s_setO, s_unp, s_par, s_aug, s_ext, s_iff, s_ret, s_app, s_pop, s_stL, s_stD, s_appN, s_popN, s_drop, s_cont, s_brk, ss_nil, ss_cons, getS, setS, setPs, rs_val, rs_obj, rs_new, rsv_d, rsv_last, b_add, b_addL, b_addT, b_sub, b_mul, b_div, b_mod, b_pow, c_eq, c_ne, c_lt, c_le, c_gt, c_ge, c_inL, c_inT, c_niL, c_niT, c_isB, c_isN, c_isI, c_isT, c_inN, c_inI, c_inTu, tr_non, tr_bl, tr_int, tr_lst, tr_tup, x_lst, x_tup, sl_l, sl_t, rv_l, nw_f, nw_t, au_add, au_sub, au_mul, la_last, bd_nm, bd_tp, sq_l, sq_t, f_len, f_isi, f_sortD, f_sortO, f_tupL, f_tupO, f_lstT, f_lstL, f_lstD, f_min2, f_minL, f_all, f_any, f_intB, f_str, z_ll, z_tt, ad_nil, ad_cons, objAt, setAll, wipeA, wipeS, List.map_cons, List.map_nil, List.length_cons, List.length_nil, List.replicate, List.cons_append, List.nil_append, Nat.zero_add, Nat.reduceAdd, Nat.reduceSub, tupI, inD_ints]
        exact ⟨flat_int 0 _, flat_ints 0, by trivial, by trivial⟩
      · simp only [bodyW, e_var, e_cst, e_dct, e_bin, e_neg, e_not, e_cmp, e_cmp2, e_and, e_or, e_ite, e_tup, e_lst, e_idx, e_slc, e_rev, e_fn, e_call, es_nil, es_cons, o_none, o_some, t_tt, t_and, t_or, t_not, t_val, i_seq, i_rng, i_enm, i_zip, p_nil, p_cons, s_set, s_setO, s_unp, s_par, s_aug, s_ext, s_iff, s_ret, s_app, s_pop, s_stL, s_stD, s_appN, s_popN, s_drop, s_cont, s_brk, ss_nil, ss_cons, getS, setS, setPs, rs_val, rs_obj, rs_new, rsv_d, rsv_last, b_add, b_addL, b_addT, b_sub, b_mul, b_div, b_mod, b_pow, c_eq, c_ne, c_lt, c_le, c_gt, c_ge, c_inL, c_inT, c_niL, c_niT, c_isB, c_isN, c_isI, c_isT, c_inN, c_inI, c_inTu, tr_non, tr_bl, tr_int, tr_lst, tr_tup, x_lst, x_tup, sl_l, sl_t, rv_l, nw_f, nw_t, au_add, au_sub, au_mul, la_last, bd_nm, bd_tp, sq_l, sq_t, f_len, f_isi, f_sortD, f_sortO, f_tupL, f_tupO, f_lstT, f_lstL, f_lstD, f_min2, f_minL, f_all, f_any, f_intB, f_str, z_ll, z_tt, ad_nil, ad_cons, objAt, setAll, wipeA, wipeS, List.map_cons, List.map_nil, List.length_cons, List.length_nil, List.replicate, List.cons_append, List.nil_append, Nat.zero_add, Nat.reduceAdd, Nat.reduceSub]
        refine ⟨r.2.2.map fun c => decide (c ∈ hs), by rw [List.map_map]; rfl, ?_, trivial⟩
        unfold harmB
        rw [List.all_map]
        rfl
  subst e1 e2
  show leave os1.length Q (.new (.lst ((harmL many W hs).map rowI))) os1
  rw [leave_new, tk_self]
  exact h
/-! ### a dict as a set of ints -/
def addI (K : List Int) (x : Int) : List Int := if x ∈ K then K else K ++ [x]
theorem addI_mem {K : List Int} {x y : Int} : y ∈ addI K x ↔ y ∈ K ∨ y = x := by
  unfold addI
  split
  · rename_i h
    constructor
    · exact .inl
    · rintro (h2 | rfl)
      · exact h2
      · exact h
  · simp
theorem addI_nodup {K : List Int} {x : Int} (h : K.Nodup) : (addI K x).Nodup := by
  unfold addI
  split
  · exact h
  · rename_i hx
    rw [List.nodup_append]
    exact ⟨h, by simp, fun a ha b hb => by simp at hb; subst hb; exact fun z => hx (z ▸ ha)⟩
def kvI (K : List Int) : List (Int × D) := K.map fun i => (i, .bl true)
theorem kvI_keys (K : List Int) : (kvI K).map (·.1) = K := by
  unfold kvI
  rw [List.map_map]
  exact List.map_id _
theorem putK_kvI (K : List Int) (x : Int) : putK (kvI K) x (.bl true) = kvI (addI K x) := by
  unfold putK addI
  have e : ((kvI K).any fun kv => decide (kv.1 = x)) = decide (x ∈ K) := by
    unfold kvI
    rw [List.any_map]
    by_cases h : x ∈ K
    · rw [decide_eq_true h, List.any_eq_true]
      exact ⟨x, h, by simp⟩
    · rw [decide_eq_false h, List.any_eq_false]
      intro y hy
      simp only [Function.comp, decide_eq_true_eq]
      exact fun z => h (z ▸ hy)
  rw [e]
  by_cases h : x ∈ K
  · rw [if_pos (by simpa using h), if_pos h]
    unfold kvI
    rw [List.map_map]
    refine List.map_congr_left fun y _ => ?_
    simp only [Function.comp]
    split <;> rfl
  · rw [if_neg (by simpa using h), if_neg h]
    unfold kvI
    rw [List.map_append]
    rfl
theorem sd_lastK {os : List O} (kvs : List (Int × D)) (i : Int) (v : D) {Q : List O → Prop} : stDW (os ++ [.dK kvs]) os.length (.int i) v Q = (kvs.length < lim ∧ Q (os ++ [.dK (putK kvs i v)])) := by
  unfold stDW
  simp only [g_last, s_last]
theorem f_sortK {os : List O} (kvs : List (Int × D)) {Q : R → Prop} : fnW (os ++ [.dK kvs]) .sorted [.o os.length] Q = (kvs.length < 64 ∧ ∀ ns' : List Int, ns'.Perm (kvs.map (·.1)) → ns'.Pairwise (· ≤ ·) → Q (.new (.lst (ns'.map D.int)))) := by
  have h1 : rsv (os ++ [.dK kvs]) (.o os.length) = .bad := by unfold rsv; simp
  simp only [fnW, h1, g_lastO]
/-- distinct ints below n are at most n -/
theorem ints_few {K : List Int} {n : Nat} (h : K.Nodup) (hb : ∀ c ∈ K, 0 ≤ c ∧ c < n) : K.length ≤ n := by
  have h1 : (K.map Int.toNat).Nodup := by
    unfold List.Nodup
    rw [List.pairwise_map]
    refine h.imp_of_mem fun {a b} ha hb' ne e => ne ?_
    have := hb a ha
    have := hb b hb'
    omega
  have := nat_nodup_len (K.map Int.toNat) (List.range n) h1 fun x hx => by
    obtain ⟨c, hc, rfl⟩ := List.mem_map.mp hx
    have := hb c hc
    rw [List.mem_range]
    omega
  rw [List.length_map, List.length_range] at this
  exact this
theorem lt_of_sorted {K : List Int} (h : K.Nodup) (hs : K.Pairwise (· ≤ ·)) : K.Pairwise (· < ·) := by
  have := hs.and h
  exact this.imp fun {a b} h => by have := h.1; have := h.2; omega
/-- the sorted keys of such a dict -/
theorem keys_sorted {K ns : List Int} (hK : K.Nodup) (p : ns.Perm ((kvI K).map (·.1))) (hs : ns.Pairwise (· ≤ ·)) : ns.Pairwise (· < ·) ∧ ∀ c, c ∈ ns ↔ c ∈ K := by
  rw [kvI_keys] at p
  exact ⟨lt_of_sorted (p.nodup_iff.mpr hK) hs, fun c => p.mem_iff⟩
/-- rising lists of alike members are one -/
theorem rising_one {xs ys : List Int} (h1 : xs.Pairwise (· < ·)) (h2 : ys.Pairwise (· < ·)) (h : ∀ c, c ∈ xs ↔ c ∈ ys) : xs = ys := by
  have n1 : xs.Nodup := h1.imp fun {a b} h => by omega
  have n2 : ys.Nodup := h2.imp fun {a b} h => by omega
  exact sorted_one (le := (· < ·)) (fun a b h1 h2 => by omega) ((List.perm_ext_iff_of_nodup n1 n2).mpr h) h1 h2
theorem Kp.split {k : Nat} {os os' : List O} {o : O} (h : Kp k (os ++ [o]) os') (hk : k < os.length) : ∃ os2, os' = os2 ++ [o] ∧ Kp k os os2 := by
  have hl := h.len
  rw [List.length_append, List.length_cons, List.length_nil] at hl
  refine ⟨os'.take os.length, ?_, h.cut hk⟩
  have hg : os'[os.length]? = some o := by rw [h.old os.length (by omega)]; exact g_last os o
  apply List.ext_getElem?
  intro i
  rcases Nat.lt_trichotomy i os.length with z | z | z
  · rw [List.getElem?_append_left (by rw [List.length_take]; omega), List.getElem?_take, if_pos z]
  · subst z
    rw [hg, List.getElem?_append_right (by rw [List.length_take]; omega), List.length_take, show os.length - min os.length os'.length = 0 by omega]
    rfl
  · rw [List.getElem?_eq_none (by omega), List.getElem?_eq_none (by rw [List.length_append, List.length_take, List.length_cons, List.length_nil]; omega)]
/-! ### wishes -/
structure Wish (many : Nat) (hs : List Int) : Prop where
  up : hs.Pairwise (· < ·)
  rng : ∀ c ∈ hs, 0 ≤ c ∧ c < many
theorem Wish.len {many : Nat} {hs : List Int} (h : Wish many hs) : hs.length ≤ many := ints_few (h.up.imp fun {a b} h => by omega) h.rng
theorem Wish.nodup {many : Nat} {hs : List Int} (h : Wish many hs) : hs.Nodup := h.up.imp fun {a b} h => by omega
def rngI (n : Nat) : List Int := (List.range n).map fun i : Nat => (i : Int)
theorem rngI_D (n : Nat) : rngD 0 (n : Int) = (rngI n).map D.int := by
  rw [rngD_0]
  unfold rngI
  rw [List.map_map]
  rfl
theorem wish_rng (n : Nat) : Wish n (rngI n) := by
  unfold rngI
  constructor
  · rw [List.pairwise_map]
    exact List.pairwise_lt_range.imp fun {a b} h => by omega
  · intro c hc
    obtain ⟨i, hi, rfl⟩ := List.mem_map.mp hc
    rw [List.mem_range] at hi
    omega
theorem mem_rngI {n : Nat} {c : Int} : c ∈ rngI n ↔ 0 ≤ c ∧ c < n := by
  constructor
  · exact (wish_rng n).rng c
  · intro h
    unfold rngI
    exact List.mem_map.mpr ⟨c.toNat, by rw [List.mem_range]; omega, by omega⟩
def spWished : Fun1 := fun ss os Q => ∃ (k many : Nat) (W : Wd), ss = [.o k, .d (.int many), .d W.d] ∧ Bag os k ∧ W.Ok ∧ 1 ≤ many ∧ many ≤ 30 ∧ ∀ hs os', Wish many hs → Kp k os os' → Q (.val (tupI hs)) os'
theorem w_law_wished (T : Tab) (mo : MoTab T) (h31 : T 31 = spTake) (h32 : T 32 = spOf) (h35 : T 35 = spAngle) (h36 : T 36 = spPricked) (ss : List S) (os : List O) (Q : R → List O → Prop) (h : spWished ss os Q) : bodyW T p_law_wished 7 ss os Q := by
  obtain ⟨k, many, W, rfl, hb, hW, hm1, hm, h⟩ := h
  unfold bodyW p_law_wished
  simp only [getS, setS, setPs, setAll, List.map_cons, List.map_nil, List.replicate, List.cons_append, List.nil_append, List.length_cons, List.length_nil, Nat.zero_add, Nat.reduceAdd, Nat.reduceSub]
  refine st_set mo (fun r os1 => ∃ x : Nat, r = .val (.int x) ∧ Kp k os os1) ?_ fun r os1 ⟨x, e1, k1⟩ => ?_
  · simp only [bodyW, e_var, e_cst, e_dct, e_bin, e_neg, e_not, e_cmp, e_cmp2, e_and, e_or, e_ite, e_tup, e_lst, e_idx, e_slc, e_rev, e_fn, e_call, es_nil, es_cons, o_none, o_some, t_tt, t_and, t_or, t_not, t_val, i_seq, i_rng, i_enm, i_zip, p_nil, p_cons, s_set, s_setO, s_unp, s_par, s_aug, s_ext, s_iff, s_ret, s_app, s_pop, s_stL, s_stD, s_appN, s_popN, s_drop, s_cont, s_brk, ss_nil, ss_cons, getS, setS, setPs, rs_val, rs_obj, rs_new, rsv_d, rsv_last, b_add, b_addL, b_addT, b_sub, b_mul, b_div, b_mod, b_pow, c_eq, c_ne, c_lt, c_le, c_gt, c_ge, c_inL, c_inT, c_niL, c_niT, c_isB, c_isN, c_isI, c_isT, c_inN, c_inI, c_inTu, tr_non, tr_bl, tr_int, tr_lst, tr_tup, x_lst, x_tup, sl_l, sl_t, rv_l, nw_f, nw_t, au_add, au_sub, au_mul, la_last, bd_nm, bd_tp, sq_l, sq_t, f_len, f_isi, f_sortD, f_sortO, f_tupL, f_tupO, f_lstT, f_lstL, f_lstD, f_min2, f_minL, f_all, f_any, f_intB, f_str, z_ll, z_tt, ad_nil, ad_cons, objAt, setAll, wipeA, wipeS, List.map_cons, List.map_nil, List.length_cons, List.length_nil, List.replicate, List.cons_append, List.nil_append, Nat.zero_add, Nat.reduceAdd, Nat.reduceSub, h31]
    exact ⟨k, 4, rfl, hb, by decide, by decide, fun x os' hx kp => ⟨x, rfl, kp⟩⟩
  subst e1
  simp only [getS, setS, setPs, setAll, List.map_cons, List.map_nil, List.replicate, List.cons_append, List.nil_append, List.length_cons, List.length_nil, Nat.zero_add, Nat.reduceAdd, Nat.reduceSub, rs_val]
  have hlen := k1.len
  have fin : ∀ {hs os'}, Wish many hs → Kp k os1 os' → leave os.length Q (.val (tupI hs)) os' := fun w kp => by
    have kk := k1.tr kp
    rw [leave_val, kk.tk]
    exact h _ _ w kk
  refine st_iff mo (fun b os2 => os2 = os1) (by simp only [bodyW, e_var, e_cst, e_dct, e_bin, e_neg, e_not, e_cmp, e_cmp2, e_and, e_or, e_ite, e_tup, e_lst, e_idx, e_slc, e_rev, e_fn, e_call, es_nil, es_cons, o_none, o_some, t_tt, t_and, t_or, t_not, t_val, i_seq, i_rng, i_enm, i_zip, p_nil, p_cons, s_set, s_setO, s_unp, s_par, s_aug, s_ext, s_iff, s_ret, s_app, s_pop, s_stL, s_stD, s_appN, s_popN, s_drop, s_cont, s_brk, ss_nil, ss_cons, getS, setS, setPs, rs_val, rs_obj, rs_new, rsv_d, rsv_last, b_add, b_addL, b_addT, b_sub, b_mul, b_div, b_mod, b_pow, c_eq, c_ne, c_lt, c_le, c_gt, c_ge, c_inL, c_inT, c_niL, c_niT, c_isB, c_isN, c_isI, c_isT, c_inN, c_inI, c_inTu, tr_non, tr_bl, tr_int, tr_lst, tr_tup, x_lst, x_tup, sl_l, sl_t, rv_l, nw_f, nw_t, au_add, au_sub, au_mul, la_last, bd_nm, bd_tp, sq_l, sq_t, f_len, f_isi, f_sortD, f_sortO, f_tupL, f_tupO, f_lstT, f_lstL, f_lstD, f_min2, f_minL, f_all, f_any, f_intB, f_str, z_ll, z_tt, ad_nil, ad_cons, objAt, setAll, wipeA, wipeS, List.map_cons, List.map_nil, List.length_cons, List.length_nil, List.replicate, List.cons_append, List.nil_append, Nat.zero_add, Nat.reduceAdd, Nat.reduceSub]; exact ⟨flat_int 8 _, flat_int 8 _, by trivial⟩) fun b os2 e => ?_
  subst e
  refine ite2 (fun _ => ?_) (fun _ => ?_)
  · refine st_ret mo (fun r os' => ∃ hs, r = .val (tupI hs) ∧ Wish many hs ∧ Kp k os2 os') ?_ fun r os' ⟨hs, e1, w, kp⟩ => ?_
    · rw [e_fn, es_cons]
      refine lc_i mo (fun its os' => its = rngD 0 (many : Int) ∧ os' = os2) (by simp only [bodyW, e_var, e_cst, e_dct, e_bin, e_neg, e_not, e_cmp, e_cmp2, e_and, e_or, e_ite, e_tup, e_lst, e_idx, e_slc, e_rev, e_fn, e_call, es_nil, es_cons, o_none, o_some, t_tt, t_and, t_or, t_not, t_val, i_seq, i_rng, i_enm, i_zip, p_nil, p_cons, s_set, s_setO, s_unp, s_par, s_aug, s_ext, s_iff, s_ret, s_app, s_pop, s_stL, s_stD, s_appN, s_popN, s_drop, s_cont, s_brk, ss_nil, ss_cons, getS, setS, setPs, rs_val, rs_obj, rs_new, rsv_d, rsv_last, b_add, b_addL, b_addT, b_sub, b_mul, b_div, b_mod, b_pow, c_eq, c_ne, c_lt, c_le, c_gt, c_ge, c_inL, c_inT, c_niL, c_niT, c_isB, c_isN, c_isI, c_isT, c_inN, c_inI, c_inTu, tr_non, tr_bl, tr_int, tr_lst, tr_tup, x_lst, x_tup, sl_l, sl_t, rv_l, nw_f, nw_t, au_add, au_sub, au_mul, la_last, bd_nm, bd_tp, sq_l, sq_t, f_len, f_isi, f_sortD, f_sortO, f_tupL, f_tupO, f_lstT, f_lstL, f_lstD, f_min2, f_minL, f_all, f_any, f_intB, f_str, z_ll, z_tt, ad_nil, ad_cons, objAt, setAll, wipeA, wipeS, List.map_cons, List.map_nil, List.length_cons, List.length_nil, List.replicate, List.cons_append, List.nil_append, Nat.zero_add, Nat.reduceAdd, Nat.reduceSub]; exact ⟨by omega, by trivial, by trivial⟩) fun its os' ⟨e1, e2⟩ => ?_
      subst e1 e2
      refine ⟨fun i acc os3 => ∃ hs : List Int, acc = hs.map D.int ∧ hs.Pairwise (· < ·) ∧ (∀ c ∈ hs, 0 ≤ c ∧ c < i) ∧ Kp k os' os3, ⟨[], rfl, .nil, by simp, Kp.refl k1.bag⟩, fun i y acc os3 hy ⟨hs, ea, hu, hc, kp⟩ _ => ?_, ?_, fun acc os3 ⟨hs, ea, hu, hc, kp⟩ _ => ?_⟩
      · obtain ⟨rfl, hi⟩ := rngD_get hy
        simp only [wipeA, wipeS, bd_nm, getS, setS, setPs, setAll, List.map_cons, List.map_nil, List.replicate, List.cons_append, List.nil_append, List.length_cons, List.length_nil, Nat.zero_add, Nat.reduceAdd, Nat.reduceSub]
        simp only [bodyW, e_var, e_cst, e_dct, e_bin, e_neg, e_not, e_cmp, e_cmp2, e_and, e_or, e_ite, e_tup, e_lst, e_idx, e_slc, e_rev, e_fn, e_call, es_nil, es_cons, o_none, o_some, t_tt, t_and, t_or, t_not, t_val, i_seq, i_rng, i_enm, i_zip, p_nil, p_cons, s_set, s_setO, s_unp, s_par, s_aug, s_ext, s_iff, s_ret, s_app, s_pop, s_stL, s_stD, s_appN, s_popN, s_drop, s_cont, s_brk, ss_nil, ss_cons, getS, setS, setPs, rs_val, rs_obj, rs_new, rsv_d, rsv_last, b_add, b_addL, b_addT, b_sub, b_mul, b_div, b_mod, b_pow, c_eq, c_ne, c_lt, c_le, c_gt, c_ge, c_inL, c_inT, c_niL, c_niT, c_isB, c_isN, c_isI, c_isT, c_inN, c_inI, c_inTu, tr_non, tr_bl, tr_int, tr_lst, tr_tup, x_lst, x_tup, sl_l, sl_t, rv_l, nw_f, nw_t, au_add, au_sub, au_mul, la_last, bd_nm, bd_tp, sq_l, sq_t, f_len, f_isi, f_sortD, f_sortO, f_tupL, f_tupO, f_lstT, f_lstL, f_lstD, f_min2, f_minL, f_all, f_any, f_intB, f_str, z_ll, z_tt, ad_nil, ad_cons, objAt, setAll, wipeA, wipeS, List.map_cons, List.map_nil, List.length_cons, List.length_nil, List.replicate, List.cons_append, List.nil_append, Nat.zero_add, Nat.reduceAdd, Nat.reduceSub, h31]
        refine ⟨k, 2, rfl, kp.bag, by decide, by decide, fun z os4 hz k4 => ?_⟩
        simp only [bodyW, e_var, e_cst, e_dct, e_bin, e_neg, e_not, e_cmp, e_cmp2, e_and, e_or, e_ite, e_tup, e_lst, e_idx, e_slc, e_rev, e_fn, e_call, es_nil, es_cons, o_none, o_some, t_tt, t_and, t_or, t_not, t_val, i_seq, i_rng, i_enm, i_zip, p_nil, p_cons, s_set, s_setO, s_unp, s_par, s_aug, s_ext, s_iff, s_ret, s_app, s_pop, s_stL, s_stD, s_appN, s_popN, s_drop, s_cont, s_brk, ss_nil, ss_cons, getS, setS, setPs, rs_val, rs_obj, rs_new, rsv_d, rsv_last, b_add, b_addL, b_addT, b_sub, b_mul, b_div, b_mod, b_pow, c_eq, c_ne, c_lt, c_le, c_gt, c_ge, c_inL, c_inT, c_niL, c_niT, c_isB, c_isN, c_isI, c_isT, c_inN, c_inI, c_inTu, tr_non, tr_bl, tr_int, tr_lst, tr_tup, x_lst, x_tup, sl_l, sl_t, rv_l, nw_f, nw_t, au_add, au_sub, au_mul, la_last, bd_nm, bd_tp, sq_l, sq_t, f_len, f_isi, f_sortD, f_sortO, f_tupL, f_tupO, f_lstT, f_lstL, f_lstD, f_min2, f_minL, f_all, f_any, f_intB, f_str, z_ll, z_tt, ad_nil, ad_cons, objAt, setAll, wipeA, wipeS, List.map_cons, List.map_nil, List.length_cons, List.length_nil, List.replicate, List.cons_append, List.nil_append, Nat.zero_add, Nat.reduceAdd, Nat.reduceSub]
        refine ⟨flat_int 8 _, flat_int 8 _, ?_⟩
        refine ite2 (fun _ => ?_) (fun _ => ?_)
        · refine ⟨hs ++ [(0 : Int) + i], by rw [ea, List.map_append]; rfl, ?_, ?_, kp.tr k4⟩
          · rw [List.pairwise_append]
            refine ⟨hu, by simp, fun a ha b hb => ?_⟩
            simp only [List.mem_singleton] at hb
            have := hc a ha
            omega
          · intro c hcm
            rcases List.mem_append.mp hcm with z | z
            · have := hc c z; omega
            · simp only [List.mem_singleton] at z; omega
        · exact ⟨hs, ea, hu, fun c z => by have := hc c z; omega, kp.tr k4⟩
      · rw [rngD_len]; unfold lim; omega
      · subst ea
        simp only [bodyW, e_var, e_cst, e_dct, e_bin, e_neg, e_not, e_cmp, e_cmp2, e_and, e_or, e_ite, e_tup, e_lst, e_idx, e_slc, e_rev, e_fn, e_call, es_nil, es_cons, o_none, o_some, t_tt, t_and, t_or, t_not, t_val, i_seq, i_rng, i_enm, i_zip, p_nil, p_cons, s_set, s_setO, s_unp, s_par, s_aug, s_ext, s_iff, s_ret, s_app, s_pop, s_stL, s_stD, s_appN, s_popN, s_drop, s_cont, s_brk, ss_nil, ss_cons, getS, setS, setPs, rs_val, rs_obj, rs_new, rsv_d, rsv_last, b_add, b_addL, b_addT, b_sub, b_mul, b_div, b_mod, b_pow, c_eq, c_ne, c_lt, c_le, c_gt, c_ge, c_inL, c_inT, c_niL, c_niT, c_isB, c_isN, c_isI, c_isT, c_inN, c_inI, c_inTu, tr_non, tr_bl, tr_int, tr_lst, tr_tup, x_lst, x_tup, sl_l, sl_t, rv_l, nw_f, nw_t, au_add, au_sub, au_mul, la_last, bd_nm, bd_tp, sq_l, sq_t, f_len, f_isi, f_sortD, f_sortO, f_tupL, f_tupO, f_lstT, f_lstL, f_lstD, f_min2, f_minL, f_all, f_any, f_intB, f_str, z_ll, z_tt, ad_nil, ad_cons, objAt, setAll, wipeA, wipeS, List.map_cons, List.map_nil, List.length_cons, List.length_nil, List.replicate, List.cons_append, List.nil_append, Nat.zero_add, Nat.reduceAdd, Nat.reduceSub]
        refine ⟨hs, rfl, ⟨hu, fun c z => ?_⟩, kp⟩
        have := hc c z
        rw [rngD_len] at this
        omega
    subst e1
    exact fin w kp
  · rw [ss_nil]
    refine st_iff mo (fun b os3 => os3 = os2) (by simp only [bodyW, e_var, e_cst, e_dct, e_bin, e_neg, e_not, e_cmp, e_cmp2, e_and, e_or, e_ite, e_tup, e_lst, e_idx, e_slc, e_rev, e_fn, e_call, es_nil, es_cons, o_none, o_some, t_tt, t_and, t_or, t_not, t_val, i_seq, i_rng, i_enm, i_zip, p_nil, p_cons, s_set, s_setO, s_unp, s_par, s_aug, s_ext, s_iff, s_ret, s_app, s_pop, s_stL, s_stD, s_appN, s_popN, s_drop, s_cont, s_brk, ss_nil, ss_cons, getS, setS, setPs, rs_val, rs_obj, rs_new, rsv_d, rsv_last, b_add, b_addL, b_addT, b_sub, b_mul, b_div, b_mod, b_pow, c_eq, c_ne, c_lt, c_le, c_gt, c_ge, c_inL, c_inT, c_niL, c_niT, c_isB, c_isN, c_isI, c_isT, c_inN, c_inI, c_inTu, tr_non, tr_bl, tr_int, tr_lst, tr_tup, x_lst, x_tup, sl_l, sl_t, rv_l, nw_f, nw_t, au_add, au_sub, au_mul, la_last, bd_nm, bd_tp, sq_l, sq_t, f_len, f_isi, f_sortD, f_sortO, f_tupL, f_tupO, f_lstT, f_lstL, f_lstD, f_min2, f_minL, f_all, f_any, f_intB, f_str, z_ll, z_tt, ad_nil, ad_cons, objAt, setAll, wipeA, wipeS, List.map_cons, List.map_nil, List.length_cons, List.length_nil, List.replicate, List.cons_append, List.nil_append, Nat.zero_add, Nat.reduceAdd, Nat.reduceSub]; exact ⟨flat_int 8 _, flat_int 8 _, by trivial⟩) fun b os3 e => ?_
    subst e
    refine ite2 (fun _ => ?_) (fun _ => ?_)
    · refine st_ret mo (fun r os' => ∃ hs, r = .val (tupI hs) ∧ Wish many hs ∧ Kp k os3 os') ?_ fun r os' ⟨hs, e1, w, kp⟩ => ?_
      · simp only [bodyW, e_var, e_cst, e_dct, e_bin, e_neg, e_not, e_cmp, e_cmp2, e_and, e_or, e_ite, e_tup, e_lst, e_idx, e_slc, e_rev, e_fn, e_call, es_nil, es_cons, o_none, o_some, t_tt, t_and, t_or, t_not, t_val, i_seq, i_rng, i_enm, i_zip, p_nil, p_cons, s_set, s_setO, s_unp, s_par, s_aug, s_ext, s_iff, s_ret, s_app, s_pop, s_stL, s_stD, s_appN, s_popN, s_drop, s_cont, s_brk, ss_nil, ss_cons, getS, setS, setPs, rs_val, rs_obj, rs_new, rsv_d, rsv_last, b_add, b_addL, b_addT, b_sub, b_mul, b_div, b_mod, b_pow, c_eq, c_ne, c_lt, c_le, c_gt, c_ge, c_inL, c_inT, c_niL, c_niT, c_isB, c_isN, c_isI, c_isT, c_inN, c_inI, c_inTu, tr_non, tr_bl, tr_int, tr_lst, tr_tup, x_lst, x_tup, sl_l, sl_t, rv_l, nw_f, nw_t, au_add, au_sub, au_mul, la_last, bd_nm, bd_tp, sq_l, sq_t, f_len, f_isi, f_sortD, f_sortO, f_tupL, f_tupO, f_lstT, f_lstL, f_lstD, f_min2, f_minL, f_all, f_any, f_intB, f_str, z_ll, z_tt, ad_nil, ad_cons, objAt, setAll, wipeA, wipeS, List.map_cons, List.map_nil, List.length_cons, List.length_nil, List.replicate, List.cons_append, List.nil_append, Nat.zero_add, Nat.reduceAdd, Nat.reduceSub, e_tupR, h32]
        have hl : (many : Int) ≤ lim := by unfold lim; omega
        refine ⟨by decide, ⟨by omega, hl⟩, ⟨by omega, hl⟩, by decide, by decide, k, _, rfl, k1.bag, by simp, by simp [lim], fun d os4 hd k4 => ?_⟩
        have wr := wish_rng many
        rw [rngI_D, cut_1, ← List.map_drop] at hd
        simp only [List.mem_cons, List.not_mem_nil, or_false] at hd
        rcases hd with rfl | rfl | rfl | rfl
        · exact ⟨[], rfl, ⟨.nil, by simp⟩, k4⟩
        · exact ⟨rngI many, rfl, wr, k4⟩
        · exact ⟨(rngI many).drop 1, rfl, ⟨wr.up.sublist (List.drop_sublist 1 _), fun c hc => wr.rng c (List.mem_of_mem_drop hc)⟩, k4⟩
        · exact ⟨[(many : Int) - 1], rfl, ⟨by simp, fun c hc => by simp only [List.mem_singleton] at hc; omega⟩, k4⟩
      subst e1
      exact fin w kp
    · rw [ss_nil]
      refine st_setO mo (fun r os4 => r = .new (.dK (kvI [])) ∧ os4 = os3) (by simp only [bodyW, e_var, e_cst, e_dct, e_bin, e_neg, e_not, e_cmp, e_cmp2, e_and, e_or, e_ite, e_tup, e_lst, e_idx, e_slc, e_rev, e_fn, e_call, es_nil, es_cons, o_none, o_some, t_tt, t_and, t_or, t_not, t_val, i_seq, i_rng, i_enm, i_zip, p_nil, p_cons, s_set, s_setO, s_unp, s_par, s_aug, s_ext, s_iff, s_ret, s_app, s_pop, s_stL, s_stD, s_appN, s_popN, s_drop, s_cont, s_brk, ss_nil, ss_cons, getS, setS, setPs, rs_val, rs_obj, rs_new, rsv_d, rsv_last, b_add, b_addL, b_addT, b_sub, b_mul, b_div, b_mod, b_pow, c_eq, c_ne, c_lt, c_le, c_gt, c_ge, c_inL, c_inT, c_niL, c_niT, c_isB, c_isN, c_isI, c_isT, c_inN, c_inI, c_inTu, tr_non, tr_bl, tr_int, tr_lst, tr_tup, x_lst, x_tup, sl_l, sl_t, rv_l, nw_f, nw_t, au_add, au_sub, au_mul, la_last, bd_nm, bd_tp, sq_l, sq_t, f_len, f_isi, f_sortD, f_sortO, f_tupL, f_tupO, f_lstT, f_lstL, f_lstD, f_min2, f_minL, f_all, f_any, f_intB, f_str, z_ll, z_tt, ad_nil, ad_cons, objAt, setAll, wipeA, wipeS, List.map_cons, List.map_nil, List.length_cons, List.length_nil, List.replicate, List.cons_append, List.nil_append, Nat.zero_add, Nat.reduceAdd, Nat.reduceSub]; exact ⟨by rfl, by trivial⟩) fun r os4 ⟨e1, e2⟩ => ?_
      subst e1 e2
      rw [newW_new]
      simp only [getS, setS, setPs, setAll, List.map_cons, List.map_nil, List.replicate, List.cons_append, List.nil_append, List.length_cons, List.length_nil, Nat.zero_add, Nat.reduceAdd, Nat.reduceSub]
      have hl4 : os4.length = os.length := hlen
      have hkl : k < os4.length := k1.bag.lt
      -- the dict, grown
      let Iv : List O → Prop := fun os' => ∃ (osb : List O) (K : List Int), os' = osb ++ [.dK (kvI K)] ∧ Kp k os4 osb ∧ K.Nodup ∧ ∀ c : Int, c ∈ K → 0 ≤ c ∧ c < many
      have ivB : ∀ {os'}, Iv os' → Bag os' k := fun ⟨osb, K, e, kp, _, _⟩ => by subst e; exact kp.bag.app
      have ivK : ∀ {os' os''}, Iv os' → Kp k os' os'' → Iv os'' := fun ⟨osb, K, e, kp, h1, h2⟩ kp2 => by
        subst e
        obtain ⟨o2, e2, k2⟩ := kp2.split (by rw [kp.len]; exact hkl)
        exact ⟨o2, K, e2, kp.tr k2, h1, h2⟩
      have ivP : ∀ {os'} {c : Int} {Q : List O → Prop}, Iv os' → 0 ≤ c ∧ c < many → (∀ os2, Iv os2 → Q os2) → stDW os' os4.length (.int c) (.bl true) Q := fun {os' c Q} ⟨osb, K, e, kp, h1, h2⟩ hc hq => by
        subst e
        rw [← kp.len, sd_lastK]
        have := ints_few h1 h2
        refine ⟨by unfold kvI; rw [List.length_map]; unfold lim; omega, hq _ ⟨osb, addI K c, by rw [putK_kvI], kp, addI_nodup h1, fun x hx => ?_⟩⟩
        rcases addI_mem.mp hx with z | z
        · exact h2 x z
        · rw [z]; exact hc
      refine st_for mo (fun its os' => Iv os') ?_ fun its os' iv => ?_
      · simp only [bodyW, e_var, e_cst, e_dct, e_bin, e_neg, e_not, e_cmp, e_cmp2, e_and, e_or, e_ite, e_tup, e_lst, e_idx, e_slc, e_rev, e_fn, e_call, es_nil, es_cons, o_none, o_some, t_tt, t_and, t_or, t_not, t_val, i_seq, i_rng, i_enm, i_zip, p_nil, p_cons, s_set, s_setO, s_unp, s_par, s_aug, s_ext, s_iff, s_ret, s_app, s_pop, s_stL, s_stD, s_appN, s_popN, s_drop, s_cont, s_brk, ss_nil, ss_cons, getS, setS, setPs, rs_val, rs_obj, rs_new, rsv_d, rsv_last, b_add, b_addL, b_addT, b_sub, b_mul, b_div, b_mod, b_pow, c_eq, c_ne, c_lt, c_le, c_gt, c_ge, c_inL, c_inT, c_niL, c_niT, c_isB, c_isN, c_isI, c_isT, c_inN, c_inI, c_inTu, tr_non, tr_bl, tr_int, tr_lst, tr_tup, x_lst, x_tup, sl_l, sl_t, rv_l, nw_f, nw_t, au_add, au_sub, au_mul, la_last, bd_nm, bd_tp, sq_l, sq_t, f_len, f_isi, f_sortD, f_sortO, f_tupL, f_tupO, f_lstT, f_lstL, f_lstD, f_min2, f_minL, f_all, f_any, f_intB, f_str, z_ll, z_tt, ad_nil, ad_cons, objAt, setAll, wipeA, wipeS, List.map_cons, List.map_nil, List.length_cons, List.length_nil, List.replicate, List.cons_append, List.nil_append, Nat.zero_add, Nat.reduceAdd, Nat.reduceSub, h31]
        refine ⟨k, 5, rfl, k1.bag.app, by decide, by decide, fun z os' hz kp => ?_⟩
        simp only [bodyW, e_var, e_cst, e_dct, e_bin, e_neg, e_not, e_cmp, e_cmp2, e_and, e_or, e_ite, e_tup, e_lst, e_idx, e_slc, e_rev, e_fn, e_call, es_nil, es_cons, o_none, o_some, t_tt, t_and, t_or, t_not, t_val, i_seq, i_rng, i_enm, i_zip, p_nil, p_cons, s_set, s_setO, s_unp, s_par, s_aug, s_ext, s_iff, s_ret, s_app, s_pop, s_stL, s_stD, s_appN, s_popN, s_drop, s_cont, s_brk, ss_nil, ss_cons, getS, setS, setPs, rs_val, rs_obj, rs_new, rsv_d, rsv_last, b_add, b_addL, b_addT, b_sub, b_mul, b_div, b_mod, b_pow, c_eq, c_ne, c_lt, c_le, c_gt, c_ge, c_inL, c_inT, c_niL, c_niT, c_isB, c_isN, c_isI, c_isT, c_inN, c_inI, c_inTu, tr_non, tr_bl, tr_int, tr_lst, tr_tup, x_lst, x_tup, sl_l, sl_t, rv_l, nw_f, nw_t, au_add, au_sub, au_mul, la_last, bd_nm, bd_tp, sq_l, sq_t, f_len, f_isi, f_sortD, f_sortO, f_tupL, f_tupO, f_lstT, f_lstL, f_lstD, f_min2, f_minL, f_all, f_any, f_intB, f_str, z_ll, z_tt, ad_nil, ad_cons, objAt, setAll, wipeA, wipeS, List.map_cons, List.map_nil, List.length_cons, List.length_nil, List.replicate, List.cons_append, List.nil_append, Nat.zero_add, Nat.reduceAdd, Nat.reduceSub]
        exact ⟨by omega, ivK ⟨os4, [], rfl, Kp.refl k1.bag, by simp, by simp⟩ kp⟩
      refine ⟨fun i env os' => ∃ x3 x4 x6, env = [some (.o k), some (.d (.int many)), some (.d W.d), x3, x4, some (.o os4.length), x6] ∧ x3 = some (.d (.int x)) ∧ Iv os', ⟨_, _, _, rfl, rfl, iv⟩, fun i y env os' hy ⟨x3, x4, x6, he, e3, iv⟩ => ?_, fun env os' ⟨x3, x4, x6, he, e3, iv⟩ => ?_⟩
      · subst he e3
        simp only [bd_nm, getS, setS, setPs, setAll, List.map_cons, List.map_nil, List.replicate, List.cons_append, List.nil_append, List.length_cons, List.length_nil, Nat.zero_add, Nat.reduceAdd, Nat.reduceSub]
        refine st_for mo (fun its os' => (∃ cs : List Int, its = cs.map D.int ∧ ∀ c ∈ cs, 0 ≤ c ∧ c < many) ∧ Iv os') ?_ fun its os2 ⟨⟨cs, e1, hc⟩, iv2⟩ => ?_
        · simp only [bodyW, e_var, e_cst, e_dct, e_bin, e_neg, e_not, e_cmp, e_cmp2, e_and, e_or, e_ite, e_tup, e_lst, e_idx, e_slc, e_rev, e_fn, e_call, es_nil, es_cons, o_none, o_some, t_tt, t_and, t_or, t_not, t_val, i_seq, i_rng, i_enm, i_zip, p_nil, p_cons, s_set, s_setO, s_unp, s_par, s_aug, s_ext, s_iff, s_ret, s_app, s_pop, s_stL, s_stD, s_appN, s_popN, s_drop, s_cont, s_brk, ss_nil, ss_cons, getS, setS, setPs, rs_val, rs_obj, rs_new, rsv_d, rsv_last, b_add, b_addL, b_addT, b_sub, b_mul, b_div, b_mod, b_pow, c_eq, c_ne, c_lt, c_le, c_gt, c_ge, c_inL, c_inT, c_niL, c_niT, c_isB, c_isN, c_isI, c_isT, c_inN, c_inI, c_inTu, tr_non, tr_bl, tr_int, tr_lst, tr_tup, x_lst, x_tup, sl_l, sl_t, rv_l, nw_f, nw_t, au_add, au_sub, au_mul, la_last, bd_nm, bd_tp, sq_l, sq_t, f_len, f_isi, f_sortD, f_sortO, f_tupL, f_tupO, f_lstT, f_lstL, f_lstD, f_min2, f_minL, f_all, f_any, f_intB, f_str, z_ll, z_tt, ad_nil, ad_cons, objAt, setAll, wipeA, wipeS, List.map_cons, List.map_nil, List.length_cons, List.length_nil, List.replicate, List.cons_append, List.nil_append, Nat.zero_add, Nat.reduceAdd, Nat.reduceSub, h35, h36]
          refine ⟨k, rfl, ivB iv, fun ang os2 hr h1 h2 kp => ?_⟩
          refine ⟨many, W, ang.1, ang.2, rfl, hW, hm, hr.2, by omega, by omega, ?_⟩
          simp only [bodyW, e_var, e_cst, e_dct, e_bin, e_neg, e_not, e_cmp, e_cmp2, e_and, e_or, e_ite, e_tup, e_lst, e_idx, e_slc, e_rev, e_fn, e_call, es_nil, es_cons, o_none, o_some, t_tt, t_and, t_or, t_not, t_val, i_seq, i_rng, i_enm, i_zip, p_nil, p_cons, s_set, s_setO, s_unp, s_par, s_aug, s_ext, s_iff, s_ret, s_app, s_pop, s_stL, s_stD, s_appN, s_popN, s_drop, s_cont, s_brk, ss_nil, ss_cons, getS, setS, setPs, rs_val, rs_obj, rs_new, rsv_d, rsv_last, b_add, b_addL, b_addT, b_sub, b_mul, b_div, b_mod, b_pow, c_eq, c_ne, c_lt, c_le, c_gt, c_ge, c_inL, c_inT, c_niL, c_niT, c_isB, c_isN, c_isI, c_isT, c_inN, c_inI, c_inTu, tr_non, tr_bl, tr_int, tr_lst, tr_tup, x_lst, x_tup, sl_l, sl_t, rv_l, nw_f, nw_t, au_add, au_sub, au_mul, la_last, bd_nm, bd_tp, sq_l, sq_t, f_len, f_isi, f_sortD, f_sortO, f_tupL, f_tupO, f_lstT, f_lstL, f_lstD, f_min2, f_minL, f_all, f_any, f_intB, f_str, z_ll, z_tt, ad_nil, ad_cons, objAt, setAll, wipeA, wipeS, List.map_cons, List.map_nil, List.length_cons, List.length_nil, List.replicate, List.cons_append, List.nil_append, Nat.zero_add, Nat.reduceAdd, Nat.reduceSub]
          exact ⟨⟨_, rfl, fun c hc => pricked_rng (x := ang) hc⟩, ivK iv kp⟩
        subst e1
        refine ⟨fun i env os' => ∃ x4, env = [some (.o k), some (.d (.int many)), some (.d W.d), some (.d (.int x)), x4, some (.o os4.length), some (.d y)] ∧ Iv os', ⟨_, rfl, iv2⟩, fun i c env os' hcm ⟨x4, he, iv⟩ => ?_, fun env os' ⟨x4, he, iv⟩ => ?_⟩
        · subst he
          obtain ⟨c, hcc, rfl⟩ := map_get hcm
          simp only [bd_nm, getS, setS, setPs, setAll, List.map_cons, List.map_nil, List.replicate, List.cons_append, List.nil_append, List.length_cons, List.length_nil, Nat.zero_add, Nat.reduceAdd, Nat.reduceSub]
          rw [ss_cons, s_stD]
          simp only [bodyW, e_var, e_cst, e_dct, e_bin, e_neg, e_not, e_cmp, e_cmp2, e_and, e_or, e_ite, e_tup, e_lst, e_idx, e_slc, e_rev, e_fn, e_call, es_nil, es_cons, o_none, o_some, t_tt, t_and, t_or, t_not, t_val, i_seq, i_rng, i_enm, i_zip, p_nil, p_cons, s_set, s_setO, s_unp, s_par, s_aug, s_ext, s_iff, s_ret, s_app, s_pop, s_stL, s_stD, s_appN, s_popN, s_drop, s_cont, s_brk, ss_nil, ss_cons, getS, setS, setPs, rs_val, rs_obj, rs_new, rsv_d, rsv_last, b_add, b_addL, b_addT, b_sub, b_mul, b_div, b_mod, b_pow, c_eq, c_ne, c_lt, c_le, c_gt, c_ge, c_inL, c_inT, c_niL, c_niT, c_isB, c_isN, c_isI, c_isT, c_inN, c_inI, c_inTu, tr_non, tr_bl, tr_int, tr_lst, tr_tup, x_lst, x_tup, sl_l, sl_t, rv_l, nw_f, nw_t, au_add, au_sub, au_mul, la_last, bd_nm, bd_tp, sq_l, sq_t, f_len, f_isi, f_sortD, f_sortO, f_tupL, f_tupO, f_lstT, f_lstL, f_lstD, f_min2, f_minL, f_all, f_any, f_intB, f_str, z_ll, z_tt, ad_nil, ad_cons, objAt, setAll, wipeA, wipeS, List.map_cons, List.map_nil, List.length_cons, List.length_nil, List.replicate, List.cons_append, List.nil_append, Nat.zero_add, Nat.reduceAdd, Nat.reduceSub]
          exact ivP iv (hc c (List.mem_of_getElem? hcc)) fun os2 iv2 => ⟨_, rfl, iv2⟩
        · subst he
          rw [ss_nil]
          exact ⟨_, _, _, rfl, rfl, iv⟩
      · subst he e3
        refine st_iff mo (fun b os3 => os3 = os') (by simp only [bodyW, e_var, e_cst, e_dct, e_bin, e_neg, e_not, e_cmp, e_cmp2, e_and, e_or, e_ite, e_tup, e_lst, e_idx, e_slc, e_rev, e_fn, e_call, es_nil, es_cons, o_none, o_some, t_tt, t_and, t_or, t_not, t_val, i_seq, i_rng, i_enm, i_zip, p_nil, p_cons, s_set, s_setO, s_unp, s_par, s_aug, s_ext, s_iff, s_ret, s_app, s_pop, s_stL, s_stD, s_appN, s_popN, s_drop, s_cont, s_brk, ss_nil, ss_cons, getS, setS, setPs, rs_val, rs_obj, rs_new, rsv_d, rsv_last, b_add, b_addL, b_addT, b_sub, b_mul, b_div, b_mod, b_pow, c_eq, c_ne, c_lt, c_le, c_gt, c_ge, c_inL, c_inT, c_niL, c_niT, c_isB, c_isN, c_isI, c_isT, c_inN, c_inI, c_inTu, tr_non, tr_bl, tr_int, tr_lst, tr_tup, x_lst, x_tup, sl_l, sl_t, rv_l, nw_f, nw_t, au_add, au_sub, au_mul, la_last, bd_nm, bd_tp, sq_l, sq_t, f_len, f_isi, f_sortD, f_sortO, f_tupL, f_tupO, f_lstT, f_lstL, f_lstD, f_min2, f_minL, f_all, f_any, f_intB, f_str, z_ll, z_tt, ad_nil, ad_cons, objAt, setAll, wipeA, wipeS, List.map_cons, List.map_nil, List.length_cons, List.length_nil, List.replicate, List.cons_append, List.nil_append, Nat.zero_add, Nat.reduceAdd, Nat.reduceSub]; exact ⟨flat_int 8 _, flat_int 8 _, by trivial⟩) fun b os3 e => ?_
        subst e
        have last : ∀ {os3}, Iv os3 → wpSs T (.cons (.ret (.fn .tuple (.cons (.fn .sorted (.cons (.var 5) .nil)) .nil))) .nil) { nx := fun _ os' => leave os.length Q (.val .non) os', rt := fun r os' => leave os.length Q r os' } [some (.o k), some (.d (.int many)), some (.d W.d), some (.d (.int x)), x4, some (.o os4.length), x6] os3 := fun {os3} ⟨osb, K, e, kp, h1, h2⟩ => by
          subst e
          rw [← kp.len]
          simp only [bodyW, e_var, e_cst, e_dct, e_bin, e_neg, e_not, e_cmp, e_cmp2, e_and, e_or, e_ite, e_tup, e_lst, e_idx, e_slc, e_rev, e_fn, e_call, es_nil, es_cons, o_none, o_some, t_tt, t_and, t_or, t_not, t_val, i_seq, i_rng, i_enm, i_zip, p_nil, p_cons, s_set, s_setO, s_unp, s_par, s_aug, s_ext, s_iff, s_ret, s_app, s_pop, s_stL, s_stD, s_appN, s_popN, s_drop, s_cont, s_brk, ss_nil, ss_cons, getS, setS, setPs, rs_val, rs_obj, rs_new, rsv_d, rsv_last, b_add, b_addL, b_addT, b_sub, b_mul, b_div, b_mod, b_pow, c_eq, c_ne, c_lt, c_le, c_gt, c_ge, c_inL, c_inT, c_niL, c_niT, c_isB, c_isN, c_isI, c_isT, c_inN, c_inI, c_inTu, tr_non, tr_bl, tr_int, tr_lst, tr_tup, x_lst, x_tup, sl_l, sl_t, rv_l, nw_f, nw_t, au_add, au_sub, au_mul, la_last, bd_nm, bd_tp, sq_l, sq_t, f_len, f_isi, f_sortD, f_sortO, f_tupL, f_tupO, f_lstT, f_lstL, f_lstD, f_min2, f_minL, f_all, f_any, f_intB, f_str, z_ll, z_tt, ad_nil, ad_cons, objAt, setAll, wipeA, wipeS, List.map_cons, List.map_nil, List.length_cons, List.length_nil, List.replicate, List.cons_append, List.nil_append, Nat.zero_add, Nat.reduceAdd, Nat.reduceSub, f_sortK]
          have := ints_few h1 h2
          refine ⟨by unfold kvI; rw [List.length_map]; omega, fun ns' hp hs => ?_⟩
          obtain ⟨z1, z2⟩ := keys_sorted h1 hp hs
          have kk := k1.tr kp
          rw [leave_val, show (osb ++ [O.dK (kvI K)]).take os.length = osb by rw [← kk.len]; simp]
          exact h _ _ ⟨z1, fun c hc => h2 c ((z2 c).mp hc)⟩ kk
        refine ite2 (fun _ => ?_) (fun _ => ?_)
        · rw [ss_cons, s_stD]
          simp only [bodyW, e_var, e_cst, e_dct, e_bin, e_neg, e_not, e_cmp, e_cmp2, e_and, e_or, e_ite, e_tup, e_lst, e_idx, e_slc, e_rev, e_fn, e_call, es_nil, es_cons, o_none, o_some, t_tt, t_and, t_or, t_not, t_val, i_seq, i_rng, i_enm, i_zip, p_nil, p_cons, s_set, s_setO, s_unp, s_par, s_aug, s_ext, s_iff, s_ret, s_app, s_pop, s_stL, s_stD, s_appN, s_popN, s_drop, s_cont, s_brk, ss_nil, ss_cons, getS, setS, setPs, rs_val, rs_obj, rs_new, rsv_d, rsv_last, b_add, b_addL, b_addT, b_sub, b_mul, b_div, b_mod, b_pow, c_eq, c_ne, c_lt, c_le, c_gt, c_ge, c_inL, c_inT, c_niL, c_niT, c_isB, c_isN, c_isI, c_isT, c_inN, c_inI, c_inTu, tr_non, tr_bl, tr_int, tr_lst, tr_tup, x_lst, x_tup, sl_l, sl_t, rv_l, nw_f, nw_t, au_add, au_sub, au_mul, la_last, bd_nm, bd_tp, sq_l, sq_t, f_len, f_isi, f_sortD, f_sortO, f_tupL, f_tupO, f_lstT, f_lstL, f_lstD, f_min2, f_minL, f_all, f_any, f_intB, f_str, z_ll, z_tt, ad_nil, ad_cons, objAt, setAll, wipeA, wipeS, List.map_cons, List.map_nil, List.length_cons, List.length_nil, List.replicate, List.cons_append, List.nil_append, Nat.zero_add, Nat.reduceAdd, Nat.reduceSub, h31]
          refine ⟨k, many, rfl, ivB iv, by omega, by omega, fun z os4 hz kp => ?_⟩
          simp only [bodyW, e_var, e_cst, e_dct, e_bin, e_neg, e_not, e_cmp, e_cmp2, e_and, e_or, e_ite, e_tup, e_lst, e_idx, e_slc, e_rev, e_fn, e_call, es_nil, es_cons, o_none, o_some, t_tt, t_and, t_or, t_not, t_val, i_seq, i_rng, i_enm, i_zip, p_nil, p_cons, s_set, s_setO, s_unp, s_par, s_aug, s_ext, s_iff, s_ret, s_app, s_pop, s_stL, s_stD, s_appN, s_popN, s_drop, s_cont, s_brk, ss_nil, ss_cons, getS, setS, setPs, rs_val, rs_obj, rs_new, rsv_d, rsv_last, b_add, b_addL, b_addT, b_sub, b_mul, b_div, b_mod, b_pow, c_eq, c_ne, c_lt, c_le, c_gt, c_ge, c_inL, c_inT, c_niL, c_niT, c_isB, c_isN, c_isI, c_isT, c_inN, c_inI, c_inTu, tr_non, tr_bl, tr_int, tr_lst, tr_tup, x_lst, x_tup, sl_l, sl_t, rv_l, nw_f, nw_t, au_add, au_sub, au_mul, la_last, bd_nm, bd_tp, sq_l, sq_t, f_len, f_isi, f_sortD, f_sortO, f_tupL, f_tupO, f_lstT, f_lstL, f_lstD, f_min2, f_minL, f_all, f_any, f_intB, f_str, z_ll, z_tt, ad_nil, ad_cons, objAt, setAll, wipeA, wipeS, List.map_cons, List.map_nil, List.length_cons, List.length_nil, List.replicate, List.cons_append, List.nil_append, Nat.zero_add, Nat.reduceAdd, Nat.reduceSub]
          exact ivP (ivK iv kp) (by omega) fun os2 iv2 => last iv2
        · rw [ss_nil]
          exact last iv
section
variable {ss : List S} {os : List O} {Q Q' : R → List O → Prop}
theorem mo_spHarmless : spHarmless ss os Q → (∀ r os', Q r os' → Q' r os') → spHarmless ss os Q' := by unfold spHarmless; (intro h hq; revert h; (repeat' (first | (refine Exists.imp fun _ => ?_) | (refine And.imp_right ?_))); intro h; first | exact hq _ _ h | (intros; apply hq; apply h <;> assumption))
theorem mo_spWished : spWished ss os Q → (∀ r os', Q r os' → Q' r os') → spWished ss os Q' := by unfold spWished; (intro h hq; revert h; (repeat' (first | (refine Exists.imp fun _ => ?_) | (refine And.imp_right ?_))); intro h; first | exact hq _ _ h | (intros; apply hq; apply h <;> assumption))
end
end N66

/-! N66, light. -/
namespace N66
open PySem PySem.Spec L2
def p_light : Ss := .cons (.setO 3 (.lst .nil)) (.cons (.for_ (.tp [4, 5, 6]) (.seq (.call 8 (.cons (.var 0) (.cons (.var 1) (.cons (.var 2) .nil))))) (.cons (.iff (.and (.val (.var 3)) (.val (.cmp .Eq (.idx (.idx (.var 3) (.neg (.cst (.int 1)))) (.cst (.int 1))) (.var 4)))) (.cons (.stL 3 (.neg (.cst (.int 1))) (.tup (.cons (.idx (.idx (.var 3) (.neg (.cst (.int 1)))) (.cst (.int 0))) (.cons (.var 5) .nil)))) .nil) (.cons (.app 3 (.tup (.cons (.var 4) (.cons (.var 5) .nil)))) .nil)) .nil)) (.cons (.ret (.var 3)) .nil))
def p_law_less : Ss := .cons (.ret (.cmp .Lt (.bin .Mult (.idx (.var 0) (.cst (.int 0))) (.idx (.var 1) (.cst (.int 1)))) (.bin .Mult (.idx (.var 1) (.cst (.int 0))) (.idx (.var 0) (.cst (.int 1)))))) .nil
def p_law_is_lit : Ss := .cons (.ret (.cmp .NotEq (.lc (.var 2) (.nm 2) (.seq (.var 0)) (.and (.not (.val (.call 51 (.cons (.var 1) (.cons (.idx (.var 2) (.cst (.int 0))) .nil))))) (.val (.call 51 (.cons (.var 1) (.cons (.idx (.var 2) (.cst (.int 1))) .nil))))) [2]) (.lst .nil))) .nil
def p_law_lit : Ss := .cons (.setO 3 (.lst .nil)) (.cons (.for_ (.tp [4, 5, 6]) (.seq (.call 38 (.cons (.var 0) (.cons (.var 1) .nil)))) (.cons (.iff (.val (.cmp .Eq (.lc (.var 7) (.nm 7) (.seq (.var 6)) (.val (.cmp .NotIn (.var 7) (.var 2))) [7]) (.lst .nil))) (.cons (.iff (.and (.val (.cmp .NotEq (.var 3) (.lst .nil))) (.val (.cmp .Eq (.idx (.idx (.var 3) (.neg (.cst (.int 1)))) (.cst (.int 1))) (.var 4)))) (.cons (.stL 3 (.neg (.cst (.int 1))) (.tup (.cons (.idx (.idx (.var 3) (.neg (.cst (.int 1)))) (.cst (.int 0))) (.cons (.var 5) .nil)))) .nil) (.cons (.app 3 (.tup (.cons (.var 4) (.cons (.var 5) .nil)))) .nil)) .nil) .nil) .nil)) (.cons (.ret (.var 3)) .nil))
abbrev Fr := Nat × Nat
def joinS (acc : List (Fr × Fr)) (p : Fr × Fr) : List (Fr × Fr) := match acc.getLast? with
  | some l => if l.2 = p.1 then acc.dropLast ++ [(l.1, p.2)] else acc ++ [p]
  | none => acc ++ [p]
def lightOf (ps : List (Fr × Fr)) : List (Fr × Fr) := ps.foldl joinS []
def rowE (r : Row) : Fr × Fr := (r.1, r.2.1)
def lightL (many : Nat) (W : Wd) (hs : List Int) : List (Fr × Fr) := lightOf ((harmL many W hs).map rowE)
def litI (p : Fr × Fr) : D := .tup [frI p.1, frI p.2]
theorem lightOf_snoc (ps : List (Fr × Fr)) (p : Fr × Fr) : lightOf (ps ++ [p]) = joinS (lightOf ps) p := by
  unfold lightOf
  rw [List.foldl_append]
  rfl
theorem joinS_len (acc : List (Fr × Fr)) (p : Fr × Fr) : (joinS acc p).length ≤ acc.length + 1 := by
  unfold joinS
  split
  · split
    · simp
    · simp
  · simp
theorem lightOf_len (ps : List (Fr × Fr)) : (lightOf ps).length ≤ ps.length := by
  have : ∀ (ps acc : List (Fr × Fr)), (ps.foldl joinS acc).length ≤ acc.length + ps.length := by
    intro ps
    induction ps with
    | nil => intro acc; simp
    | cons p ps ih =>
      intro acc
      have h1 := ih (joinS acc p)
      have h2 := joinS_len acc p
      simp only [List.foldl_cons, List.length_cons]; omega
  have := this ps []
  simpa [lightOf] using this
def spLight : Fun1 := fun ss os Q => ∃ (many : Nat) (W : Wd) (hs : List Int), ss = [.d (.int many), .d W.d, .d (tupI hs)] ∧ W.Ok ∧ 1 ≤ many ∧ many ≤ 30 ∧ Q (.new (.lst ((lightL many W hs).map litI))) os
def spLLit (P : Addr) (q : Str) : Fun1 := fun ss os Q => ∃ (many : Nat) (W : Wd) (hs : List Int), ss = [.d (.int many), .d W.d, .d (tupI hs)] ∧ W.Ok ∧ 1 ≤ many ∧ many ≤ 30 ∧ os[1]? = some (.tbl P q) ∧ Q (.new (.lst ((lightL many W hs).map litI))) os
theorem snoc_cases {α : Type} (L : List α) : L = [] ∨ ∃ l x, L = l ++ [x] := by
  cases h : L.getLast? with
  | none => exact .inl (by simpa using h)
  | some x => exact .inr ⟨L.dropLast, x, by
      have hn : L ≠ [] := by rintro rfl; cases h
      have := List.dropLast_concat_getLast hn
      rw [List.getLast?_eq_some_getLast hn] at h
      cases h
      exact this.symm⟩
theorem joinS_nil (p : Fr × Fr) : joinS [] p = [p] := rfl
theorem joinS_snoc (l : List (Fr × Fr)) (x p : Fr × Fr) : joinS (l ++ [x]) p = if x.2 = p.1 then l ++ [(x.1, p.2)] else l ++ [x] ++ [p] := by
  unfold joinS
  rw [List.getLast?_append]
  simp
theorem eq_frI (x y : Fr) : eqD (frI x) (frI y) = decide (x = y) := by
  unfold frI
  rw [eq_tupI]
  refine decide_eq_decide.mpr ?_
  simp only [List.cons.injEq, Int.natCast_inj, and_true]
  exact ⟨fun h => Prod.ext h.1 h.2, fun h => by rw [h]; exact ⟨rfl, rfl⟩⟩
theorem flat_frI (n : Nat) (x : Fr) : Flat (n + 1) (frI x) := flat_tupI n _
theorem ix_neg1 {n : Nat} (h : 0 < n) : ixN n (-1) = some (n - 1) := by
  unfold ixN
  rw [if_neg (by decide), if_pos (by omega)]
  congr 1
  omega
theorem set_last {α : Type} (l : List α) (x y : α) : (l ++ [x]).set ((l ++ [x]).length - 1) y = l ++ [y] := by
  rw [List.length_append, List.length_cons, List.length_nil, show l.length + (0 + 1) - 1 = l.length by omega, List.set_append_right _ _ (Nat.le_refl _)]
  simp
/-- the loop's turn, as both write it -/
theorem lit_step {T : Tab} {P : DEnds} {env : Env} {os : List O} {acc : List (Fr × Fr)} {a b : Fr} (c : Ts) (e3 : getS env 3 = some (.o os.length)) (e4 : getS env 4 = some (.d (frI a))) (e5 : getS env 5 = some (.d (frI b))) (hl : acc.length < 50000)
    (hc : ∀ (os : List O) (Q : Bool → List O → Prop), getS env 3 = some (.o os.length) → Q (!acc.isEmpty) (os ++ [.lst (acc.map litI)]) → wpT T c env (os ++ [.lst (acc.map litI)]) Q)
    (q : P.nx env (os ++ [.lst ((joinS acc (a, b)).map litI)])) :
    wpSs T (.cons (.iff (.and c (.val (.cmp .Eq (.idx (.idx (.var 3) (.neg (.cst (.int 1)))) (.cst (.int 1))) (.var 4)))) (.cons (.stL 3 (.neg (.cst (.int 1))) (.tup (.cons (.idx (.idx (.var 3) (.neg (.cst (.int 1)))) (.cst (.int 0))) (.cons (.var 5) .nil)))) .nil) (.cons (.app 3 (.tup (.cons (.var 4) (.cons (.var 5) .nil)))) .nil)) .nil) P env (os ++ [.lst (acc.map litI)]) := by
  have app : P.nx env (os ++ [.lst ((acc ++ [(a, b)]).map litI)]) → wpSs T (.cons (.app 3 (.tup (.cons (.var 4) (.cons (.var 5) .nil)))) .nil) { P with nx := wpSs T .nil P } env (os ++ [.lst (acc.map litI)]) := fun q => by
    rw [ss_cons, s_app]
    simp only [objAt, e3, la_last, e_tup, es_cons, es_nil, e_var, e4, e5, rs_val, ad_cons, ad_nil, List.length_cons, List.length_nil, s_last, ss_nil]
    refine ⟨by decide, by rw [List.length_map]; unfold lim; omega, ?_⟩
    rw [List.map_append] at q
    exact q
  rw [ss_cons, s_iff, t_and]
  refine hc os _ e3 ?_
  rcases snoc_cases acc with rfl | ⟨l, x, rfl⟩
  · refine ifn (by decide) ?_
    refine ifn (by decide) ?_
    exact app q
  · refine ifp (by simp) ?_
    rw [joinS_snoc] at q
    simp only [t_val, e_cmp, e_idx, e_var, e3, e4, e_neg, e_cst, rs_val, rs_obj, rsv_d, rsv_last, x_lst, x_tup, ixD, List.map_append, List.map_cons, List.map_nil, at_last1, litI, at2_1, c_eq, tr_bl, cmpS]
    refine ⟨flat_frI 7 _, flat_frI 7 _, ?_⟩
    by_cases hx : x.2 = a
    · rw [if_pos hx] at q
      refine ifp ((eq_frI _ _).trans (decide_eq_true hx)) ?_
      rw [ss_cons, s_stL]
      simp only [objAt, e3, e_tup, es_cons, es_nil, e_idx, e_var, e_neg, e_cst, e5, rs_val, rs_obj, rsv_d, rsv_last, x_lst, x_tup, ixD, at_last1, at2_0, ad_cons, ad_nil, List.length_cons, List.length_nil, la_last, List.length_append, List.length_map, ss_nil]
      refine ⟨by decide, ?_⟩
      rw [ix_neg1 (by omega)]
      simp only [s_last]
      have := set_last (l.map litI) (D.tup [frI x.1, frI x.2]) (D.tup [frI x.1, frI b])
      simp only [List.length_append, List.length_cons, List.length_nil, List.length_map] at this
      rw [this]
      rw [List.map_append] at q
      exact q
    · rw [if_neg hx] at q
      refine ifn (fun z => hx (of_decide_eq_true ((eq_frI _ _).symm.trans z))) ?_
      have := app q
      rw [List.map_append] at this
      exact this
theorem rowI3 (r : Row) : rowI r = .tup [frI r.1, frI r.2.1, tupI r.2.2] := rfl
theorem w_light (T : Tab) (mo : MoTab T) (h8 : T 8 = spHarmless) (ss : List S) (os : List O) (Q : R → List O → Prop) (h : spLight ss os Q) : bodyW T p_light 7 ss os Q := by
  obtain ⟨many, W, hs, rfl, hW, hm1, hm, h⟩ := h
  unfold bodyW p_light
  simp only [getS, setS, setPs, setAll, List.map_cons, List.map_nil, List.replicate, List.cons_append, List.nil_append, List.length_cons, List.length_nil, Nat.zero_add, Nat.reduceAdd, Nat.reduceSub]
  refine st_setO mo (fun r os1 => r = .new (.lst []) ∧ os1 = os) (by simp only [bodyW, e_var, e_cst, e_dct, e_bin, e_neg, e_not, e_cmp, e_cmp2, e_and, e_or, e_ite, e_tup, e_lst, e_idx, e_slc, e_rev, e_fn, e_call, es_nil, es_cons, o_none, o_some, t_tt, t_and, t_or, t_not, t_val, i_seq, i_rng, i_enm, i_zip, p_nil, p_cons, s_set, s_setO, s_unp, s_par, s_aug, s_ext, s_iff, s_ret, s_app, s_pop, s_stL, s_stD, s_appN, s_popN, s_drop, s_cont, s_brk, ss_nil, ss_cons, getS, setS, setPs, rs_val, rs_obj, rs_new, rsv_d, rsv_last, b_add, b_addL, b_addT, b_sub, b_mul, b_div, b_mod, b_pow, c_eq, c_ne, c_lt, c_le, c_gt, c_ge, c_inL, c_inT, c_niL, c_niT, c_isB, c_isN, c_isI, c_isT, c_inN, c_inI, c_inTu, tr_non, tr_bl, tr_int, tr_lst, tr_tup, x_lst, x_tup, sl_l, sl_t, rv_l, nw_f, nw_t, au_add, au_sub, au_mul, la_last, bd_nm, bd_tp, sq_l, sq_t, f_len, f_isi, f_sortD, f_sortO, f_tupL, f_tupO, f_lstT, f_lstL, f_lstD, f_min2, f_minL, f_all, f_any, f_intB, f_str, z_ll, z_tt, ad_nil, ad_cons, objAt, setAll, wipeA, wipeS, List.map_cons, List.map_nil, List.length_cons, List.length_nil, List.replicate, List.cons_append, List.nil_append, Nat.zero_add, Nat.reduceAdd, Nat.reduceSub]; exact ⟨by decide, by trivial, by trivial⟩) fun r os1 ⟨e1, e2⟩ => ?_
  subst e1 e2
  rw [newW_new]
  simp only [getS, setS, setPs, setAll, List.map_cons, List.map_nil, List.replicate, List.cons_append, List.nil_append, List.length_cons, List.length_nil, Nat.zero_add, Nat.reduceAdd, Nat.reduceSub]
  refine st_for mo (fun its os2 => its = (harmL many W hs).map rowI ∧ os2 = os1 ++ [.lst []]) (by simp only [bodyW, e_var, e_cst, e_dct, e_bin, e_neg, e_not, e_cmp, e_cmp2, e_and, e_or, e_ite, e_tup, e_lst, e_idx, e_slc, e_rev, e_fn, e_call, es_nil, es_cons, o_none, o_some, t_tt, t_and, t_or, t_not, t_val, i_seq, i_rng, i_enm, i_zip, p_nil, p_cons, s_set, s_setO, s_unp, s_par, s_aug, s_ext, s_iff, s_ret, s_app, s_pop, s_stL, s_stD, s_appN, s_popN, s_drop, s_cont, s_brk, ss_nil, ss_cons, getS, setS, setPs, rs_val, rs_obj, rs_new, rsv_d, rsv_last, b_add, b_addL, b_addT, b_sub, b_mul, b_div, b_mod, b_pow, c_eq, c_ne, c_lt, c_le, c_gt, c_ge, c_inL, c_inT, c_niL, c_niT, c_isB, c_isN, c_isI, c_isT, c_inN, c_inI, c_inTu, tr_non, tr_bl, tr_int, tr_lst, tr_tup, x_lst, x_tup, sl_l, sl_t, rv_l, nw_f, nw_t, au_add, au_sub, au_mul, la_last, bd_nm, bd_tp, sq_l, sq_t, f_len, f_isi, f_sortD, f_sortO, f_tupL, f_tupO, f_lstT, f_lstL, f_lstD, f_min2, f_minL, f_all, f_any, f_intB, f_str, z_ll, z_tt, ad_nil, ad_cons, objAt, setAll, wipeA, wipeS, List.map_cons, List.map_nil, List.length_cons, List.length_nil, List.replicate, List.cons_append, List.nil_append, Nat.zero_add, Nat.reduceAdd, Nat.reduceSub, h8]; exact ⟨many, W, hs, rfl, hW, hm1, hm, by trivial, by trivial⟩) fun its os2 ⟨e1, e2⟩ => ?_
  subst e1 e2
  refine ⟨fun i env os' => ∃ x4 x5 x6, env = [some (.d (.int many)), some (.d W.d), some (.d (tupI hs)), some (.o os1.length), x4, x5, x6] ∧ os' = os1 ++ [.lst ((lightOf (((harmL many W hs).take i).map rowE)).map litI)], ⟨_, _, _, rfl, rfl⟩, fun i x env os' hx ⟨x4, x5, x6, he, ho⟩ => ?_, fun env os' ⟨x4, x5, x6, he, ho⟩ => ?_⟩
  · subst he ho
    obtain ⟨r, hr, rfl⟩ := map_get hx
    simp only [rowI3, bd_tp, getS, setS, setPs, setAll, List.map_cons, List.map_nil, List.replicate, List.cons_append, List.nil_append, List.length_cons, List.length_nil, Nat.zero_add, Nat.reduceAdd, Nat.reduceSub]
    refine lit_step _ rfl rfl rfl ?_ (fun os Q e3 q => ?_) ⟨_, _, _, rfl, ?_⟩
    · have h1 := lightOf_len (((harmL many W hs).take i).map rowE)
      rw [List.length_map, List.length_take] at h1
      have h2 : (harmL many W hs).length ≤ (rowsL many W).length := List.length_filter_le _ _
      have h3 := rowsL_len (W := W) hm
      omega
    · simp only [t_val, e_var, e3, rs_obj, rsv_last, tr_lst]
      rw [List.isEmpty_map]
      exact q
    · rw [take_snoc hr, List.map_append]
      show _ = os1 ++ [O.lst ((lightOf (_ ++ [(r.1, r.2.1)])).map litI)]
      rw [lightOf_snoc]
  · subst he ho
    rw [List.length_map, List.take_length]
    refine st_ret mo (fun r os' => r = .obj os1.length ∧ os' = os1 ++ [.lst ((lightL many W hs).map litI)]) (by simp only [bodyW, e_var, e_cst, e_dct, e_bin, e_neg, e_not, e_cmp, e_cmp2, e_and, e_or, e_ite, e_tup, e_lst, e_idx, e_slc, e_rev, e_fn, e_call, es_nil, es_cons, o_none, o_some, t_tt, t_and, t_or, t_not, t_val, i_seq, i_rng, i_enm, i_zip, p_nil, p_cons, s_set, s_setO, s_unp, s_par, s_aug, s_ext, s_iff, s_ret, s_app, s_pop, s_stL, s_stD, s_appN, s_popN, s_drop, s_cont, s_brk, ss_nil, ss_cons, getS, setS, setPs, rs_val, rs_obj, rs_new, rsv_d, rsv_last, b_add, b_addL, b_addT, b_sub, b_mul, b_div, b_mod, b_pow, c_eq, c_ne, c_lt, c_le, c_gt, c_ge, c_inL, c_inT, c_niL, c_niT, c_isB, c_isN, c_isI, c_isT, c_inN, c_inI, c_inTu, tr_non, tr_bl, tr_int, tr_lst, tr_tup, x_lst, x_tup, sl_l, sl_t, rv_l, nw_f, nw_t, au_add, au_sub, au_mul, la_last, bd_nm, bd_tp, sq_l, sq_t, f_len, f_isi, f_sortD, f_sortO, f_tupL, f_tupO, f_lstT, f_lstL, f_lstD, f_min2, f_minL, f_all, f_any, f_intB, f_str, z_ll, z_tt, ad_nil, ad_cons, objAt, setAll, wipeA, wipeS, List.map_cons, List.map_nil, List.length_cons, List.length_nil, List.replicate, List.cons_append, List.nil_append, Nat.zero_add, Nat.reduceAdd, Nat.reduceSub]; exact ⟨by trivial, by rfl⟩) fun r os' ⟨e1, e2⟩ => ?_
    subst e1 e2
    show leave os1.length Q (.obj os1.length) (os1 ++ [.lst ((lightL many W hs).map litI)])
    rw [leave_last]
    exact h
theorem w_law_lit (T : Tab) (mo : MoTab T) {P : Addr} {q : Str} (h38 : T 38 = spLStretches P q) (ss : List S) (os : List O) (Q : R → List O → Prop) (h : spLLit P q ss os Q) : bodyW T p_law_lit 8 ss os Q := by
  obtain ⟨many, W, hs, rfl, hW, hm1, hm, ho, h⟩ := h
  unfold bodyW p_law_lit
  simp only [getS, setS, setPs, setAll, List.map_cons, List.map_nil, List.replicate, List.cons_append, List.nil_append, List.length_cons, List.length_nil, Nat.zero_add, Nat.reduceAdd, Nat.reduceSub]
  refine st_setO mo (fun r os1 => r = .new (.lst []) ∧ os1 = os) (by simp only [bodyW, e_var, e_cst, e_dct, e_bin, e_neg, e_not, e_cmp, e_cmp2, e_and, e_or, e_ite, e_tup, e_lst, e_idx, e_slc, e_rev, e_fn, e_call, es_nil, es_cons, o_none, o_some, t_tt, t_and, t_or, t_not, t_val, i_seq, i_rng, i_enm, i_zip, p_nil, p_cons, s_set, s_setO, s_unp, s_par, s_aug, s_ext, s_iff, s_ret, s_app, s_pop, s_stL, s_stD, s_appN, s_popN, s_drop, s_cont, s_brk, ss_nil, ss_cons, getS, setS, setPs, rs_val, rs_obj, rs_new, rsv_d, rsv_last, b_add, b_addL, b_addT, b_sub, b_mul, b_div, b_mod, b_pow, c_eq, c_ne, c_lt, c_le, c_gt, c_ge, c_inL, c_inT, c_niL, c_niT, c_isB, c_isN, c_isI, c_isT, c_inN, c_inI, c_inTu, tr_non, tr_bl, tr_int, tr_lst, tr_tup, x_lst, x_tup, sl_l, sl_t, rv_l, nw_f, nw_t, au_add, au_sub, au_mul, la_last, bd_nm, bd_tp, sq_l, sq_t, f_len, f_isi, f_sortD, f_sortO, f_tupL, f_tupO, f_lstT, f_lstL, f_lstD, f_min2, f_minL, f_all, f_any, f_intB, f_str, z_ll, z_tt, ad_nil, ad_cons, objAt, setAll, wipeA, wipeS, List.map_cons, List.map_nil, List.length_cons, List.length_nil, List.replicate, List.cons_append, List.nil_append, Nat.zero_add, Nat.reduceAdd, Nat.reduceSub]; exact ⟨by decide, by trivial, by trivial⟩) fun r os1 ⟨e1, e2⟩ => ?_
  subst e1 e2
  rw [newW_new]
  simp only [getS, setS, setPs, setAll, List.map_cons, List.map_nil, List.replicate, List.cons_append, List.nil_append, List.length_cons, List.length_nil, Nat.zero_add, Nat.reduceAdd, Nat.reduceSub]
  refine st_for mo (fun its os2 => its = (rowsL many W).map rowI ∧ os2 = os1 ++ [.lst []]) (by simp only [bodyW, e_var, e_cst, e_dct, e_bin, e_neg, e_not, e_cmp, e_cmp2, e_and, e_or, e_ite, e_tup, e_lst, e_idx, e_slc, e_rev, e_fn, e_call, es_nil, es_cons, o_none, o_some, t_tt, t_and, t_or, t_not, t_val, i_seq, i_rng, i_enm, i_zip, p_nil, p_cons, s_set, s_setO, s_unp, s_par, s_aug, s_ext, s_iff, s_ret, s_app, s_pop, s_stL, s_stD, s_appN, s_popN, s_drop, s_cont, s_brk, ss_nil, ss_cons, getS, setS, setPs, rs_val, rs_obj, rs_new, rsv_d, rsv_last, b_add, b_addL, b_addT, b_sub, b_mul, b_div, b_mod, b_pow, c_eq, c_ne, c_lt, c_le, c_gt, c_ge, c_inL, c_inT, c_niL, c_niT, c_isB, c_isN, c_isI, c_isT, c_inN, c_inI, c_inTu, tr_non, tr_bl, tr_int, tr_lst, tr_tup, x_lst, x_tup, sl_l, sl_t, rv_l, nw_f, nw_t, au_add, au_sub, au_mul, la_last, bd_nm, bd_tp, sq_l, sq_t, f_len, f_isi, f_sortD, f_sortO, f_tupL, f_tupO, f_lstT, f_lstL, f_lstD, f_min2, f_minL, f_all, f_any, f_intB, f_str, z_ll, z_tt, ad_nil, ad_cons, objAt, setAll, wipeA, wipeS, List.map_cons, List.map_nil, List.length_cons, List.length_nil, List.replicate, List.cons_append, List.nil_append, Nat.zero_add, Nat.reduceAdd, Nat.reduceSub, h38]; exact ⟨many, W, rfl, hW, hm1, hm, get_app ho, by trivial, by trivial⟩) fun its os2 ⟨e1, e2⟩ => ?_
  subst e1 e2
  refine ⟨fun i env os' => ∃ x4 x5 x6 x7, env = [some (.d (.int many)), some (.d W.d), some (.d (tupI hs)), some (.o os1.length), x4, x5, x6, x7] ∧ os' = os1 ++ [.lst ((lightOf ((((rowsL many W).take i).filter (harmB hs)).map rowE)).map litI)], ⟨_, _, _, _, rfl, rfl⟩, fun i x env os' hx ⟨x4, x5, x6, x7, he, ho⟩ => ?_, fun env os' ⟨x4, x5, x6, x7, he, ho⟩ => ?_⟩
  · subst he ho
    obtain ⟨r, hr, rfl⟩ := map_get hx
    obtain ⟨hrl, hrc⟩ := row_cells hm (List.mem_of_getElem? hr)
    simp only [rowI3, bd_tp, getS, setS, setPs, setAll, List.map_cons, List.map_nil, List.replicate, List.cons_append, List.nil_append, List.length_cons, List.length_nil, Nat.zero_add, Nat.reduceAdd, Nat.reduceSub]
    have hb : ∀ L : List Int, ((L.filter fun c => !decide (c ∈ hs)).isEmpty) = L.all fun c => decide (c ∈ hs) := fun L => by
      induction L with
      | nil => rfl
      | cons c L ih =>
        rw [List.filter_cons, List.all_cons, ← ih]
        by_cases z : c ∈ hs <;> simp [z]
    refine st_iff mo (fun b os2 => b = harmB hs r ∧ os2 = os1 ++ [.lst ((lightOf ((((rowsL many W).take i).filter (harmB hs)).map rowE)).map litI)]) ?_ fun b os2 ⟨e1, e2⟩ => ?_
    · rw [t_val, e_cmp]
      refine lc_filL mo r.2.2 D.int D.int (fun c => !decide (c ∈ hs)) ?_ (Nat.le_trans hrl (by decide)) (fun c hc => ?_) ?_
      · simp only [bodyW, e_var, e_cst, e_dct, e_bin, e_neg, e_not, e_cmp, e_cmp2, e_and, e_or, e_ite, e_tup, e_lst, e_idx, e_slc, e_rev, e_fn, e_call, es_nil, es_cons, o_none, o_some, t_tt, t_and, t_or, t_not, t_val, i_seq, i_rng, i_enm, i_zip, p_nil, p_cons, s_set, s_setO, s_unp, s_par, s_aug, s_ext, s_iff, s_ret, s_app, s_pop, s_stL, s_stD, s_appN, s_popN, s_drop, s_cont, s_brk, ss_nil, ss_cons, getS, setS, setPs, rs_val, rs_obj, rs_new, rsv_d, rsv_last, b_add, b_addL, b_addT, b_sub, b_mul, b_div, b_mod, b_pow, c_eq, c_ne, c_lt, c_le, c_gt, c_ge, c_inL, c_inT, c_niL, c_niT, c_isB, c_isN, c_isI, c_isT, c_inN, c_inI, c_inTu, tr_non, tr_bl, tr_int, tr_lst, tr_tup, x_lst, x_tup, sl_l, sl_t, rv_l, nw_f, nw_t, au_add, au_sub, au_mul, la_last, bd_nm, bd_tp, sq_l, sq_t, f_len, f_isi, f_sortD, f_sortO, f_tupL, f_tupO, f_lstT, f_lstL, f_lstD, f_min2, f_minL, f_all, f_any, f_intB, f_str, z_ll, z_tt, ad_nil, ad_cons, objAt, setAll, wipeA, wipeS, List.map_cons, List.map_nil, List.length_cons, List.length_nil, List.replicate, List.cons_append, List.nil_append, Nat.zero_add, Nat.reduceAdd, Nat.reduceSub, tupI]
        exact ⟨by trivial, by trivial⟩
      · simp only [wipeA, wipeS, bd_nm, getS, setS, setPs, setAll, List.map_cons, List.map_nil, List.replicate, List.cons_append, List.nil_append, List.length_cons, List.length_nil, Nat.zero_add, Nat.reduceAdd, Nat.reduceSub]
        simp only [bodyW, e_var, e_cst, e_dct, e_bin, e_neg, e_not, e_cmp, e_cmp2, e_and, e_or, e_ite, e_tup, e_lst, e_idx, e_slc, e_rev, e_fn, e_call, es_nil, es_cons, o_none, o_some, t_tt, t_and, t_or, t_not, t_val, i_seq, i_rng, i_enm, i_zip, p_nil, p_cons, s_set, s_setO, s_unp, s_par, s_aug, s_ext, s_iff, s_ret, s_app, s_pop, s_stL, s_stD, s_appN, s_popN, s_drop, s_cont, s_brk, ss_nil, ss_cons, getS, setS, setPs, rs_val, rs_obj, rs_new, rsv_d, rsv_last, b_add, b_addL, b_addT, b_sub, b_mul, b_div, b_mod, b_pow, c_eq, c_ne, c_lt, c_le, c_gt, c_ge, c_inL, c_inT, c_niL, c_niT, c_isB, c_isN, c_isI, c_isT, c_inN, c_inI, c_inTu, tr_non, tr_bl, tr_int, tr_lst, tr_tup, x_lst, x_tup, sl_l, sl_t, rv_l, nw_f, nw_t, au_add, au_sub, au_mul, la_last, bd_nm, bd_tp, sq_l, sq_t, f_len, f_isi, f_sortD, f_sortO, f_tupL, f_tupO, f_lstT, f_lstL, f_lstD, f_min2, f_minL, f_all, f_any, f_intB, f_str, z_ll, z_tt, ad_nil, ad_cons, objAt, setAll, wipeA, wipeS, List.map_cons, List.map_nil, List.length_cons, List.length_nil, List.replicate, List.cons_append, List.nil_append, Nat.zero_add, Nat.reduceAdd, Nat.reduceSub, tupI, inD_ints]
        exact ⟨⟨flat_int 0 _, flat_ints 0, by trivial, by trivial⟩, fun _ => ⟨by trivial, by trivial⟩⟩
      · simp only [bodyW, e_var, e_cst, e_dct, e_bin, e_neg, e_not, e_cmp, e_cmp2, e_and, e_or, e_ite, e_tup, e_lst, e_idx, e_slc, e_rev, e_fn, e_call, es_nil, es_cons, o_none, o_some, t_tt, t_and, t_or, t_not, t_val, i_seq, i_rng, i_enm, i_zip, p_nil, p_cons, s_set, s_setO, s_unp, s_par, s_aug, s_ext, s_iff, s_ret, s_app, s_pop, s_stL, s_stD, s_appN, s_popN, s_drop, s_cont, s_brk, ss_nil, ss_cons, getS, setS, setPs, rs_val, rs_obj, rs_new, rsv_d, rsv_last, b_add, b_addL, b_addT, b_sub, b_mul, b_div, b_mod, b_pow, c_eq, c_ne, c_lt, c_le, c_gt, c_ge, c_inL, c_inT, c_niL, c_niT, c_isB, c_isN, c_isI, c_isT, c_inN, c_inI, c_inTu, tr_non, tr_bl, tr_int, tr_lst, tr_tup, x_lst, x_tup, sl_l, sl_t, rv_l, nw_f, nw_t, au_add, au_sub, au_mul, la_last, bd_nm, bd_tp, sq_l, sq_t, f_len, f_isi, f_sortD, f_sortO, f_tupL, f_tupO, f_lstT, f_lstL, f_lstD, f_min2, f_minL, f_all, f_any, f_intB, f_str, z_ll, z_tt, ad_nil, ad_cons, objAt, setAll, wipeA, wipeS, List.map_cons, List.map_nil, List.length_cons, List.length_nil, List.replicate, List.cons_append, List.nil_append, Nat.zero_add, Nat.reduceAdd, Nat.reduceSub]
        refine ⟨by decide, flat_lst 7 _, flat_lst 7 [], ?_, trivial⟩
        unfold harmB
        rw [← hb]
        cases (r.2.2.filter fun c => !decide (c ∈ hs)) with
        | nil => simp [eqD, eqDs]
        | cons a l => simp [eqD, eqDs]
    subst e1 e2
    rw [take_snoc hr, List.filter_append, List.map_append]
    cases hbr : harmB hs r with
    | true =>
      rw [if_pos rfl]
      refine lit_step _ rfl rfl rfl ?_ (fun os Q e3 q => ?_) ?_
      · have h1 := lightOf_len ((((rowsL many W).take i).filter (harmB hs)).map rowE)
        rw [List.length_map] at h1
        have h2 : (((rowsL many W).take i).filter (harmB hs)).length ≤ ((rowsL many W).take i).length := List.length_filter_le _ _
        rw [List.length_take] at h2
        have h3 := rowsL_len (W := W) hm
        omega
      · simp only [t_val, e_cmp, e_lst, es_nil, ad_nil, e_var, e3, rs_obj, rs_new, rsv_d, rsv_last, List.length_nil, cmpS, c_ne, tr_bl]
        refine ⟨by decide, ?_, by simp [Flat], ?_⟩
        · simp only [Flat]
          intro d hd
          obtain ⟨p, _, rfl⟩ := List.mem_map.mp hd
          unfold litI
          simp only [Flat]
          intro e he
          simp only [List.mem_cons, List.not_mem_nil, or_false] at he
          rcases he with rfl | rfl <;> exact flat_frI 5 _
        · have : (!eqD (.lst ((lightOf ((((rowsL many W).take i).filter (harmB hs)).map rowE)).map litI)) (.lst [])) = !(lightOf ((((rowsL many W).take i).filter (harmB hs)).map rowE)).isEmpty := by
            cases lightOf ((((rowsL many W).take i).filter (harmB hs)).map rowE) with
            | nil => simp [eqD, eqDs]
            | cons a l => simp [eqD, eqDs]
          rw [this]
          exact q
      · show wpSs T .nil _ _ _
        rw [ss_nil]
        refine ⟨_, _, _, _, rfl, ?_⟩
        rw [List.filter_cons, hbr]
        simp only [if_true, List.filter_nil, List.map_cons, List.map_nil]
        show _ = os1 ++ [O.lst ((lightOf (_ ++ [(r.1, r.2.1)])).map litI)]
        rw [lightOf_snoc]
    | false =>
      rw [if_neg (by decide), ss_nil]
      show wpSs T .nil _ _ _
      rw [ss_nil]
      refine ⟨_, _, _, _, rfl, ?_⟩
      rw [List.filter_cons, hbr]
      simp
  · subst he ho
    rw [List.length_map, List.take_length]
    refine st_ret mo (fun r os' => r = .obj os1.length ∧ os' = os1 ++ [.lst ((lightL many W hs).map litI)]) (by simp only [bodyW, e_var, e_cst, e_dct, e_bin, e_neg, e_not, e_cmp, e_cmp2, e_and, e_or, e_ite, e_tup, e_lst, e_idx, e_slc, e_rev, e_fn, e_call, es_nil, es_cons, o_none, o_some, t_tt, t_and, t_or, t_not, t_val, i_seq, i_rng, i_enm, i_zip, p_nil, p_cons, s_set, s_setO, s_unp, s_par, s_aug, s_ext, s_iff, s_ret, s_app, s_pop, s_stL, s_stD, s_appN, s_popN, s_drop, s_cont, s_brk, ss_nil, ss_cons, getS, setS, setPs, rs_val, rs_obj, rs_new, rsv_d, rsv_last, b_add, b_addL, b_addT, b_sub, b_mul, b_div, b_mod, b_pow, c_eq, c_ne, c_lt, c_le, c_gt, c_ge, c_inL, c_inT, c_niL, c_niT, c_isB, c_isN, c_isI, c_isT, c_inN, c_inI, c_inTu, tr_non, tr_bl, tr_int, tr_lst, tr_tup, x_lst, x_tup, sl_l, sl_t, rv_l, nw_f, nw_t, au_add, au_sub, au_mul, la_last, bd_nm, bd_tp, sq_l, sq_t, f_len, f_isi, f_sortD, f_sortO, f_tupL, f_tupO, f_lstT, f_lstL, f_lstD, f_min2, f_minL, f_all, f_any, f_intB, f_str, z_ll, z_tt, ad_nil, ad_cons, objAt, setAll, wipeA, wipeS, List.map_cons, List.map_nil, List.length_cons, List.length_nil, List.replicate, List.cons_append, List.nil_append, Nat.zero_add, Nat.reduceAdd, Nat.reduceSub]; exact ⟨by trivial, by rfl⟩) fun r os' ⟨e1, e2⟩ => ?_
    subst e1 e2
    show leave os1.length Q (.obj os1.length) (os1 ++ [.lst ((lightL many W hs).map litI)])
    rw [leave_last]
    exact h
end N66

/-! N66, light: the plain law; the seventh law. -/
namespace N66
open PySem PySem.Spec L2
def p_law07 : Ss := .cons (.for_ (.nm 1) (.rng (.cst (.int 0)) (.bin .Add (.fn .min2 (.cons (.fn .len (.cons (.var 0) .nil)) (.cons (.cst (.int 6)) .nil))) (.cst (.int 2)))) (.cons (.setO 2 (.call 30 (.cons (.var 0) (.cons (.var 1) .nil)))) (.cons (.par (.cons 3 false (.call 33 (.cons (.var 2) .nil)) (.cons 4 false (.bin .Add (.cst (.int 1)) (.call 31 (.cons (.var 2) (.cons (.cst (.int 20)) .nil)))) .nil))) (.cons (.set 5 (.call 33 (.cons (.var 2) .nil))) (.cons (.set 6 (.call 41 (.cons (.var 2) (.cons (.var 4) (.cons (.call 32 (.cons (.var 2) (.cons (.lst (.cons (.var 3) (.cons (.var 5) .nil))) .nil))) .nil))))) (.cons (.set 7 (.call 17 (.cons (.var 4) (.cons (.var 3) (.cons (.var 6) .nil))))) (.cons (.iff (.val (.cmp .NotEq (.var 7) (.call 53 (.cons (.var 4) (.cons (.var 3) (.cons (.var 6) .nil)))))) (.cons (.ret (.cst (.bl false))) .nil) .nil) (.cons (.for_ (.tp [8, 9]) (.zip (.cons (.var 7) (.cons (.slc (.var 7) (.some (.cst (.int 1))) .none) .nil))) (.cons (.iff (.not (.val (.call 51 (.cons (.idx (.var 8) (.cst (.int 1))) (.cons (.idx (.var 9) (.cst (.int 0))) .nil))))) (.cons (.ret (.cst (.bl false))) .nil) .nil) .nil)) (.cons (.for_ (.nm 10) (.rng (.cst (.int 0)) (.cst (.int 8))) (.cons (.set 11 (.call 35 (.cons (.var 2) .nil))) (.cons (.set 12 (.call 4 (.cons (.var 4) (.cons (.var 3) (.cons (.var 11) .nil))))) (.cons (.set 13 (.lc (.var 14) (.nm 14) (.seq (.var 12)) (.val (.cmp .NotIn (.var 14) (.var 6))) [14])) (.cons (.iff (.val (.cmp .NotEq (.call 52 (.cons (.var 7) (.cons (.var 11) .nil))) (.cmp .Eq (.var 13) (.lst .nil)))) (.cons (.ret (.cst (.bl false))) .nil) .nil) (.cons (.set 15 (.fn .tuple (.cons (.fn .set (.cons (.bin .Add (.var 6) (.fn .tuple (.cons (.var 12) .nil))) .nil)) .nil))) (.cons (.set 16 (.call 17 (.cons (.var 4) (.cons (.var 3) (.cons (.var 15) .nil))))) (.cons (.iff (.not (.val (.call 52 (.cons (.var 16) (.cons (.var 11) .nil))))) (.cons (.ret (.cst (.bl false))) .nil) .nil) (.cons (.iff (.val (.cmp .NotEq (.lc (.var 17) (.nm 17) (.seq (.var 7)) (.not (.val (.call 52 (.cons (.var 16) (.cons (.idx (.var 17) (.cst (.int 0))) .nil))))) [17]) (.lst .nil))) (.cons (.ret (.cst (.bl false))) .nil) .nil) .nil))))))))) (.cons (.set 18 (.call 17 (.cons (.var 4) (.cons (.var 3) (.cons (.tup .nil) .nil))))) (.cons (.iff (.val (.cmp .NotEq (.cmp .NotEq (.var 18) (.lst .nil)) (.cmp .Lt (.bin .Mult (.cst (.int 2)) (.var 4)) (.idx (.var 3) (.cst (.int 0)))))) (.cons (.ret (.cst (.bl false))) .nil) .nil) (.cons (.iff (.val (.cmp .NotEq (.call 17 (.cons (.var 4) (.cons (.var 3) (.cons (.tupR (.cst (.int 0)) (.var 4) (.cst (.int 1))) .nil)))) (.lst (.cons (.tup (.cons (.tup (.cons (.cst (.int 0)) (.cons (.cst (.int 1)) .nil))) (.cons (.tup (.cons (.cst (.int 1)) (.cons (.cst (.int 1)) .nil))) .nil))) .nil)))) (.cons (.ret (.cst (.bl false))) .nil) .nil) .nil)))))))))))) (.cons (.ret (.cmp .Eq (.call 17 (.cons (.cst (.int 2)) (.cons (.tup (.cons (.cst (.int 5)) (.cons (.cst (.int 0)) (.cons (.cst (.int 0)) .nil)))) (.cons (.tup .nil) .nil)))) (.lst (.cons (.tup (.cons (.tup (.cons (.cst (.int 4)) (.cons (.cst (.int 5)) .nil))) (.cons (.tup (.cons (.cst (.int 1)) (.cons (.cst (.int 1)) .nil))) .nil))) .nil)))) .nil)
section
variable {T : Tab} {env : Env} {os : List O} {P : DEnds} {rest : Ss}
theorem st_par (mo : MoTab T) {ps : Ps} (Z : List (Nat × S) → List O → Prop) (hz : wpP T ps env os Z) (h : ∀ ds os1, Z ds os1 → wpSs T rest P (setPs env ds) os1) : wpSs T (.cons (.par ps) rest) P env os := by
  rw [ss_cons, s_par]
  exact moP mo ps hz h
/-- the law's outer loop: the bag is drawn, then the body -/
theorem law_loop (mo : MoTab T) (h30 : T 30 = spBag) {Pa : Addr} {q : Str} {ns : List Int} {c d : Int} {body : Ss} {xs : Env} (hn : ns.length ≤ 63) (hc : 0 ≤ c ∧ c ≤ 100) (hd : 0 ≤ d ∧ d ≤ 10) (hx : 2 ≤ xs.length)
    (hb : ∀ (i j : Nat) (ys : Env) (os : List O), ys.length + 2 = xs.length → Bs Pa q ns os j → wpSs T body { P with nx := fun env os' => ∃ zs, env = some (.o 0) :: zs ∧ zs.length = xs.length ∧ os'[0]? = some (.scr ns) ∧ os'[1]? = some (.tbl Pa q), ct := fun env os' => ∃ zs, env = some (.o 0) :: zs ∧ zs.length = xs.length ∧ os'[0]? = some (.scr ns) ∧ os'[1]? = some (.tbl Pa q), bk := wpSs T rest P } (some (.o 0) :: some (.d (.int i)) :: some (.o j) :: ys) os)
    (hr : ∀ (zs : Env) (os : List O), zs.length = xs.length → os[0]? = some (.scr ns) → os[1]? = some (.tbl Pa q) → wpSs T rest P (some (.o 0) :: zs) os) :
    wpSs T (.cons (.for_ (.nm 1) (.rng (.cst (.int 0)) (.bin .Add (.fn .min2 (.cons (.fn .len (.cons (.var 0) .nil)) (.cons (.cst (.int c)) .nil))) (.cst (.int d)))) (.cons (.setO 2 (.call 30 (.cons (.var 0) (.cons (.var 1) .nil)))) body)) rest) P (some (.o 0) :: xs) [.scr ns, .tbl Pa q] := by
  refine st_for mo (fun its os1 => (∃ n : Nat, n ≤ 200 ∧ its = rngD 0 (n : Int)) ∧ os1 = [.scr ns, .tbl Pa q]) ?_ fun its os1 ⟨⟨n, hn10, e1⟩, e2⟩ => ?_
  · simp only [bodyW, e_var, e_cst, e_dct, e_bin, e_neg, e_not, e_cmp, e_cmp2, e_and, e_or, e_ite, e_tup, e_lst, e_idx, e_slc, e_rev, e_fn, e_call, es_nil, es_cons, o_none, o_some, t_tt, t_and, t_or, t_not, t_val, i_seq, i_rng, i_enm, i_zip, p_nil, p_cons, s_set, s_setO, s_unp, s_par, s_aug, s_ext, s_iff, s_ret, s_app, s_pop, s_stL, s_stD, s_appN, s_popN, s_drop, s_cont, s_brk, ss_nil, ss_cons, getS, setS, setPs, rs_val, rs_obj, rs_new, rsv_d, rsv_last, b_add, b_addL, b_addT, b_sub, b_mul, b_div, b_mod, b_pow, c_eq, c_ne, c_lt, c_le, c_gt, c_ge, c_inL, c_inT, c_niL, c_niT, c_isB, c_isN, c_isI, c_isT, c_inN, c_inI, c_inTu, tr_non, tr_bl, tr_int, tr_lst, tr_tup, x_lst, x_tup, sl_l, sl_t, rv_l, nw_f, nw_t, au_add, au_sub, au_mul, la_last, bd_nm, bd_tp, sq_l, sq_t, f_len, f_isi, f_sortD, f_sortO, f_tupL, f_tupO, f_lstT, f_lstL, f_lstD, f_min2, f_minL, f_all, f_any, f_intB, f_str, z_ll, z_tt, ad_nil, ad_cons, objAt, setAll, wipeA, wipeS, List.map_cons, List.map_nil, List.length_cons, List.length_nil, List.replicate, List.cons_append, List.nil_append, Nat.zero_add, Nat.reduceAdd, Nat.reduceSub, Wd.d, tupI, frI, prI, ixD, at3_0, at3_1, at3_2, at2_0, at2_1, eqD, Flat, and_true, true_and, and_self, if_true, if_false, Bool.false_eq_true, reduceIte, rsv_scr (show ([O.scr ns, O.tbl Pa q] : List O)[0]? = some (.scr ns) from rfl), List.length_map]
    have e : (if c < (ns.length : Int) then c else (ns.length : Int)) + d = ((min ns.length c.toNat + d.toNat : Nat) : Int) := by split <;> omega
    rw [e]
    exact ⟨by omega, min ns.length c.toNat + d.toNat, by omega, rfl⟩
  subst e1 e2
  refine ⟨fun i env os' => ∃ zs, env = some (.o 0) :: zs ∧ zs.length = xs.length ∧ os'[0]? = some (.scr ns) ∧ os'[1]? = some (.tbl Pa q), ⟨xs, rfl, rfl, rfl, rfl⟩, fun i x env os' hx' ⟨zs, he, hl, ho, ho1⟩ => ?_, fun env os' ⟨zs, he, hl, ho, ho1⟩ => ?_⟩
  · subst he
    obtain ⟨rfl, hi⟩ := rngD_get hx'
    match zs, hl with
    | z1 :: z2 :: ys, hl =>
      simp only [bd_nm, setS, Int.zero_add]
      refine st_setO mo (fun r os1 => ∃ a b, r = .new (bagO a b) ∧ a < 10 ^ 60 ∧ b < 2 ^ 31 ∧ os1 = os') ?_ fun r os1 ⟨a, b, e1, ha, hb', e2⟩ => ?_
      · simp only [bodyW, e_var, e_cst, e_dct, e_bin, e_neg, e_not, e_cmp, e_cmp2, e_and, e_or, e_ite, e_tup, e_lst, e_idx, e_slc, e_rev, e_fn, e_call, es_nil, es_cons, o_none, o_some, t_tt, t_and, t_or, t_not, t_val, i_seq, i_rng, i_enm, i_zip, p_nil, p_cons, s_set, s_setO, s_unp, s_par, s_aug, s_ext, s_iff, s_ret, s_app, s_pop, s_stL, s_stD, s_appN, s_popN, s_drop, s_cont, s_brk, ss_nil, ss_cons, getS, setS, setPs, rs_val, rs_obj, rs_new, rsv_d, rsv_last, b_add, b_addL, b_addT, b_sub, b_mul, b_div, b_mod, b_pow, c_eq, c_ne, c_lt, c_le, c_gt, c_ge, c_inL, c_inT, c_niL, c_niT, c_isB, c_isN, c_isI, c_isT, c_inN, c_inI, c_inTu, tr_non, tr_bl, tr_int, tr_lst, tr_tup, x_lst, x_tup, sl_l, sl_t, rv_l, nw_f, nw_t, au_add, au_sub, au_mul, la_last, bd_nm, bd_tp, sq_l, sq_t, f_len, f_isi, f_sortD, f_sortO, f_tupL, f_tupO, f_lstT, f_lstL, f_lstD, f_min2, f_minL, f_all, f_any, f_intB, f_str, z_ll, z_tt, ad_nil, ad_cons, objAt, setAll, wipeA, wipeS, List.map_cons, List.map_nil, List.length_cons, List.length_nil, List.replicate, List.cons_append, List.nil_append, Nat.zero_add, Nat.reduceAdd, Nat.reduceSub, h30, Int.zero_add]
        exact ⟨0, i, ns, rfl, ho, by omega, fun a b ha hb => ⟨a, b, rfl, ha, hb, rfl⟩⟩
      subst e1 e2
      rw [newW_new]
      simp only [setS]
      exact hb i os1.length ys _ (by simp only [List.length_cons] at hl; omega) (Bs.new ho ho1 ha hb')
    | [], hl => simp at hl; omega
    | [_], hl => simp at hl; omega
  · subst he
    exact hr zs os' hl ho ho1
end
/-! ### stretches of light -/
structure Ordd (ps : List (Fr × Fr)) : Prop where
  red : ∀ p ∈ ps, RedF p.1 ∧ RedF p.2 ∧ ltF p.1 p.2
  ord : ps.Pairwise fun p q => ¬ ltF q.1 p.2
def cov (x : Fr) (p : Fr × Fr) : Prop := ¬ ltF x p.1 ∧ ltF x p.2
structure Litt (ps L : List (Fr × Fr)) : Prop where
  red : ∀ l ∈ L, RedF l.1 ∧ RedF l.2 ∧ ltF l.1 l.2
  ord : L.Pairwise fun a b => ltF a.2 b.1
  cov : ∀ x : Fr, 0 < x.2 → ((∃ l ∈ L, cov x l) ↔ ∃ p ∈ ps, cov x p)
  last : ∀ l y, L = l ++ [y] → ∃ p ∈ ps, y.2 = p.2
  fst : ∀ l ∈ L, ∃ p ∈ ps, l.1 = p.1
theorem lit_take {ps : List (Fr × Fr)} (ho : Ordd ps) : ∀ n, n ≤ ps.length → Litt (ps.take n) (lightOf (ps.take n))
  | 0, _ => ⟨by simp [lightOf], by simp [lightOf], by simp [lightOf], by intro l y h; simp [lightOf] at h, by simp [lightOf]⟩
  | n + 1, hn => by
    have ih := lit_take ho n (by omega)
    have hp : ps[n]? = some ps[n] := List.getElem?_eq_getElem (by omega)
    generalize ps[n] = p at hp
    have hpm := List.mem_of_getElem? hp
    obtain ⟨r1, r2, r3⟩ := ho.red p hpm
    have hb : ∀ p' ∈ ps.take n, ¬ ltF p.1 p'.2 := fun p' h' => by
      have : ps.take (n + 1) = ps.take n ++ [p] := take_snoc hp
      have z := ho.ord.sublist (List.take_sublist (n + 1) ps)
      rw [this, List.pairwise_append] at z
      exact z.2.2 p' h' p (by simp)
    rw [take_snoc hp, lightOf_snoc]
    generalize ps.take n = qs at ih hb ⊢
    rcases snoc_cases (lightOf qs) with e | ⟨l, y, e⟩
    · rw [e] at ih ⊢
      rw [joinS_nil]
      refine ⟨fun l hl => by rw [List.mem_singleton.mp hl]; exact ⟨r1, r2, r3⟩, by simp, fun x hx => ?_, fun l y h => ?_, fun l hl => ⟨p, by simp, by rw [List.mem_singleton.mp hl]⟩⟩
      · have z := ih.cov x hx
        simp only [List.not_mem_nil, false_and, exists_false, false_iff] at z
        constructor
        · rintro ⟨l, hl, h⟩
          rw [List.mem_singleton.mp hl] at h
          exact ⟨p, by simp, h⟩
        · rintro ⟨l, hl, h⟩
          rcases List.mem_append.mp hl with hl | hl
          · exact (z ⟨l, hl, h⟩).elim
          · rw [List.mem_singleton.mp hl] at h
            exact ⟨p, by simp, h⟩
      · refine ⟨p, by simp, ?_⟩
        have : l = [] ∧ p = y := by
          cases l with
          | nil => simp at h; exact ⟨rfl, h⟩
          | cons a l => simp at h
        rw [this.2]
    · rw [e] at ih ⊢
      rw [joinS_snoc]
      obtain ⟨y1, y2, y3⟩ := ih.red y (by simp)
      have pw := ih.ord
      rw [List.pairwise_append] at pw
      obtain ⟨pw1, _, pw2⟩ := pw
      have yp : ¬ ltF p.1 y.2 := by
        obtain ⟨p', h1, h2⟩ := ih.last l y rfl
        rw [h2]
        exact hb p' h1
      split
      · rename_i hyp
        have yr : ltF y.1 p.2 := ltF_tr r1.2 (by rw [← hyp]; exact y3) r3
        refine ⟨fun a ha => ?_, ?_, fun x hx => ?_, fun l' y' h => ?_, fun a ha => ?_⟩
        · rcases List.mem_append.mp ha with ha | ha
          · exact ih.red a (by simp [ha])
          · rw [List.mem_singleton.mp ha]
            exact ⟨y1, r2, yr⟩
        · rw [List.pairwise_append]
          exact ⟨pw1, by simp, fun a ha b hb => by rw [List.mem_singleton.mp hb]; exact pw2 a ha y (by simp)⟩
        · have cy : cov x (y.1, p.2) ↔ cov x y ∨ cov x p := by
            unfold cov
            simp only
            constructor
            · rintro ⟨h1, h2⟩
              by_cases z : ltF x y.2
              · exact .inl ⟨h1, z⟩
              · exact .inr ⟨by rw [← hyp]; exact z, h2⟩
            · rintro (⟨h1, h2⟩ | ⟨h1, h2⟩)
              · exact ⟨h1, ltF_tr r1.2 (by rw [← hyp]; exact h2) r3⟩
              · refine ⟨fun z => h1 ?_, h2⟩
                rw [← hyp]
                exact ltF_tr y1.2 z y3
          have z := ih.cov x hx
          constructor
          · rintro ⟨a, ha, h⟩
            rcases List.mem_append.mp ha with ha | ha
            · obtain ⟨p', h1, h2⟩ := z.mp ⟨a, by simp [ha], h⟩
              exact ⟨p', by simp [h1], h2⟩
            · rw [List.mem_singleton.mp ha] at h
              rcases cy.mp h with h | h
              · obtain ⟨p', h1, h2⟩ := z.mp ⟨y, by simp, h⟩
                exact ⟨p', by simp [h1], h2⟩
              · exact ⟨p, by simp, h⟩
          · rintro ⟨a, ha, h⟩
            rcases List.mem_append.mp ha with ha | ha
            · obtain ⟨b, h1, h2⟩ := z.mpr ⟨a, ha, h⟩
              rcases List.mem_append.mp h1 with h1 | h1
              · exact ⟨b, by simp [h1], h2⟩
              · rw [List.mem_singleton.mp h1] at h2
                exact ⟨(y.1, p.2), by simp, cy.mpr (.inl h2)⟩
            · rw [List.mem_singleton.mp ha] at h
              exact ⟨(y.1, p.2), by simp, cy.mpr (.inr h)⟩
        · refine ⟨p, by simp, ?_⟩
          have := List.append_inj_right' h (by simp)
          rw [List.singleton_inj] at this
          rw [← this]
        · rcases List.mem_append.mp ha with ha | ha
          · obtain ⟨p', h1, h2⟩ := ih.fst a (by simp [ha])
            exact ⟨p', by simp [h1], h2⟩
          · rw [List.mem_singleton.mp ha]
            obtain ⟨p', h1, h2⟩ := ih.fst y (by simp)
            exact ⟨p', by simp [h1], h2⟩
      · rename_i hyp
        have yl : ltF y.2 p.1 := by
          have n0 : y.2.1 * p.1.2 ≠ p.1.1 * y.2.2 := fun e => hyp (red_one y2 r1 e)
          unfold ltF at yp ⊢
          omega
        refine ⟨fun a ha => ?_, ?_, fun x hx => ?_, fun l' y' h => ?_, fun a ha => ?_⟩
        · rcases List.mem_append.mp ha with ha | ha
          · exact ih.red a ha
          · rw [List.mem_singleton.mp ha]
            exact ⟨r1, r2, r3⟩
        · rw [List.pairwise_append]
          refine ⟨ih.ord, by simp, fun a ha b hb => ?_⟩
          rw [List.mem_singleton.mp hb]
          rcases List.mem_append.mp ha with ha | ha
          · have ra := ih.red a (by simp [ha])
            exact ltF_tr y2.2 (ltF_tr y1.2 (pw2 a ha y (by simp)) y3) yl
          · rw [List.mem_singleton.mp ha]
            exact yl
        · have z := ih.cov x hx
          constructor
          · rintro ⟨a, ha, h⟩
            rcases List.mem_append.mp ha with ha | ha
            · obtain ⟨p', h1, h2⟩ := z.mp ⟨a, ha, h⟩
              exact ⟨p', by simp [h1], h2⟩
            · rw [List.mem_singleton.mp ha] at h
              exact ⟨p, by simp, h⟩
          · rintro ⟨a, ha, h⟩
            rcases List.mem_append.mp ha with ha | ha
            · obtain ⟨b, h1, h2⟩ := z.mpr ⟨a, ha, h⟩
              exact ⟨b, List.mem_append_left _ h1, h2⟩
            · rw [List.mem_singleton.mp ha] at h
              exact ⟨p, by simp, h⟩
        · refine ⟨p, by simp, ?_⟩
          have := List.append_inj_right' h (by simp)
          rw [List.singleton_inj] at this
          rw [← this]
        · rcases List.mem_append.mp ha with ha | ha
          · obtain ⟨p', h1, h2⟩ := ih.fst a ha
            exact ⟨p', by simp [h1], h2⟩
          · rw [List.mem_singleton.mp ha]
            exact ⟨p, by simp, rfl⟩
theorem lit_all {ps : List (Fr × Fr)} (ho : Ordd ps) : Litt ps (lightOf ps) := by
  have := lit_take ho ps.length (Nat.le_refl _)
  rw [List.take_length] at this
  exact this
theorem pairs_ord {e : Fr} : ∀ {M : List Fr}, M.Pairwise ltF → (pairsL M e).Pairwise fun p q => ¬ ltF q.1 p.2
  | [], _ => .nil
  | [m], _ => by rw [pairsL_one]; simp
  | m :: m2 :: r, h => by
    rw [pairsL_cons, List.pairwise_cons]
    rw [List.pairwise_cons] at h
    refine ⟨fun q hq z => ?_, pairs_ord h.2⟩
    have h2 := h.2
    rw [List.pairwise_cons] at h2
    rcases List.mem_cons.mp (pairs_fst hq) with e' | e'
    · rw [e'] at z
      exact ltF_irr _ z
    · exact ltF_asym _ _ (h2.1 _ e') z
section
variable {many : Nat} {W : Wd}
theorem rows_ends : (rowsL many W).map rowE = pairsL (marksL many W.g W.w) (1, 1) := by
  rw [rowsL_eq, List.map_map]
  exact List.map_id _
theorem red11 : RedF (1, 1) := ⟨by decide, by decide⟩
theorem rows_ordd (hW : W.Ok) (hm : many ≤ 30) : Ordd ((rowsL many W).map rowE) := by
  rw [rows_ends]
  have hs := marksL_sorted (many := many) hW hm
  refine ⟨fun p hp => ⟨?_, ?_, ?_⟩, pairs_ord hs⟩
  · exact (marks_bnd hW hm (pairs_fst hp)).2.2.2
  · rcases pairs_snd hp with h | h
    · exact (marks_bnd hW hm h).2.2.2
    · rw [h]; exact red11
  · exact pairs_lt hs (fun x hx => marks_one hW hm hx) hp
theorem harm_ordd (hW : W.Ok) (hm : many ≤ 30) (hs : List Int) : Ordd ((harmL many W hs).map rowE) := by
  have h := rows_ordd (many := many) hW hm
  have hsub : ((harmL many W hs).map rowE).Sublist ((rowsL many W).map rowE) := (List.filter_sublist).map rowE
  exact ⟨fun p hp => h.red p (hsub.mem hp), h.ord.sublist hsub⟩
theorem light_ok (hW : W.Ok) (hm : many ≤ 30) (hs : List Int) : Litt ((harmL many W hs).map rowE) (lightL many W hs) := lit_all (harm_ordd hW hm hs)
/-- light at an angle: just where all that is pricked is a hole -/
theorem light_iff (hW : W.Ok) (hm : many ≤ 30) (hs : List Int) {x : Fr} (hx : 0 < x.2) (hx1 : x.1 < x.2) : (∃ l ∈ lightL many W hs, cov x l) ↔ ∀ c ∈ prickedL many W x.1 x.2, c ∈ hs := by
  rw [(light_ok hW hm hs).cov x hx]
  obtain ⟨r, hr, hc, h1, h2, hf⟩ := rows_find (many := many) hW hm hx hx1
  constructor
  · rintro ⟨p, hp, hcv⟩
    obtain ⟨r', hr', rfl⟩ := List.mem_map.mp hp
    unfold harmL at hr'
    obtain ⟨m1, m2⟩ := List.mem_filter.mp hr'
    have : r' ∈ (rowsL many W).filter fun r => decide (¬ ltF x r.1) && decide (ltF x r.2.1) := List.mem_filter.mpr ⟨m1, by
      have := hcv
      unfold cov rowE at this
      simp only at this
      simp [this.1, this.2]⟩
    rw [hf, List.mem_singleton] at this
    subst this
    unfold harmB at m2
    rw [List.all_eq_true] at m2
    intro c hcm
    rw [← hc] at hcm
    exact of_decide_eq_true (m2 c hcm)
  · intro h
    refine ⟨rowE r, List.mem_map.mpr ⟨r, ?_, rfl⟩, h1, h2⟩
    unfold harmL
    refine List.mem_filter.mpr ⟨hr, ?_⟩
    unfold harmB
    rw [List.all_eq_true]
    intro c hcm
    rw [hc] at hcm
    exact decide_eq_true (h c hcm)
theorem lightOf_ne {ps : List (Fr × Fr)} (h : ps ≠ []) : lightOf ps ≠ [] := by
  rcases snoc_cases ps with e | ⟨l, x, rfl⟩
  · exact absurd e h
  · rw [lightOf_snoc]
    unfold joinS
    split
    · split <;> simp
    · simp
theorem lightL_nil (hs : List Int) : lightL many W hs = [] ↔ harmL many W hs = [] := by
  constructor
  · intro h
    rcases Classical.em (harmL many W hs = []) with z | z
    · exact z
    · exact absurd h (lightOf_ne (by rw [Ne, List.map_eq_nil_iff]; exact z))
  · intro h
    unfold lightL
    rw [h]
    rfl
/-- by no hole: light alone where the strip is shorter than its turn -/
theorem bare_iff (hW : W.Ok) (hm1 : 1 ≤ many) (hm : many ≤ 30) : lightL many W [] ≠ [] ↔ 2 * many < W.g := by
  have g4 := hW.g4
  have hfirst : (0, W.g) ∈ turnsL many W.g W.w := by
    unfold turnsL
    obtain ⟨n, hn⟩ : ∃ n, 2 * many = n + 1 := ⟨2 * many - 1, by omega⟩
    rw [hn]
    unfold turnsF
    rw [if_pos (by omega)]
    exact List.mem_cons_self ..
  rw [Ne, lightL_nil]
  constructor
  · intro h
    rcases Nat.lt_or_ge (2 * many) W.g with z | z
    · exact z
    · exfalso
      apply h
      unfold harmL
      rw [List.filter_eq_nil_iff]
      intro r hr hb
      obtain ⟨i, hi⟩ := List.mem_iff_getElem?.mp hr
      obtain ⟨a1, _, a3⟩ := rowsL_get hi
      obtain ⟨b1, _, b3, _⟩ := marks_bnd hW hm (List.mem_of_getElem? a1)
      have hh := half_top (x := r.1) (b := 0) b1 b3 (show 0 < W.g by omega)
      have : cellE many W.e (halfOf r.1.1 r.1.2 0 W.g / 2) ∈ prickedL many W r.1.1 r.1.2 := pricked_iff.mpr ⟨(0, W.g), hfirst, by show halfOf r.1.1 r.1.2 0 W.g < 2 * many; omega, rfl⟩
      unfold harmB at hb
      rw [a3, List.all_eq_true] at hb
      have := of_decide_eq_true (hb _ this)
      simp at this
  · intro h hnil
    have hmk : lowF (2 * many - 0) W.g ∈ marksL many W.g W.w := mark_mem (W := W) (t := (0, W.g)) (h := 2 * many) hfirst (by simp) (by simpa using h) (Nat.le_refl _) (by omega)
    obtain ⟨b1, _, b3, _⟩ := marks_bnd hW hm hmk
    have hp : ∀ c ∈ prickedL many W (lowF (2 * many) W.g).1 (lowF (2 * many) W.g).2, c ∈ ([] : List Int) := by
      intro c hc
      exfalso
      obtain ⟨c', ⟨t, ht, h1, _⟩, _⟩ := pricked_mem.mp hc
      have : t = (0, W.g) := by
        have hb := (turnsL_bnd hW hm ht).2.1
        exact turnsL_one ht hfirst (h := t.1) (Nat.le_refl _) (by have := (turnsL_bnd hW hm ht).2.2; omega) (by simp) (by simp; omega)
      rw [this] at h1
      simp only at h1
      rw [half_low (by omega)] at h1
      omega
    have := (light_iff hW hm [] (x := lowF (2 * many) W.g) (by simpa using b1) (by simpa using b3)).mpr hp
    obtain ⟨l, hl, _⟩ := this
    have e : lightL many W [] = [] := (lightL_nil []).mpr hnil
    rw [e] at hl
    simp at hl
theorem join_chain {a e : Fr} : ∀ {r : List Fr} {m : Fr}, (pairsL (m :: r) e).foldl joinS [(a, m)] = [(a, e)]
  | [], m => by rw [pairsL_one]; simp [joinS]
  | m2 :: r, m => by
    rw [pairsL_cons, List.foldl_cons]
    have : joinS [(a, m)] (m, m2) = [(a, m2)] := by simp [joinS]
    rw [this]
    exact join_chain
/-- all are holes: light all round -/
theorem light_full (hW : W.Ok) (hm : many ≤ 30) : lightL many W (rngI many) = [((0, 1), (1, 1))] := by
  have e : harmL many W (rngI many) = rowsL many W := by
    unfold harmL
    rw [List.filter_eq_self]
    intro r hr
    unfold harmB
    rw [List.all_eq_true]
    intro c hc
    exact decide_eq_true (mem_rngI.mpr ((row_cells hm hr).2 c hc))
  unfold lightL
  rw [e, rows_ends]
  obtain ⟨r, hr⟩ := marks_hd (many := many) hW hm
  rw [hr]
  cases r with
  | nil => rw [pairsL_one]; rfl
  | cons m2 r =>
    rw [pairsL_cons]
    unfold lightOf
    rw [List.foldl_cons, joinS_nil]
    exact join_chain
theorem lit_bnd (hW : W.Ok) (hm : many ≤ 30) {hs : List Int} {l : Fr × Fr} (h : l ∈ lightL many W hs) : (0 < l.1.2 ∧ l.1.2 ≤ 500 ∧ l.1.1 < l.1.2) ∧ l.2.1 < 2 ^ 60 ∧ l.2.2 < 2 ^ 60 := by
  have L := light_ok (many := many) hW hm hs
  refine ⟨?_, ?_⟩
  · obtain ⟨p, hp, e⟩ := L.fst l h
    obtain ⟨r, hr, rfl⟩ := List.mem_map.mp hp
    rw [e]
    exact (row_bnd hW hm (List.mem_filter.mp hr).1).1
  · have : ∃ p ∈ (harmL many W hs).map rowE, l.2 = p.2 := by
      -- the end of a stretch of light is the end of a row
      have gen : ∀ (ps : List (Fr × Fr)) (acc : List (Fr × Fr)), ∀ l ∈ ps.foldl joinS acc, (∃ a ∈ acc, l.2 = a.2) ∨ ∃ p ∈ ps, l.2 = p.2 := by
        intro ps
        induction ps with
        | nil => intro acc l hl; exact .inl ⟨l, hl, rfl⟩
        | cons p ps ih =>
          intro acc l hl
          rw [List.foldl_cons] at hl
          rcases ih (joinS acc p) l hl with ⟨a, ha, e⟩ | ⟨p', hp', e⟩
          · rcases snoc_cases acc with rfl | ⟨b, y, rfl⟩
            · rw [joinS_nil, List.mem_singleton] at ha
              exact .inr ⟨p, by simp, by rw [e, ha]⟩
            · rw [joinS_snoc] at ha
              split at ha
              · rcases List.mem_append.mp ha with ha | ha
                · exact .inl ⟨a, by simp [ha], e⟩
                · rw [List.mem_singleton.mp ha] at e
                  exact .inr ⟨p, by simp, e⟩
              · rcases List.mem_append.mp ha with ha | ha
                · exact .inl ⟨a, ha, e⟩
                · rw [List.mem_singleton.mp ha] at e
                  exact .inr ⟨p, by simp, e⟩
          · exact .inr ⟨p', by simp [hp'], e⟩
      rcases gen _ [] l h with ⟨a, ha, _⟩ | h
      · simp at ha
      · exact h
    obtain ⟨p, hp, e⟩ := this
    obtain ⟨r, hr, rfl⟩ := List.mem_map.mp hp
    obtain ⟨_, _, c, d⟩ := rowI_mem hW hm (List.mem_filter.mp hr).1
    rw [e]
    exact ⟨c, d⟩
theorem lightL_len (hm : many ≤ 30) (hs : List Int) : (lightL many W hs).length ≤ 4000 := by
  have h1 := lightOf_len ((harmL many W hs).map rowE)
  rw [List.length_map] at h1
  have h2 : (harmL many W hs).length ≤ (rowsL many W).length := List.length_filter_le _ _
  have h3 := rowsL_len (W := W) hm
  unfold lightL
  omega
end
/-! ### the law's own looks -/
theorem w_law_less (T : Tab) (ss : List S) (os : List O) (Q : R → List O → Prop) (h : spWorth ss os Q) : bodyW T p_law_less 2 ss os Q := by
  obtain ⟨⟨a, b⟩, ⟨c, d⟩, rfl, h1, h2, h3, h4, h⟩ := h
  simp only at h1 h2 h3 h4
  simp only [p_law_less, bodyW, e_var, e_cst, e_dct, e_bin, e_neg, e_not, e_cmp, e_cmp2, e_and, e_or, e_ite, e_tup, e_lst, e_idx, e_slc, e_rev, e_fn, e_call, es_nil, es_cons, o_none, o_some, t_tt, t_and, t_or, t_not, t_val, i_seq, i_rng, i_enm, i_zip, p_nil, p_cons, s_set, s_setO, s_unp, s_par, s_aug, s_ext, s_iff, s_ret, s_app, s_pop, s_stL, s_stD, s_appN, s_popN, s_drop, s_cont, s_brk, ss_nil, ss_cons, getS, setS, setPs, rs_val, rs_obj, rs_new, rsv_d, rsv_last, b_add, b_addL, b_addT, b_sub, b_mul, b_div, b_mod, b_pow, c_eq, c_ne, c_lt, c_le, c_gt, c_ge, c_inL, c_inT, c_niL, c_niT, c_isB, c_isN, c_isI, c_isT, c_inN, c_inI, c_inTu, tr_non, tr_bl, tr_int, tr_lst, tr_tup, x_lst, x_tup, sl_l, sl_t, rv_l, nw_f, nw_t, au_add, au_sub, au_mul, la_last, bd_nm, bd_tp, sq_l, sq_t, f_len, f_isi, f_sortD, f_sortO, f_tupL, f_tupO, f_lstT, f_lstL, f_lstD, f_min2, f_minL, f_all, f_any, f_intB, f_str, z_ll, z_tt, ad_nil, ad_cons, objAt, setAll, wipeA, wipeS, List.map_cons, List.map_nil, List.length_cons, List.length_nil, List.replicate, List.cons_append, List.nil_append, Nat.zero_add, Nat.reduceAdd, Nat.reduceSub, Wd.d, tupI, frI, prI, ixD, at3_0, at3_1, at3_2, at2_0, at2_1, eqD, Flat, and_true, true_and, and_self, if_true, if_false, Bool.false_eq_true, reduceIte]
  refine ⟨small_mul' (by omega), small_mul' (by omega), ?_⟩
  simp only [leave_val, tk_self]
  have e : decide ((a : Int) * d < c * b) = decide (ltF (a, b) (c, d)) := by
    refine decide_eq_decide.mpr ?_
    unfold ltF
    simp only
    rw [← Int.natCast_mul, ← Int.natCast_mul, Int.ofNat_lt]
  rw [e]
  exact h
def covB (x : Fr) (p : Fr × Fr) : Bool := decide (¬ ltF x p.1) && decide (ltF x p.2)
def spIsLit : Fun1 := fun ss os Q => ∃ (L : List (Fr × Fr)) (x : Fr), ss = [.d (.lst (L.map litI)), .d (frI x)] ∧ x.1 < 2 ^ 60 ∧ x.2 < 2 ^ 60 ∧ L.length ≤ 4000 ∧ (∀ l ∈ L, l.1.1 < 2 ^ 60 ∧ l.1.2 < 2 ^ 60 ∧ l.2.1 < 2 ^ 60 ∧ l.2.2 < 2 ^ 60) ∧ Q (.val (.bl (L.any (covB x)))) os
theorem flat_litI (n : Nat) (p : Fr × Fr) : Flat (n + 2) (litI p) := by
  unfold litI
  simp only [Flat]
  intro e he
  simp only [List.mem_cons, List.not_mem_nil, or_false] at he
  rcases he with rfl | rfl <;> exact flat_frI n _
theorem flat_lits (n : Nat) (L : List (Fr × Fr)) : Flat (n + 3) (.lst (L.map litI)) := by
  simp only [Flat]
  intro d hd
  obtain ⟨p, _, rfl⟩ := List.mem_map.mp hd
  exact flat_litI n p
theorem eq_nil (ds : List D) : eqD (.lst ds) (.lst []) = ds.isEmpty := by
  cases ds <;> simp [eqD, eqDs]
theorem w_law_is_lit (T : Tab) (mo : MoTab T) (h51 : T 51 = spWorth) (ss : List S) (os : List O) (Q : R → List O → Prop) (h : spIsLit ss os Q) : bodyW T p_law_is_lit 3 ss os Q := by
  obtain ⟨L, x, rfl, x1, x2, hl, hb, h⟩ := h
  unfold bodyW p_law_is_lit
  simp only [getS, setS, setPs, setAll, List.map_cons, List.map_nil, List.replicate, List.cons_append, List.nil_append, List.length_cons, List.length_nil, Nat.zero_add, Nat.reduceAdd, Nat.reduceSub]
  refine st_ret mo (fun r os1 => r = .val (.bl (L.any (covB x))) ∧ os1 = os) ?_ fun r os1 ⟨e1, e2⟩ => ?_
  · rw [e_cmp]
    refine lc_filL mo L litI litI (covB x) ?_ (Nat.le_trans hl (by decide)) (fun l hlm => ?_) ?_
    · simp only [bodyW, e_var, e_cst, e_dct, e_bin, e_neg, e_not, e_cmp, e_cmp2, e_and, e_or, e_ite, e_tup, e_lst, e_idx, e_slc, e_rev, e_fn, e_call, es_nil, es_cons, o_none, o_some, t_tt, t_and, t_or, t_not, t_val, i_seq, i_rng, i_enm, i_zip, p_nil, p_cons, s_set, s_setO, s_unp, s_par, s_aug, s_ext, s_iff, s_ret, s_app, s_pop, s_stL, s_stD, s_appN, s_popN, s_drop, s_cont, s_brk, ss_nil, ss_cons, getS, setS, setPs, rs_val, rs_obj, rs_new, rsv_d, rsv_last, b_add, b_addL, b_addT, b_sub, b_mul, b_div, b_mod, b_pow, c_eq, c_ne, c_lt, c_le, c_gt, c_ge, c_inL, c_inT, c_niL, c_niT, c_isB, c_isN, c_isI, c_isT, c_inN, c_inI, c_inTu, tr_non, tr_bl, tr_int, tr_lst, tr_tup, x_lst, x_tup, sl_l, sl_t, rv_l, nw_f, nw_t, au_add, au_sub, au_mul, la_last, bd_nm, bd_tp, sq_l, sq_t, f_len, f_isi, f_sortD, f_sortO, f_tupL, f_tupO, f_lstT, f_lstL, f_lstD, f_min2, f_minL, f_all, f_any, f_intB, f_str, z_ll, z_tt, ad_nil, ad_cons, objAt, setAll, wipeA, wipeS, List.map_cons, List.map_nil, List.length_cons, List.length_nil, List.replicate, List.cons_append, List.nil_append, Nat.zero_add, Nat.reduceAdd, Nat.reduceSub]
      exact ⟨by trivial, by trivial⟩
    · obtain ⟨b1, b2, b3, b4⟩ := hb l hlm
      simp only [wipeA, wipeS, bd_nm, getS, setS, setPs, setAll, List.map_cons, List.map_nil, List.replicate, List.cons_append, List.nil_append, List.length_cons, List.length_nil, Nat.zero_add, Nat.reduceAdd, Nat.reduceSub]
      simp only [bodyW, e_var, e_cst, e_dct, e_bin, e_neg, e_not, e_cmp, e_cmp2, e_and, e_or, e_ite, e_tup, e_lst, e_idx, e_slc, e_rev, e_fn, e_call, es_nil, es_cons, o_none, o_some, t_tt, t_and, t_or, t_not, t_val, i_seq, i_rng, i_enm, i_zip, p_nil, p_cons, s_set, s_setO, s_unp, s_par, s_aug, s_ext, s_iff, s_ret, s_app, s_pop, s_stL, s_stD, s_appN, s_popN, s_drop, s_cont, s_brk, ss_nil, ss_cons, getS, setS, setPs, rs_val, rs_obj, rs_new, rsv_d, rsv_last, b_add, b_addL, b_addT, b_sub, b_mul, b_div, b_mod, b_pow, c_eq, c_ne, c_lt, c_le, c_gt, c_ge, c_inL, c_inT, c_niL, c_niT, c_isB, c_isN, c_isI, c_isT, c_inN, c_inI, c_inTu, tr_non, tr_bl, tr_int, tr_lst, tr_tup, x_lst, x_tup, sl_l, sl_t, rv_l, nw_f, nw_t, au_add, au_sub, au_mul, la_last, bd_nm, bd_tp, sq_l, sq_t, f_len, f_isi, f_sortD, f_sortO, f_tupL, f_tupO, f_lstT, f_lstL, f_lstD, f_min2, f_minL, f_all, f_any, f_intB, f_str, z_ll, z_tt, ad_nil, ad_cons, objAt, setAll, wipeA, wipeS, List.map_cons, List.map_nil, List.length_cons, List.length_nil, List.replicate, List.cons_append, List.nil_append, Nat.zero_add, Nat.reduceAdd, Nat.reduceSub, litI, ixD, at2_0, at2_1, h51]
      refine ⟨⟨x, l.1, rfl, x1, x2, b1, b2, ?_⟩, fun _ => ⟨by trivial, by trivial⟩⟩
      simp only [bodyW, e_var, e_cst, e_dct, e_bin, e_neg, e_not, e_cmp, e_cmp2, e_and, e_or, e_ite, e_tup, e_lst, e_idx, e_slc, e_rev, e_fn, e_call, es_nil, es_cons, o_none, o_some, t_tt, t_and, t_or, t_not, t_val, i_seq, i_rng, i_enm, i_zip, p_nil, p_cons, s_set, s_setO, s_unp, s_par, s_aug, s_ext, s_iff, s_ret, s_app, s_pop, s_stL, s_stD, s_appN, s_popN, s_drop, s_cont, s_brk, ss_nil, ss_cons, getS, setS, setPs, rs_val, rs_obj, rs_new, rsv_d, rsv_last, b_add, b_addL, b_addT, b_sub, b_mul, b_div, b_mod, b_pow, c_eq, c_ne, c_lt, c_le, c_gt, c_ge, c_inL, c_inT, c_niL, c_niT, c_isB, c_isN, c_isI, c_isT, c_inN, c_inI, c_inTu, tr_non, tr_bl, tr_int, tr_lst, tr_tup, x_lst, x_tup, sl_l, sl_t, rv_l, nw_f, nw_t, au_add, au_sub, au_mul, la_last, bd_nm, bd_tp, sq_l, sq_t, f_len, f_isi, f_sortD, f_sortO, f_tupL, f_tupO, f_lstT, f_lstL, f_lstD, f_min2, f_minL, f_all, f_any, f_intB, f_str, z_ll, z_tt, ad_nil, ad_cons, objAt, setAll, wipeA, wipeS, List.map_cons, List.map_nil, List.length_cons, List.length_nil, List.replicate, List.cons_append, List.nil_append, Nat.zero_add, Nat.reduceAdd, Nat.reduceSub]
      unfold covB
      by_cases z : ltF x l.1
      · simp only [z, decide_true, Bool.not_true, Bool.false_eq_true, if_false, decide_false, Bool.false_and, not_true_eq_false]
        exact ⟨trivial, trivial⟩
      · simp only [z, decide_false, Bool.not_false, if_true, not_false_eq_true, decide_true, Bool.true_and]
        exact ⟨x, l.2, rfl, x1, x2, b3, b4, by trivial, by trivial⟩
    · simp only [bodyW, e_var, e_cst, e_dct, e_bin, e_neg, e_not, e_cmp, e_cmp2, e_and, e_or, e_ite, e_tup, e_lst, e_idx, e_slc, e_rev, e_fn, e_call, es_nil, es_cons, o_none, o_some, t_tt, t_and, t_or, t_not, t_val, i_seq, i_rng, i_enm, i_zip, p_nil, p_cons, s_set, s_setO, s_unp, s_par, s_aug, s_ext, s_iff, s_ret, s_app, s_pop, s_stL, s_stD, s_appN, s_popN, s_drop, s_cont, s_brk, ss_nil, ss_cons, getS, setS, setPs, rs_val, rs_obj, rs_new, rsv_d, rsv_last, b_add, b_addL, b_addT, b_sub, b_mul, b_div, b_mod, b_pow, c_eq, c_ne, c_lt, c_le, c_gt, c_ge, c_inL, c_inT, c_niL, c_niT, c_isB, c_isN, c_isI, c_isT, c_inN, c_inI, c_inTu, tr_non, tr_bl, tr_int, tr_lst, tr_tup, x_lst, x_tup, sl_l, sl_t, rv_l, nw_f, nw_t, au_add, au_sub, au_mul, la_last, bd_nm, bd_tp, sq_l, sq_t, f_len, f_isi, f_sortD, f_sortO, f_tupL, f_tupO, f_lstT, f_lstL, f_lstD, f_min2, f_minL, f_all, f_any, f_intB, f_str, z_ll, z_tt, ad_nil, ad_cons, objAt, setAll, wipeA, wipeS, List.map_cons, List.map_nil, List.length_cons, List.length_nil, List.replicate, List.cons_append, List.nil_append, Nat.zero_add, Nat.reduceAdd, Nat.reduceSub]
      refine ⟨by decide, flat_lits 5 _, flat_lits 5 [], ?_, trivial⟩
      rw [eq_nil]
      congr 3
      have : ∀ L : List (Fr × Fr), (!((L.filter (covB x)).map litI).isEmpty) = L.any (covB x) := by
        intro L
        induction L with
        | nil => rfl
        | cons l L ih =>
          rw [List.filter_cons, List.any_cons, ← ih]
          cases covB x l <;> simp
      exact this L
  subst e1 e2
  show leave os1.length Q (.val (.bl (L.any (covB x)))) os1
  rw [leave_val, tk_self]
  exact h
section
variable {many : Nat} {W : Wd}
theorem lit_any (hW : W.Ok) (hm : many ≤ 30) (hs : List Int) {x : Fr} (hx : 0 < x.2) (hx1 : x.1 < x.2) : (lightL many W hs).any (covB x) = (prickedL many W x.1 x.2).all fun c => decide (c ∈ hs) := by
  have h := light_iff (many := many) hW hm hs hx hx1
  have h1 : (lightL many W hs).any (covB x) = true ↔ ∃ l ∈ lightL many W hs, cov x l := by
    rw [List.any_eq_true]
    constructor
    · rintro ⟨l, hl, hc⟩
      unfold covB at hc
      simp only [Bool.and_eq_true, decide_eq_true_eq] at hc
      exact ⟨l, hl, hc⟩
    · rintro ⟨l, hl, hc⟩
      exact ⟨l, hl, by unfold covB; simp only [Bool.and_eq_true, decide_eq_true_eq]; exact hc⟩
  have h2 : ((prickedL many W x.1 x.2).all fun c => decide (c ∈ hs)) = true ↔ ∀ c ∈ prickedL many W x.1 x.2, c ∈ hs := by
    rw [List.all_eq_true]
    exact ⟨fun h c hc => of_decide_eq_true (h c hc), fun h c hc => decide_eq_true (h c hc)⟩
  cases a : (lightL many W hs).any (covB x) with
  | true => exact (h2.mpr (h.mp (h1.mp a))).symm
  | false =>
    cases b : (prickedL many W x.1 x.2).all fun c => decide (c ∈ hs) with
    | false => rfl
    | true =>
      have := h1.mpr (h.mpr (h2.mp b))
      rw [a] at this
      cases this
theorem lit_bnds (hW : W.Ok) (hm : many ≤ 30) (hs : List Int) : ∀ l ∈ lightL many W hs, l.1.1 < 2 ^ 60 ∧ l.1.2 < 2 ^ 60 ∧ l.2.1 < 2 ^ 60 ∧ l.2.2 < 2 ^ 60 := fun l hl => by
  obtain ⟨⟨a, b, c⟩, d, e⟩ := lit_bnd hW hm hl
  exact ⟨by omega, by omega, d, e⟩
end
section
variable {ss : List S} {os : List O} {Q Q' : R → List O → Prop} {P : Addr} {q : Str}
theorem mo_spLight : spLight ss os Q → (∀ r os', Q r os' → Q' r os') → spLight ss os Q' := by unfold spLight; (intro h hq; revert h; (repeat' (first | (refine Exists.imp fun _ => ?_) | (refine And.imp_right ?_))); intro h; first | exact hq _ _ h | (intros; apply hq; apply h <;> assumption))
theorem mo_spLLit : spLLit P q ss os Q → (∀ r os', Q r os' → Q' r os') → spLLit P q ss os Q' := by unfold spLLit; (intro h hq; revert h; (repeat' (first | (refine Exists.imp fun _ => ?_) | (refine And.imp_right ?_))); intro h; first | exact hq _ _ h | (intros; apply hq; apply h <;> assumption))
theorem mo_spIsLit : spIsLit ss os Q → (∀ r os', Q r os' → Q' r os') → spIsLit ss os Q' := by unfold spIsLit; (intro h hq; revert h; (repeat' (first | (refine Exists.imp fun _ => ?_) | (refine And.imp_right ?_))); intro h; first | exact hq _ _ h | (intros; apply hq; apply h <;> assumption))
end
end N66

/-! N66, the seventh law. -/
namespace N66
open PySem PySem.Spec L2
theorem eq_bl (a b : Bool) : eqD (.bl a) (.bl b) = (a == b) := by simp [eqD]
theorem pricked_len2 (many : Nat) (W : Wd) (p q : Nat) : (prickedL many W p q).length ≤ 2 * many := by
  unfold prickedL
  rw [sortI_len]
  have h1 := cellsT_len many W.e p q (turnsL many W.g W.w)
  have h2 := turnsL_len many W.g W.w
  omega
theorem all_notin (L hs : List Int) : ((L.filter fun c => !decide (c ∈ hs)).map D.int).isEmpty = L.all fun c => decide (c ∈ hs) := by
  induction L with
  | nil => rfl
  | cons c L ih =>
    rw [List.filter_cons, List.all_cons, ← ih]
    by_cases z : c ∈ hs <;> simp [z]
theorem w_law07 (T : Tab) (mo : MoTab T) {P : Addr} {q : Str} (h4 : T 4 = spPricked) (h17 : T 17 = spLight) (h30 : T 30 = spBag) (h31 : T 31 = spTake) (h32 : T 32 = spOf) (h33 : T 33 = spWinding) (h35 : T 35 = spAngle) (h41 : T 41 = spWished) (h51 : T 51 = spWorth) (h52 : T 52 = spIsLit) (h53 : T 53 = spLLit P q)
    (ss : List S) (os : List O) (Q : R → List O → Prop) (h : spLawT P q ss os Q) : bodyW T p_law07 19 ss os Q := by
  obtain ⟨ns, rfl, rfl, hn, h⟩ := h
  unfold bodyW p_law07
  simp only [getS, setS, setPs, setAll, List.map_cons, List.map_nil, List.replicate, List.cons_append, List.nil_append, List.length_cons, List.length_nil, Nat.zero_add, Nat.reduceAdd, Nat.reduceSub]
  refine law_loop mo h30 hn (by decide) (by decide) (by simp) (fun i j ys os hl bs => ?_) (fun zs os' hl ho ho1 => ?_)
  · match ys, hl with
    | [x3, x4, x5, x6, x7, x8, x9, x10, x11, x12, x13, x14, x15, x16, x17, x18], _ =>
      refine st_par mo (fun ds os1 => ∃ (W : Wd) (many : Nat), ds = [(3, .d W.d), (4, .d (.int many))] ∧ W.Ok ∧ 1 ≤ many ∧ many ≤ 20 ∧ Bs P q ns os1 j) ?_ fun ds os1 ⟨W, many, e1, hW, hm1, hm20, bs1⟩ => ?_
      · simp only [bodyW, e_var, e_cst, e_dct, e_bin, e_neg, e_not, e_cmp, e_cmp2, e_and, e_or, e_ite, e_tup, e_lst, e_idx, e_slc, e_rev, e_fn, e_call, es_nil, es_cons, o_none, o_some, t_tt, t_and, t_or, t_not, t_val, i_seq, i_rng, i_enm, i_zip, p_nil, p_cons, s_set, s_setO, s_unp, s_par, s_aug, s_ext, s_iff, s_ret, s_app, s_pop, s_stL, s_stD, s_appN, s_popN, s_drop, s_cont, s_brk, ss_nil, ss_cons, getS, setS, setPs, rs_val, rs_obj, rs_new, rsv_d, rsv_last, b_add, b_addL, b_addT, b_sub, b_mul, b_div, b_mod, b_pow, c_eq, c_ne, c_lt, c_le, c_gt, c_ge, c_inL, c_inT, c_niL, c_niT, c_isB, c_isN, c_isI, c_isT, c_inN, c_inI, c_inTu, tr_non, tr_bl, tr_int, tr_lst, tr_tup, x_lst, x_tup, sl_l, sl_t, rv_l, nw_f, nw_t, au_add, au_sub, au_mul, la_last, bd_nm, bd_tp, sq_l, sq_t, f_len, f_isi, f_sortD, f_sortO, f_tupL, f_tupO, f_lstT, f_lstL, f_lstD, f_min2, f_minL, f_all, f_any, f_intB, f_str, z_ll, z_tt, ad_nil, ad_cons, objAt, setAll, wipeA, wipeS, List.map_cons, List.map_nil, List.length_cons, List.length_nil, List.replicate, List.cons_append, List.nil_append, Nat.zero_add, Nat.reduceAdd, Nat.reduceSub, h33, h31]
        refine ⟨j, rfl, bs.bag, fun W os1 hW k1 => ⟨j, 20, rfl, k1.bag, by decide, by decide, fun x os2 hx k2 => ?_⟩⟩
        simp only [bodyW, e_var, e_cst, e_dct, e_bin, e_neg, e_not, e_cmp, e_cmp2, e_and, e_or, e_ite, e_tup, e_lst, e_idx, e_slc, e_rev, e_fn, e_call, es_nil, es_cons, o_none, o_some, t_tt, t_and, t_or, t_not, t_val, i_seq, i_rng, i_enm, i_zip, p_nil, p_cons, s_set, s_setO, s_unp, s_par, s_aug, s_ext, s_iff, s_ret, s_app, s_pop, s_stL, s_stD, s_appN, s_popN, s_drop, s_cont, s_brk, ss_nil, ss_cons, getS, setS, setPs, rs_val, rs_obj, rs_new, rsv_d, rsv_last, b_add, b_addL, b_addT, b_sub, b_mul, b_div, b_mod, b_pow, c_eq, c_ne, c_lt, c_le, c_gt, c_ge, c_inL, c_inT, c_niL, c_niT, c_isB, c_isN, c_isI, c_isT, c_inN, c_inI, c_inTu, tr_non, tr_bl, tr_int, tr_lst, tr_tup, x_lst, x_tup, sl_l, sl_t, rv_l, nw_f, nw_t, au_add, au_sub, au_mul, la_last, bd_nm, bd_tp, sq_l, sq_t, f_len, f_isi, f_sortD, f_sortO, f_tupL, f_tupO, f_lstT, f_lstL, f_lstD, f_min2, f_minL, f_all, f_any, f_intB, f_str, z_ll, z_tt, ad_nil, ad_cons, objAt, setAll, wipeA, wipeS, List.map_cons, List.map_nil, List.length_cons, List.length_nil, List.replicate, List.cons_append, List.nil_append, Nat.zero_add, Nat.reduceAdd, Nat.reduceSub]
        exact ⟨W, 1 + x, by simp, hW, by omega, by omega, (bs.kp k1).kp k2⟩
      subst e1
      have hm : many ≤ 30 := by omega
      simp only [getS, setS, setPs, setAll, List.map_cons, List.map_nil, List.replicate, List.cons_append, List.nil_append, List.length_cons, List.length_nil, Nat.zero_add, Nat.reduceAdd, Nat.reduceSub]
      clear bs
      refine st_set mo (fun r os2 => ∃ V : Wd, r = .val V.d ∧ V.Ok ∧ Bs P q ns os2 j) ?_ fun r os2 ⟨V, e1, hV, bs2⟩ => ?_
      · simp only [bodyW, e_var, e_cst, e_dct, e_bin, e_neg, e_not, e_cmp, e_cmp2, e_and, e_or, e_ite, e_tup, e_lst, e_idx, e_slc, e_rev, e_fn, e_call, es_nil, es_cons, o_none, o_some, t_tt, t_and, t_or, t_not, t_val, i_seq, i_rng, i_enm, i_zip, p_nil, p_cons, s_set, s_setO, s_unp, s_par, s_aug, s_ext, s_iff, s_ret, s_app, s_pop, s_stL, s_stD, s_appN, s_popN, s_drop, s_cont, s_brk, ss_nil, ss_cons, getS, setS, setPs, rs_val, rs_obj, rs_new, rsv_d, rsv_last, b_add, b_addL, b_addT, b_sub, b_mul, b_div, b_mod, b_pow, c_eq, c_ne, c_lt, c_le, c_gt, c_ge, c_inL, c_inT, c_niL, c_niT, c_isB, c_isN, c_isI, c_isT, c_inN, c_inI, c_inTu, tr_non, tr_bl, tr_int, tr_lst, tr_tup, x_lst, x_tup, sl_l, sl_t, rv_l, nw_f, nw_t, au_add, au_sub, au_mul, la_last, bd_nm, bd_tp, sq_l, sq_t, f_len, f_isi, f_sortD, f_sortO, f_tupL, f_tupO, f_lstT, f_lstL, f_lstD, f_min2, f_minL, f_all, f_any, f_intB, f_str, z_ll, z_tt, ad_nil, ad_cons, objAt, setAll, wipeA, wipeS, List.map_cons, List.map_nil, List.length_cons, List.length_nil, List.replicate, List.cons_append, List.nil_append, Nat.zero_add, Nat.reduceAdd, Nat.reduceSub, h33]
        exact ⟨j, rfl, bs1.bag, fun V os2 hV k2 => ⟨V, rfl, hV, bs1.kp k2⟩⟩
      subst e1
      simp only [getS, setS, setPs, setAll, List.map_cons, List.map_nil, List.replicate, List.cons_append, List.nil_append, List.length_cons, List.length_nil, Nat.zero_add, Nat.reduceAdd, Nat.reduceSub, rs_val]
      clear bs1
      refine st_set mo (fun r os3 => ∃ hs, r = .val (tupI hs) ∧ Wish many hs ∧ Bs P q ns os3 j) ?_ fun r os3 ⟨hs, e1, wh, bs3⟩ => ?_
      · simp only [bodyW, e_var, e_cst, e_dct, e_bin, e_neg, e_not, e_cmp, e_cmp2, e_and, e_or, e_ite, e_tup, e_lst, e_idx, e_slc, e_rev, e_fn, e_call, es_nil, es_cons, o_none, o_some, t_tt, t_and, t_or, t_not, t_val, i_seq, i_rng, i_enm, i_zip, p_nil, p_cons, s_set, s_setO, s_unp, s_par, s_aug, s_ext, s_iff, s_ret, s_app, s_pop, s_stL, s_stD, s_appN, s_popN, s_drop, s_cont, s_brk, ss_nil, ss_cons, getS, setS, setPs, rs_val, rs_obj, rs_new, rsv_d, rsv_last, b_add, b_addL, b_addT, b_sub, b_mul, b_div, b_mod, b_pow, c_eq, c_ne, c_lt, c_le, c_gt, c_ge, c_inL, c_inT, c_niL, c_niT, c_isB, c_isN, c_isI, c_isT, c_inN, c_inI, c_inTu, tr_non, tr_bl, tr_int, tr_lst, tr_tup, x_lst, x_tup, sl_l, sl_t, rv_l, nw_f, nw_t, au_add, au_sub, au_mul, la_last, bd_nm, bd_tp, sq_l, sq_t, f_len, f_isi, f_sortD, f_sortO, f_tupL, f_tupO, f_lstT, f_lstL, f_lstD, f_min2, f_minL, f_all, f_any, f_intB, f_str, z_ll, z_tt, ad_nil, ad_cons, objAt, setAll, wipeA, wipeS, List.map_cons, List.map_nil, List.length_cons, List.length_nil, List.replicate, List.cons_append, List.nil_append, Nat.zero_add, Nat.reduceAdd, Nat.reduceSub, h41, h32]
        refine ⟨by decide, j, _, rfl, bs2.bag, by simp, by simp [lim], fun d os3 hd k3 => ?_⟩
        obtain ⟨U, rfl, hU⟩ : ∃ U : Wd, d = U.d ∧ U.Ok := by
          simp only [List.mem_cons, List.not_mem_nil, or_false] at hd
          rcases hd with rfl | rfl
          · exact ⟨W, rfl, hW⟩
          · exact ⟨V, rfl, hV⟩
        simp only [bodyW, e_var, e_cst, e_dct, e_bin, e_neg, e_not, e_cmp, e_cmp2, e_and, e_or, e_ite, e_tup, e_lst, e_idx, e_slc, e_rev, e_fn, e_call, es_nil, es_cons, o_none, o_some, t_tt, t_and, t_or, t_not, t_val, i_seq, i_rng, i_enm, i_zip, p_nil, p_cons, s_set, s_setO, s_unp, s_par, s_aug, s_ext, s_iff, s_ret, s_app, s_pop, s_stL, s_stD, s_appN, s_popN, s_drop, s_cont, s_brk, ss_nil, ss_cons, getS, setS, setPs, rs_val, rs_obj, rs_new, rsv_d, rsv_last, b_add, b_addL, b_addT, b_sub, b_mul, b_div, b_mod, b_pow, c_eq, c_ne, c_lt, c_le, c_gt, c_ge, c_inL, c_inT, c_niL, c_niT, c_isB, c_isN, c_isI, c_isT, c_inN, c_inI, c_inTu, tr_non, tr_bl, tr_int, tr_lst, tr_tup, x_lst, x_tup, sl_l, sl_t, rv_l, nw_f, nw_t, au_add, au_sub, au_mul, la_last, bd_nm, bd_tp, sq_l, sq_t, f_len, f_isi, f_sortD, f_sortO, f_tupL, f_tupO, f_lstT, f_lstL, f_lstD, f_min2, f_minL, f_all, f_any, f_intB, f_str, z_ll, z_tt, ad_nil, ad_cons, objAt, setAll, wipeA, wipeS, List.map_cons, List.map_nil, List.length_cons, List.length_nil, List.replicate, List.cons_append, List.nil_append, Nat.zero_add, Nat.reduceAdd, Nat.reduceSub]
        exact ⟨j, many, U, rfl, k3.bag, hU, hm1, hm, fun hs os4 w k4 => ⟨hs, rfl, w, (bs2.kp k3).kp k4⟩⟩
      subst e1
      simp only [getS, setS, setPs, setAll, List.map_cons, List.map_nil, List.replicate, List.cons_append, List.nil_append, List.length_cons, List.length_nil, Nat.zero_add, Nat.reduceAdd, Nat.reduceSub, rs_val]
      clear bs2
      refine st_set mo (fun r os4 => r = .new (.lst ((lightL many W hs).map litI)) ∧ os4 = os3) (by simp only [bodyW, e_var, e_cst, e_dct, e_bin, e_neg, e_not, e_cmp, e_cmp2, e_and, e_or, e_ite, e_tup, e_lst, e_idx, e_slc, e_rev, e_fn, e_call, es_nil, es_cons, o_none, o_some, t_tt, t_and, t_or, t_not, t_val, i_seq, i_rng, i_enm, i_zip, p_nil, p_cons, s_set, s_setO, s_unp, s_par, s_aug, s_ext, s_iff, s_ret, s_app, s_pop, s_stL, s_stD, s_appN, s_popN, s_drop, s_cont, s_brk, ss_nil, ss_cons, getS, setS, setPs, rs_val, rs_obj, rs_new, rsv_d, rsv_last, b_add, b_addL, b_addT, b_sub, b_mul, b_div, b_mod, b_pow, c_eq, c_ne, c_lt, c_le, c_gt, c_ge, c_inL, c_inT, c_niL, c_niT, c_isB, c_isN, c_isI, c_isT, c_inN, c_inI, c_inTu, tr_non, tr_bl, tr_int, tr_lst, tr_tup, x_lst, x_tup, sl_l, sl_t, rv_l, nw_f, nw_t, au_add, au_sub, au_mul, la_last, bd_nm, bd_tp, sq_l, sq_t, f_len, f_isi, f_sortD, f_sortO, f_tupL, f_tupO, f_lstT, f_lstL, f_lstD, f_min2, f_minL, f_all, f_any, f_intB, f_str, z_ll, z_tt, ad_nil, ad_cons, objAt, setAll, wipeA, wipeS, List.map_cons, List.map_nil, List.length_cons, List.length_nil, List.replicate, List.cons_append, List.nil_append, Nat.zero_add, Nat.reduceAdd, Nat.reduceSub, h17]; exact ⟨many, W, hs, rfl, hW, hm1, hm, by trivial, by trivial⟩) fun r os4 ⟨e1, e2⟩ => ?_
      subst e1 e2
      simp only [getS, setS, setPs, setAll, List.map_cons, List.map_nil, List.replicate, List.cons_append, List.nil_append, List.length_cons, List.length_nil, Nat.zero_add, Nat.reduceAdd, Nat.reduceSub, rs_new]
      refine st_no mo (fun os5 => os5 = os4) ?_ fun os5 e => ?_
      · simp only [bodyW, e_var, e_cst, e_dct, e_bin, e_neg, e_not, e_cmp, e_cmp2, e_and, e_or, e_ite, e_tup, e_lst, e_idx, e_slc, e_rev, e_fn, e_call, es_nil, es_cons, o_none, o_some, t_tt, t_and, t_or, t_not, t_val, i_seq, i_rng, i_enm, i_zip, p_nil, p_cons, s_set, s_setO, s_unp, s_par, s_aug, s_ext, s_iff, s_ret, s_app, s_pop, s_stL, s_stD, s_appN, s_popN, s_drop, s_cont, s_brk, ss_nil, ss_cons, getS, setS, setPs, rs_val, rs_obj, rs_new, rsv_d, rsv_last, b_add, b_addL, b_addT, b_sub, b_mul, b_div, b_mod, b_pow, c_eq, c_ne, c_lt, c_le, c_gt, c_ge, c_inL, c_inT, c_niL, c_niT, c_isB, c_isN, c_isI, c_isT, c_inN, c_inI, c_inTu, tr_non, tr_bl, tr_int, tr_lst, tr_tup, x_lst, x_tup, sl_l, sl_t, rv_l, nw_f, nw_t, au_add, au_sub, au_mul, la_last, bd_nm, bd_tp, sq_l, sq_t, f_len, f_isi, f_sortD, f_sortO, f_tupL, f_tupO, f_lstT, f_lstL, f_lstD, f_min2, f_minL, f_all, f_any, f_intB, f_str, z_ll, z_tt, ad_nil, ad_cons, objAt, setAll, wipeA, wipeS, List.map_cons, List.map_nil, List.length_cons, List.length_nil, List.replicate, List.cons_append, List.nil_append, Nat.zero_add, Nat.reduceAdd, Nat.reduceSub, h53]
        refine ⟨many, W, hs, rfl, hW, hm1, hm, bs3.tbl, ?_⟩
        simp only [bodyW, e_var, e_cst, e_dct, e_bin, e_neg, e_not, e_cmp, e_cmp2, e_and, e_or, e_ite, e_tup, e_lst, e_idx, e_slc, e_rev, e_fn, e_call, es_nil, es_cons, o_none, o_some, t_tt, t_and, t_or, t_not, t_val, i_seq, i_rng, i_enm, i_zip, p_nil, p_cons, s_set, s_setO, s_unp, s_par, s_aug, s_ext, s_iff, s_ret, s_app, s_pop, s_stL, s_stD, s_appN, s_popN, s_drop, s_cont, s_brk, ss_nil, ss_cons, getS, setS, setPs, rs_val, rs_obj, rs_new, rsv_d, rsv_last, b_add, b_addL, b_addT, b_sub, b_mul, b_div, b_mod, b_pow, c_eq, c_ne, c_lt, c_le, c_gt, c_ge, c_inL, c_inT, c_niL, c_niT, c_isB, c_isN, c_isI, c_isT, c_inN, c_inI, c_inTu, tr_non, tr_bl, tr_int, tr_lst, tr_tup, x_lst, x_tup, sl_l, sl_t, rv_l, nw_f, nw_t, au_add, au_sub, au_mul, la_last, bd_nm, bd_tp, sq_l, sq_t, f_len, f_isi, f_sortD, f_sortO, f_tupL, f_tupO, f_lstT, f_lstL, f_lstD, f_min2, f_minL, f_all, f_any, f_intB, f_str, z_ll, z_tt, ad_nil, ad_cons, objAt, setAll, wipeA, wipeS, List.map_cons, List.map_nil, List.length_cons, List.length_nil, List.replicate, List.cons_append, List.nil_append, Nat.zero_add, Nat.reduceAdd, Nat.reduceSub]
        refine ⟨flat_lits 5 _, flat_lits 5 _, ?_, trivial⟩
        rw [eqD_self (flat_lits 5 _)]
        rfl
      subst e
      have LO := light_ok (many := many) hW hm hs
      have LB := lit_bnds (many := many) hW hm hs
      -- apart
      refine st_for mo (fun its os6 => its = ((lightL many W hs).zip ((lightL many W hs).drop 1)).map (fun p => .tup [litI p.1, litI p.2]) ∧ os6 = os5) ?_ fun its os6 ⟨e1, e2⟩ => ?_
      · simp only [bodyW, e_var, e_cst, e_dct, e_bin, e_neg, e_not, e_cmp, e_cmp2, e_and, e_or, e_ite, e_tup, e_lst, e_idx, e_slc, e_rev, e_fn, e_call, es_nil, es_cons, o_none, o_some, t_tt, t_and, t_or, t_not, t_val, i_seq, i_rng, i_enm, i_zip, p_nil, p_cons, s_set, s_setO, s_unp, s_par, s_aug, s_ext, s_iff, s_ret, s_app, s_pop, s_stL, s_stD, s_appN, s_popN, s_drop, s_cont, s_brk, ss_nil, ss_cons, getS, setS, setPs, rs_val, rs_obj, rs_new, rsv_d, rsv_last, b_add, b_addL, b_addT, b_sub, b_mul, b_div, b_mod, b_pow, c_eq, c_ne, c_lt, c_le, c_gt, c_ge, c_inL, c_inT, c_niL, c_niT, c_isB, c_isN, c_isI, c_isT, c_inN, c_inI, c_inTu, tr_non, tr_bl, tr_int, tr_lst, tr_tup, x_lst, x_tup, sl_l, sl_t, rv_l, nw_f, nw_t, au_add, au_sub, au_mul, la_last, bd_nm, bd_tp, sq_l, sq_t, f_len, f_isi, f_sortD, f_sortO, f_tupL, f_tupO, f_lstT, f_lstL, f_lstD, f_min2, f_minL, f_all, f_any, f_intB, f_str, z_ll, z_tt, ad_nil, ad_cons, objAt, setAll, wipeA, wipeS, List.map_cons, List.map_nil, List.length_cons, List.length_nil, List.replicate, List.cons_append, List.nil_append, Nat.zero_add, Nat.reduceAdd, Nat.reduceSub, cut_1]
        rw [← List.map_drop, zipD_map]
        exact ⟨by trivial, by trivial⟩
      subst e1 e2
      refine ⟨fun _ env os' => ∃ x8 x9, env = [some (.o 0), some (.d (.int i)), some (.o j), some (.d W.d), some (.d (.int many)), some (.d V.d), some (.d (tupI hs)), some (.d (.lst ((lightL many W hs).map litI))), x8, x9, x10, x11, x12, x13, x14, x15, x16, x17, x18] ∧ os' = os6, ⟨_, _, rfl, rfl⟩, fun m x env os' hx ⟨x8, x9, he, ho⟩ => ?_, fun env os' ⟨x8, x9, he, ho⟩ => ?_⟩
      · subst he ho
        obtain ⟨⟨a, b⟩, hab, rfl⟩ := map_get hx
        obtain ⟨g1, g2⟩ := zip_drop hab
        simp only at g1 g2
        simp only [bd_tp, getS, setS, setPs, setAll, List.map_cons, List.map_nil, List.replicate, List.cons_append, List.nil_append, List.length_cons, List.length_nil, Nat.zero_add, Nat.reduceAdd, Nat.reduceSub]
        refine st_no mo (fun os7 => os7 = os') ?_ fun os7 e => ?_
        · have ma := List.mem_of_getElem? g1
          have mb := List.mem_of_getElem? g2
          simp only [bodyW, e_var, e_cst, e_dct, e_bin, e_neg, e_not, e_cmp, e_cmp2, e_and, e_or, e_ite, e_tup, e_lst, e_idx, e_slc, e_rev, e_fn, e_call, es_nil, es_cons, o_none, o_some, t_tt, t_and, t_or, t_not, t_val, i_seq, i_rng, i_enm, i_zip, p_nil, p_cons, s_set, s_setO, s_unp, s_par, s_aug, s_ext, s_iff, s_ret, s_app, s_pop, s_stL, s_stD, s_appN, s_popN, s_drop, s_cont, s_brk, ss_nil, ss_cons, getS, setS, setPs, rs_val, rs_obj, rs_new, rsv_d, rsv_last, b_add, b_addL, b_addT, b_sub, b_mul, b_div, b_mod, b_pow, c_eq, c_ne, c_lt, c_le, c_gt, c_ge, c_inL, c_inT, c_niL, c_niT, c_isB, c_isN, c_isI, c_isT, c_inN, c_inI, c_inTu, tr_non, tr_bl, tr_int, tr_lst, tr_tup, x_lst, x_tup, sl_l, sl_t, rv_l, nw_f, nw_t, au_add, au_sub, au_mul, la_last, bd_nm, bd_tp, sq_l, sq_t, f_len, f_isi, f_sortD, f_sortO, f_tupL, f_tupO, f_lstT, f_lstL, f_lstD, f_min2, f_minL, f_all, f_any, f_intB, f_str, z_ll, z_tt, ad_nil, ad_cons, objAt, setAll, wipeA, wipeS, List.map_cons, List.map_nil, List.length_cons, List.length_nil, List.replicate, List.cons_append, List.nil_append, Nat.zero_add, Nat.reduceAdd, Nat.reduceSub, litI, ixD, at2_0, at2_1, h51]
          obtain ⟨a1, a2, a3, a4⟩ := LB a ma
          obtain ⟨b1, b2, b3, b4⟩ := LB b mb
          refine ⟨a.2, b.1, rfl, a3, a4, b1, b2, ?_⟩
          have hlt : ltF a.2 b.1 := by
            obtain ⟨l1, e1⟩ := List.getElem?_eq_some_iff.mp g1
            obtain ⟨l2, e2⟩ := List.getElem?_eq_some_iff.mp g2
            have := List.pairwise_iff_getElem.mp LO.ord m (m + 1) l1 l2 (by omega)
            rw [e1, e2] at this
            exact this
          simp only [bodyW, e_var, e_cst, e_dct, e_bin, e_neg, e_not, e_cmp, e_cmp2, e_and, e_or, e_ite, e_tup, e_lst, e_idx, e_slc, e_rev, e_fn, e_call, es_nil, es_cons, o_none, o_some, t_tt, t_and, t_or, t_not, t_val, i_seq, i_rng, i_enm, i_zip, p_nil, p_cons, s_set, s_setO, s_unp, s_par, s_aug, s_ext, s_iff, s_ret, s_app, s_pop, s_stL, s_stD, s_appN, s_popN, s_drop, s_cont, s_brk, ss_nil, ss_cons, getS, setS, setPs, rs_val, rs_obj, rs_new, rsv_d, rsv_last, b_add, b_addL, b_addT, b_sub, b_mul, b_div, b_mod, b_pow, c_eq, c_ne, c_lt, c_le, c_gt, c_ge, c_inL, c_inT, c_niL, c_niT, c_isB, c_isN, c_isI, c_isT, c_inN, c_inI, c_inTu, tr_non, tr_bl, tr_int, tr_lst, tr_tup, x_lst, x_tup, sl_l, sl_t, rv_l, nw_f, nw_t, au_add, au_sub, au_mul, la_last, bd_nm, bd_tp, sq_l, sq_t, f_len, f_isi, f_sortD, f_sortO, f_tupL, f_tupO, f_lstT, f_lstL, f_lstD, f_min2, f_minL, f_all, f_any, f_intB, f_str, z_ll, z_tt, ad_nil, ad_cons, objAt, setAll, wipeA, wipeS, List.map_cons, List.map_nil, List.length_cons, List.length_nil, List.replicate, List.cons_append, List.nil_append, Nat.zero_add, Nat.reduceAdd, Nat.reduceSub, decide_eq_true hlt]
          exact ⟨by trivial, by trivial⟩
        subst e
        rw [ss_nil]
        exact ⟨_, _, rfl, rfl⟩
      subst he ho
      -- needles
      refine st_for mo (fun its os7 => its = rngD 0 8 ∧ os7 = os') (by simp only [bodyW, e_var, e_cst, e_dct, e_bin, e_neg, e_not, e_cmp, e_cmp2, e_and, e_or, e_ite, e_tup, e_lst, e_idx, e_slc, e_rev, e_fn, e_call, es_nil, es_cons, o_none, o_some, t_tt, t_and, t_or, t_not, t_val, i_seq, i_rng, i_enm, i_zip, p_nil, p_cons, s_set, s_setO, s_unp, s_par, s_aug, s_ext, s_iff, s_ret, s_app, s_pop, s_stL, s_stD, s_appN, s_popN, s_drop, s_cont, s_brk, ss_nil, ss_cons, getS, setS, setPs, rs_val, rs_obj, rs_new, rsv_d, rsv_last, b_add, b_addL, b_addT, b_sub, b_mul, b_div, b_mod, b_pow, c_eq, c_ne, c_lt, c_le, c_gt, c_ge, c_inL, c_inT, c_niL, c_niT, c_isB, c_isN, c_isI, c_isT, c_inN, c_inI, c_inTu, tr_non, tr_bl, tr_int, tr_lst, tr_tup, x_lst, x_tup, sl_l, sl_t, rv_l, nw_f, nw_t, au_add, au_sub, au_mul, la_last, bd_nm, bd_tp, sq_l, sq_t, f_len, f_isi, f_sortD, f_sortO, f_tupL, f_tupO, f_lstT, f_lstL, f_lstD, f_min2, f_minL, f_all, f_any, f_intB, f_str, z_ll, z_tt, ad_nil, ad_cons, objAt, setAll, wipeA, wipeS, List.map_cons, List.map_nil, List.length_cons, List.length_nil, List.replicate, List.cons_append, List.nil_append, Nat.zero_add, Nat.reduceAdd, Nat.reduceSub]; exact ⟨by decide, by trivial, by trivial⟩) fun its os7 ⟨e1, e2⟩ => ?_
      subst e1 e2
      refine ⟨fun _ env os' => ∃ x10 x11 x12 x13 x15 x16, env = [some (.o 0), some (.d (.int i)), some (.o j), some (.d W.d), some (.d (.int many)), some (.d V.d), some (.d (tupI hs)), some (.d (.lst ((lightL many W hs).map litI))), x8, x9, x10, x11, x12, x13, x14, x15, x16, x17, x18] ∧ Bs P q ns os' j, ⟨_, _, _, _, _, _, rfl, bs3⟩, fun m x env os' hx ⟨x10, x11, x12, x13, x15, x16, he, bs4⟩ => ?_, fun env os' ⟨x10, x11, x12, x13, x15, x16, he, bs4⟩ => ?_⟩
      · subst he
        simp only [bd_nm, getS, setS, setPs, setAll, List.map_cons, List.map_nil, List.replicate, List.cons_append, List.nil_append, List.length_cons, List.length_nil, Nat.zero_add, Nat.reduceAdd, Nat.reduceSub]
        refine st_set mo (fun r os8 => ∃ y : Fr, r = .val (frI y) ∧ RedF y ∧ y.2 ≤ 1000 ∧ y.1 < y.2 ∧ Bs P q ns os8 j) ?_ fun r os8 ⟨y, e1, hr, hy1, hy2, bs8⟩ => ?_
        · simp only [bodyW, e_var, e_cst, e_dct, e_bin, e_neg, e_not, e_cmp, e_cmp2, e_and, e_or, e_ite, e_tup, e_lst, e_idx, e_slc, e_rev, e_fn, e_call, es_nil, es_cons, o_none, o_some, t_tt, t_and, t_or, t_not, t_val, i_seq, i_rng, i_enm, i_zip, p_nil, p_cons, s_set, s_setO, s_unp, s_par, s_aug, s_ext, s_iff, s_ret, s_app, s_pop, s_stL, s_stD, s_appN, s_popN, s_drop, s_cont, s_brk, ss_nil, ss_cons, getS, setS, setPs, rs_val, rs_obj, rs_new, rsv_d, rsv_last, b_add, b_addL, b_addT, b_sub, b_mul, b_div, b_mod, b_pow, c_eq, c_ne, c_lt, c_le, c_gt, c_ge, c_inL, c_inT, c_niL, c_niT, c_isB, c_isN, c_isI, c_isT, c_inN, c_inI, c_inTu, tr_non, tr_bl, tr_int, tr_lst, tr_tup, x_lst, x_tup, sl_l, sl_t, rv_l, nw_f, nw_t, au_add, au_sub, au_mul, la_last, bd_nm, bd_tp, sq_l, sq_t, f_len, f_isi, f_sortD, f_sortO, f_tupL, f_tupO, f_lstT, f_lstL, f_lstD, f_min2, f_minL, f_all, f_any, f_intB, f_str, z_ll, z_tt, ad_nil, ad_cons, objAt, setAll, wipeA, wipeS, List.map_cons, List.map_nil, List.length_cons, List.length_nil, List.replicate, List.cons_append, List.nil_append, Nat.zero_add, Nat.reduceAdd, Nat.reduceSub, h35]
          exact ⟨j, rfl, bs4.bag, fun y os8 a b c k8 => ⟨y, rfl, a, b, c, bs4.kp k8⟩⟩
        subst e1
        simp only [getS, setS, setPs, setAll, List.map_cons, List.map_nil, List.replicate, List.cons_append, List.nil_append, List.length_cons, List.length_nil, Nat.zero_add, Nat.reduceAdd, Nat.reduceSub, rs_val]
        have y60 : y.1 < 2 ^ 60 ∧ y.2 < 2 ^ 60 := ⟨by omega, by omega⟩
        refine st_set mo (fun r os9 => r = .new (.lst ((prickedL many W y.1 y.2).map D.int)) ∧ os9 = os8) (by simp only [bodyW, e_var, e_cst, e_dct, e_bin, e_neg, e_not, e_cmp, e_cmp2, e_and, e_or, e_ite, e_tup, e_lst, e_idx, e_slc, e_rev, e_fn, e_call, es_nil, es_cons, o_none, o_some, t_tt, t_and, t_or, t_not, t_val, i_seq, i_rng, i_enm, i_zip, p_nil, p_cons, s_set, s_setO, s_unp, s_par, s_aug, s_ext, s_iff, s_ret, s_app, s_pop, s_stL, s_stD, s_appN, s_popN, s_drop, s_cont, s_brk, ss_nil, ss_cons, getS, setS, setPs, rs_val, rs_obj, rs_new, rsv_d, rsv_last, b_add, b_addL, b_addT, b_sub, b_mul, b_div, b_mod, b_pow, c_eq, c_ne, c_lt, c_le, c_gt, c_ge, c_inL, c_inT, c_niL, c_niT, c_isB, c_isN, c_isI, c_isT, c_inN, c_inI, c_inTu, tr_non, tr_bl, tr_int, tr_lst, tr_tup, x_lst, x_tup, sl_l, sl_t, rv_l, nw_f, nw_t, au_add, au_sub, au_mul, la_last, bd_nm, bd_tp, sq_l, sq_t, f_len, f_isi, f_sortD, f_sortO, f_tupL, f_tupO, f_lstT, f_lstL, f_lstD, f_min2, f_minL, f_all, f_any, f_intB, f_str, z_ll, z_tt, ad_nil, ad_cons, objAt, setAll, wipeA, wipeS, List.map_cons, List.map_nil, List.length_cons, List.length_nil, List.replicate, List.cons_append, List.nil_append, Nat.zero_add, Nat.reduceAdd, Nat.reduceSub, h4]; exact ⟨many, W, y.1, y.2, rfl, hW, hm, hr.2, by omega, by omega, by trivial, by trivial⟩) fun r os9 ⟨e1, e2⟩ => ?_
        subst e1 e2
        simp only [getS, setS, setPs, setAll, List.map_cons, List.map_nil, List.replicate, List.cons_append, List.nil_append, List.length_cons, List.length_nil, Nat.zero_add, Nat.reduceAdd, Nat.reduceSub, rs_new]
        have pl : (prickedL many W y.1 y.2).length ≤ 60 := pricked_len hm _ _
        refine st_set mo (fun r os10 => r = .new (.lst (((prickedL many W y.1 y.2).filter fun c => !decide (c ∈ hs)).map D.int)) ∧ os10 = os9) ?_ fun r os10 ⟨e1, e2⟩ => ?_
        · refine lc_filL mo (prickedL many W y.1 y.2) D.int D.int (fun c => !decide (c ∈ hs)) ?_ (Nat.le_trans pl (by decide)) (fun c hc => ?_) ⟨rfl, rfl⟩
          · simp only [bodyW, e_var, e_cst, e_dct, e_bin, e_neg, e_not, e_cmp, e_cmp2, e_and, e_or, e_ite, e_tup, e_lst, e_idx, e_slc, e_rev, e_fn, e_call, es_nil, es_cons, o_none, o_some, t_tt, t_and, t_or, t_not, t_val, i_seq, i_rng, i_enm, i_zip, p_nil, p_cons, s_set, s_setO, s_unp, s_par, s_aug, s_ext, s_iff, s_ret, s_app, s_pop, s_stL, s_stD, s_appN, s_popN, s_drop, s_cont, s_brk, ss_nil, ss_cons, getS, setS, setPs, rs_val, rs_obj, rs_new, rsv_d, rsv_last, b_add, b_addL, b_addT, b_sub, b_mul, b_div, b_mod, b_pow, c_eq, c_ne, c_lt, c_le, c_gt, c_ge, c_inL, c_inT, c_niL, c_niT, c_isB, c_isN, c_isI, c_isT, c_inN, c_inI, c_inTu, tr_non, tr_bl, tr_int, tr_lst, tr_tup, x_lst, x_tup, sl_l, sl_t, rv_l, nw_f, nw_t, au_add, au_sub, au_mul, la_last, bd_nm, bd_tp, sq_l, sq_t, f_len, f_isi, f_sortD, f_sortO, f_tupL, f_tupO, f_lstT, f_lstL, f_lstD, f_min2, f_minL, f_all, f_any, f_intB, f_str, z_ll, z_tt, ad_nil, ad_cons, objAt, setAll, wipeA, wipeS, List.map_cons, List.map_nil, List.length_cons, List.length_nil, List.replicate, List.cons_append, List.nil_append, Nat.zero_add, Nat.reduceAdd, Nat.reduceSub]
            exact ⟨by trivial, by trivial⟩
          · simp only [wipeA, wipeS, bd_nm, getS, setS, setPs, setAll, List.map_cons, List.map_nil, List.replicate, List.cons_append, List.nil_append, List.length_cons, List.length_nil, Nat.zero_add, Nat.reduceAdd, Nat.reduceSub]
            simp only [bodyW, e_var, e_cst, e_dct, e_bin, e_neg, e_not, e_cmp, e_cmp2, e_and, e_or, e_ite, e_tup, e_lst, e_idx, e_slc, e_rev, e_fn, e_call, es_nil, es_cons, o_none, o_some, t_tt, t_and, t_or, t_not, t_val, i_seq, i_rng, i_enm, i_zip, p_nil, p_cons, s_set, s_setO, s_unp, s_par, s_aug, s_ext, s_iff, s_ret, s_app, s_pop, s_stL, s_stD, s_appN, s_popN, s_drop, s_cont, s_brk, ss_nil, ss_cons, getS, setS, setPs, rs_val, rs_obj, rs_new, rsv_d, rsv_last, b_add, b_addL, b_addT, b_sub, b_mul, b_div, b_mod, b_pow, c_eq, c_ne, c_lt, c_le, c_gt, c_ge, c_inL, c_inT, c_niL, c_niT, c_isB, c_isN, c_isI, c_isT, c_inN, c_inI, c_inTu, tr_non, tr_bl, tr_int, tr_lst, tr_tup, x_lst, x_tup, sl_l, sl_t, rv_l, nw_f, nw_t, au_add, au_sub, au_mul, la_last, bd_nm, bd_tp, sq_l, sq_t, f_len, f_isi, f_sortD, f_sortO, f_tupL, f_tupO, f_lstT, f_lstL, f_lstD, f_min2, f_minL, f_all, f_any, f_intB, f_str, z_ll, z_tt, ad_nil, ad_cons, objAt, setAll, wipeA, wipeS, List.map_cons, List.map_nil, List.length_cons, List.length_nil, List.replicate, List.cons_append, List.nil_append, Nat.zero_add, Nat.reduceAdd, Nat.reduceSub, tupI, inD_ints]
            exact ⟨⟨flat_int 0 _, flat_ints 0, by trivial, by trivial⟩, fun _ => ⟨by trivial, by trivial⟩⟩
        subst e1 e2
        simp only [getS, setS, setPs, setAll, List.map_cons, List.map_nil, List.replicate, List.cons_append, List.nil_append, List.length_cons, List.length_nil, Nat.zero_add, Nat.reduceAdd, Nat.reduceSub, rs_new]
        refine st_no mo (fun os11 => os11 = os10) ?_ fun os11 e => ?_
        · simp only [bodyW, e_var, e_cst, e_dct, e_bin, e_neg, e_not, e_cmp, e_cmp2, e_and, e_or, e_ite, e_tup, e_lst, e_idx, e_slc, e_rev, e_fn, e_call, es_nil, es_cons, o_none, o_some, t_tt, t_and, t_or, t_not, t_val, i_seq, i_rng, i_enm, i_zip, p_nil, p_cons, s_set, s_setO, s_unp, s_par, s_aug, s_ext, s_iff, s_ret, s_app, s_pop, s_stL, s_stD, s_appN, s_popN, s_drop, s_cont, s_brk, ss_nil, ss_cons, getS, setS, setPs, rs_val, rs_obj, rs_new, rsv_d, rsv_last, b_add, b_addL, b_addT, b_sub, b_mul, b_div, b_mod, b_pow, c_eq, c_ne, c_lt, c_le, c_gt, c_ge, c_inL, c_inT, c_niL, c_niT, c_isB, c_isN, c_isI, c_isT, c_inN, c_inI, c_inTu, tr_non, tr_bl, tr_int, tr_lst, tr_tup, x_lst, x_tup, sl_l, sl_t, rv_l, nw_f, nw_t, au_add, au_sub, au_mul, la_last, bd_nm, bd_tp, sq_l, sq_t, f_len, f_isi, f_sortD, f_sortO, f_tupL, f_tupO, f_lstT, f_lstL, f_lstD, f_min2, f_minL, f_all, f_any, f_intB, f_str, z_ll, z_tt, ad_nil, ad_cons, objAt, setAll, wipeA, wipeS, List.map_cons, List.map_nil, List.length_cons, List.length_nil, List.replicate, List.cons_append, List.nil_append, Nat.zero_add, Nat.reduceAdd, Nat.reduceSub, h52]
          refine ⟨lightL many W hs, y, rfl, y60.1, y60.2, lightL_len hm hs, LB, ?_⟩
          simp only [bodyW, e_var, e_cst, e_dct, e_bin, e_neg, e_not, e_cmp, e_cmp2, e_and, e_or, e_ite, e_tup, e_lst, e_idx, e_slc, e_rev, e_fn, e_call, es_nil, es_cons, o_none, o_some, t_tt, t_and, t_or, t_not, t_val, i_seq, i_rng, i_enm, i_zip, p_nil, p_cons, s_set, s_setO, s_unp, s_par, s_aug, s_ext, s_iff, s_ret, s_app, s_pop, s_stL, s_stD, s_appN, s_popN, s_drop, s_cont, s_brk, ss_nil, ss_cons, getS, setS, setPs, rs_val, rs_obj, rs_new, rsv_d, rsv_last, b_add, b_addL, b_addT, b_sub, b_mul, b_div, b_mod, b_pow, c_eq, c_ne, c_lt, c_le, c_gt, c_ge, c_inL, c_inT, c_niL, c_niT, c_isB, c_isN, c_isI, c_isT, c_inN, c_inI, c_inTu, tr_non, tr_bl, tr_int, tr_lst, tr_tup, x_lst, x_tup, sl_l, sl_t, rv_l, nw_f, nw_t, au_add, au_sub, au_mul, la_last, bd_nm, bd_tp, sq_l, sq_t, f_len, f_isi, f_sortD, f_sortO, f_tupL, f_tupO, f_lstT, f_lstL, f_lstD, f_min2, f_minL, f_all, f_any, f_intB, f_str, z_ll, z_tt, ad_nil, ad_cons, objAt, setAll, wipeA, wipeS, List.map_cons, List.map_nil, List.length_cons, List.length_nil, List.replicate, List.cons_append, List.nil_append, Nat.zero_add, Nat.reduceAdd, Nat.reduceSub, eq_nil, all_notin]
          refine ⟨by decide, flat_lst 7 _, flat_lst 7 [], flat_bl 8 _, flat_bl 8 _, ?_, trivial⟩
          rw [eq_bl, lit_any hW hm hs hr.2 hy2]
          simp
        subst e
        -- more holes
        refine st_set mo (fun r os12 => ∃ ms, r = .val (tupI ms) ∧ (∀ c, c ∈ ms ↔ c ∈ hs ++ prickedL many W y.1 y.2) ∧ os12 = os11) ?_ fun r os12 ⟨ms, e1, hms, e2⟩ => ?_
        · simp only [bodyW, e_var, e_cst, e_dct, e_bin, e_neg, e_not, e_cmp, e_cmp2, e_and, e_or, e_ite, e_tup, e_lst, e_idx, e_slc, e_rev, e_fn, e_call, es_nil, es_cons, o_none, o_some, t_tt, t_and, t_or, t_not, t_val, i_seq, i_rng, i_enm, i_zip, p_nil, p_cons, s_set, s_setO, s_unp, s_par, s_aug, s_ext, s_iff, s_ret, s_app, s_pop, s_stL, s_stD, s_appN, s_popN, s_drop, s_cont, s_brk, ss_nil, ss_cons, getS, setS, setPs, rs_val, rs_obj, rs_new, rsv_d, rsv_last, b_add, b_addL, b_addT, b_sub, b_mul, b_div, b_mod, b_pow, c_eq, c_ne, c_lt, c_le, c_gt, c_ge, c_inL, c_inT, c_niL, c_niT, c_isB, c_isN, c_isI, c_isT, c_inN, c_inI, c_inTu, tr_non, tr_bl, tr_int, tr_lst, tr_tup, x_lst, x_tup, sl_l, sl_t, rv_l, nw_f, nw_t, au_add, au_sub, au_mul, la_last, bd_nm, bd_tp, sq_l, sq_t, f_len, f_isi, f_sortD, f_sortO, f_tupL, f_tupO, f_lstT, f_lstL, f_lstD, f_min2, f_minL, f_all, f_any, f_intB, f_str, z_ll, z_tt, ad_nil, ad_cons, objAt, setAll, wipeA, wipeS, List.map_cons, List.map_nil, List.length_cons, List.length_nil, List.replicate, List.cons_append, List.nil_append, Nat.zero_add, Nat.reduceAdd, Nat.reduceSub, f_setT, tupI]
          have hsl := wh.len
          refine ⟨by rw [List.length_map, List.length_map]; unfold lim; omega, hs ++ prickedL many W y.1 y.2, by rw [List.map_append], ?_, fun ms _ hms => ⟨ms, by trivial, hms, by trivial⟩⟩
          have := pricked_len2 many W y.1 y.2
          rw [List.length_append]
          omega
        subst e1 e2
        simp only [getS, setS, setPs, setAll, List.map_cons, List.map_nil, List.replicate, List.cons_append, List.nil_append, List.length_cons, List.length_nil, Nat.zero_add, Nat.reduceAdd, Nat.reduceSub, rs_val]
        refine st_set mo (fun r os13 => r = .new (.lst ((lightL many W ms).map litI)) ∧ os13 = os12) (by simp only [bodyW, e_var, e_cst, e_dct, e_bin, e_neg, e_not, e_cmp, e_cmp2, e_and, e_or, e_ite, e_tup, e_lst, e_idx, e_slc, e_rev, e_fn, e_call, es_nil, es_cons, o_none, o_some, t_tt, t_and, t_or, t_not, t_val, i_seq, i_rng, i_enm, i_zip, p_nil, p_cons, s_set, s_setO, s_unp, s_par, s_aug, s_ext, s_iff, s_ret, s_app, s_pop, s_stL, s_stD, s_appN, s_popN, s_drop, s_cont, s_brk, ss_nil, ss_cons, getS, setS, setPs, rs_val, rs_obj, rs_new, rsv_d, rsv_last, b_add, b_addL, b_addT, b_sub, b_mul, b_div, b_mod, b_pow, c_eq, c_ne, c_lt, c_le, c_gt, c_ge, c_inL, c_inT, c_niL, c_niT, c_isB, c_isN, c_isI, c_isT, c_inN, c_inI, c_inTu, tr_non, tr_bl, tr_int, tr_lst, tr_tup, x_lst, x_tup, sl_l, sl_t, rv_l, nw_f, nw_t, au_add, au_sub, au_mul, la_last, bd_nm, bd_tp, sq_l, sq_t, f_len, f_isi, f_sortD, f_sortO, f_tupL, f_tupO, f_lstT, f_lstL, f_lstD, f_min2, f_minL, f_all, f_any, f_intB, f_str, z_ll, z_tt, ad_nil, ad_cons, objAt, setAll, wipeA, wipeS, List.map_cons, List.map_nil, List.length_cons, List.length_nil, List.replicate, List.cons_append, List.nil_append, Nat.zero_add, Nat.reduceAdd, Nat.reduceSub, h17]; exact ⟨many, W, ms, rfl, hW, hm1, hm, by trivial, by trivial⟩) fun r os13 ⟨e1, e2⟩ => ?_
        subst e1 e2
        simp only [getS, setS, setPs, setAll, List.map_cons, List.map_nil, List.replicate, List.cons_append, List.nil_append, List.length_cons, List.length_nil, Nat.zero_add, Nat.reduceAdd, Nat.reduceSub, rs_new]
        have lit2 : ∀ x : Fr, 0 < x.2 → x.1 < x.2 → (∀ c ∈ prickedL many W x.1 x.2, c ∈ hs ++ prickedL many W y.1 y.2) → (lightL many W ms).any (covB x) = true := fun x h1 h2 h3 => by
          rw [lit_any hW hm ms h1 h2, List.all_eq_true]
          exact fun c hc => decide_eq_true ((hms c).mpr (h3 c hc))
        have LB2 := lit_bnds (many := many) hW hm ms
        refine st_no mo (fun os14 => os14 = os13) ?_ fun os14 e => ?_
        · simp only [bodyW, e_var, e_cst, e_dct, e_bin, e_neg, e_not, e_cmp, e_cmp2, e_and, e_or, e_ite, e_tup, e_lst, e_idx, e_slc, e_rev, e_fn, e_call, es_nil, es_cons, o_none, o_some, t_tt, t_and, t_or, t_not, t_val, i_seq, i_rng, i_enm, i_zip, p_nil, p_cons, s_set, s_setO, s_unp, s_par, s_aug, s_ext, s_iff, s_ret, s_app, s_pop, s_stL, s_stD, s_appN, s_popN, s_drop, s_cont, s_brk, ss_nil, ss_cons, getS, setS, setPs, rs_val, rs_obj, rs_new, rsv_d, rsv_last, b_add, b_addL, b_addT, b_sub, b_mul, b_div, b_mod, b_pow, c_eq, c_ne, c_lt, c_le, c_gt, c_ge, c_inL, c_inT, c_niL, c_niT, c_isB, c_isN, c_isI, c_isT, c_inN, c_inI, c_inTu, tr_non, tr_bl, tr_int, tr_lst, tr_tup, x_lst, x_tup, sl_l, sl_t, rv_l, nw_f, nw_t, au_add, au_sub, au_mul, la_last, bd_nm, bd_tp, sq_l, sq_t, f_len, f_isi, f_sortD, f_sortO, f_tupL, f_tupO, f_lstT, f_lstL, f_lstD, f_min2, f_minL, f_all, f_any, f_intB, f_str, z_ll, z_tt, ad_nil, ad_cons, objAt, setAll, wipeA, wipeS, List.map_cons, List.map_nil, List.length_cons, List.length_nil, List.replicate, List.cons_append, List.nil_append, Nat.zero_add, Nat.reduceAdd, Nat.reduceSub, h52]
          refine ⟨lightL many W ms, y, rfl, y60.1, y60.2, lightL_len hm ms, LB2, ?_⟩
          simp only [bodyW, e_var, e_cst, e_dct, e_bin, e_neg, e_not, e_cmp, e_cmp2, e_and, e_or, e_ite, e_tup, e_lst, e_idx, e_slc, e_rev, e_fn, e_call, es_nil, es_cons, o_none, o_some, t_tt, t_and, t_or, t_not, t_val, i_seq, i_rng, i_enm, i_zip, p_nil, p_cons, s_set, s_setO, s_unp, s_par, s_aug, s_ext, s_iff, s_ret, s_app, s_pop, s_stL, s_stD, s_appN, s_popN, s_drop, s_cont, s_brk, ss_nil, ss_cons, getS, setS, setPs, rs_val, rs_obj, rs_new, rsv_d, rsv_last, b_add, b_addL, b_addT, b_sub, b_mul, b_div, b_mod, b_pow, c_eq, c_ne, c_lt, c_le, c_gt, c_ge, c_inL, c_inT, c_niL, c_niT, c_isB, c_isN, c_isI, c_isT, c_inN, c_inI, c_inTu, tr_non, tr_bl, tr_int, tr_lst, tr_tup, x_lst, x_tup, sl_l, sl_t, rv_l, nw_f, nw_t, au_add, au_sub, au_mul, la_last, bd_nm, bd_tp, sq_l, sq_t, f_len, f_isi, f_sortD, f_sortO, f_tupL, f_tupO, f_lstT, f_lstL, f_lstD, f_min2, f_minL, f_all, f_any, f_intB, f_str, z_ll, z_tt, ad_nil, ad_cons, objAt, setAll, wipeA, wipeS, List.map_cons, List.map_nil, List.length_cons, List.length_nil, List.replicate, List.cons_append, List.nil_append, Nat.zero_add, Nat.reduceAdd, Nat.reduceSub, lit2 y hr.2 hy2 fun c hc => List.mem_append_right _ hc]
          exact ⟨by trivial, by trivial⟩
        subst e
        refine st_no mo (fun os15 => os15 = os14) ?_ fun os15 e => ?_
        · rw [t_val, e_cmp]
          refine lc_filL mo (lightL many W hs) litI litI (fun _ => false) ?_ (Nat.le_trans (lightL_len hm hs) (by decide)) (fun l hl => ?_) ?_
          · simp only [bodyW, e_var, e_cst, e_dct, e_bin, e_neg, e_not, e_cmp, e_cmp2, e_and, e_or, e_ite, e_tup, e_lst, e_idx, e_slc, e_rev, e_fn, e_call, es_nil, es_cons, o_none, o_some, t_tt, t_and, t_or, t_not, t_val, i_seq, i_rng, i_enm, i_zip, p_nil, p_cons, s_set, s_setO, s_unp, s_par, s_aug, s_ext, s_iff, s_ret, s_app, s_pop, s_stL, s_stD, s_appN, s_popN, s_drop, s_cont, s_brk, ss_nil, ss_cons, getS, setS, setPs, rs_val, rs_obj, rs_new, rsv_d, rsv_last, b_add, b_addL, b_addT, b_sub, b_mul, b_div, b_mod, b_pow, c_eq, c_ne, c_lt, c_le, c_gt, c_ge, c_inL, c_inT, c_niL, c_niT, c_isB, c_isN, c_isI, c_isT, c_inN, c_inI, c_inTu, tr_non, tr_bl, tr_int, tr_lst, tr_tup, x_lst, x_tup, sl_l, sl_t, rv_l, nw_f, nw_t, au_add, au_sub, au_mul, la_last, bd_nm, bd_tp, sq_l, sq_t, f_len, f_isi, f_sortD, f_sortO, f_tupL, f_tupO, f_lstT, f_lstL, f_lstD, f_min2, f_minL, f_all, f_any, f_intB, f_str, z_ll, z_tt, ad_nil, ad_cons, objAt, setAll, wipeA, wipeS, List.map_cons, List.map_nil, List.length_cons, List.length_nil, List.replicate, List.cons_append, List.nil_append, Nat.zero_add, Nat.reduceAdd, Nat.reduceSub]
            exact ⟨by trivial, by trivial⟩
          · simp only [wipeA, wipeS, bd_nm, getS, setS, setPs, setAll, List.map_cons, List.map_nil, List.replicate, List.cons_append, List.nil_append, List.length_cons, List.length_nil, Nat.zero_add, Nat.reduceAdd, Nat.reduceSub]
            obtain ⟨⟨b1, b2, b3⟩, _⟩ := lit_bnd hW hm hl
            simp only [bodyW, e_var, e_cst, e_dct, e_bin, e_neg, e_not, e_cmp, e_cmp2, e_and, e_or, e_ite, e_tup, e_lst, e_idx, e_slc, e_rev, e_fn, e_call, es_nil, es_cons, o_none, o_some, t_tt, t_and, t_or, t_not, t_val, i_seq, i_rng, i_enm, i_zip, p_nil, p_cons, s_set, s_setO, s_unp, s_par, s_aug, s_ext, s_iff, s_ret, s_app, s_pop, s_stL, s_stD, s_appN, s_popN, s_drop, s_cont, s_brk, ss_nil, ss_cons, getS, setS, setPs, rs_val, rs_obj, rs_new, rsv_d, rsv_last, b_add, b_addL, b_addT, b_sub, b_mul, b_div, b_mod, b_pow, c_eq, c_ne, c_lt, c_le, c_gt, c_ge, c_inL, c_inT, c_niL, c_niT, c_isB, c_isN, c_isI, c_isT, c_inN, c_inI, c_inTu, tr_non, tr_bl, tr_int, tr_lst, tr_tup, x_lst, x_tup, sl_l, sl_t, rv_l, nw_f, nw_t, au_add, au_sub, au_mul, la_last, bd_nm, bd_tp, sq_l, sq_t, f_len, f_isi, f_sortD, f_sortO, f_tupL, f_tupO, f_lstT, f_lstL, f_lstD, f_min2, f_minL, f_all, f_any, f_intB, f_str, z_ll, z_tt, ad_nil, ad_cons, objAt, setAll, wipeA, wipeS, List.map_cons, List.map_nil, List.length_cons, List.length_nil, List.replicate, List.cons_append, List.nil_append, Nat.zero_add, Nat.reduceAdd, Nat.reduceSub, litI, ixD, at2_0, at2_1, h52]
            refine ⟨⟨lightL many W ms, l.1, rfl, by omega, by omega, lightL_len hm ms, LB2, ?_⟩, fun z => by cases z⟩
            have hlit : ∀ c ∈ prickedL many W l.1.1 l.1.2, c ∈ hs := by
              refine (light_iff hW hm hs b1 b3).mp ⟨l, hl, ltF_irr _, ((LO.red l hl).2.2)⟩
            simp only [bodyW, e_var, e_cst, e_dct, e_bin, e_neg, e_not, e_cmp, e_cmp2, e_and, e_or, e_ite, e_tup, e_lst, e_idx, e_slc, e_rev, e_fn, e_call, es_nil, es_cons, o_none, o_some, t_tt, t_and, t_or, t_not, t_val, i_seq, i_rng, i_enm, i_zip, p_nil, p_cons, s_set, s_setO, s_unp, s_par, s_aug, s_ext, s_iff, s_ret, s_app, s_pop, s_stL, s_stD, s_appN, s_popN, s_drop, s_cont, s_brk, ss_nil, ss_cons, getS, setS, setPs, rs_val, rs_obj, rs_new, rsv_d, rsv_last, b_add, b_addL, b_addT, b_sub, b_mul, b_div, b_mod, b_pow, c_eq, c_ne, c_lt, c_le, c_gt, c_ge, c_inL, c_inT, c_niL, c_niT, c_isB, c_isN, c_isI, c_isT, c_inN, c_inI, c_inTu, tr_non, tr_bl, tr_int, tr_lst, tr_tup, x_lst, x_tup, sl_l, sl_t, rv_l, nw_f, nw_t, au_add, au_sub, au_mul, la_last, bd_nm, bd_tp, sq_l, sq_t, f_len, f_isi, f_sortD, f_sortO, f_tupL, f_tupO, f_lstT, f_lstL, f_lstD, f_min2, f_minL, f_all, f_any, f_intB, f_str, z_ll, z_tt, ad_nil, ad_cons, objAt, setAll, wipeA, wipeS, List.map_cons, List.map_nil, List.length_cons, List.length_nil, List.replicate, List.cons_append, List.nil_append, Nat.zero_add, Nat.reduceAdd, Nat.reduceSub, lit2 l.1 b1 b3 fun c hc => List.mem_append_left _ (hlit c hc)]
            exact ⟨by trivial, by trivial⟩
          · have hfil : ((lightL many W hs).filter fun _ => false) = [] := by rw [List.filter_eq_nil_iff]; simp
            simp only [bodyW, e_var, e_cst, e_dct, e_bin, e_neg, e_not, e_cmp, e_cmp2, e_and, e_or, e_ite, e_tup, e_lst, e_idx, e_slc, e_rev, e_fn, e_call, es_nil, es_cons, o_none, o_some, t_tt, t_and, t_or, t_not, t_val, i_seq, i_rng, i_enm, i_zip, p_nil, p_cons, s_set, s_setO, s_unp, s_par, s_aug, s_ext, s_iff, s_ret, s_app, s_pop, s_stL, s_stD, s_appN, s_popN, s_drop, s_cont, s_brk, ss_nil, ss_cons, getS, setS, setPs, rs_val, rs_obj, rs_new, rsv_d, rsv_last, b_add, b_addL, b_addT, b_sub, b_mul, b_div, b_mod, b_pow, c_eq, c_ne, c_lt, c_le, c_gt, c_ge, c_inL, c_inT, c_niL, c_niT, c_isB, c_isN, c_isI, c_isT, c_inN, c_inI, c_inTu, tr_non, tr_bl, tr_int, tr_lst, tr_tup, x_lst, x_tup, sl_l, sl_t, rv_l, nw_f, nw_t, au_add, au_sub, au_mul, la_last, bd_nm, bd_tp, sq_l, sq_t, f_len, f_isi, f_sortD, f_sortO, f_tupL, f_tupO, f_lstT, f_lstL, f_lstD, f_min2, f_minL, f_all, f_any, f_intB, f_str, z_ll, z_tt, ad_nil, ad_cons, objAt, setAll, wipeA, wipeS, List.map_cons, List.map_nil, List.length_cons, List.length_nil, List.replicate, List.cons_append, List.nil_append, Nat.zero_add, Nat.reduceAdd, Nat.reduceSub, hfil]
            exact ⟨by decide, by simp [Flat], by simp [Flat], by simp [eqD, eqDs], by trivial⟩
        subst e
        rw [ss_nil]
        exact ⟨_, _, _, _, _, _, rfl, bs8⟩
      subst he
      -- no hole at all
      refine st_set mo (fun r os13 => r = .new (.lst ((lightL many W []).map litI)) ∧ os13 = os') (by simp only [bodyW, e_var, e_cst, e_dct, e_bin, e_neg, e_not, e_cmp, e_cmp2, e_and, e_or, e_ite, e_tup, e_lst, e_idx, e_slc, e_rev, e_fn, e_call, es_nil, es_cons, o_none, o_some, t_tt, t_and, t_or, t_not, t_val, i_seq, i_rng, i_enm, i_zip, p_nil, p_cons, s_set, s_setO, s_unp, s_par, s_aug, s_ext, s_iff, s_ret, s_app, s_pop, s_stL, s_stD, s_appN, s_popN, s_drop, s_cont, s_brk, ss_nil, ss_cons, getS, setS, setPs, rs_val, rs_obj, rs_new, rsv_d, rsv_last, b_add, b_addL, b_addT, b_sub, b_mul, b_div, b_mod, b_pow, c_eq, c_ne, c_lt, c_le, c_gt, c_ge, c_inL, c_inT, c_niL, c_niT, c_isB, c_isN, c_isI, c_isT, c_inN, c_inI, c_inTu, tr_non, tr_bl, tr_int, tr_lst, tr_tup, x_lst, x_tup, sl_l, sl_t, rv_l, nw_f, nw_t, au_add, au_sub, au_mul, la_last, bd_nm, bd_tp, sq_l, sq_t, f_len, f_isi, f_sortD, f_sortO, f_tupL, f_tupO, f_lstT, f_lstL, f_lstD, f_min2, f_minL, f_all, f_any, f_intB, f_str, z_ll, z_tt, ad_nil, ad_cons, objAt, setAll, wipeA, wipeS, List.map_cons, List.map_nil, List.length_cons, List.length_nil, List.replicate, List.cons_append, List.nil_append, Nat.zero_add, Nat.reduceAdd, Nat.reduceSub, h17]; exact ⟨by decide, many, W, [], rfl, hW, hm1, hm, by trivial, by trivial⟩) fun r os13 ⟨e1, e2⟩ => ?_
      subst e1 e2
      simp only [getS, setS, setPs, setAll, List.map_cons, List.map_nil, List.replicate, List.cons_append, List.nil_append, List.length_cons, List.length_nil, Nat.zero_add, Nat.reduceAdd, Nat.reduceSub, rs_new]
      refine st_no mo (fun os14 => os14 = os13) ?_ fun os14 e => ?_
      · simp only [bodyW, e_var, e_cst, e_dct, e_bin, e_neg, e_not, e_cmp, e_cmp2, e_and, e_or, e_ite, e_tup, e_lst, e_idx, e_slc, e_rev, e_fn, e_call, es_nil, es_cons, o_none, o_some, t_tt, t_and, t_or, t_not, t_val, i_seq, i_rng, i_enm, i_zip, p_nil, p_cons, s_set, s_setO, s_unp, s_par, s_aug, s_ext, s_iff, s_ret, s_app, s_pop, s_stL, s_stD, s_appN, s_popN, s_drop, s_cont, s_brk, ss_nil, ss_cons, getS, setS, setPs, rs_val, rs_obj, rs_new, rsv_d, rsv_last, b_add, b_addL, b_addT, b_sub, b_mul, b_div, b_mod, b_pow, c_eq, c_ne, c_lt, c_le, c_gt, c_ge, c_inL, c_inT, c_niL, c_niT, c_isB, c_isN, c_isI, c_isT, c_inN, c_inI, c_inTu, tr_non, tr_bl, tr_int, tr_lst, tr_tup, x_lst, x_tup, sl_l, sl_t, rv_l, nw_f, nw_t, au_add, au_sub, au_mul, la_last, bd_nm, bd_tp, sq_l, sq_t, f_len, f_isi, f_sortD, f_sortO, f_tupL, f_tupO, f_lstT, f_lstL, f_lstD, f_min2, f_minL, f_all, f_any, f_intB, f_str, z_ll, z_tt, ad_nil, ad_cons, objAt, setAll, wipeA, wipeS, List.map_cons, List.map_nil, List.length_cons, List.length_nil, List.replicate, List.cons_append, List.nil_append, Nat.zero_add, Nat.reduceAdd, Nat.reduceSub, Wd.d, tupI, frI, prI, ixD, at3_0, at3_1, at3_2, at2_0, at2_1, eqD, Flat, eq_nil]
        refine ⟨by decide, flat_lits 5 _, flat_lits 5 [], mul_lit _ _ (by decide), trivial, trivial, ?_, trivial⟩
        have hb := bare_iff (many := many) hW hm1 hm
        rw [List.isEmpty_map]
        have e1 : (!(lightL many W []).isEmpty) = decide (2 * many < W.g) := by
          cases z : lightL many W [] with
          | nil => rw [z] at hb; simp at hb; simp; omega
          | cons a l => rw [z] at hb; simp at hb; simp; omega
        have e2 : decide ((2 : Int) * (many : Int) < (W.g : Int)) = decide (2 * many < W.g) := decide_eq_decide.mpr (by omega)
        rw [e1, e2]
        simp
      subst e
      refine st_no mo (fun os15 => os15 = os14) ?_ fun os15 e => ?_
      · simp only [bodyW, e_var, e_cst, e_dct, e_bin, e_neg, e_not, e_cmp, e_cmp2, e_and, e_or, e_ite, e_tup, e_lst, e_idx, e_slc, e_rev, e_fn, e_call, es_nil, es_cons, o_none, o_some, t_tt, t_and, t_or, t_not, t_val, i_seq, i_rng, i_enm, i_zip, p_nil, p_cons, s_set, s_setO, s_unp, s_par, s_aug, s_ext, s_iff, s_ret, s_app, s_pop, s_stL, s_stD, s_appN, s_popN, s_drop, s_cont, s_brk, ss_nil, ss_cons, getS, setS, setPs, rs_val, rs_obj, rs_new, rsv_d, rsv_last, b_add, b_addL, b_addT, b_sub, b_mul, b_div, b_mod, b_pow, c_eq, c_ne, c_lt, c_le, c_gt, c_ge, c_inL, c_inT, c_niL, c_niT, c_isB, c_isN, c_isI, c_isT, c_inN, c_inI, c_inTu, tr_non, tr_bl, tr_int, tr_lst, tr_tup, x_lst, x_tup, sl_l, sl_t, rv_l, nw_f, nw_t, au_add, au_sub, au_mul, la_last, bd_nm, bd_tp, sq_l, sq_t, f_len, f_isi, f_sortD, f_sortO, f_tupL, f_tupO, f_lstT, f_lstL, f_lstD, f_min2, f_minL, f_all, f_any, f_intB, f_str, z_ll, z_tt, ad_nil, ad_cons, objAt, setAll, wipeA, wipeS, List.map_cons, List.map_nil, List.length_cons, List.length_nil, List.replicate, List.cons_append, List.nil_append, Nat.zero_add, Nat.reduceAdd, Nat.reduceSub, h17, e_tupR]
        refine ⟨⟨by omega, by unfold lim; omega⟩, many, W, rngI many, by rw [rngI_D]; rfl, hW, hm1, hm, ?_⟩
        rw [light_full hW hm]
        simp only [bodyW, e_var, e_cst, e_dct, e_bin, e_neg, e_not, e_cmp, e_cmp2, e_and, e_or, e_ite, e_tup, e_lst, e_idx, e_slc, e_rev, e_fn, e_call, es_nil, es_cons, o_none, o_some, t_tt, t_and, t_or, t_not, t_val, i_seq, i_rng, i_enm, i_zip, p_nil, p_cons, s_set, s_setO, s_unp, s_par, s_aug, s_ext, s_iff, s_ret, s_app, s_pop, s_stL, s_stD, s_appN, s_popN, s_drop, s_cont, s_brk, ss_nil, ss_cons, getS, setS, setPs, rs_val, rs_obj, rs_new, rsv_d, rsv_last, b_add, b_addL, b_addT, b_sub, b_mul, b_div, b_mod, b_pow, c_eq, c_ne, c_lt, c_le, c_gt, c_ge, c_inL, c_inT, c_niL, c_niT, c_isB, c_isN, c_isI, c_isT, c_inN, c_inI, c_inTu, tr_non, tr_bl, tr_int, tr_lst, tr_tup, x_lst, x_tup, sl_l, sl_t, rv_l, nw_f, nw_t, au_add, au_sub, au_mul, la_last, bd_nm, bd_tp, sq_l, sq_t, f_len, f_isi, f_sortD, f_sortO, f_tupL, f_tupO, f_lstT, f_lstL, f_lstD, f_min2, f_minL, f_all, f_any, f_intB, f_str, z_ll, z_tt, ad_nil, ad_cons, objAt, setAll, wipeA, wipeS, List.map_cons, List.map_nil, List.length_cons, List.length_nil, List.replicate, List.cons_append, List.nil_append, Nat.zero_add, Nat.reduceAdd, Nat.reduceSub]
        refine ⟨by decide, by decide, by decide, by decide, flat_lits 5 [((0, 1), (1, 1))], flat_lits 5 [((0, 1), (1, 1))], ?_, trivial⟩
        rw [show eqD (.lst [litI ((0, 1), (1, 1))]) (.lst [.tup [.tup [.int 0, .int 1], .tup [.int 1, .int 1]]]) = true from eqD_self (flat_lits 5 [((0, 1), (1, 1))])]
        rfl
      subst e
      rw [ss_nil]
      exact ⟨_, rfl, rfl, bs4.scr, bs4.tbl⟩
  · refine st_ret mo (fun r os1 => r = .val (.bl true) ∧ os1 = os') ?_ fun r os1 ⟨e1, e2⟩ => ?_
    · simp only [bodyW, e_var, e_cst, e_dct, e_bin, e_neg, e_not, e_cmp, e_cmp2, e_and, e_or, e_ite, e_tup, e_lst, e_idx, e_slc, e_rev, e_fn, e_call, es_nil, es_cons, o_none, o_some, t_tt, t_and, t_or, t_not, t_val, i_seq, i_rng, i_enm, i_zip, p_nil, p_cons, s_set, s_setO, s_unp, s_par, s_aug, s_ext, s_iff, s_ret, s_app, s_pop, s_stL, s_stD, s_appN, s_popN, s_drop, s_cont, s_brk, ss_nil, ss_cons, getS, setS, setPs, rs_val, rs_obj, rs_new, rsv_d, rsv_last, b_add, b_addL, b_addT, b_sub, b_mul, b_div, b_mod, b_pow, c_eq, c_ne, c_lt, c_le, c_gt, c_ge, c_inL, c_inT, c_niL, c_niT, c_isB, c_isN, c_isI, c_isT, c_inN, c_inI, c_inTu, tr_non, tr_bl, tr_int, tr_lst, tr_tup, x_lst, x_tup, sl_l, sl_t, rv_l, nw_f, nw_t, au_add, au_sub, au_mul, la_last, bd_nm, bd_tp, sq_l, sq_t, f_len, f_isi, f_sortD, f_sortO, f_tupL, f_tupO, f_lstT, f_lstL, f_lstD, f_min2, f_minL, f_all, f_any, f_intB, f_str, z_ll, z_tt, ad_nil, ad_cons, objAt, setAll, wipeA, wipeS, List.map_cons, List.map_nil, List.length_cons, List.length_nil, List.replicate, List.cons_append, List.nil_append, Nat.zero_add, Nat.reduceAdd, Nat.reduceSub, h17]
      refine ⟨by decide, by decide, 2, ⟨5, 0, 0⟩, [], rfl, ⟨by decide, by decide, by decide, by decide⟩, by decide, by decide, ?_⟩
      have e : lightL 2 ⟨5, 0, 0⟩ [] = [((4, 5), (1, 1))] := by decide +kernel
      rw [e]
      simp only [bodyW, e_var, e_cst, e_dct, e_bin, e_neg, e_not, e_cmp, e_cmp2, e_and, e_or, e_ite, e_tup, e_lst, e_idx, e_slc, e_rev, e_fn, e_call, es_nil, es_cons, o_none, o_some, t_tt, t_and, t_or, t_not, t_val, i_seq, i_rng, i_enm, i_zip, p_nil, p_cons, s_set, s_setO, s_unp, s_par, s_aug, s_ext, s_iff, s_ret, s_app, s_pop, s_stL, s_stD, s_appN, s_popN, s_drop, s_cont, s_brk, ss_nil, ss_cons, getS, setS, setPs, rs_val, rs_obj, rs_new, rsv_d, rsv_last, b_add, b_addL, b_addT, b_sub, b_mul, b_div, b_mod, b_pow, c_eq, c_ne, c_lt, c_le, c_gt, c_ge, c_inL, c_inT, c_niL, c_niT, c_isB, c_isN, c_isI, c_isT, c_inN, c_inI, c_inTu, tr_non, tr_bl, tr_int, tr_lst, tr_tup, x_lst, x_tup, sl_l, sl_t, rv_l, nw_f, nw_t, au_add, au_sub, au_mul, la_last, bd_nm, bd_tp, sq_l, sq_t, f_len, f_isi, f_sortD, f_sortO, f_tupL, f_tupO, f_lstT, f_lstL, f_lstD, f_min2, f_minL, f_all, f_any, f_intB, f_str, z_ll, z_tt, ad_nil, ad_cons, objAt, setAll, wipeA, wipeS, List.map_cons, List.map_nil, List.length_cons, List.length_nil, List.replicate, List.cons_append, List.nil_append, Nat.zero_add, Nat.reduceAdd, Nat.reduceSub]
      refine ⟨by decide, by decide, by decide, by decide, flat_lits 5 [((4, 5), (1, 1))], flat_lits 5 [((4, 5), (1, 1))], ?_, trivial⟩
      rw [show eqD (.lst [litI ((4, 5), (1, 1))]) (.lst [.tup [.tup [.int 4, .int 5], .tup [.int 1, .int 1]]]) = true from eqD_self (flat_lits 5 [((4, 5), (1, 1))])]
    subst e1 e2
    show leave 2 Q (.val (.bl true)) os1
    rw [leave_val, take2 ho ho1]
    exact h
end N66

namespace N66
open PySem PySem.Spec PyProof.Rows L2 LamX
def topS (i : Nat) : Stmt := PySem.Challenge.pw_needleroll_k07_whole_light_comes_through.main.body.getD i (.Pass ⟨0, 0, 0, 0⟩)
def Tb (P0 : Addr) : Tab := fun i => match i with
  | 2 => spLowest
  | 3 => spTurns
  | 6 => spInOrder
  | 30 => spBag
  | 31 => spTake
  | 34 => spLowest
  | 36 => spPricked
  | 51 => spWorth
  | 4 => spPricked
  | 5 => spBreaks
  | 32 => spOf
  | 37 => spLBreaks P0 qK
  | 52 => spIsLit
  | 7 => spStretches
  | 33 => spWinding
  | 35 => spAngle
  | 38 => spLStretches P0 qK
  | 8 => spHarmless
  | 41 => spWished
  | 53 => spLLit P0 qK
  | 17 => spLight
  | 99 => spLawT P0 qK
  | 98 => spSrtK P0 qK
  | _ => fun _ _ _ => False
theorem moTb {P0 : Addr} : MoTab (Tb P0) := by
  intro i ss os Q Q' h hq
  unfold Tb at h ⊢
  split at h
  · exact mo_spLowest h hq
  · exact mo_spTurns h hq
  · exact mo_spInOrder h hq
  · exact mo_spBag h hq
  · exact mo_spTake h hq
  · exact mo_spLowest h hq
  · exact mo_spPricked h hq
  · exact mo_spWorth h hq
  · exact mo_spPricked h hq
  · exact mo_spBreaks h hq
  · exact mo_spOf h hq
  · exact mo_spLBreaks h hq
  · exact mo_spIsLit h hq
  · exact mo_spStretches h hq
  · exact mo_spWinding h hq
  · exact mo_spAngle h hq
  · exact mo_spLStretches h hq
  · exact mo_spHarmless h hq
  · exact mo_spWished h hq
  · exact mo_spLLit h hq
  · exact mo_spLight h hq
  · exact mo_spLawT h hq
  · exact mo_spSrtK h hq
  · exact h.elim
abbrev st_lowest : Stmt := topS 1
def r_lowest : Tr := { N := ["top", "bottom", "one", "other"], sc := defScope (topS 1), raw := defScope (topS 1), fs := [], cs := [], ts := [], ob := [], tk := [], dk := [] }
theorem sc_lowest : FnScope ["top", "bottom", "one", "other"] ["top", "bottom"] (defScope st_lowest) := ⟨rfl, rfl, rfl, by decide +kernel, rfl, by decide +kernel, by decide +kernel⟩
theorem tr_lowest : (trSS (trF 40) 40).S r_lowest (defBody st_lowest) = some p_lowest := by rfl
abbrev st_turns : Stmt := topS 2
def r_turns : Tr := { N := ["many", "winding", "found", "begin", "length"], sc := defScope (topS 2), raw := defScope (topS 2), fs := [], cs := [], ts := [], ob := ["found"], tk := [], dk := [] }
theorem sc_turns : FnScope ["many", "winding", "found", "begin", "length"] ["many", "winding"] (defScope st_turns) := ⟨rfl, rfl, rfl, by decide +kernel, rfl, by decide +kernel, by decide +kernel⟩
theorem tr_turns : (trSS (trF 40) 40).S r_turns (defBody st_turns) = some p_turns := by rfl
abbrev st_in_order : Stmt := topS 5
def r_in_order : Tr := { N := ["angles", "bottom", "angle", "worth"], sc := defScope (topS 5), raw := defScope (topS 5), fs := [], cs := [], ts := [], ob := [], tk := [], dk := [] }
theorem sc_in_order : FnScope ["angles", "bottom", "angle", "worth"] ["angles"] (defScope st_in_order) := ⟨rfl, rfl, rfl, by decide +kernel, rfl, by decide +kernel, by decide +kernel⟩
theorem tr_in_order : (trSS (trF 40) 40).S r_in_order (defBody st_in_order) = some p_in_order := by rfl
abbrev st_law_bag : Stmt := topS 12
def r_law_bag : Tr := { N := ["script", "k", "cell", "seed"], sc := defScope (topS 12), raw := defScope (topS 12), fs := [], cs := [], ts := [], ob := [], tk := [], dk := [] }
theorem sc_law_bag : FnScope ["script", "k", "cell", "seed"] ["script", "k"] (defScope st_law_bag) := ⟨rfl, rfl, rfl, by decide +kernel, rfl, by decide +kernel, by decide +kernel⟩
theorem tr_law_bag : (trSS (trF 40) 40).S r_law_bag (defBody st_law_bag) = some p_law_bag := by rfl
abbrev st_law_take : Stmt := topS 13
def r_law_take : Tr := { N := ["bag", "count", "found"], sc := defScope (topS 13), raw := defScope (topS 13), fs := [], cs := [], ts := [], ob := ["bag"], tk := [], dk := [] }
theorem sc_law_take : FnScope ["bag", "count", "found"] ["bag", "count"] (defScope st_law_take) := ⟨rfl, rfl, rfl, by decide +kernel, rfl, by decide +kernel, by decide +kernel⟩
theorem tr_law_take : (trSS (trF 40) 40).S r_law_take (defBody st_law_take) = some p_law_take := by rfl
abbrev st_law_lowest : Stmt := topS 16
def r_law_lowest : Tr := { N := ["top", "bottom", "one", "other"], sc := defScope (topS 16), raw := defScope (topS 16), fs := [], cs := [], ts := [], ob := [], tk := [], dk := [] }
theorem sc_law_lowest : FnScope ["top", "bottom", "one", "other"] ["top", "bottom"] (defScope st_law_lowest) := ⟨rfl, rfl, rfl, by decide +kernel, rfl, by decide +kernel, by decide +kernel⟩
theorem tr_law_lowest : (trSS (trF 40) 40).S r_law_lowest (defBody st_law_lowest) = some p_law_lowest := by rfl
abbrev st_law_pricked : Stmt := topS 18
def r_law_pricked : Tr := { N := ["many", "winding", "angle", "found", "begin", "length", "point", "cell"], sc := defScope (topS 18), raw := defScope (topS 18), fs := [], cs := [], ts := [], ob := ["found"], tk := [], dk := [] }
theorem sc_law_pricked : FnScope ["many", "winding", "angle", "found", "begin", "length", "point", "cell"] ["many", "winding", "angle"] (defScope st_law_pricked) := ⟨rfl, rfl, rfl, by decide +kernel, rfl, by decide +kernel, by decide +kernel⟩
theorem tr_law_pricked : (trSS (trF 40) 40).S r_law_pricked (defBody st_law_pricked) = some p_law_pricked := by rfl
abbrev st_law_less : Stmt := topS 22
def r_law_less : Tr := { N := ["one", "other"], sc := defScope (topS 22), raw := defScope (topS 22), fs := [], cs := [], ts := [], ob := [], tk := [], dk := [] }
theorem sc_law_less : FnScope ["one", "other"] ["one", "other"] (defScope st_law_less) := ⟨rfl, rfl, rfl, by decide +kernel, rfl, by decide +kernel, by decide +kernel⟩
theorem tr_law_less : (trSS (trF 40) 40).S r_law_less (defBody st_law_less) = some p_law_less := by rfl
abbrev st_pricked : Stmt := topS 3
def r_pricked : Tr := { N := ["many", "winding", "angle", "found", "begin", "length", "half", "cell"], sc := defScope (topS 3), raw := defScope (topS 3), fs := [("turns", 3)], cs := [], ts := [], ob := ["found"], tk := [], dk := [] }
theorem sc_pricked : FnScope ["many", "winding", "angle", "found", "begin", "length", "half", "cell"] ["many", "winding", "angle"] (defScope st_pricked) := ⟨rfl, rfl, rfl, by decide +kernel, rfl, by decide +kernel, by decide +kernel⟩
theorem tr_pricked : (trSS (trF 40) 40).S r_pricked (defBody st_pricked) = some p_pricked := by rfl
abbrev st_breaks : Stmt := topS 4
def r_breaks : Tr := { N := ["many", "winding", "found", "begin", "length", "half"], sc := defScope (topS 4), raw := defScope (topS 4), fs := [("turns", 3), ("in_order", 6), ("lowest", 2)], cs := [], ts := [], ob := [], tk := ["found"], dk := [] }
theorem sc_breaks : FnScope ["many", "winding", "found", "begin", "length", "half"] ["many", "winding"] (defScope st_breaks) := ⟨rfl, rfl, rfl, by decide +kernel, rfl, by decide +kernel, by decide +kernel⟩
theorem tr_breaks : (trSS (trF 40) 40).S r_breaks (defBody st_breaks) = some p_breaks := by rfl
abbrev st_law_of : Stmt := topS 14
def r_law_of : Tr := { N := ["bag", "some"], sc := defScope (topS 14), raw := defScope (topS 14), fs := [("_law_take", 31)], cs := [], ts := [], ob := [], tk := [], dk := [] }
theorem sc_law_of : FnScope ["bag", "some"] ["bag", "some"] (defScope st_law_of) := ⟨rfl, rfl, rfl, by decide +kernel, rfl, by decide +kernel, by decide +kernel⟩
theorem tr_law_of : (trSS (trF 40) 40).S r_law_of (defBody st_law_of) = some p_law_of := by rfl
abbrev st_law_breaks : Stmt := topS 19
def r_law_breaks : Tr := { N := ["many", "winding", "found", "begin", "length", "cell"], sc := defScope (topS 19), raw := defScope (topS 19), fs := [("_law_lowest", 34)], cs := [], ts := [], ob := [], tk := ["found"], dk := [], orc := orcK "found" 2 }
theorem sc_law_breaks : FnScope ["many", "winding", "found", "begin", "length", "cell"] ["many", "winding"] (defScope st_law_breaks) := ⟨rfl, rfl, rfl, by decide +kernel, rfl, by decide +kernel, by decide +kernel⟩
theorem tr_law_breaks : (trSS (trF 40) 40).S r_law_breaks (defBody st_law_breaks) = some p_law_breaks := by rfl
abbrev st_law_is_lit : Stmt := topS 23
def r_law_is_lit : Tr := { N := ["rows", "angle", "row"], sc := defScope (topS 23), raw := defScope (topS 23), fs := [("_law_less", 51)], cs := [], ts := [], ob := [], tk := [], dk := [] }
theorem sc_law_is_lit : FnScope ["rows", "angle", "row"] ["rows", "angle"] (defScope st_law_is_lit) := ⟨rfl, rfl, rfl, by decide +kernel, rfl, by decide +kernel, by decide +kernel⟩
theorem tr_law_is_lit : (trSS (trF 40) 40).S r_law_is_lit (defBody st_law_is_lit) = some p_law_is_lit := by rfl
abbrev st_stretches : Stmt := topS 6
def r_stretches : Tr := { N := ["many", "winding", "marks", "ends", "found", "first", "last", "cells"], sc := defScope (topS 6), raw := defScope (topS 6), fs := [("breaks", 5), ("pricked", 4)], cs := [], ts := [], ob := ["found"], tk := [], dk := [] }
theorem sc_stretches : FnScope ["many", "winding", "marks", "ends", "found", "first", "last", "cells"] ["many", "winding"] (defScope st_stretches) := ⟨rfl, rfl, rfl, by decide +kernel, rfl, by decide +kernel, by decide +kernel⟩
theorem tr_stretches : (trSS (trF 40) 40).S r_stretches (defBody st_stretches) = some p_stretches := by rfl
abbrev st_law_winding : Stmt := topS 15
def r_law_winding : Tr := { N := ["bag", "girth"], sc := defScope (topS 15), raw := defScope (topS 15), fs := [("_law_of", 32), ("_law_take", 31)], cs := [], ts := [], ob := [], tk := [], dk := [] }
theorem sc_law_winding : FnScope ["bag", "girth"] ["bag"] (defScope st_law_winding) := ⟨rfl, rfl, rfl, by decide +kernel, rfl, by decide +kernel, by decide +kernel⟩
theorem tr_law_winding : (trSS (trF 40) 40).S r_law_winding (defBody st_law_winding) = some p_law_winding := by rfl
abbrev st_law_angle : Stmt := topS 17
def r_law_angle : Tr := { N := ["bag", "bottom"], sc := defScope (topS 17), raw := defScope (topS 17), fs := [("_law_lowest", 34), ("_law_of", 32), ("_law_take", 31)], cs := [], ts := [], ob := [], tk := [], dk := [] }
theorem sc_law_angle : FnScope ["bag", "bottom"] ["bag"] (defScope st_law_angle) := ⟨rfl, rfl, rfl, by decide +kernel, rfl, by decide +kernel, by decide +kernel⟩
theorem tr_law_angle : (trSS (trF 40) 40).S r_law_angle (defBody st_law_angle) = some p_law_angle := by rfl
abbrev st_law_stretches : Stmt := topS 20
def r_law_stretches : Tr := { N := ["many", "winding", "marks", "found", "first", "last"], sc := defScope (topS 20), raw := defScope (topS 20), fs := [("_law_breaks", 37), ("_law_pricked", 36)], cs := [], ts := [], ob := ["found"], tk := [], dk := [] }
theorem sc_law_stretches : FnScope ["many", "winding", "marks", "found", "first", "last"] ["many", "winding"] (defScope st_law_stretches) := ⟨rfl, rfl, rfl, by decide +kernel, rfl, by decide +kernel, by decide +kernel⟩
theorem tr_law_stretches : (trSS (trF 40) 40).S r_law_stretches (defBody st_law_stretches) = some p_law_stretches := by rfl
abbrev st_harmless : Stmt := topS 8
def r_harmless : Tr := { N := ["many", "winding", "wished", "row", "cell"], sc := defScope (topS 8), raw := defScope (topS 8), fs := [("stretches", 7)], cs := [], ts := [], ob := [], tk := [], dk := [] }
theorem sc_harmless : FnScope ["many", "winding", "wished", "row", "cell"] ["many", "winding", "wished"] (defScope st_harmless) := ⟨rfl, rfl, rfl, by decide +kernel, rfl, by decide +kernel, by decide +kernel⟩
theorem tr_harmless : (trSS (trF 40) 40).S r_harmless (defBody st_harmless) = some p_harmless := by rfl
abbrev st_law_wished : Stmt := topS 21
def r_law_wished : Tr := { N := ["bag", "many", "winding", "way", "cell", "found", "turn"], sc := defScope (topS 21), raw := defScope (topS 21), fs := [("_law_take", 31), ("_law_of", 32), ("_law_pricked", 36), ("_law_angle", 35)], cs := [], ts := [], ob := [], tk := [], dk := ["found"] }
theorem sc_law_wished : FnScope ["bag", "many", "winding", "way", "cell", "found", "turn"] ["bag", "many", "winding"] (defScope st_law_wished) := ⟨rfl, rfl, rfl, by decide +kernel, rfl, by decide +kernel, by decide +kernel⟩
theorem tr_law_wished : (trSS (trF 40) 40).S r_law_wished (defBody st_law_wished) = some p_law_wished := by rfl
abbrev st_law_lit : Stmt := topS 24
def r_law_lit : Tr := { N := ["many", "winding", "holes", "found", "first", "last", "cells", "cell"], sc := defScope (topS 24), raw := defScope (topS 24), fs := [("_law_stretches", 38)], cs := [], ts := [], ob := ["found"], tk := [], dk := [] }
theorem sc_law_lit : FnScope ["many", "winding", "holes", "found", "first", "last", "cells", "cell"] ["many", "winding", "holes"] (defScope st_law_lit) := ⟨rfl, rfl, rfl, by decide +kernel, rfl, by decide +kernel, by decide +kernel⟩
theorem tr_law_lit : (trSS (trF 40) 40).S r_law_lit (defBody st_law_lit) = some p_law_lit := by rfl
abbrev st_light : Stmt := topS 10
def r_light : Tr := { N := ["many", "winding", "holes", "found", "first", "last", "cells"], sc := defScope (topS 10), raw := defScope (topS 10), fs := [("harmless", 8)], cs := [], ts := [], ob := ["found"], tk := [], dk := [] }
theorem sc_light : FnScope ["many", "winding", "holes", "found", "first", "last", "cells"] ["many", "winding", "holes"] (defScope st_light) := ⟨rfl, rfl, rfl, by decide +kernel, rfl, by decide +kernel, by decide +kernel⟩
theorem tr_light : (trSS (trF 40) 40).S r_light (defBody st_light) = some p_light := by rfl
abbrev st_law : Stmt := topS 25
def r_law : Tr := { N := ["script", "k", "bag", "winding", "many", "other", "holes", "rows", "one", "two", "turn", "angle", "cells", "fresh", "cell", "more", "wide", "row", "bare"], sc := defScope (topS 25), raw := defScope (topS 25), fs := [("_law_bag", 30), ("_law_winding", 33), ("_law_wished", 41), ("light", 17), ("_law_of", 32), ("_law_lit", 53), ("_law_angle", 35), ("pricked", 4), ("_law_take", 31), ("_law_less", 51), ("_law_is_lit", 52)], cs := [], ts := [], ob := ["bag"], tk := [], dk := [] }
theorem sc_law : FnScope ["script", "k", "bag", "winding", "many", "other", "holes", "rows", "one", "two", "turn", "angle", "cells", "fresh", "cell", "more", "wide", "row", "bare"] ["script"] (defScope st_law) := ⟨rfl, rfl, rfl, by decide +kernel, rfl, by decide +kernel, by decide +kernel⟩
theorem tr_law : (trSS (trF 40) 40).S r_law (defBody st_law) = some p_law07 := by rfl
section
variable {P : Program} {w : World} {K : PySem.W.Frag} {mg : Str → Option Value} {base : Heap}
structure FnAt (K : PySem.W.Frag) (mg : Str → Option Value) (x : Str) (st : Stmt) (ps : List Str) (f : Addr) (fd : FuncData) : Prop where
  F : L2.Fun K x x st f fd
  b : Binds K fd ps []
  g : mg x = some (.ref f)
theorem ok_lowest (P0 : Addr) {f : Addr} {fd : FuncData} (F : L2.Fun K "lowest" "lowest" st_lowest f fd) (blt : ∀ x ∈ bltNames, mg x = none)  (j : Nat) : FnOk P w K mg base CX0 (j + 1) f fd ["top", "bottom"] (spT spLowest) := by
  refine fn_ok (k := j + 0) (n := 40) (r := r_lowest) (T := Tb P0) (b := p_lowest) F sc_lowest rfl rfl moTb tr_lowest (fun ss os Q h => ?_) (fun ss os Q h => ?_) ?_ ?_ ?_ blt (fun _ => rfl)
  · first | (obtain ⟨_, rfl, _⟩ := h; rfl) | (obtain ⟨_, _, rfl, _⟩ := h; rfl) | (obtain ⟨_, _, _, rfl, _⟩ := h; rfl) | (obtain ⟨_, _, _, _, rfl, _⟩ := h; rfl) | (obtain ⟨_, _, _, _, _, rfl, _⟩ := h; rfl) | (obtain ⟨_, _, _, _, _, _, rfl, _⟩ := h; rfl) | (obtain ⟨_, _, _, _, _, _, _, rfl, _⟩ := h; rfl) | (obtain ⟨_, _, _, _, _, _, _, _, rfl, _⟩ := h; rfl) | (obtain ⟨_, _, _, _, _, _, _, _, _, rfl, _⟩ := h; rfl)
  · apply w_lowest <;> first | exact moTb | rfl | exact h
  · exact lk_nil
  · exact lk_nil
  · exact lk_nil
theorem ok_turns (P0 : Addr) {f : Addr} {fd : FuncData} (F : L2.Fun K "turns" "turns" st_turns f fd) (blt : ∀ x ∈ bltNames, mg x = none)  (j : Nat) : FnOk P w K mg base CX0 (j + 1) f fd ["many", "winding"] (spT spTurns) := by
  refine fn_ok (k := j + 0) (n := 40) (r := r_turns) (T := Tb P0) (b := p_turns) F sc_turns rfl rfl moTb tr_turns (fun ss os Q h => ?_) (fun ss os Q h => ?_) ?_ ?_ ?_ blt (fun _ => rfl)
  · first | (obtain ⟨_, rfl, _⟩ := h; rfl) | (obtain ⟨_, _, rfl, _⟩ := h; rfl) | (obtain ⟨_, _, _, rfl, _⟩ := h; rfl) | (obtain ⟨_, _, _, _, rfl, _⟩ := h; rfl) | (obtain ⟨_, _, _, _, _, rfl, _⟩ := h; rfl) | (obtain ⟨_, _, _, _, _, _, rfl, _⟩ := h; rfl) | (obtain ⟨_, _, _, _, _, _, _, rfl, _⟩ := h; rfl) | (obtain ⟨_, _, _, _, _, _, _, _, rfl, _⟩ := h; rfl) | (obtain ⟨_, _, _, _, _, _, _, _, _, rfl, _⟩ := h; rfl)
  · apply w_turns <;> first | exact moTb | rfl | exact h
  · exact lk_nil
  · exact lk_nil
  · exact lk_nil
theorem ok_in_order (P0 : Addr) {f : Addr} {fd : FuncData} (F : L2.Fun K "in_order" "in_order" st_in_order f fd) (blt : ∀ x ∈ bltNames, mg x = none)  (j : Nat) : FnOk P w K mg base CX0 (j + 1) f fd ["angles"] (spT spInOrder) := by
  refine fn_ok (k := j + 0) (n := 40) (r := r_in_order) (T := Tb P0) (b := p_in_order) F sc_in_order rfl rfl moTb tr_in_order (fun ss os Q h => ?_) (fun ss os Q h => ?_) ?_ ?_ ?_ blt (fun _ => rfl)
  · first | (obtain ⟨_, rfl, _⟩ := h; rfl) | (obtain ⟨_, _, rfl, _⟩ := h; rfl) | (obtain ⟨_, _, _, rfl, _⟩ := h; rfl) | (obtain ⟨_, _, _, _, rfl, _⟩ := h; rfl) | (obtain ⟨_, _, _, _, _, rfl, _⟩ := h; rfl) | (obtain ⟨_, _, _, _, _, _, rfl, _⟩ := h; rfl) | (obtain ⟨_, _, _, _, _, _, _, rfl, _⟩ := h; rfl) | (obtain ⟨_, _, _, _, _, _, _, _, rfl, _⟩ := h; rfl) | (obtain ⟨_, _, _, _, _, _, _, _, _, rfl, _⟩ := h; rfl)
  · apply w_in_order <;> first | exact moTb | rfl | exact h
  · exact lk_nil
  · exact lk_nil
  · exact lk_nil
theorem ok_law_bag (P0 : Addr) {f : Addr} {fd : FuncData} (F : L2.Fun K "_law_bag" "_law_bag" st_law_bag f fd) (blt : ∀ x ∈ bltNames, mg x = none)  (j : Nat) : FnOk P w K mg base CX0 (j + 1) f fd ["script", "k"] (spT spBag) := by
  refine fn_ok (k := j + 0) (n := 40) (r := r_law_bag) (T := Tb P0) (b := p_law_bag) F sc_law_bag rfl rfl moTb tr_law_bag (fun ss os Q h => ?_) (fun ss os Q h => ?_) ?_ ?_ ?_ blt (fun _ => rfl)
  · first | (obtain ⟨_, rfl, _⟩ := h; rfl) | (obtain ⟨_, _, rfl, _⟩ := h; rfl) | (obtain ⟨_, _, _, rfl, _⟩ := h; rfl) | (obtain ⟨_, _, _, _, rfl, _⟩ := h; rfl) | (obtain ⟨_, _, _, _, _, rfl, _⟩ := h; rfl) | (obtain ⟨_, _, _, _, _, _, rfl, _⟩ := h; rfl) | (obtain ⟨_, _, _, _, _, _, _, rfl, _⟩ := h; rfl) | (obtain ⟨_, _, _, _, _, _, _, _, rfl, _⟩ := h; rfl) | (obtain ⟨_, _, _, _, _, _, _, _, _, rfl, _⟩ := h; rfl)
  · apply w_law_bag <;> first | exact moTb | rfl | exact h
  · exact lk_nil
  · exact lk_nil
  · exact lk_nil
theorem ok_law_take (P0 : Addr) {f : Addr} {fd : FuncData} (F : L2.Fun K "_law_take" "_law_take" st_law_take f fd) (blt : ∀ x ∈ bltNames, mg x = none)  (j : Nat) : FnOk P w K mg base CX0 (j + 1) f fd ["bag", "count"] (spT spTake) := by
  refine fn_ok (k := j + 0) (n := 40) (r := r_law_take) (T := Tb P0) (b := p_law_take) F sc_law_take rfl rfl moTb tr_law_take (fun ss os Q h => ?_) (fun ss os Q h => ?_) ?_ ?_ ?_ blt (fun _ => rfl)
  · first | (obtain ⟨_, rfl, _⟩ := h; rfl) | (obtain ⟨_, _, rfl, _⟩ := h; rfl) | (obtain ⟨_, _, _, rfl, _⟩ := h; rfl) | (obtain ⟨_, _, _, _, rfl, _⟩ := h; rfl) | (obtain ⟨_, _, _, _, _, rfl, _⟩ := h; rfl) | (obtain ⟨_, _, _, _, _, _, rfl, _⟩ := h; rfl) | (obtain ⟨_, _, _, _, _, _, _, rfl, _⟩ := h; rfl) | (obtain ⟨_, _, _, _, _, _, _, _, rfl, _⟩ := h; rfl) | (obtain ⟨_, _, _, _, _, _, _, _, _, rfl, _⟩ := h; rfl)
  · apply w_law_take <;> first | exact moTb | rfl | exact h
  · exact lk_nil
  · exact lk_nil
  · exact lk_nil
theorem ok_law_lowest (P0 : Addr) {f : Addr} {fd : FuncData} (F : L2.Fun K "_law_lowest" "_law_lowest" st_law_lowest f fd) (blt : ∀ x ∈ bltNames, mg x = none)  (j : Nat) : FnOk P w K mg base CX0 (j + 1) f fd ["top", "bottom"] (spT spLowest) := by
  refine fn_ok (k := j + 0) (n := 40) (r := r_law_lowest) (T := Tb P0) (b := p_law_lowest) F sc_law_lowest rfl rfl moTb tr_law_lowest (fun ss os Q h => ?_) (fun ss os Q h => ?_) ?_ ?_ ?_ blt (fun _ => rfl)
  · first | (obtain ⟨_, rfl, _⟩ := h; rfl) | (obtain ⟨_, _, rfl, _⟩ := h; rfl) | (obtain ⟨_, _, _, rfl, _⟩ := h; rfl) | (obtain ⟨_, _, _, _, rfl, _⟩ := h; rfl) | (obtain ⟨_, _, _, _, _, rfl, _⟩ := h; rfl) | (obtain ⟨_, _, _, _, _, _, rfl, _⟩ := h; rfl) | (obtain ⟨_, _, _, _, _, _, _, rfl, _⟩ := h; rfl) | (obtain ⟨_, _, _, _, _, _, _, _, rfl, _⟩ := h; rfl) | (obtain ⟨_, _, _, _, _, _, _, _, _, rfl, _⟩ := h; rfl)
  · apply w_law_lowest <;> first | exact moTb | rfl | exact h
  · exact lk_nil
  · exact lk_nil
  · exact lk_nil
theorem ok_law_pricked (P0 : Addr) {f : Addr} {fd : FuncData} (F : L2.Fun K "_law_pricked" "_law_pricked" st_law_pricked f fd) (blt : ∀ x ∈ bltNames, mg x = none)  (j : Nat) : FnOk P w K mg base CX0 (j + 1) f fd ["many", "winding", "angle"] (spT spPricked) := by
  refine fn_ok (k := j + 0) (n := 40) (r := r_law_pricked) (T := Tb P0) (b := p_law_pricked) F sc_law_pricked rfl rfl moTb tr_law_pricked (fun ss os Q h => ?_) (fun ss os Q h => ?_) ?_ ?_ ?_ blt (fun _ => rfl)
  · first | (obtain ⟨_, rfl, _⟩ := h; rfl) | (obtain ⟨_, _, rfl, _⟩ := h; rfl) | (obtain ⟨_, _, _, rfl, _⟩ := h; rfl) | (obtain ⟨_, _, _, _, rfl, _⟩ := h; rfl) | (obtain ⟨_, _, _, _, _, rfl, _⟩ := h; rfl) | (obtain ⟨_, _, _, _, _, _, rfl, _⟩ := h; rfl) | (obtain ⟨_, _, _, _, _, _, _, rfl, _⟩ := h; rfl) | (obtain ⟨_, _, _, _, _, _, _, _, rfl, _⟩ := h; rfl) | (obtain ⟨_, _, _, _, _, _, _, _, _, rfl, _⟩ := h; rfl)
  · apply w_law_pricked <;> first | exact moTb | rfl | exact h
  · exact lk_nil
  · exact lk_nil
  · exact lk_nil
theorem ok_law_less (P0 : Addr) {f : Addr} {fd : FuncData} (F : L2.Fun K "_law_less" "_law_less" st_law_less f fd) (blt : ∀ x ∈ bltNames, mg x = none)  (j : Nat) : FnOk P w K mg base CX0 (j + 1) f fd ["one", "other"] (spT spWorth) := by
  refine fn_ok (k := j + 0) (n := 40) (r := r_law_less) (T := Tb P0) (b := p_law_less) F sc_law_less rfl rfl moTb tr_law_less (fun ss os Q h => ?_) (fun ss os Q h => ?_) ?_ ?_ ?_ blt (fun _ => rfl)
  · first | (obtain ⟨_, rfl, _⟩ := h; rfl) | (obtain ⟨_, _, rfl, _⟩ := h; rfl) | (obtain ⟨_, _, _, rfl, _⟩ := h; rfl) | (obtain ⟨_, _, _, _, rfl, _⟩ := h; rfl) | (obtain ⟨_, _, _, _, _, rfl, _⟩ := h; rfl) | (obtain ⟨_, _, _, _, _, _, rfl, _⟩ := h; rfl) | (obtain ⟨_, _, _, _, _, _, _, rfl, _⟩ := h; rfl) | (obtain ⟨_, _, _, _, _, _, _, _, rfl, _⟩ := h; rfl) | (obtain ⟨_, _, _, _, _, _, _, _, _, rfl, _⟩ := h; rfl)
  · apply w_law_less <;> first | exact moTb | rfl | exact h
  · exact lk_nil
  · exact lk_nil
  · exact lk_nil
theorem ok_pricked (P0 : Addr) {f : Addr} {fd : FuncData} (F : L2.Fun K "pricked" "pricked" st_pricked f fd) (blt : ∀ x ∈ bltNames, mg x = none) {f_turns : Addr} {fd_turns : FuncData} (A_turns : FnAt K mg "turns" st_turns ["many", "winding"] f_turns fd_turns) (G_turns : ∀ j, FnOk P w K mg base CX0 (j + 1) f_turns fd_turns ["many", "winding"] (spT spTurns)) (j : Nat) : FnOk P w K mg base CX0 (j + 2) f fd ["many", "winding", "angle"] (spT spPricked) := by
  refine fn_ok (k := j + 1) (n := 40) (r := r_pricked) (T := Tb P0) (b := p_pricked) F sc_pricked rfl rfl moTb tr_pricked (fun ss os Q h => ?_) (fun ss os Q h => ?_) ?_ ?_ ?_ blt (fun _ => rfl)
  · first | (obtain ⟨_, rfl, _⟩ := h; rfl) | (obtain ⟨_, _, rfl, _⟩ := h; rfl) | (obtain ⟨_, _, _, rfl, _⟩ := h; rfl) | (obtain ⟨_, _, _, _, rfl, _⟩ := h; rfl) | (obtain ⟨_, _, _, _, _, rfl, _⟩ := h; rfl) | (obtain ⟨_, _, _, _, _, _, rfl, _⟩ := h; rfl) | (obtain ⟨_, _, _, _, _, _, _, rfl, _⟩ := h; rfl) | (obtain ⟨_, _, _, _, _, _, _, _, rfl, _⟩ := h; rfl) | (obtain ⟨_, _, _, _, _, _, _, _, _, rfl, _⟩ := h; rfl)
  · apply w_pricked <;> first | exact moTb | rfl | exact h
  · exact (lk_cons ⟨_, _, _, A_turns.g, A_turns.F.kp, A_turns.b, G_turns (j + 0)⟩ lk_nil)
  · exact lk_nil
  · exact lk_nil
theorem ok_breaks (P0 : Addr) {f : Addr} {fd : FuncData} (F : L2.Fun K "breaks" "breaks" st_breaks f fd) (blt : ∀ x ∈ bltNames, mg x = none) {f_turns : Addr} {fd_turns : FuncData} (A_turns : FnAt K mg "turns" st_turns ["many", "winding"] f_turns fd_turns) (G_turns : ∀ j, FnOk P w K mg base CX0 (j + 1) f_turns fd_turns ["many", "winding"] (spT spTurns)) {f_in_order : Addr} {fd_in_order : FuncData} (A_in_order : FnAt K mg "in_order" st_in_order ["angles"] f_in_order fd_in_order) (G_in_order : ∀ j, FnOk P w K mg base CX0 (j + 1) f_in_order fd_in_order ["angles"] (spT spInOrder)) {f_lowest : Addr} {fd_lowest : FuncData} (A_lowest : FnAt K mg "lowest" st_lowest ["top", "bottom"] f_lowest fd_lowest) (G_lowest : ∀ j, FnOk P w K mg base CX0 (j + 1) f_lowest fd_lowest ["top", "bottom"] (spT spLowest)) (j : Nat) : FnOk P w K mg base CX0 (j + 2) f fd ["many", "winding"] (spT spBreaks) := by
  refine fn_ok (k := j + 1) (n := 40) (r := r_breaks) (T := Tb P0) (b := p_breaks) F sc_breaks rfl rfl moTb tr_breaks (fun ss os Q h => ?_) (fun ss os Q h => ?_) ?_ ?_ ?_ blt (fun _ => rfl)
  · first | (obtain ⟨_, rfl, _⟩ := h; rfl) | (obtain ⟨_, _, rfl, _⟩ := h; rfl) | (obtain ⟨_, _, _, rfl, _⟩ := h; rfl) | (obtain ⟨_, _, _, _, rfl, _⟩ := h; rfl) | (obtain ⟨_, _, _, _, _, rfl, _⟩ := h; rfl) | (obtain ⟨_, _, _, _, _, _, rfl, _⟩ := h; rfl) | (obtain ⟨_, _, _, _, _, _, _, rfl, _⟩ := h; rfl) | (obtain ⟨_, _, _, _, _, _, _, _, rfl, _⟩ := h; rfl) | (obtain ⟨_, _, _, _, _, _, _, _, _, rfl, _⟩ := h; rfl)
  · apply w_breaks <;> first | exact moTb | rfl | exact h
  · exact (lk_cons ⟨_, _, _, A_turns.g, A_turns.F.kp, A_turns.b, G_turns (j + 0)⟩ (lk_cons ⟨_, _, _, A_in_order.g, A_in_order.F.kp, A_in_order.b, G_in_order (j + 0)⟩ (lk_cons ⟨_, _, _, A_lowest.g, A_lowest.F.kp, A_lowest.b, G_lowest (j + 0)⟩ lk_nil)))
  · exact lk_nil
  · exact lk_nil
theorem ok_law_of (P0 : Addr) {f : Addr} {fd : FuncData} (F : L2.Fun K "_law_of" "_law_of" st_law_of f fd) (blt : ∀ x ∈ bltNames, mg x = none) {f_law_take : Addr} {fd_law_take : FuncData} (A_law_take : FnAt K mg "_law_take" st_law_take ["bag", "count"] f_law_take fd_law_take) (G_law_take : ∀ j, FnOk P w K mg base CX0 (j + 1) f_law_take fd_law_take ["bag", "count"] (spT spTake)) (j : Nat) : FnOk P w K mg base CX0 (j + 2) f fd ["bag", "some"] (spT spOf) := by
  refine fn_ok (k := j + 1) (n := 40) (r := r_law_of) (T := Tb P0) (b := p_law_of) F sc_law_of rfl rfl moTb tr_law_of (fun ss os Q h => ?_) (fun ss os Q h => ?_) ?_ ?_ ?_ blt (fun _ => rfl)
  · first | (obtain ⟨_, rfl, _⟩ := h; rfl) | (obtain ⟨_, _, rfl, _⟩ := h; rfl) | (obtain ⟨_, _, _, rfl, _⟩ := h; rfl) | (obtain ⟨_, _, _, _, rfl, _⟩ := h; rfl) | (obtain ⟨_, _, _, _, _, rfl, _⟩ := h; rfl) | (obtain ⟨_, _, _, _, _, _, rfl, _⟩ := h; rfl) | (obtain ⟨_, _, _, _, _, _, _, rfl, _⟩ := h; rfl) | (obtain ⟨_, _, _, _, _, _, _, _, rfl, _⟩ := h; rfl) | (obtain ⟨_, _, _, _, _, _, _, _, _, rfl, _⟩ := h; rfl)
  · apply w_law_of <;> first | exact moTb | rfl | exact h
  · exact (lk_cons ⟨_, _, _, A_law_take.g, A_law_take.F.kp, A_law_take.b, G_law_take (j + 0)⟩ lk_nil)
  · exact lk_nil
  · exact lk_nil
theorem ok_law_breaks (P0 : Addr) {f : Addr} {fd : FuncData} (F : L2.Fun K "_law_breaks" "_law_breaks" st_law_breaks f fd) (blt : ∀ x ∈ bltNames, mg x = none) {cA : Addr} (TB : TabB base mg cA P0) (hcd : fd.code = .ref cA) {f_law_lowest : Addr} {fd_law_lowest : FuncData} (A_law_lowest : FnAt K mg "_law_lowest" st_law_lowest ["top", "bottom"] f_law_lowest fd_law_lowest) (G_law_lowest : ∀ j, FnOk P w K mg base CX0 (j + 1) f_law_lowest fd_law_lowest ["top", "bottom"] (spT spLowest)) (j : Nat) : FnOk P w K mg base CX0 (j + 2) f fd ["many", "winding"] (spT (spLBreaks P0 qK)) := by
  refine fn_okO (k := j + 1) (n := 40) (r := r_law_breaks) (T := Tb P0) (b := p_law_breaks) F sc_law_breaks rfl rfl moTb tr_law_breaks (fun ss os Q h => ?_) (fun ss os Q h => ?_) ?_ ?_ ?_ blt (fun A outer s H E hr e x hx => orc_breaks (k := j + 1) rfl rfl rfl rfl (blt "sorted" (by decide +kernel)) TB hcd A outer s H E hr e x hx)
  · first | (obtain ⟨_, rfl, _⟩ := h; rfl) | (obtain ⟨_, _, rfl, _⟩ := h; rfl) | (obtain ⟨_, _, _, rfl, _⟩ := h; rfl) | (obtain ⟨_, _, _, _, rfl, _⟩ := h; rfl) | (obtain ⟨_, _, _, _, _, rfl, _⟩ := h; rfl) | (obtain ⟨_, _, _, _, _, _, rfl, _⟩ := h; rfl) | (obtain ⟨_, _, _, _, _, _, _, rfl, _⟩ := h; rfl) | (obtain ⟨_, _, _, _, _, _, _, _, rfl, _⟩ := h; rfl) | (obtain ⟨_, _, _, _, _, _, _, _, _, rfl, _⟩ := h; rfl)
  · apply w_law_breaks <;> first | exact moTb | rfl | exact h
  · exact (lk_cons ⟨_, _, _, A_law_lowest.g, A_law_lowest.F.kp, A_law_lowest.b, G_law_lowest (j + 0)⟩ lk_nil)
  · exact lk_nil
  · exact lk_nil
theorem ok_law_is_lit (P0 : Addr) {f : Addr} {fd : FuncData} (F : L2.Fun K "_law_is_lit" "_law_is_lit" st_law_is_lit f fd) (blt : ∀ x ∈ bltNames, mg x = none) {f_law_less : Addr} {fd_law_less : FuncData} (A_law_less : FnAt K mg "_law_less" st_law_less ["one", "other"] f_law_less fd_law_less) (G_law_less : ∀ j, FnOk P w K mg base CX0 (j + 1) f_law_less fd_law_less ["one", "other"] (spT spWorth)) (j : Nat) : FnOk P w K mg base CX0 (j + 2) f fd ["rows", "angle"] (spT spIsLit) := by
  refine fn_ok (k := j + 1) (n := 40) (r := r_law_is_lit) (T := Tb P0) (b := p_law_is_lit) F sc_law_is_lit rfl rfl moTb tr_law_is_lit (fun ss os Q h => ?_) (fun ss os Q h => ?_) ?_ ?_ ?_ blt (fun _ => rfl)
  · first | (obtain ⟨_, rfl, _⟩ := h; rfl) | (obtain ⟨_, _, rfl, _⟩ := h; rfl) | (obtain ⟨_, _, _, rfl, _⟩ := h; rfl) | (obtain ⟨_, _, _, _, rfl, _⟩ := h; rfl) | (obtain ⟨_, _, _, _, _, rfl, _⟩ := h; rfl) | (obtain ⟨_, _, _, _, _, _, rfl, _⟩ := h; rfl) | (obtain ⟨_, _, _, _, _, _, _, rfl, _⟩ := h; rfl) | (obtain ⟨_, _, _, _, _, _, _, _, rfl, _⟩ := h; rfl) | (obtain ⟨_, _, _, _, _, _, _, _, _, rfl, _⟩ := h; rfl)
  · apply w_law_is_lit <;> first | exact moTb | rfl | exact h
  · exact (lk_cons ⟨_, _, _, A_law_less.g, A_law_less.F.kp, A_law_less.b, G_law_less (j + 0)⟩ lk_nil)
  · exact lk_nil
  · exact lk_nil
theorem ok_stretches (P0 : Addr) {f : Addr} {fd : FuncData} (F : L2.Fun K "stretches" "stretches" st_stretches f fd) (blt : ∀ x ∈ bltNames, mg x = none) {f_breaks : Addr} {fd_breaks : FuncData} (A_breaks : FnAt K mg "breaks" st_breaks ["many", "winding"] f_breaks fd_breaks) (G_breaks : ∀ j, FnOk P w K mg base CX0 (j + 2) f_breaks fd_breaks ["many", "winding"] (spT spBreaks)) {f_pricked : Addr} {fd_pricked : FuncData} (A_pricked : FnAt K mg "pricked" st_pricked ["many", "winding", "angle"] f_pricked fd_pricked) (G_pricked : ∀ j, FnOk P w K mg base CX0 (j + 2) f_pricked fd_pricked ["many", "winding", "angle"] (spT spPricked)) (j : Nat) : FnOk P w K mg base CX0 (j + 3) f fd ["many", "winding"] (spT spStretches) := by
  refine fn_ok (k := j + 2) (n := 40) (r := r_stretches) (T := Tb P0) (b := p_stretches) F sc_stretches rfl rfl moTb tr_stretches (fun ss os Q h => ?_) (fun ss os Q h => ?_) ?_ ?_ ?_ blt (fun _ => rfl)
  · first | (obtain ⟨_, rfl, _⟩ := h; rfl) | (obtain ⟨_, _, rfl, _⟩ := h; rfl) | (obtain ⟨_, _, _, rfl, _⟩ := h; rfl) | (obtain ⟨_, _, _, _, rfl, _⟩ := h; rfl) | (obtain ⟨_, _, _, _, _, rfl, _⟩ := h; rfl) | (obtain ⟨_, _, _, _, _, _, rfl, _⟩ := h; rfl) | (obtain ⟨_, _, _, _, _, _, _, rfl, _⟩ := h; rfl) | (obtain ⟨_, _, _, _, _, _, _, _, rfl, _⟩ := h; rfl) | (obtain ⟨_, _, _, _, _, _, _, _, _, rfl, _⟩ := h; rfl)
  · apply w_stretches <;> first | exact moTb | rfl | exact h
  · exact (lk_cons ⟨_, _, _, A_breaks.g, A_breaks.F.kp, A_breaks.b, G_breaks (j + 0)⟩ (lk_cons ⟨_, _, _, A_pricked.g, A_pricked.F.kp, A_pricked.b, G_pricked (j + 0)⟩ lk_nil))
  · exact lk_nil
  · exact lk_nil
theorem ok_law_winding (P0 : Addr) {f : Addr} {fd : FuncData} (F : L2.Fun K "_law_winding" "_law_winding" st_law_winding f fd) (blt : ∀ x ∈ bltNames, mg x = none) {f_law_of : Addr} {fd_law_of : FuncData} (A_law_of : FnAt K mg "_law_of" st_law_of ["bag", "some"] f_law_of fd_law_of) (G_law_of : ∀ j, FnOk P w K mg base CX0 (j + 2) f_law_of fd_law_of ["bag", "some"] (spT spOf)) {f_law_take : Addr} {fd_law_take : FuncData} (A_law_take : FnAt K mg "_law_take" st_law_take ["bag", "count"] f_law_take fd_law_take) (G_law_take : ∀ j, FnOk P w K mg base CX0 (j + 1) f_law_take fd_law_take ["bag", "count"] (spT spTake)) (j : Nat) : FnOk P w K mg base CX0 (j + 3) f fd ["bag"] (spT spWinding) := by
  refine fn_ok (k := j + 2) (n := 40) (r := r_law_winding) (T := Tb P0) (b := p_law_winding) F sc_law_winding rfl rfl moTb tr_law_winding (fun ss os Q h => ?_) (fun ss os Q h => ?_) ?_ ?_ ?_ blt (fun _ => rfl)
  · first | (obtain ⟨_, rfl, _⟩ := h; rfl) | (obtain ⟨_, _, rfl, _⟩ := h; rfl) | (obtain ⟨_, _, _, rfl, _⟩ := h; rfl) | (obtain ⟨_, _, _, _, rfl, _⟩ := h; rfl) | (obtain ⟨_, _, _, _, _, rfl, _⟩ := h; rfl) | (obtain ⟨_, _, _, _, _, _, rfl, _⟩ := h; rfl) | (obtain ⟨_, _, _, _, _, _, _, rfl, _⟩ := h; rfl) | (obtain ⟨_, _, _, _, _, _, _, _, rfl, _⟩ := h; rfl) | (obtain ⟨_, _, _, _, _, _, _, _, _, rfl, _⟩ := h; rfl)
  · apply w_law_winding <;> first | exact moTb | rfl | exact h
  · exact (lk_cons ⟨_, _, _, A_law_of.g, A_law_of.F.kp, A_law_of.b, G_law_of (j + 0)⟩ (lk_cons ⟨_, _, _, A_law_take.g, A_law_take.F.kp, A_law_take.b, G_law_take (j + 1)⟩ lk_nil))
  · exact lk_nil
  · exact lk_nil
theorem ok_law_angle (P0 : Addr) {f : Addr} {fd : FuncData} (F : L2.Fun K "_law_angle" "_law_angle" st_law_angle f fd) (blt : ∀ x ∈ bltNames, mg x = none) {f_law_lowest : Addr} {fd_law_lowest : FuncData} (A_law_lowest : FnAt K mg "_law_lowest" st_law_lowest ["top", "bottom"] f_law_lowest fd_law_lowest) (G_law_lowest : ∀ j, FnOk P w K mg base CX0 (j + 1) f_law_lowest fd_law_lowest ["top", "bottom"] (spT spLowest)) {f_law_of : Addr} {fd_law_of : FuncData} (A_law_of : FnAt K mg "_law_of" st_law_of ["bag", "some"] f_law_of fd_law_of) (G_law_of : ∀ j, FnOk P w K mg base CX0 (j + 2) f_law_of fd_law_of ["bag", "some"] (spT spOf)) {f_law_take : Addr} {fd_law_take : FuncData} (A_law_take : FnAt K mg "_law_take" st_law_take ["bag", "count"] f_law_take fd_law_take) (G_law_take : ∀ j, FnOk P w K mg base CX0 (j + 1) f_law_take fd_law_take ["bag", "count"] (spT spTake)) (j : Nat) : FnOk P w K mg base CX0 (j + 3) f fd ["bag"] (spT spAngle) := by
  refine fn_ok (k := j + 2) (n := 40) (r := r_law_angle) (T := Tb P0) (b := p_law_angle) F sc_law_angle rfl rfl moTb tr_law_angle (fun ss os Q h => ?_) (fun ss os Q h => ?_) ?_ ?_ ?_ blt (fun _ => rfl)
  · first | (obtain ⟨_, rfl, _⟩ := h; rfl) | (obtain ⟨_, _, rfl, _⟩ := h; rfl) | (obtain ⟨_, _, _, rfl, _⟩ := h; rfl) | (obtain ⟨_, _, _, _, rfl, _⟩ := h; rfl) | (obtain ⟨_, _, _, _, _, rfl, _⟩ := h; rfl) | (obtain ⟨_, _, _, _, _, _, rfl, _⟩ := h; rfl) | (obtain ⟨_, _, _, _, _, _, _, rfl, _⟩ := h; rfl) | (obtain ⟨_, _, _, _, _, _, _, _, rfl, _⟩ := h; rfl) | (obtain ⟨_, _, _, _, _, _, _, _, _, rfl, _⟩ := h; rfl)
  · apply w_law_angle <;> first | exact moTb | rfl | exact h
  · exact (lk_cons ⟨_, _, _, A_law_lowest.g, A_law_lowest.F.kp, A_law_lowest.b, G_law_lowest (j + 1)⟩ (lk_cons ⟨_, _, _, A_law_of.g, A_law_of.F.kp, A_law_of.b, G_law_of (j + 0)⟩ (lk_cons ⟨_, _, _, A_law_take.g, A_law_take.F.kp, A_law_take.b, G_law_take (j + 1)⟩ lk_nil)))
  · exact lk_nil
  · exact lk_nil
theorem ok_law_stretches (P0 : Addr) {f : Addr} {fd : FuncData} (F : L2.Fun K "_law_stretches" "_law_stretches" st_law_stretches f fd) (blt : ∀ x ∈ bltNames, mg x = none) {f_law_breaks : Addr} {fd_law_breaks : FuncData} (A_law_breaks : FnAt K mg "_law_breaks" st_law_breaks ["many", "winding"] f_law_breaks fd_law_breaks) (G_law_breaks : ∀ j, FnOk P w K mg base CX0 (j + 2) f_law_breaks fd_law_breaks ["many", "winding"] (spT (spLBreaks P0 qK))) {f_law_pricked : Addr} {fd_law_pricked : FuncData} (A_law_pricked : FnAt K mg "_law_pricked" st_law_pricked ["many", "winding", "angle"] f_law_pricked fd_law_pricked) (G_law_pricked : ∀ j, FnOk P w K mg base CX0 (j + 1) f_law_pricked fd_law_pricked ["many", "winding", "angle"] (spT spPricked)) (j : Nat) : FnOk P w K mg base CX0 (j + 3) f fd ["many", "winding"] (spT (spLStretches P0 qK)) := by
  refine fn_ok (k := j + 2) (n := 40) (r := r_law_stretches) (T := Tb P0) (b := p_law_stretches) F sc_law_stretches rfl rfl moTb tr_law_stretches (fun ss os Q h => ?_) (fun ss os Q h => ?_) ?_ ?_ ?_ blt (fun _ => rfl)
  · first | (obtain ⟨_, rfl, _⟩ := h; rfl) | (obtain ⟨_, _, rfl, _⟩ := h; rfl) | (obtain ⟨_, _, _, rfl, _⟩ := h; rfl) | (obtain ⟨_, _, _, _, rfl, _⟩ := h; rfl) | (obtain ⟨_, _, _, _, _, rfl, _⟩ := h; rfl) | (obtain ⟨_, _, _, _, _, _, rfl, _⟩ := h; rfl) | (obtain ⟨_, _, _, _, _, _, _, rfl, _⟩ := h; rfl) | (obtain ⟨_, _, _, _, _, _, _, _, rfl, _⟩ := h; rfl) | (obtain ⟨_, _, _, _, _, _, _, _, _, rfl, _⟩ := h; rfl)
  · apply w_law_stretches <;> first | exact moTb | rfl | exact h
  · exact (lk_cons ⟨_, _, _, A_law_breaks.g, A_law_breaks.F.kp, A_law_breaks.b, G_law_breaks (j + 0)⟩ (lk_cons ⟨_, _, _, A_law_pricked.g, A_law_pricked.F.kp, A_law_pricked.b, G_law_pricked (j + 1)⟩ lk_nil))
  · exact lk_nil
  · exact lk_nil
theorem ok_harmless (P0 : Addr) {f : Addr} {fd : FuncData} (F : L2.Fun K "harmless" "harmless" st_harmless f fd) (blt : ∀ x ∈ bltNames, mg x = none) {f_stretches : Addr} {fd_stretches : FuncData} (A_stretches : FnAt K mg "stretches" st_stretches ["many", "winding"] f_stretches fd_stretches) (G_stretches : ∀ j, FnOk P w K mg base CX0 (j + 3) f_stretches fd_stretches ["many", "winding"] (spT spStretches)) (j : Nat) : FnOk P w K mg base CX0 (j + 4) f fd ["many", "winding", "wished"] (spT spHarmless) := by
  refine fn_ok (k := j + 3) (n := 40) (r := r_harmless) (T := Tb P0) (b := p_harmless) F sc_harmless rfl rfl moTb tr_harmless (fun ss os Q h => ?_) (fun ss os Q h => ?_) ?_ ?_ ?_ blt (fun _ => rfl)
  · first | (obtain ⟨_, rfl, _⟩ := h; rfl) | (obtain ⟨_, _, rfl, _⟩ := h; rfl) | (obtain ⟨_, _, _, rfl, _⟩ := h; rfl) | (obtain ⟨_, _, _, _, rfl, _⟩ := h; rfl) | (obtain ⟨_, _, _, _, _, rfl, _⟩ := h; rfl) | (obtain ⟨_, _, _, _, _, _, rfl, _⟩ := h; rfl) | (obtain ⟨_, _, _, _, _, _, _, rfl, _⟩ := h; rfl) | (obtain ⟨_, _, _, _, _, _, _, _, rfl, _⟩ := h; rfl) | (obtain ⟨_, _, _, _, _, _, _, _, _, rfl, _⟩ := h; rfl)
  · apply w_harmless <;> first | exact moTb | rfl | exact h
  · exact (lk_cons ⟨_, _, _, A_stretches.g, A_stretches.F.kp, A_stretches.b, G_stretches (j + 0)⟩ lk_nil)
  · exact lk_nil
  · exact lk_nil
theorem ok_law_wished (P0 : Addr) {f : Addr} {fd : FuncData} (F : L2.Fun K "_law_wished" "_law_wished" st_law_wished f fd) (blt : ∀ x ∈ bltNames, mg x = none) {f_law_take : Addr} {fd_law_take : FuncData} (A_law_take : FnAt K mg "_law_take" st_law_take ["bag", "count"] f_law_take fd_law_take) (G_law_take : ∀ j, FnOk P w K mg base CX0 (j + 1) f_law_take fd_law_take ["bag", "count"] (spT spTake)) {f_law_of : Addr} {fd_law_of : FuncData} (A_law_of : FnAt K mg "_law_of" st_law_of ["bag", "some"] f_law_of fd_law_of) (G_law_of : ∀ j, FnOk P w K mg base CX0 (j + 2) f_law_of fd_law_of ["bag", "some"] (spT spOf)) {f_law_pricked : Addr} {fd_law_pricked : FuncData} (A_law_pricked : FnAt K mg "_law_pricked" st_law_pricked ["many", "winding", "angle"] f_law_pricked fd_law_pricked) (G_law_pricked : ∀ j, FnOk P w K mg base CX0 (j + 1) f_law_pricked fd_law_pricked ["many", "winding", "angle"] (spT spPricked)) {f_law_angle : Addr} {fd_law_angle : FuncData} (A_law_angle : FnAt K mg "_law_angle" st_law_angle ["bag"] f_law_angle fd_law_angle) (G_law_angle : ∀ j, FnOk P w K mg base CX0 (j + 3) f_law_angle fd_law_angle ["bag"] (spT spAngle)) (j : Nat) : FnOk P w K mg base CX0 (j + 4) f fd ["bag", "many", "winding"] (spT spWished) := by
  refine fn_ok (k := j + 3) (n := 40) (r := r_law_wished) (T := Tb P0) (b := p_law_wished) F sc_law_wished rfl rfl moTb tr_law_wished (fun ss os Q h => ?_) (fun ss os Q h => ?_) ?_ ?_ ?_ blt (fun _ => rfl)
  · first | (obtain ⟨_, rfl, _⟩ := h; rfl) | (obtain ⟨_, _, rfl, _⟩ := h; rfl) | (obtain ⟨_, _, _, rfl, _⟩ := h; rfl) | (obtain ⟨_, _, _, _, rfl, _⟩ := h; rfl) | (obtain ⟨_, _, _, _, _, rfl, _⟩ := h; rfl) | (obtain ⟨_, _, _, _, _, _, rfl, _⟩ := h; rfl) | (obtain ⟨_, _, _, _, _, _, _, rfl, _⟩ := h; rfl) | (obtain ⟨_, _, _, _, _, _, _, _, rfl, _⟩ := h; rfl) | (obtain ⟨_, _, _, _, _, _, _, _, _, rfl, _⟩ := h; rfl)
  · apply w_law_wished <;> first | exact moTb | rfl | exact h
  · exact (lk_cons ⟨_, _, _, A_law_take.g, A_law_take.F.kp, A_law_take.b, G_law_take (j + 2)⟩ (lk_cons ⟨_, _, _, A_law_of.g, A_law_of.F.kp, A_law_of.b, G_law_of (j + 1)⟩ (lk_cons ⟨_, _, _, A_law_pricked.g, A_law_pricked.F.kp, A_law_pricked.b, G_law_pricked (j + 2)⟩ (lk_cons ⟨_, _, _, A_law_angle.g, A_law_angle.F.kp, A_law_angle.b, G_law_angle (j + 0)⟩ lk_nil))))
  · exact lk_nil
  · exact lk_nil
theorem ok_law_lit (P0 : Addr) {f : Addr} {fd : FuncData} (F : L2.Fun K "_law_lit" "_law_lit" st_law_lit f fd) (blt : ∀ x ∈ bltNames, mg x = none) {f_law_stretches : Addr} {fd_law_stretches : FuncData} (A_law_stretches : FnAt K mg "_law_stretches" st_law_stretches ["many", "winding"] f_law_stretches fd_law_stretches) (G_law_stretches : ∀ j, FnOk P w K mg base CX0 (j + 3) f_law_stretches fd_law_stretches ["many", "winding"] (spT (spLStretches P0 qK))) (j : Nat) : FnOk P w K mg base CX0 (j + 4) f fd ["many", "winding", "holes"] (spT (spLLit P0 qK)) := by
  refine fn_ok (k := j + 3) (n := 40) (r := r_law_lit) (T := Tb P0) (b := p_law_lit) F sc_law_lit rfl rfl moTb tr_law_lit (fun ss os Q h => ?_) (fun ss os Q h => ?_) ?_ ?_ ?_ blt (fun _ => rfl)
  · first | (obtain ⟨_, rfl, _⟩ := h; rfl) | (obtain ⟨_, _, rfl, _⟩ := h; rfl) | (obtain ⟨_, _, _, rfl, _⟩ := h; rfl) | (obtain ⟨_, _, _, _, rfl, _⟩ := h; rfl) | (obtain ⟨_, _, _, _, _, rfl, _⟩ := h; rfl) | (obtain ⟨_, _, _, _, _, _, rfl, _⟩ := h; rfl) | (obtain ⟨_, _, _, _, _, _, _, rfl, _⟩ := h; rfl) | (obtain ⟨_, _, _, _, _, _, _, _, rfl, _⟩ := h; rfl) | (obtain ⟨_, _, _, _, _, _, _, _, _, rfl, _⟩ := h; rfl)
  · apply w_law_lit <;> first | exact moTb | rfl | exact h
  · exact (lk_cons ⟨_, _, _, A_law_stretches.g, A_law_stretches.F.kp, A_law_stretches.b, G_law_stretches (j + 0)⟩ lk_nil)
  · exact lk_nil
  · exact lk_nil
theorem ok_light (P0 : Addr) {f : Addr} {fd : FuncData} (F : L2.Fun K "light" "light" st_light f fd) (blt : ∀ x ∈ bltNames, mg x = none) {f_harmless : Addr} {fd_harmless : FuncData} (A_harmless : FnAt K mg "harmless" st_harmless ["many", "winding", "wished"] f_harmless fd_harmless) (G_harmless : ∀ j, FnOk P w K mg base CX0 (j + 4) f_harmless fd_harmless ["many", "winding", "wished"] (spT spHarmless)) (j : Nat) : FnOk P w K mg base CX0 (j + 5) f fd ["many", "winding", "holes"] (spT spLight) := by
  refine fn_ok (k := j + 4) (n := 40) (r := r_light) (T := Tb P0) (b := p_light) F sc_light rfl rfl moTb tr_light (fun ss os Q h => ?_) (fun ss os Q h => ?_) ?_ ?_ ?_ blt (fun _ => rfl)
  · first | (obtain ⟨_, rfl, _⟩ := h; rfl) | (obtain ⟨_, _, rfl, _⟩ := h; rfl) | (obtain ⟨_, _, _, rfl, _⟩ := h; rfl) | (obtain ⟨_, _, _, _, rfl, _⟩ := h; rfl) | (obtain ⟨_, _, _, _, _, rfl, _⟩ := h; rfl) | (obtain ⟨_, _, _, _, _, _, rfl, _⟩ := h; rfl) | (obtain ⟨_, _, _, _, _, _, _, rfl, _⟩ := h; rfl) | (obtain ⟨_, _, _, _, _, _, _, _, rfl, _⟩ := h; rfl) | (obtain ⟨_, _, _, _, _, _, _, _, _, rfl, _⟩ := h; rfl)
  · apply w_light <;> first | exact moTb | rfl | exact h
  · exact (lk_cons ⟨_, _, _, A_harmless.g, A_harmless.F.kp, A_harmless.b, G_harmless (j + 0)⟩ lk_nil)
  · exact lk_nil
  · exact lk_nil
theorem ok_law (P0 : Addr) {f : Addr} {fd : FuncData} (F : L2.Fun K "law" "law" st_law f fd) (blt : ∀ x ∈ bltNames, mg x = none) {f_law_bag : Addr} {fd_law_bag : FuncData} (A_law_bag : FnAt K mg "_law_bag" st_law_bag ["script", "k"] f_law_bag fd_law_bag) (G_law_bag : ∀ j, FnOk P w K mg base CX0 (j + 1) f_law_bag fd_law_bag ["script", "k"] (spT spBag)) {f_law_winding : Addr} {fd_law_winding : FuncData} (A_law_winding : FnAt K mg "_law_winding" st_law_winding ["bag"] f_law_winding fd_law_winding) (G_law_winding : ∀ j, FnOk P w K mg base CX0 (j + 3) f_law_winding fd_law_winding ["bag"] (spT spWinding)) {f_law_wished : Addr} {fd_law_wished : FuncData} (A_law_wished : FnAt K mg "_law_wished" st_law_wished ["bag", "many", "winding"] f_law_wished fd_law_wished) (G_law_wished : ∀ j, FnOk P w K mg base CX0 (j + 4) f_law_wished fd_law_wished ["bag", "many", "winding"] (spT spWished)) {f_light : Addr} {fd_light : FuncData} (A_light : FnAt K mg "light" st_light ["many", "winding", "holes"] f_light fd_light) (G_light : ∀ j, FnOk P w K mg base CX0 (j + 5) f_light fd_light ["many", "winding", "holes"] (spT spLight)) {f_law_of : Addr} {fd_law_of : FuncData} (A_law_of : FnAt K mg "_law_of" st_law_of ["bag", "some"] f_law_of fd_law_of) (G_law_of : ∀ j, FnOk P w K mg base CX0 (j + 2) f_law_of fd_law_of ["bag", "some"] (spT spOf)) {f_law_lit : Addr} {fd_law_lit : FuncData} (A_law_lit : FnAt K mg "_law_lit" st_law_lit ["many", "winding", "holes"] f_law_lit fd_law_lit) (G_law_lit : ∀ j, FnOk P w K mg base CX0 (j + 4) f_law_lit fd_law_lit ["many", "winding", "holes"] (spT (spLLit P0 qK))) {f_law_angle : Addr} {fd_law_angle : FuncData} (A_law_angle : FnAt K mg "_law_angle" st_law_angle ["bag"] f_law_angle fd_law_angle) (G_law_angle : ∀ j, FnOk P w K mg base CX0 (j + 3) f_law_angle fd_law_angle ["bag"] (spT spAngle)) {f_pricked : Addr} {fd_pricked : FuncData} (A_pricked : FnAt K mg "pricked" st_pricked ["many", "winding", "angle"] f_pricked fd_pricked) (G_pricked : ∀ j, FnOk P w K mg base CX0 (j + 2) f_pricked fd_pricked ["many", "winding", "angle"] (spT spPricked)) {f_law_take : Addr} {fd_law_take : FuncData} (A_law_take : FnAt K mg "_law_take" st_law_take ["bag", "count"] f_law_take fd_law_take) (G_law_take : ∀ j, FnOk P w K mg base CX0 (j + 1) f_law_take fd_law_take ["bag", "count"] (spT spTake)) {f_law_less : Addr} {fd_law_less : FuncData} (A_law_less : FnAt K mg "_law_less" st_law_less ["one", "other"] f_law_less fd_law_less) (G_law_less : ∀ j, FnOk P w K mg base CX0 (j + 1) f_law_less fd_law_less ["one", "other"] (spT spWorth)) {f_law_is_lit : Addr} {fd_law_is_lit : FuncData} (A_law_is_lit : FnAt K mg "_law_is_lit" st_law_is_lit ["rows", "angle"] f_law_is_lit fd_law_is_lit) (G_law_is_lit : ∀ j, FnOk P w K mg base CX0 (j + 2) f_law_is_lit fd_law_is_lit ["rows", "angle"] (spT spIsLit)) (j : Nat) : FnOk P w K mg base CX0 (j + 6) f fd ["script"] (spT (spLawT P0 qK)) := by
  refine fn_ok (k := j + 5) (n := 40) (r := r_law) (T := Tb P0) (b := p_law07) F sc_law rfl rfl moTb tr_law (fun ss os Q h => ?_) (fun ss os Q h => ?_) ?_ ?_ ?_ blt (fun _ => rfl)
  · first | (obtain ⟨_, rfl, _⟩ := h; rfl) | (obtain ⟨_, _, rfl, _⟩ := h; rfl) | (obtain ⟨_, _, _, rfl, _⟩ := h; rfl) | (obtain ⟨_, _, _, _, rfl, _⟩ := h; rfl) | (obtain ⟨_, _, _, _, _, rfl, _⟩ := h; rfl) | (obtain ⟨_, _, _, _, _, _, rfl, _⟩ := h; rfl) | (obtain ⟨_, _, _, _, _, _, _, rfl, _⟩ := h; rfl) | (obtain ⟨_, _, _, _, _, _, _, _, rfl, _⟩ := h; rfl) | (obtain ⟨_, _, _, _, _, _, _, _, _, rfl, _⟩ := h; rfl)
  · apply w_law07 <;> first | exact moTb | rfl | exact h
  · exact (lk_cons ⟨_, _, _, A_law_bag.g, A_law_bag.F.kp, A_law_bag.b, G_law_bag (j + 4)⟩ (lk_cons ⟨_, _, _, A_law_winding.g, A_law_winding.F.kp, A_law_winding.b, G_law_winding (j + 2)⟩ (lk_cons ⟨_, _, _, A_law_wished.g, A_law_wished.F.kp, A_law_wished.b, G_law_wished (j + 1)⟩ (lk_cons ⟨_, _, _, A_light.g, A_light.F.kp, A_light.b, G_light (j + 0)⟩ (lk_cons ⟨_, _, _, A_law_of.g, A_law_of.F.kp, A_law_of.b, G_law_of (j + 3)⟩ (lk_cons ⟨_, _, _, A_law_lit.g, A_law_lit.F.kp, A_law_lit.b, G_law_lit (j + 1)⟩ (lk_cons ⟨_, _, _, A_law_angle.g, A_law_angle.F.kp, A_law_angle.b, G_law_angle (j + 2)⟩ (lk_cons ⟨_, _, _, A_pricked.g, A_pricked.F.kp, A_pricked.b, G_pricked (j + 3)⟩ (lk_cons ⟨_, _, _, A_law_take.g, A_law_take.F.kp, A_law_take.b, G_law_take (j + 4)⟩ (lk_cons ⟨_, _, _, A_law_less.g, A_law_less.F.kp, A_law_less.b, G_law_less (j + 4)⟩ (lk_cons ⟨_, _, _, A_law_is_lit.g, A_law_is_lit.F.kp, A_law_is_lit.b, G_law_is_lit (j + 3)⟩ lk_nil)))))))))))
  · exact lk_nil
  · exact lk_nil
end
theorem all_mk {l : PySem.W.OpenLaw} {w : World} {K : PySem.W.Frag} {h : Heap} {mg : Str → Option Value} {fa : Addr} (X : K.In h) (G : h.Ns mainGlobals mg) (hfa : mg "law" = some (.ref fa)) {cA P0 : Addr} (ht : PySem.W.tabIn K "_law_breaks" = some (cA, P0)) {f0 f1 f2 f3 f4 f5 f6 f7 f8 f9 f10 f11 f12 f13 f14 f15 f16 f17 f18 f19 f20 f21 : Addr} {od0 an0 od1 an1 od2 an2 od3 an3 od4 an4 od5 an5 od6 an6 od7 an7 od8 an8 od9 an9 od10 an10 od11 an11 od12 an12 od13 an13 od14 an14 od15 an15 od16 an16 od17 an17 od18 an18 od19 an19 od20 an20 od21 an21 : Option Addr} {sl0 sl1 sl2 sl3 sl4 sl5 sl6 sl7 sl8 sl9 sl10 sl11 sl12 sl13 sl14 sl15 sl16 sl17 sl18 sl19 sl20 sl21 : Array (Option Value)} {oc0 kV0 dc0 pm0 cd0 ct0 oc1 kV1 dc1 pm1 cd1 ct1 oc2 kV2 dc2 pm2 cd2 ct2 oc3 kV3 dc3 pm3 cd3 ct3 oc4 kV4 dc4 pm4 cd4 ct4 oc5 kV5 dc5 pm5 cd5 ct5 oc6 kV6 dc6 pm6 cd6 ct6 oc7 kV7 dc7 pm7 cd7 ct7 oc8 kV8 dc8 pm8 cd8 ct8 oc9 kV9 dc9 pm9 cd9 ct9 oc10 kV10 dc10 pm10 cd10 ct10 oc11 kV11 dc11 pm11 cd11 ct11 oc12 kV12 dc12 pm12 cd12 ct12 oc13 kV13 dc13 pm13 cd13 ct13 oc14 kV14 dc14 pm14 cd14 ct14 oc15 kV15 dc15 pm15 cd15 ct15 oc16 kV16 dc16 pm16 cd16 ct16 oc17 kV17 dc17 pm17 cd17 ct17 oc18 kV18 dc18 pm18 cd18 ct18 oc19 kV19 dc19 pm19 cd19 ct19 oc20 kV20 dc20 pm20 cd20 ct20 oc21 kV21 dc21 pm21 cd21 ct21 : Value}
    (a0 : PySem.W.nsIn K mainGlobals "lowest" = some (some (.ref f0))) (l0 : K.lookup f0 = some ⟨oc0, od0, .func (PySem.W.fnOf "lowest" "lowest" (defArgs st_lowest) (defBody st_lowest) (defScope st_lowest) .none kV0 dc0 pm0 an0 cd0 ct0), sl0⟩) (c0 : PySem.W.codeIn K cd0 "lowest" = true) (k0 : PySem.W.keepIn K (.ref f0) = true)
    (a1 : PySem.W.nsIn K mainGlobals "turns" = some (some (.ref f1))) (l1 : K.lookup f1 = some ⟨oc1, od1, .func (PySem.W.fnOf "turns" "turns" (defArgs st_turns) (defBody st_turns) (defScope st_turns) .none kV1 dc1 pm1 an1 cd1 ct1), sl1⟩) (c1 : PySem.W.codeIn K cd1 "turns" = true) (k1 : PySem.W.keepIn K (.ref f1) = true)
    (a2 : PySem.W.nsIn K mainGlobals "in_order" = some (some (.ref f2))) (l2 : K.lookup f2 = some ⟨oc2, od2, .func (PySem.W.fnOf "in_order" "in_order" (defArgs st_in_order) (defBody st_in_order) (defScope st_in_order) .none kV2 dc2 pm2 an2 cd2 ct2), sl2⟩) (c2 : PySem.W.codeIn K cd2 "in_order" = true) (k2 : PySem.W.keepIn K (.ref f2) = true)
    (a3 : PySem.W.nsIn K mainGlobals "_law_bag" = some (some (.ref f3))) (l3 : K.lookup f3 = some ⟨oc3, od3, .func (PySem.W.fnOf "_law_bag" "_law_bag" (defArgs st_law_bag) (defBody st_law_bag) (defScope st_law_bag) .none kV3 dc3 pm3 an3 cd3 ct3), sl3⟩) (c3 : PySem.W.codeIn K cd3 "_law_bag" = true) (k3 : PySem.W.keepIn K (.ref f3) = true)
    (a4 : PySem.W.nsIn K mainGlobals "_law_take" = some (some (.ref f4))) (l4 : K.lookup f4 = some ⟨oc4, od4, .func (PySem.W.fnOf "_law_take" "_law_take" (defArgs st_law_take) (defBody st_law_take) (defScope st_law_take) .none kV4 dc4 pm4 an4 cd4 ct4), sl4⟩) (c4 : PySem.W.codeIn K cd4 "_law_take" = true) (k4 : PySem.W.keepIn K (.ref f4) = true)
    (a5 : PySem.W.nsIn K mainGlobals "_law_lowest" = some (some (.ref f5))) (l5 : K.lookup f5 = some ⟨oc5, od5, .func (PySem.W.fnOf "_law_lowest" "_law_lowest" (defArgs st_law_lowest) (defBody st_law_lowest) (defScope st_law_lowest) .none kV5 dc5 pm5 an5 cd5 ct5), sl5⟩) (c5 : PySem.W.codeIn K cd5 "_law_lowest" = true) (k5 : PySem.W.keepIn K (.ref f5) = true)
    (a6 : PySem.W.nsIn K mainGlobals "_law_pricked" = some (some (.ref f6))) (l6 : K.lookup f6 = some ⟨oc6, od6, .func (PySem.W.fnOf "_law_pricked" "_law_pricked" (defArgs st_law_pricked) (defBody st_law_pricked) (defScope st_law_pricked) .none kV6 dc6 pm6 an6 cd6 ct6), sl6⟩) (c6 : PySem.W.codeIn K cd6 "_law_pricked" = true) (k6 : PySem.W.keepIn K (.ref f6) = true)
    (a7 : PySem.W.nsIn K mainGlobals "_law_less" = some (some (.ref f7))) (l7 : K.lookup f7 = some ⟨oc7, od7, .func (PySem.W.fnOf "_law_less" "_law_less" (defArgs st_law_less) (defBody st_law_less) (defScope st_law_less) .none kV7 dc7 pm7 an7 cd7 ct7), sl7⟩) (c7 : PySem.W.codeIn K cd7 "_law_less" = true) (k7 : PySem.W.keepIn K (.ref f7) = true)
    (a8 : PySem.W.nsIn K mainGlobals "pricked" = some (some (.ref f8))) (l8 : K.lookup f8 = some ⟨oc8, od8, .func (PySem.W.fnOf "pricked" "pricked" (defArgs st_pricked) (defBody st_pricked) (defScope st_pricked) .none kV8 dc8 pm8 an8 cd8 ct8), sl8⟩) (c8 : PySem.W.codeIn K cd8 "pricked" = true) (k8 : PySem.W.keepIn K (.ref f8) = true)
    (a9 : PySem.W.nsIn K mainGlobals "breaks" = some (some (.ref f9))) (l9 : K.lookup f9 = some ⟨oc9, od9, .func (PySem.W.fnOf "breaks" "breaks" (defArgs st_breaks) (defBody st_breaks) (defScope st_breaks) .none kV9 dc9 pm9 an9 cd9 ct9), sl9⟩) (c9 : PySem.W.codeIn K cd9 "breaks" = true) (k9 : PySem.W.keepIn K (.ref f9) = true)
    (a10 : PySem.W.nsIn K mainGlobals "_law_of" = some (some (.ref f10))) (l10 : K.lookup f10 = some ⟨oc10, od10, .func (PySem.W.fnOf "_law_of" "_law_of" (defArgs st_law_of) (defBody st_law_of) (defScope st_law_of) .none kV10 dc10 pm10 an10 cd10 ct10), sl10⟩) (c10 : PySem.W.codeIn K cd10 "_law_of" = true) (k10 : PySem.W.keepIn K (.ref f10) = true)
    (a11 : PySem.W.nsIn K mainGlobals "_law_breaks" = some (some (.ref f11))) (l11 : K.lookup f11 = some ⟨oc11, od11, .func (PySem.W.fnOf "_law_breaks" "_law_breaks" (defArgs st_law_breaks) (defBody st_law_breaks) (defScope st_law_breaks) .none kV11 dc11 pm11 an11 cd11 ct11), sl11⟩) (c11 : PySem.W.codeIn K cd11 "_law_breaks" = true) (k11 : PySem.W.keepIn K (.ref f11) = true)
    (a12 : PySem.W.nsIn K mainGlobals "_law_is_lit" = some (some (.ref f12))) (l12 : K.lookup f12 = some ⟨oc12, od12, .func (PySem.W.fnOf "_law_is_lit" "_law_is_lit" (defArgs st_law_is_lit) (defBody st_law_is_lit) (defScope st_law_is_lit) .none kV12 dc12 pm12 an12 cd12 ct12), sl12⟩) (c12 : PySem.W.codeIn K cd12 "_law_is_lit" = true) (k12 : PySem.W.keepIn K (.ref f12) = true)
    (a13 : PySem.W.nsIn K mainGlobals "stretches" = some (some (.ref f13))) (l13 : K.lookup f13 = some ⟨oc13, od13, .func (PySem.W.fnOf "stretches" "stretches" (defArgs st_stretches) (defBody st_stretches) (defScope st_stretches) .none kV13 dc13 pm13 an13 cd13 ct13), sl13⟩) (c13 : PySem.W.codeIn K cd13 "stretches" = true) (k13 : PySem.W.keepIn K (.ref f13) = true)
    (a14 : PySem.W.nsIn K mainGlobals "_law_winding" = some (some (.ref f14))) (l14 : K.lookup f14 = some ⟨oc14, od14, .func (PySem.W.fnOf "_law_winding" "_law_winding" (defArgs st_law_winding) (defBody st_law_winding) (defScope st_law_winding) .none kV14 dc14 pm14 an14 cd14 ct14), sl14⟩) (c14 : PySem.W.codeIn K cd14 "_law_winding" = true) (k14 : PySem.W.keepIn K (.ref f14) = true)
    (a15 : PySem.W.nsIn K mainGlobals "_law_angle" = some (some (.ref f15))) (l15 : K.lookup f15 = some ⟨oc15, od15, .func (PySem.W.fnOf "_law_angle" "_law_angle" (defArgs st_law_angle) (defBody st_law_angle) (defScope st_law_angle) .none kV15 dc15 pm15 an15 cd15 ct15), sl15⟩) (c15 : PySem.W.codeIn K cd15 "_law_angle" = true) (k15 : PySem.W.keepIn K (.ref f15) = true)
    (a16 : PySem.W.nsIn K mainGlobals "_law_stretches" = some (some (.ref f16))) (l16 : K.lookup f16 = some ⟨oc16, od16, .func (PySem.W.fnOf "_law_stretches" "_law_stretches" (defArgs st_law_stretches) (defBody st_law_stretches) (defScope st_law_stretches) .none kV16 dc16 pm16 an16 cd16 ct16), sl16⟩) (c16 : PySem.W.codeIn K cd16 "_law_stretches" = true) (k16 : PySem.W.keepIn K (.ref f16) = true)
    (a17 : PySem.W.nsIn K mainGlobals "harmless" = some (some (.ref f17))) (l17 : K.lookup f17 = some ⟨oc17, od17, .func (PySem.W.fnOf "harmless" "harmless" (defArgs st_harmless) (defBody st_harmless) (defScope st_harmless) .none kV17 dc17 pm17 an17 cd17 ct17), sl17⟩) (c17 : PySem.W.codeIn K cd17 "harmless" = true) (k17 : PySem.W.keepIn K (.ref f17) = true)
    (a18 : PySem.W.nsIn K mainGlobals "_law_wished" = some (some (.ref f18))) (l18 : K.lookup f18 = some ⟨oc18, od18, .func (PySem.W.fnOf "_law_wished" "_law_wished" (defArgs st_law_wished) (defBody st_law_wished) (defScope st_law_wished) .none kV18 dc18 pm18 an18 cd18 ct18), sl18⟩) (c18 : PySem.W.codeIn K cd18 "_law_wished" = true) (k18 : PySem.W.keepIn K (.ref f18) = true)
    (a19 : PySem.W.nsIn K mainGlobals "_law_lit" = some (some (.ref f19))) (l19 : K.lookup f19 = some ⟨oc19, od19, .func (PySem.W.fnOf "_law_lit" "_law_lit" (defArgs st_law_lit) (defBody st_law_lit) (defScope st_law_lit) .none kV19 dc19 pm19 an19 cd19 ct19), sl19⟩) (c19 : PySem.W.codeIn K cd19 "_law_lit" = true) (k19 : PySem.W.keepIn K (.ref f19) = true)
    (a20 : PySem.W.nsIn K mainGlobals "light" = some (some (.ref f20))) (l20 : K.lookup f20 = some ⟨oc20, od20, .func (PySem.W.fnOf "light" "light" (defArgs st_light) (defBody st_light) (defScope st_light) .none kV20 dc20 pm20 an20 cd20 ct20), sl20⟩) (c20 : PySem.W.codeIn K cd20 "light" = true) (k20 : PySem.W.keepIn K (.ref f20) = true)
    (a21 : PySem.W.nsIn K mainGlobals "law" = some (some (.ref f21))) (l21 : K.lookup f21 = some ⟨oc21, od21, .func (PySem.W.fnOf "law" "law" (defArgs st_law) (defBody st_law) (defScope st_law) .none kV21 dc21 pm21 an21 cd21 ct21), sl21⟩) (c21 : PySem.W.codeIn K cd21 "law" = true) (k21 : PySem.W.keepIn K (.ref f21) = true)
    (z0 : PySem.W.nsIn K mainGlobals "len" = some none)
    (z1 : PySem.W.nsIn K mainGlobals "isinstance" = some none)
    (z2 : PySem.W.nsIn K mainGlobals "sorted" = some none)
    (z3 : PySem.W.nsIn K mainGlobals "tuple" = some none)
    (z4 : PySem.W.nsIn K mainGlobals "list" = some none)
    (z5 : PySem.W.nsIn K mainGlobals "min" = some none)
    (z6 : PySem.W.nsIn K mainGlobals "all" = some none)
    (z7 : PySem.W.nsIn K mainGlobals "any" = some none)
    (z8 : PySem.W.nsIn K mainGlobals "set" = some none)
    (z9 : PySem.W.nsIn K mainGlobals "int" = some none)
    (z10 : PySem.W.nsIn K mainGlobals "str" = some none)
    (z11 : PySem.W.nsIn K mainGlobals "range" = some none)
    (z12 : PySem.W.nsIn K mainGlobals "enumerate" = some none)
    (z13 : PySem.W.nsIn K mainGlobals "zip" = some none)
    (z14 : PySem.W.nsIn K mainGlobals "bool" = some none) :
    ∃ fd : FuncData, (∀ (s : Shared) (v : Value), BindsTo s fd ⟨[v], []⟩ [("script", v)]) ∧ ∀ base : Heap, K.In base → base.Ns mainGlobals mg → TabB base mg cA P0 → FnOk l.prog w K mg base CX0 6 fa fd ["script"] (spT (spLawT P0 qK)) := by
  have e := hfa.symm.trans (PySem.W.mg_of X G a21)
  cases e
  have hcd := tab_code a11 l11 ht
  have F0 := fun_mk (st := st_lowest) l0 c0 k0
  have A0 : FnAt K mg "lowest" st_lowest ["top", "bottom"] _ _ := ⟨F0, F0.binds (ps := ["top", "bottom"]) fun _ _ _ _ _ _ us hl => match us, hl with | [_, _], _ => rfl, PySem.W.mg_of X G a0⟩
  have F1 := fun_mk (st := st_turns) l1 c1 k1
  have A1 : FnAt K mg "turns" st_turns ["many", "winding"] _ _ := ⟨F1, F1.binds (ps := ["many", "winding"]) fun _ _ _ _ _ _ us hl => match us, hl with | [_, _], _ => rfl, PySem.W.mg_of X G a1⟩
  have F2 := fun_mk (st := st_in_order) l2 c2 k2
  have A2 : FnAt K mg "in_order" st_in_order ["angles"] _ _ := ⟨F2, F2.binds (ps := ["angles"]) fun _ _ _ _ _ _ us hl => match us, hl with | [_], _ => rfl, PySem.W.mg_of X G a2⟩
  have F3 := fun_mk (st := st_law_bag) l3 c3 k3
  have A3 : FnAt K mg "_law_bag" st_law_bag ["script", "k"] _ _ := ⟨F3, F3.binds (ps := ["script", "k"]) fun _ _ _ _ _ _ us hl => match us, hl with | [_, _], _ => rfl, PySem.W.mg_of X G a3⟩
  have F4 := fun_mk (st := st_law_take) l4 c4 k4
  have A4 : FnAt K mg "_law_take" st_law_take ["bag", "count"] _ _ := ⟨F4, F4.binds (ps := ["bag", "count"]) fun _ _ _ _ _ _ us hl => match us, hl with | [_, _], _ => rfl, PySem.W.mg_of X G a4⟩
  have F5 := fun_mk (st := st_law_lowest) l5 c5 k5
  have A5 : FnAt K mg "_law_lowest" st_law_lowest ["top", "bottom"] _ _ := ⟨F5, F5.binds (ps := ["top", "bottom"]) fun _ _ _ _ _ _ us hl => match us, hl with | [_, _], _ => rfl, PySem.W.mg_of X G a5⟩
  have F6 := fun_mk (st := st_law_pricked) l6 c6 k6
  have A6 : FnAt K mg "_law_pricked" st_law_pricked ["many", "winding", "angle"] _ _ := ⟨F6, F6.binds (ps := ["many", "winding", "angle"]) fun _ _ _ _ _ _ us hl => match us, hl with | [_, _, _], _ => rfl, PySem.W.mg_of X G a6⟩
  have F7 := fun_mk (st := st_law_less) l7 c7 k7
  have A7 : FnAt K mg "_law_less" st_law_less ["one", "other"] _ _ := ⟨F7, F7.binds (ps := ["one", "other"]) fun _ _ _ _ _ _ us hl => match us, hl with | [_, _], _ => rfl, PySem.W.mg_of X G a7⟩
  have F8 := fun_mk (st := st_pricked) l8 c8 k8
  have A8 : FnAt K mg "pricked" st_pricked ["many", "winding", "angle"] _ _ := ⟨F8, F8.binds (ps := ["many", "winding", "angle"]) fun _ _ _ _ _ _ us hl => match us, hl with | [_, _, _], _ => rfl, PySem.W.mg_of X G a8⟩
  have F9 := fun_mk (st := st_breaks) l9 c9 k9
  have A9 : FnAt K mg "breaks" st_breaks ["many", "winding"] _ _ := ⟨F9, F9.binds (ps := ["many", "winding"]) fun _ _ _ _ _ _ us hl => match us, hl with | [_, _], _ => rfl, PySem.W.mg_of X G a9⟩
  have F10 := fun_mk (st := st_law_of) l10 c10 k10
  have A10 : FnAt K mg "_law_of" st_law_of ["bag", "some"] _ _ := ⟨F10, F10.binds (ps := ["bag", "some"]) fun _ _ _ _ _ _ us hl => match us, hl with | [_, _], _ => rfl, PySem.W.mg_of X G a10⟩
  have F11 := fun_mk (st := st_law_breaks) l11 c11 k11
  have A11 : FnAt K mg "_law_breaks" st_law_breaks ["many", "winding"] _ _ := ⟨F11, F11.binds (ps := ["many", "winding"]) fun _ _ _ _ _ _ us hl => match us, hl with | [_, _], _ => rfl, PySem.W.mg_of X G a11⟩
  have F12 := fun_mk (st := st_law_is_lit) l12 c12 k12
  have A12 : FnAt K mg "_law_is_lit" st_law_is_lit ["rows", "angle"] _ _ := ⟨F12, F12.binds (ps := ["rows", "angle"]) fun _ _ _ _ _ _ us hl => match us, hl with | [_, _], _ => rfl, PySem.W.mg_of X G a12⟩
  have F13 := fun_mk (st := st_stretches) l13 c13 k13
  have A13 : FnAt K mg "stretches" st_stretches ["many", "winding"] _ _ := ⟨F13, F13.binds (ps := ["many", "winding"]) fun _ _ _ _ _ _ us hl => match us, hl with | [_, _], _ => rfl, PySem.W.mg_of X G a13⟩
  have F14 := fun_mk (st := st_law_winding) l14 c14 k14
  have A14 : FnAt K mg "_law_winding" st_law_winding ["bag"] _ _ := ⟨F14, F14.binds (ps := ["bag"]) fun _ _ _ _ _ _ us hl => match us, hl with | [_], _ => rfl, PySem.W.mg_of X G a14⟩
  have F15 := fun_mk (st := st_law_angle) l15 c15 k15
  have A15 : FnAt K mg "_law_angle" st_law_angle ["bag"] _ _ := ⟨F15, F15.binds (ps := ["bag"]) fun _ _ _ _ _ _ us hl => match us, hl with | [_], _ => rfl, PySem.W.mg_of X G a15⟩
  have F16 := fun_mk (st := st_law_stretches) l16 c16 k16
  have A16 : FnAt K mg "_law_stretches" st_law_stretches ["many", "winding"] _ _ := ⟨F16, F16.binds (ps := ["many", "winding"]) fun _ _ _ _ _ _ us hl => match us, hl with | [_, _], _ => rfl, PySem.W.mg_of X G a16⟩
  have F17 := fun_mk (st := st_harmless) l17 c17 k17
  have A17 : FnAt K mg "harmless" st_harmless ["many", "winding", "wished"] _ _ := ⟨F17, F17.binds (ps := ["many", "winding", "wished"]) fun _ _ _ _ _ _ us hl => match us, hl with | [_, _, _], _ => rfl, PySem.W.mg_of X G a17⟩
  have F18 := fun_mk (st := st_law_wished) l18 c18 k18
  have A18 : FnAt K mg "_law_wished" st_law_wished ["bag", "many", "winding"] _ _ := ⟨F18, F18.binds (ps := ["bag", "many", "winding"]) fun _ _ _ _ _ _ us hl => match us, hl with | [_, _, _], _ => rfl, PySem.W.mg_of X G a18⟩
  have F19 := fun_mk (st := st_law_lit) l19 c19 k19
  have A19 : FnAt K mg "_law_lit" st_law_lit ["many", "winding", "holes"] _ _ := ⟨F19, F19.binds (ps := ["many", "winding", "holes"]) fun _ _ _ _ _ _ us hl => match us, hl with | [_, _, _], _ => rfl, PySem.W.mg_of X G a19⟩
  have F20 := fun_mk (st := st_light) l20 c20 k20
  have A20 : FnAt K mg "light" st_light ["many", "winding", "holes"] _ _ := ⟨F20, F20.binds (ps := ["many", "winding", "holes"]) fun _ _ _ _ _ _ us hl => match us, hl with | [_, _, _], _ => rfl, PySem.W.mg_of X G a20⟩
  have F21 := fun_mk (st := st_law) l21 c21 k21
  have A21 : FnAt K mg "law" st_law ["script"] _ _ := ⟨F21, F21.binds (ps := ["script"]) fun _ _ _ _ _ _ us hl => match us, hl with | [_], _ => rfl, PySem.W.mg_of X G a21⟩
  have blt : ∀ x ∈ bltNames, mg x = none := by
    intro x hx
    simp only [bltNames, List.mem_cons, List.not_mem_nil, or_false] at hx
    rcases hx with rfl | rfl | rfl | rfl | rfl | rfl | rfl | rfl | rfl | rfl | rfl | rfl | rfl | rfl | rfl
    · exact PySem.W.mg_none_of X G z0
    · exact PySem.W.mg_none_of X G z1
    · exact PySem.W.mg_none_of X G z2
    · exact PySem.W.mg_none_of X G z3
    · exact PySem.W.mg_none_of X G z4
    · exact PySem.W.mg_none_of X G z5
    · exact PySem.W.mg_none_of X G z6
    · exact PySem.W.mg_none_of X G z7
    · exact PySem.W.mg_none_of X G z8
    · exact PySem.W.mg_none_of X G z9
    · exact PySem.W.mg_none_of X G z10
    · exact PySem.W.mg_none_of X G z11
    · exact PySem.W.mg_none_of X G z12
    · exact PySem.W.mg_none_of X G z13
    · exact PySem.W.mg_none_of X G z14
  refine ⟨PySem.W.fnOf "law" "law" (defArgs st_law) (defBody st_law) (defScope st_law) .none kV21 dc21 pm21 an21 cd21 ct21, fun s v => .of_eq rfl, fun base _ _ TB => ?_⟩
  have G0 : ∀ j, FnOk l.prog w K mg base CX0 (j + 1) _ _ ["top", "bottom"] (spT spLowest) := fun j => ok_lowest P0 F0 blt  j
  have G1 : ∀ j, FnOk l.prog w K mg base CX0 (j + 1) _ _ ["many", "winding"] (spT spTurns) := fun j => ok_turns P0 F1 blt  j
  have G2 : ∀ j, FnOk l.prog w K mg base CX0 (j + 1) _ _ ["angles"] (spT spInOrder) := fun j => ok_in_order P0 F2 blt  j
  have G3 : ∀ j, FnOk l.prog w K mg base CX0 (j + 1) _ _ ["script", "k"] (spT spBag) := fun j => ok_law_bag P0 F3 blt  j
  have G4 : ∀ j, FnOk l.prog w K mg base CX0 (j + 1) _ _ ["bag", "count"] (spT spTake) := fun j => ok_law_take P0 F4 blt  j
  have G5 : ∀ j, FnOk l.prog w K mg base CX0 (j + 1) _ _ ["top", "bottom"] (spT spLowest) := fun j => ok_law_lowest P0 F5 blt  j
  have G6 : ∀ j, FnOk l.prog w K mg base CX0 (j + 1) _ _ ["many", "winding", "angle"] (spT spPricked) := fun j => ok_law_pricked P0 F6 blt  j
  have G7 : ∀ j, FnOk l.prog w K mg base CX0 (j + 1) _ _ ["one", "other"] (spT spWorth) := fun j => ok_law_less P0 F7 blt  j
  have G8 : ∀ j, FnOk l.prog w K mg base CX0 (j + 2) _ _ ["many", "winding", "angle"] (spT spPricked) := fun j => ok_pricked P0 F8 blt A1 G1 j
  have G9 : ∀ j, FnOk l.prog w K mg base CX0 (j + 2) _ _ ["many", "winding"] (spT spBreaks) := fun j => ok_breaks P0 F9 blt A1 G1 A2 G2 A0 G0 j
  have G10 : ∀ j, FnOk l.prog w K mg base CX0 (j + 2) _ _ ["bag", "some"] (spT spOf) := fun j => ok_law_of P0 F10 blt A4 G4 j
  have G11 : ∀ j, FnOk l.prog w K mg base CX0 (j + 2) _ _ ["many", "winding"] (spT (spLBreaks P0 qK)) := fun j => ok_law_breaks P0 F11 blt TB hcd A5 G5 j
  have G12 : ∀ j, FnOk l.prog w K mg base CX0 (j + 2) _ _ ["rows", "angle"] (spT spIsLit) := fun j => ok_law_is_lit P0 F12 blt A7 G7 j
  have G13 : ∀ j, FnOk l.prog w K mg base CX0 (j + 3) _ _ ["many", "winding"] (spT spStretches) := fun j => ok_stretches P0 F13 blt A9 G9 A8 G8 j
  have G14 : ∀ j, FnOk l.prog w K mg base CX0 (j + 3) _ _ ["bag"] (spT spWinding) := fun j => ok_law_winding P0 F14 blt A10 G10 A4 G4 j
  have G15 : ∀ j, FnOk l.prog w K mg base CX0 (j + 3) _ _ ["bag"] (spT spAngle) := fun j => ok_law_angle P0 F15 blt A5 G5 A10 G10 A4 G4 j
  have G16 : ∀ j, FnOk l.prog w K mg base CX0 (j + 3) _ _ ["many", "winding"] (spT (spLStretches P0 qK)) := fun j => ok_law_stretches P0 F16 blt A11 G11 A6 G6 j
  have G17 : ∀ j, FnOk l.prog w K mg base CX0 (j + 4) _ _ ["many", "winding", "wished"] (spT spHarmless) := fun j => ok_harmless P0 F17 blt A13 G13 j
  have G18 : ∀ j, FnOk l.prog w K mg base CX0 (j + 4) _ _ ["bag", "many", "winding"] (spT spWished) := fun j => ok_law_wished P0 F18 blt A4 G4 A10 G10 A6 G6 A15 G15 j
  have G19 : ∀ j, FnOk l.prog w K mg base CX0 (j + 4) _ _ ["many", "winding", "holes"] (spT (spLLit P0 qK)) := fun j => ok_law_lit P0 F19 blt A16 G16 j
  have G20 : ∀ j, FnOk l.prog w K mg base CX0 (j + 5) _ _ ["many", "winding", "holes"] (spT spLight) := fun j => ok_light P0 F20 blt A17 G17 j
  have G21 : ∀ j, FnOk l.prog w K mg base CX0 (j + 6) _ _ ["script"] (spT (spLawT P0 qK)) := fun j => ok_law P0 F21 blt A3 G3 A14 G14 A18 G18 A20 G20 A10 G10 A19 G19 A15 G15 A8 G8 A4 G4 A7 G7 A12 G12 j
  exact G21 0
end N66
open PySem PySem.W PyProof.Rows
set_option maxHeartbeats 0 in
theorem PySem.Challenge.cw_needleroll_k07_whole_light_comes_through_holds : PySem.Challenge.rw_needleroll_k07_whole_light_comes_through.Holds := by
  w_on; o_law; k_head; (case hw => w_witness2)
  k_fill
  refine N66.walk_tab (l := PySem.Challenge.rw_needleroll_k07_whole_light_comes_through) (k := 6) (qn := N66.qK) rfl rfl ⟨rfl, by decide, by decide⟩ (fun w h Y => PySem.W.km_in_of Y) rfl ?hTab ?hNo ?hF
  case hTab => exact fun w => ⟨_, _, by rfl, by rfl⟩
  case hNo => exact fun w => by rfl
  case hF =>
    intro w mg fa h cA P0 KX G hmg ht
    refine' N66.all_mk KX G hmg ht ?a0 ?l0 ?c0 ?k0 ?a1 ?l1 ?c1 ?k1 ?a2 ?l2 ?c2 ?k2 ?a3 ?l3 ?c3 ?k3 ?a4 ?l4 ?c4 ?k4 ?a5 ?l5 ?c5 ?k5 ?a6 ?l6 ?c6 ?k6 ?a7 ?l7 ?c7 ?k7 ?a8 ?l8 ?c8 ?k8 ?a9 ?l9 ?c9 ?k9 ?a10 ?l10 ?c10 ?k10 ?a11 ?l11 ?c11 ?k11 ?a12 ?l12 ?c12 ?k12 ?a13 ?l13 ?c13 ?k13 ?a14 ?l14 ?c14 ?k14 ?a15 ?l15 ?c15 ?k15 ?a16 ?l16 ?c16 ?k16 ?a17 ?l17 ?c17 ?k17 ?a18 ?l18 ?c18 ?k18 ?a19 ?l19 ?c19 ?k19 ?a20 ?l20 ?c20 ?k20 ?a21 ?l21 ?c21 ?k21 ?z0 ?z1 ?z2 ?z3 ?z4 ?z5 ?z6 ?z7 ?z8 ?z9 ?z10 ?z11 ?z12 ?z13 ?z14
    (case a0 => k_is); (case l0 => k_is); (case c0 => k_is); (case k0 => k_is); (case a1 => k_is); (case l1 => k_is); (case c1 => k_is); (case k1 => k_is); (case a2 => k_is); (case l2 => k_is); (case c2 => k_is); (case k2 => k_is); (case a3 => k_is); (case l3 => k_is); (case c3 => k_is); (case k3 => k_is); (case a4 => k_is); (case l4 => k_is); (case c4 => k_is); (case k4 => k_is); (case a5 => k_is); (case l5 => k_is); (case c5 => k_is); (case k5 => k_is); (case a6 => k_is); (case l6 => k_is); (case c6 => k_is); (case k6 => k_is); (case a7 => k_is); (case l7 => k_is); (case c7 => k_is); (case k7 => k_is); (case a8 => k_is); (case l8 => k_is); (case c8 => k_is); (case k8 => k_is); (case a9 => k_is); (case l9 => k_is); (case c9 => k_is); (case k9 => k_is); (case a10 => k_is); (case l10 => k_is); (case c10 => k_is); (case k10 => k_is); (case a11 => k_is); (case l11 => k_is); (case c11 => k_is); (case k11 => k_is); (case a12 => k_is); (case l12 => k_is); (case c12 => k_is); (case k12 => k_is); (case a13 => k_is); (case l13 => k_is); (case c13 => k_is); (case k13 => k_is); (case a14 => k_is); (case l14 => k_is); (case c14 => k_is); (case k14 => k_is); (case a15 => k_is); (case l15 => k_is); (case c15 => k_is); (case k15 => k_is); (case a16 => k_is); (case l16 => k_is); (case c16 => k_is); (case k16 => k_is); (case a17 => k_is); (case l17 => k_is); (case c17 => k_is); (case k17 => k_is); (case a18 => k_is); (case l18 => k_is); (case c18 => k_is); (case k18 => k_is); (case a19 => k_is); (case l19 => k_is); (case c19 => k_is); (case k19 => k_is); (case a20 => k_is); (case l20 => k_is); (case c20 => k_is); (case k20 => k_is); (case a21 => k_is); (case l21 => k_is); (case c21 => k_is); (case k21 => k_is); (case z0 => k_is); (case z1 => k_is); (case z2 => k_is); (case z3 => k_is); (case z4 => k_is); (case z5 => k_is); (case z6 => k_is); (case z7 => k_is); (case z8 => k_is); (case z9 => k_is); (case z10 => k_is); (case z11 => k_is); (case z12 => k_is); (case z13 => k_is); (case z14 => k_is)
