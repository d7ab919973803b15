import PyProof.Rows.All
import HandS.ForMost
import HandS.IsInst
import HandS.Flow
import HandS.Zip
import HandS.Wide
import HandS.TupAny
import HandS.NoneIn
import KE.GoesEnum
import HandS.Dict
import HandS.More
import HandS.Iter
import HandS.DeepEq
import HandS.FStr
import HandS.Text
import PyProof.StrOps2
import HandS.Zip0
import HandS.Keys
import KE.KDictItemsList
import KE.KDictZip
import PySem.Challenge.RW_lastproof_k19_whole_unifying_and_matchin
import Wide.All
set_option Elab.async false
set_option linter.all false
set_option maxRecDepth 100000
/-! the data, the store, the relation to the layer's heap; M: what an expression computes, as a function; Snd: it does -/
namespace Zi
open PySem PySem.Spec PyProof.Rows L2

/-- data: tuples as a whole, the script (sl), lists and dicts by their place in the store (ref), a def of the module (fn) -/
inductive D where
  | non | bl (b : Bool) | int (i : Int) | str (x : Str) | tup (xs : List D) | sl (ns : List Int) | ref (n : Nat) | fn (x : Str)
  /-- a tuple that is a constant of the module -/
  | ktup (xs : List D)

/-- the written part and the module's names -/
structure Wr where
  K : PySem.W.Frag
  mg : Str → Option Value

/-- the script's list: locked, or an object of the module -/
def Scr (K : PySem.W.Frag) (H : Hp) (a : Addr) (ns : List Int) : Prop :=
  (∃ o, H a = some (.frz o (.lst (ns.map V.int)))) ∨
    ∃ (o : Obj) (its : Array Value) (n : Nat), K.lookup a = some o ∧ o.cls = .type "list" ∧ o.dict = none ∧ o.data = .seq its n ∧ its.size ≤ sizeLine ∧ Vals (ns.map V.int) its.toList
theorem Scr.sq {K : PySem.W.Frag} {H : Hp} {a : Addr} {ns : List Int} (h : Scr K H a ns) : SqL K H a (ns.map V.int) := by
  rcases h with h | h
  · exact .inl (.inr h)
  · exact .inr h

mutual
inductive RD (g : Wr) (ρ : List Addr) (H : Hp) : D → V → Prop
  | non : RD g ρ H .non .non
  | bl (b : Bool) : RD g ρ H (.bl b) (.bl b)
  | int (i : Int) : RD g ρ H (.int i) (.int i)
  | str (x : Str) : RD g ρ H (.str x) (.str x)
  | tup {ds : List D} {a : Addr} {vs : List V} : H a = some (.tup vs) → RDs g ρ H ds vs → RD g ρ H (.tup ds) (.ref a)
  | sl {ns : List Int} {a : Addr} : Scr g.K H a ns → RD g ρ H (.sl ns) (.ref a)
  | ref {n : Nat} {a : Addr} : ρ[n]? = some a → RD g ρ H (.ref n) (.ref a)
  | fn {x : Str} {f : Addr} : g.mg x = some (.ref f) → RD g ρ H (.fn x) (.ref f)
  | ktup {ds : List D} {a : Addr} {vs : List V} : SqT g.K H a vs → RDs g ρ H ds vs → RD g ρ H (.ktup ds) (.ref a)
inductive RDs (g : Wr) (ρ : List Addr) (H : Hp) : List D → List V → Prop
  | nil : RDs g ρ H [] []
  | cons {d : D} {v : V} {ds : List D} {vs : List V} : RD g ρ H d v → RDs g ρ H ds vs → RDs g ρ H (d :: ds) (v :: vs)
end

/-- what the relation leans on: tuples, the script, the store's places -/
structure Sub (g : Wr) (ρ : List Addr) (H : Hp) (ρ' : List Addr) (H' : Hp) : Prop where
  pre : ∀ (n : Nat) (a : Addr), ρ[n]? = some a → ρ'[n]? = some a
  tup : ∀ a xs, SqT g.K H a xs → SqT g.K H' a xs
  scr : ∀ a ns, Scr g.K H a ns → Scr g.K H' a ns
  ht : ∀ (a : Addr) (xs : List V), H a = some (.tup xs) → H' a = some (.tup xs)

section
variable {g : Wr} {ρ ρ' : List Addr} {H H' : Hp}
mutual
theorem RD.mono (s : Sub g ρ H ρ' H') : ∀ {d : D} {v : V}, RD g ρ H d v → RD g ρ' H' d v
  | _, _, .non => .non
  | _, _, .bl b => .bl b
  | _, _, .int i => .int i
  | _, _, .str x => .str x
  | _, _, .tup h hs => .tup (s.ht _ _ h) (RDs.mono s hs)
  | _, _, .ktup h hs => .ktup (s.tup _ _ h) (RDs.mono s hs)
  | _, _, .sl h => .sl (s.scr _ _ h)
  | _, _, .ref h => .ref (s.pre _ _ h)
  | _, _, .fn h => .fn h
theorem RDs.mono (s : Sub g ρ H ρ' H') : ∀ {ds : List D} {vs : List V}, RDs g ρ H ds vs → RDs g ρ' H' ds vs
  | _, _, .nil => .nil
  | _, _, .cons h hs => .cons (RD.mono s h) (RDs.mono s hs)
end
theorem RDs.length : ∀ {ds : List D} {vs : List V}, RDs g ρ H ds vs → ds.length = vs.length
  | _, _, .nil => rfl
  | _, _, .cons _ hs => congrArg (· + 1) (RDs.length hs)
theorem RDs.get : ∀ {ds : List D} {vs : List V} {i : Nat} {d : D}, RDs g ρ H ds vs → ds[i]? = some d → ∃ v, vs[i]? = some v ∧ RD g ρ H d v
  | _, _, _, _, .nil, e => by simp at e
  | _, _, 0, _, .cons h _, e => by simp at e; subst e; exact ⟨_, rfl, h⟩
  | _, _, i + 1, _, .cons _ hs, e => by
    obtain ⟨v, h1, h2⟩ := RDs.get (i := i) hs (by simpa using e)
    exact ⟨v, by simpa using h1, h2⟩
theorem RDs.append : ∀ {ds es : List D} {vs ws : List V}, RDs g ρ H ds vs → RDs g ρ H es ws → RDs g ρ H (ds ++ es) (vs ++ ws)
  | _, _, _, _, .nil, h => h
  | _, _, _, _, .cons a b, h => .cons a (RDs.append b h)
theorem RDs.take : ∀ {ds : List D} {vs : List V} (n : Nat), RDs g ρ H ds vs → RDs g ρ H (ds.take n) (vs.take n)
  | _, _, 0, _ => .nil
  | _, _, _ + 1, .nil => .nil
  | _, _, n + 1, .cons a b => .cons a (RDs.take n b)
theorem RDs.drop : ∀ {ds : List D} {vs : List V} (n : Nat), RDs g ρ H ds vs → RDs g ρ H (ds.drop n) (vs.drop n)
  | _, _, 0, h => h
  | _, _, _ + 1, .nil => .nil
  | _, _, n + 1, .cons _ b => RDs.drop n b
theorem RDs.set {d : D} {v : V} (r : RD g ρ H d v) : ∀ {ds : List D} {vs : List V} (i : Nat), RDs g ρ H ds vs → RDs g ρ H (ds.set i d) (vs.set i v)
  | _, _, _, .nil => .nil
  | _, _, 0, .cons _ b => .cons r b
  | _, _, i + 1, .cons a b => .cons a (RDs.set r i b)
theorem RDs.ints : ∀ {ns : List Int}, RDs g ρ H (ns.map D.int) (ns.map V.int)
  | [] => .nil
  | n :: ns => .cons (.int n) RDs.ints
theorem RDs.dropLast : ∀ {ds : List D} {vs : List V}, RDs g ρ H ds vs → RDs g ρ H ds.dropLast vs.dropLast
  | _, _, .nil => .nil
  | _, _, .cons _ .nil => .nil
  | _, _, .cons a (.cons b c) => .cons a (RDs.dropLast (.cons b c))
theorem RDs.reverse : ∀ {ds : List D} {vs : List V}, RDs g ρ H ds vs → RDs g ρ H ds.reverse vs.reverse
  | _, _, .nil => .nil
  | _, _, .cons a b => by
    rw [List.reverse_cons, List.reverse_cons]
    exact RDs.append (RDs.reverse b) (.cons a .nil)
theorem RDs.eraseIdx : ∀ {ds : List D} {vs : List V} (i : Nat), RDs g ρ H ds vs → RDs g ρ H (ds.eraseIdx i) (vs.eraseIdx i)
  | _, _, _, .nil => .nil
  | _, _, 0, .cons _ b => b
  | _, _, i + 1, .cons a b => .cons a (RDs.eraseIdx i b)
end

/-- what stands at a place of the store -/
inductive Cell where
  | lst (xs : List D) | dK (kvs : List (Key × D)) | dT (kvs : List (List Key × D))
  /-- a dict that a loop walks -/
  | lk (kvs : List (Key × D))
  | lkT (kvs : List (List Key × D))
abbrev Sto := List Cell

/-- pairs of a dict -/
inductive RDk {κ : Type} (g : Wr) (ρ : List Addr) (H : Hp) : List (κ × D) → List (κ × V) → Prop
  | nil : RDk g ρ H [] []
  | cons {k : κ} {d : D} {v : V} {ds : List (κ × D)} {vs : List (κ × V)} : RD g ρ H d v → RDk g ρ H ds vs → RDk g ρ H ((k, d) :: ds) ((k, v) :: vs)

inductive CellR (g : Wr) (ρ : List Addr) (H : Hp) : Cell → HO → Prop
  | lst {xs : List D} {vs : List V} : RDs g ρ H xs vs → CellR g ρ H (.lst xs) (.lst vs)
  | dK {xs : List (Key × D)} {vs : List (Key × V)} : RDk g ρ H xs vs → CellR g ρ H (.dK xs) (.dK vs)
  | dT {xs : List (List Key × D)} {vs : List (List Key × V)} : RDk g ρ H xs vs → CellR g ρ H (.dT xs) (.dT vs)
  | lk {xs : List (Key × D)} {vs : List (Key × V)} {o : Obj} : RDk g ρ H xs vs → CellR g ρ H (.lk xs) (.frz o (.dK vs))
  | lkT {xs : List (List Key × D)} {vs : List (List Key × V)} {o : Obj} : RDk g ρ H xs vs → CellR g ρ H (.lkT xs) (.frz o (.dT vs))

section
variable {g : Wr} {ρ ρ' : List Addr} {H H' : Hp}
theorem RDk.mono {κ : Type} (s : Sub g ρ H ρ' H') : ∀ {xs : List (κ × D)} {vs : List (κ × V)}, RDk g ρ H xs vs → RDk g ρ' H' xs vs
  | _, _, .nil => .nil
  | _, _, .cons h hs => .cons (h.mono s) (RDk.mono s hs)
theorem CellR.mono (s : Sub g ρ H ρ' H') {c : Cell} {o : HO} (h : CellR g ρ H c o) : CellR g ρ' H' c o := by
  cases h with
  | lst h => exact .lst (h.mono s)
  | dK h => exact .dK (h.mono s)
  | dT h => exact .dT (h.mono s)
  | lk h => exact .lk (h.mono s)
  | lkT h => exact .lkT (h.mono s)
/-- no cell is a tuple or a locked sequence -/
theorem CellR.notT {c : Cell} {o : HO} (h : CellR g ρ H c o) : (∀ xs, o ≠ .tup xs) ∧ (∀ ob xs, o ≠ .frz ob (.tup xs)) ∧ ∀ ob xs, o ≠ .frz ob (.lst xs) := by
  cases h <;> exact ⟨(fun _ z => by cases z), (fun _ _ z => by cases z), (fun _ _ z => by cases z)⟩
/-- a cell that is not locked -/
def Cell.free : Cell → Bool
  | .lk _ => false
  | .lkT _ => false
  | _ => true
theorem CellR.notF {c : Cell} {o : HO} (h : CellR g ρ H c o) (hf : c.free = true) : ∀ ob u, o ≠ .frz ob u := by
  cases h <;> first
    | exact absurd hf Bool.false_ne_true
    | exact (fun _ _ z => by cases z)
end

/-- the store lies in the heap, its places at ρ -/
structure Sim (g : Wr) (ρ : List Addr) (S : Sto) (H : Hp) : Prop where
  len : ρ.length = S.length
  nd : ρ.Nodup
  cell : ∀ (n : Nat) (a : Addr) (c : Cell), ρ[n]? = some a → S[n]? = some c → ∃ o, H a = some o ∧ CellR g ρ H c o

/-- what one may know behind a step: the places stay, what the store does not hold stays, and the store has not taken it -/
structure Ext (ρ : List Addr) (H : Hp) (ρ' : List Addr) (H' : Hp) : Prop where
  pre : ∀ (n : Nat) (a : Addr), ρ[n]? = some a → ρ'[n]? = some a
  fr : ∀ a o, a ∉ ρ → H a = some o → H' a = some o ∧ a ∉ ρ'
  fz : ∀ a o u, H a = some (.frz o u) → H' a = some (.frz o u)

section
variable {g : Wr} {ρ ρ' ρ1 : List Addr} {S S' : Sto} {H H' H1 : Hp}
theorem Ext.refl : Ext ρ H ρ H := ⟨fun _ _ h => h, fun _ _ n h => ⟨h, n⟩, fun _ _ _ h => h⟩
theorem Ext.trans (a : Ext ρ H ρ1 H1) (b : Ext ρ1 H1 ρ' H') : Ext ρ H ρ' H' :=
  ⟨fun n x h => b.pre n x (a.pre n x h), fun x o n h => let ⟨h1, n1⟩ := a.fr x o n h; b.fr x o n1 h1, fun x o u h => b.fz x o u (a.fz x o u h)⟩
theorem Sim.at (s : Sim g ρ S H) {a : Addr} (h : a ∈ ρ) : ∃ c o, H a = some o ∧ CellR g ρ H c o := by
  obtain ⟨n, hn, e⟩ := List.mem_iff_getElem.mp h
  have e1 : ρ[n]? = some a := by rw [List.getElem?_eq_getElem hn, e]
  have hS : n < S.length := by rw [← s.len]; exact hn
  obtain ⟨o, h1, h2⟩ := s.cell n a S[n] e1 (List.getElem?_eq_getElem hS)
  exact ⟨_, o, h1, h2⟩
theorem Sim.notin (s : Sim g ρ S H) {a : Addr} {o : HO} (h : H a = some o) (hn : (∃ xs, o = .tup xs) ∨ (∃ ob xs, o = .frz ob (.tup xs)) ∨ ∃ ob xs, o = .frz ob (.lst xs)) : a ∉ ρ := fun z => by
  obtain ⟨c, o', h1, h2⟩ := s.at z
  rw [h] at h1
  cases h1
  rcases hn with ⟨xs, e⟩ | ⟨ob, u, e⟩ | ⟨ob, u, e⟩
  · exact h2.notT.1 xs e
  · exact h2.notT.2.1 ob u e
  · exact h2.notT.2.2 ob u e
theorem Sim.fresh (s : Sim g ρ S H) {a : Addr} (h : H a = none) : a ∉ ρ := fun z => by
  obtain ⟨c, o', h1, h2⟩ := s.at z
  rw [h] at h1
  cases h1
/-- all that is known stays known -/
theorem Ext.sub (e : Ext ρ H ρ' H') (s : Sim g ρ S H) : Sub g ρ H ρ' H' := by
  refine ⟨e.pre, fun a xs h => ?_, fun a ns h => ?_, fun a xs h => (e.fr a _ (s.notin h (.inl ⟨_, rfl⟩)) h).1⟩
  · rcases h with (h | ⟨o, h⟩) | h
    · exact .inl (.inl (e.fr a _ (s.notin h (.inl ⟨_, rfl⟩)) h).1)
    · exact .inl (.inr ⟨o, e.fz a _ _ h⟩)
    · exact .inr h
  · rcases h with ⟨o, h⟩ | h
    · exact .inl ⟨o, e.fz a _ _ h⟩
    · exact .inr h
theorem Ext.rd (e : Ext ρ H ρ' H') (s : Sim g ρ S H) {d : D} {v : V} (h : RD g ρ H d v) : RD g ρ' H' d v := h.mono (e.sub s)
theorem Ext.rds (e : Ext ρ H ρ' H') (s : Sim g ρ S H) {d : List D} {v : List V} (h : RDs g ρ H d v) : RDs g ρ' H' d v := h.mono (e.sub s)

/-- an object that the store does not hold is laid -/
theorem Ext.new {p : Addr} {o : HO} (h : H p = none) : Ext ρ H ρ (upd H p o) := ⟨fun _ _ h => h, fun a x n e => ⟨by
  rw [upd_ne (ne_of_none e h)]; exact e, n⟩, fun a x u e => by rw [upd_ne (ne_of_none e h)]; exact e⟩
theorem Sim.other (s : Sim g ρ S H) {p : Addr} {o : HO} (hp : p ∉ ρ) (h : H p = none) : Sim g ρ S (upd H p o) := by
  have e : Ext ρ H ρ (upd H p o) := Ext.new h
  have sb := e.sub s
  refine ⟨s.len, s.nd, fun n a c h1 h2 => ?_⟩
  obtain ⟨o', h3, h4⟩ := s.cell n a c h1 h2
  exact ⟨o', by rw [upd_ne (ne_of_none h3 h)]; exact h3, h4.mono sb⟩
/-- .. or held from then on -/
theorem Ext.newc {p : Addr} {o : HO} (h : H p = none) : Ext ρ H (ρ ++ [p]) (upd H p o) := by
  refine ⟨fun n a e => ?_, fun a x n e => ⟨by rw [upd_ne (ne_of_none e h)]; exact e, ?_⟩, fun a x u e => by rw [upd_ne (ne_of_none e h)]; exact e⟩
  · rw [List.getElem?_append_left (List.getElem?_eq_some_iff.mp e).1]; exact e
  · intro z
    rcases List.mem_append.mp z with z | z
    · exact n z
    · rw [List.mem_singleton] at z
      rw [z, h] at e
      cases e
theorem Sim.newc (s : Sim g ρ S H) {p : Addr} {c : Cell} {o : HO} (h : H p = none) (r : CellR g ρ H c o) : Sim g (ρ ++ [p]) (S ++ [c]) (upd H p o) := by
  have e : Ext ρ H (ρ ++ [p]) (upd H p o) := Ext.newc h
  have sb := e.sub s
  have hp : p ∉ ρ := s.fresh h
  refine ⟨by simp [s.len], ?_, fun n a d h1 h2 => ?_⟩
  · rw [List.nodup_append]
    refine ⟨s.nd, by simp, fun a ha b hb => ?_⟩
    rw [List.mem_singleton] at hb
    subst hb
    exact fun z => hp (z ▸ ha)
  · by_cases hn : n < ρ.length
    · rw [List.getElem?_append_left hn] at h1
      rw [List.getElem?_append_left (by rw [← s.len]; exact hn)] at h2
      obtain ⟨o', h3, h4⟩ := s.cell n a d h1 h2
      exact ⟨o', by rw [upd_ne (ne_of_none h3 h)]; exact h3, h4.mono sb⟩
    · have hn' : n = ρ.length := by
        have := (List.getElem?_eq_some_iff.mp h1).1
        rw [List.length_append, List.length_singleton] at this
        omega
      subst hn'
      rw [List.getElem?_append_right (Nat.le_refl _), Nat.sub_self] at h1
      rw [List.getElem?_append_right (by rw [s.len]; exact Nat.le_refl _), s.len, Nat.sub_self] at h2
      simp at h1 h2
      subst h1 h2
      exact ⟨o, upd_same, r.mono sb⟩
/-- a cell is changed -/
theorem Sim.upd (s : Sim g ρ S H) {n : Nat} {a : Addr} {c c0 : Cell} {o : HO} (hn : ρ[n]? = some a) (h0 : S[n]? = some c0) (hf : c0.free = true) (r : CellR g ρ H c o) : Ext ρ H ρ (L2.upd H a o) ∧ Sim g ρ (S.set n c) (L2.upd H a o) := by
  have ha : a ∈ ρ := List.mem_of_getElem? hn
  obtain ⟨o0, ho0, hr0⟩ := s.cell n a c0 hn h0
  have e : Ext ρ H ρ (L2.upd H a o) := ⟨fun _ _ h => h, fun b x nb eb => ⟨by
    have hne : b ≠ a := fun z => nb (by rw [z]; exact ha)
    rw [upd_ne hne]; exact eb, nb⟩, fun b x u eb => by
    have hne : b ≠ a := fun z => by
      rw [z, ho0] at eb
      exact hr0.notF hf _ _ (Option.some.inj eb)
    rw [upd_ne hne]; exact eb⟩
  have sb := e.sub s
  refine ⟨e, by simp [s.len], s.nd, fun m b d h1 h2 => ?_⟩
  by_cases hm : m = n
  · subst hm
    rw [hn] at h1
    cases h1
    have hl : m < S.length := by rw [← s.len]; exact (List.getElem?_eq_some_iff.mp hn).1
    rw [List.getElem?_set_self hl] at h2
    cases h2
    exact ⟨o, upd_same, r.mono sb⟩
  · rw [List.getElem?_set_ne (Ne.symm hm)] at h2
    have nb : b ≠ a := fun z => by
      subst z
      obtain ⟨l1, e1⟩ := List.getElem?_eq_some_iff.mp h1
      obtain ⟨l2, e2⟩ := List.getElem?_eq_some_iff.mp hn
      exact hm ((List.getElem_inj s.nd).mp (e1.trans e2.symm))
    obtain ⟨o', h3, h4⟩ := s.cell m b d h1 h2
    exact ⟨o', by rw [upd_ne nb]; exact h3, h4.mono sb⟩
end

/-! ### locals -/
abbrev Lo := List (Option D)
structure LocR (g : Wr) (ρ : List Addr) (H : Hp) (l : Lo) (σ : L2.St) : Prop where
  len : l.length = σ.length
  val : ∀ (i : Nat) (d : D), l[i]? = some (some d) → ∃ v, σ[i]? = some (some v) ∧ RD g ρ H d v
section
variable {g : Wr} {ρ ρ' : List Addr} {H H' : Hp} {l : Lo} {σ : L2.St} {S : Sto}
theorem LocR.mono (s : Sub g ρ H ρ' H') (h : LocR g ρ H l σ) : LocR g ρ' H' l σ := ⟨h.len, fun i d e => let ⟨v, h1, h2⟩ := h.val i d e; ⟨v, h1, h2.mono s⟩⟩
theorem Ext.loc (e : Ext ρ H ρ' H') (s : Sim g ρ S H) (h : LocR g ρ H l σ) : LocR g ρ' H' l σ := h.mono (e.sub s)
theorem LocR.set (h : LocR g ρ H l σ) {i : Nat} {d : D} {v : V} (r : RD g ρ H d v) : LocR g ρ H (l.set i (some d)) (σ.set i (some v)) := by
  refine ⟨by simp [h.len], fun j d' e => ?_⟩
  by_cases hj : j = i
  · subst hj
    have hl : j < l.length := by
      have := (List.getElem?_eq_some_iff.mp e).1
      simpa using this
    rw [List.getElem?_set_self hl] at e
    cases e
    exact ⟨v, by rw [List.getElem?_set_self (by rw [← h.len]; exact hl)], r⟩
  · rw [List.getElem?_set_ne (Ne.symm hj)] at e
    obtain ⟨w, h1, h2⟩ := h.val j d' e
    exact ⟨w, by rw [List.getElem?_set_ne (Ne.symm hj)]; exact h1, h2⟩
theorem LocR.setN (h : LocR g ρ H l σ) {i : Nat} : LocR g ρ H (l.set i none) (σ.set i none) := by
  refine ⟨by simp [h.len], fun j d' e => ?_⟩
  by_cases hj : j = i
  · subst hj
    have hl : j < l.length := by
      have := (List.getElem?_eq_some_iff.mp e).1
      simpa using this
    rw [List.getElem?_set_self hl] at e
    cases e
  · rw [List.getElem?_set_ne (Ne.symm hj)] at e
    obtain ⟨w, h1, h2⟩ := h.val j d' e
    exact ⟨w, by rw [List.getElem?_set_ne (Ne.symm hj)]; exact h1, h2⟩
theorem LocR.start_of {ds : List D} {vs : List V} (r : RDs g ρ H ds vs) (N : List Str) : LocR g ρ H (ds.map some ++ List.replicate (N.length - ds.length) none) (L2.start N vs) := by
  have hl := r.length
  refine ⟨by unfold L2.start; simp [hl], fun i d e => ?_⟩
  by_cases hi : i < ds.length
  · rw [List.getElem?_append_left (by simpa using hi), List.getElem?_map] at e
    cases e1 : ds[i]? with
    | none => rw [e1] at e; cases e
    | some d1 =>
      rw [e1] at e
      cases e
      obtain ⟨v, h1, h2⟩ := r.get e1
      refine ⟨v, ?_, h2⟩
      unfold L2.start
      rw [List.getElem?_append_left (by simpa [← hl] using hi), List.getElem?_map, h1]
      rfl
  · rw [List.getElem?_append_right (by simpa using hi), List.getElem?_replicate] at e
    split at e <;> cases e
end

/-! ### what is computed -/
abbrev M := Lo → Sto → Option (D × Sto)
abbrev MA := Lo → Sto → Option (List D × Sto)
abbrev MT := Lo → Sto → Option (Bool × Sto)
inductive Fl where
  | nx (l : Lo) | rt (d : D) | bk (l : Lo) | ct (l : Lo)
abbrev MS := Lo → Sto → Option (Fl × Sto)

def Cx.g (X : Cx) : Wr := ⟨X.K, X.mg⟩

/-- the reading by the function -/
def tM (g : Wr) (m : M) : TE := fun σ H Q => ∃ ρ l S d S', Sim g ρ S H ∧ LocR g ρ H l σ ∧ m l S = some (d, S') ∧
  ∀ ρ' v H', Ext ρ H ρ' H' → Sim g ρ' S' H' → RD g ρ' H' d v → Q v H'
def tMA (g : Wr) (m : MA) : TA := fun σ H Q => ∃ ρ l S ds S', Sim g ρ S H ∧ LocR g ρ H l σ ∧ m l S = some (ds, S') ∧
  ∀ ρ' vs H', Ext ρ H ρ' H' → Sim g ρ' S' H' → RDs g ρ' H' ds vs → Q vs H'
def tMT (g : Wr) (m : MT) : TT := fun σ H Q => ∃ ρ l S b S', Sim g ρ S H ∧ LocR g ρ H l σ ∧ m l S = some (b, S') ∧
  ∀ ρ' H', Ext ρ H ρ' H' → Sim g ρ' S' H' → Q b H'
def FlR (g : Wr) (ρ : List Addr) (H : Hp) (f : Fl) (E : Ends) : Prop := match f with
  | .nx l => ∀ σ, LocR g ρ H l σ → E.nx σ H
  | .rt d => ∀ v, RD g ρ H d v → E.rt v H
  | .bk l => ∀ σ, LocR g ρ H l σ → E.bk σ H
  | .ct l => ∀ σ, LocR g ρ H l σ → E.ct σ H
def tMS (g : Wr) (m : MS) : TS := fun E σ H => ∃ ρ l S f S', Sim g ρ S H ∧ LocR g ρ H l σ ∧ m l S = some (f, S') ∧
  ∀ ρ' H', Ext ρ H ρ' H' → Sim g ρ' S' H' → FlR g ρ' H' f E

def Snd (X : Cx) (e : Expr) (m : M) : Prop := PE X e (tM (Cx.g X) m)
def SndA (X : Cx) (es : List Expr) (m : MA) : Prop := PA X es (tMA (Cx.g X) m)
def SndT (X : Cx) (e : Expr) (m : MT) : Prop := PT X e (tMT (Cx.g X) m)
def SndW (X : Cx) (e : Expr) (m : MT) : Prop := PW X e (tMT (Cx.g X) m)
def SndS (X : Cx) (st : Stmt) (m : MS) : Prop := PS X st (tMS (Cx.g X) m)
def SndB (X : Cx) (st : List Stmt) (m : MS) : Prop := PSs X st (tMS (Cx.g X) m)

theorem pe_imp {X : Cx} {e : Expr} {t t' : TE} (h : PE X e t) (w : ∀ σ H Q, t' σ H Q → t σ H Q) : PE X e t' := ⟨fun pins s σ H Q I q => h.run pins s σ H Q I (w σ H Q q)⟩
theorem pt_imp {X : Cx} {e : Expr} {t t' : TT} (h : PT X e t) (w : ∀ σ H Q, t' σ H Q → t σ H Q) : PT X e t' := ⟨fun pins s σ H Q I q => h.run pins s σ H Q I (w σ H Q q)⟩
theorem pw_imp {X : Cx} {e : Expr} {t t' : TT} (h : PW X e t) (w : ∀ σ H Q, t' σ H Q → t σ H Q) : PW X e t' := ⟨fun wh pins s σ H Q I q => h.run wh pins s σ H Q I (w σ H Q q)⟩
theorem pa_imp {X : Cx} {e : List Expr} {t t' : TA} (h : PA X e t) (w : ∀ σ H Q, t' σ H Q → t σ H Q) : PA X e t' := ⟨fun pos pins s σ H Q I q => h.run pos pins s σ H Q I (w σ H Q q)⟩
theorem ps_imp {X : Cx} {e : Stmt} {t t' : TS} (h : PS X e t) (w : ∀ D σ H, t' D σ H → t D σ H) : PS X e t' := ⟨fun pins s σ H D I q => h.run pins s σ H D I (w D σ H q)⟩
theorem pss_imp {X : Cx} {e : List Stmt} {t t' : TS} (h : PSs X e t) (w : ∀ D σ H, t' D σ H → t D σ H) : PSs X e t' := ⟨fun pins s σ H D I q => h.run pins s σ H D I (w D σ H q)⟩

/-! ### expressions -/
section
variable {X : Cx} {pos : Pos}
def mVar (i : Nat) : M := fun l S => match l[i]? with
  | some (some d) => some (d, S)
  | _ => none
theorem s_var (i : Nat) {x : Str} (hN : X.N[i]? = some x := by rfl) (hv : Vis X.env.scope x := by first | exact Or.inl rfl | exact Or.inr (Or.inl rfl) | exact Or.inr (Or.inr rfl)) (hd : (x == ("__debug__" : Str)) = false := by decide)
    (hcd : (x == ("__classdict__" : Str)) = false := by decide) : Snd X (.Name x pos) (mVar i) := by
  refine pe_imp (pe_var (i := i) hN hv hd hcd) fun σ H Q h => ?_
  obtain ⟨ρ, l, S, d, S', hs, hl, hm, q⟩ := h
  unfold mVar at hm
  split at hm
  · rename_i d' e
    cases hm
    obtain ⟨v, h1, h2⟩ := hl.val i d e
    exact ⟨v, h1, q ρ v H Ext.refl hs h2⟩
  · cases hm
def mC (d : D) : M := fun _ S => some (d, S)
theorem s_int {i j} : Snd X (.Constant (.int i) j pos) (mC (.int i)) := pe_imp pe_int fun σ H Q h => by
  obtain ⟨ρ, l, S, d, S', hs, hl, hm, q⟩ := h
  cases hm
  exact q ρ _ H Ext.refl hs (.int i)
theorem s_bl {b j} : Snd X (.Constant (.bool b) j pos) (mC (.bl b)) := pe_imp pe_bl fun σ H Q h => by
  obtain ⟨ρ, l, S, d, S', hs, hl, hm, q⟩ := h
  cases hm
  exact q ρ _ H Ext.refl hs (.bl b)
theorem s_non {j} : Snd X (.Constant .none j pos) (mC .non) := pe_imp pe_non fun σ H Q h => by
  obtain ⟨ρ, l, S, d, S', hs, hl, hm, q⟩ := h
  cases hm
  exact q ρ _ H Ext.refl hs .non
theorem s_str {x j} : Snd X (.Constant (.str x) j pos) (mC (.str x)) := pe_imp pe_str fun σ H Q h => by
  obtain ⟨ρ, l, S, d, S', hs, hl, hm, q⟩ := h
  cases hm
  exact q ρ _ H Ext.refl hs (.str x)
/-- a constant of the module -/
theorem s_glob {x : Str} {d : D} {v : V} {u : Value} (hg : Gl X x) (hm : X.mg x = some u) (r : RelV v u) (rd : ∀ ρ H, RD (Cx.g X) ρ H d v) (hd : (x == ("__debug__" : Str)) = false := by decide) : Snd X (.Name x pos) (mC d) :=
  pe_imp (pe_glob hg hm r hd) fun σ H Q h => by
  obtain ⟨ρ, l, S, d, S', hs, hl, hm, q⟩ := h
  cases hm
  exact q ρ _ H Ext.refl hs (rd _ _)

/-- two-place operations -/
abbrev OpF := D → D → Sto → Option (D × Sto)
def OpOk (g : Wr) (r : R2) (f : OpF) : Prop := ∀ ρ S H x y v u z S' Q, Sim g ρ S H → RD g ρ H x v → RD g ρ H y u → f x y S = some (z, S') →
  (∀ ρ' w H', Ext ρ H ρ' H' → Sim g ρ' S' H' → RD g ρ' H' z w → Q w H') → r v u H Q
def mOp (f : OpF) (a b : M) : M := fun l S => (a l S).bind fun p => (b l p.2).bind fun q => f p.1 q.1 q.2
theorem bind2 {α β : Type} {o : Option α} {f : α → Option β} {y : β} (h : o.bind f = some y) : ∃ x, o = some x ∧ f x = some y := Option.bind_eq_some_iff.mp h
theorem tOp_of {g : Wr} {r : R2} {f : OpF} {ma mb : M} (hf : OpOk g r f) {σ : L2.St} {H : Hp} {Q : VK} (h : tM g (mOp f ma mb) σ H Q) : tOp r (tM g ma) (tM g mb) σ H Q := by
  obtain ⟨ρ, l, S, d, S', hs, hl, hm, q⟩ := h
  obtain ⟨⟨x, S1⟩, e1, hm⟩ := bind2 hm
  obtain ⟨⟨y, S2⟩, e2, hm⟩ := bind2 hm
  refine ⟨ρ, l, S, x, S1, hs, hl, e1, fun ρ1 v H1 x1 s1 r1 => ?_⟩
  refine ⟨ρ1, l, S1, y, S2, s1, x1.loc hs hl, e2, fun ρ2 u H2 x2 s2 r2 => ?_⟩
  exact hf ρ2 S2 H2 x y v u d S' Q s2 (x2.rd s1 r1) r2 hm fun ρ3 w H3 x3 s3 r3 => q ρ3 w H3 ((x1.trans x2).trans x3) s3 r3
theorem s_op {op : Operator} {r : R2} {f : OpF} {a b : Expr} {ma mb : M} (ho : OpR X (binaryOp op) r) (hf : OpOk (Cx.g X) r f) (ha : Snd X a ma) (hb : Snd X b mb) : Snd X (.BinOp a op b pos) (mOp f ma mb) :=
  pe_imp (pe_op ho ha hb) fun _ _ _ h => tOp_of hf h
theorem s_cmp {op : CmpOp} {r : R2} {f : OpF} {a b : Expr} {ma mb : M} (ho : OpR X (compareOp op) r) (hf : OpOk (Cx.g X) r f) (ha : Snd X a ma) (hb : Snd X b mb) (hm : behindInMarks op b = false) : Snd X (.Compare a [op] [b] pos) (mOp f ma mb) :=
  pe_imp (pe_cmpR ho ha hb hm) fun _ _ _ h => tOp_of hf h
/-- a comparison as a test -/
def mBool (m : M) : MT := fun l S => (m l S).bind fun p => match p.1 with
  | .bl b => some (b, p.2)
  | _ => none
theorem tTest_of {g : Wr} {t : TE} {m : M} (h : ∀ σ H Q, tM g m σ H Q → t σ H Q) {σ : L2.St} {H : Hp} {Q : Bool → Hp → Prop} (hm : tMT g (mBool m) σ H Q) : tTest t σ H Q := by
  obtain ⟨ρ, l, S, b, S', hs, hl, hm, q⟩ := hm
  obtain ⟨⟨x, S1⟩, e1, hm⟩ := bind2 hm
  refine h σ H _ ⟨ρ, l, S, x, S1, hs, hl, e1, fun ρ1 v H1 x1 s1 r1 => ?_⟩
  cases x <;> first
    | (cases hm; cases r1; exact ⟨_, rfl, q ρ1 H1 x1 s1⟩)
    | (simp at hm)
theorem t_cmp {op : CmpOp} {r : R2} {f : OpF} {a b : Expr} {ma mb : M} (ho : OpR X (compareOp op) r) (hf : OpOk (Cx.g X) r f) (ha : Snd X a ma) (hb : Snd X b mb) (hm : behindInMarks op b = false) : SndT X (.Compare a [op] [b] pos) (mBool (mOp f ma mb)) :=
  pt_imp (pt_cmpR ho ha hb hm) fun _ _ _ h => tTest_of (fun _ _ _ h => tOp_of hf h) h

/-! ### arguments, tuples, lists -/
def mNil : MA := fun _ S => some ([], S)
def mCons (a : M) (r : MA) : MA := fun l S => (a l S).bind fun p => (r l p.2).bind fun q => some (p.1 :: q.1, q.2)
theorem sa_nil : SndA X [] mNil := pa_imp pa_nil fun σ H Q h => by
  obtain ⟨ρ, l, S, d, S', hs, hl, hm, q⟩ := h
  cases hm
  exact q ρ [] H Ext.refl hs .nil
theorem sa_cons {e : Expr} {es : List Expr} {a : M} {r : MA} (ha : Snd X e a) (hr : SndA X es r) (hs : starEach (e :: es) X.env = (false, eval e X.env) :: starEach es X.env := by rfl) : SndA X (e :: es) (mCons a r) := pa_imp (pa_cons ha hr hs) fun σ H Q h => by
  obtain ⟨ρ, l, S, d, S', hs, hl, hm, q⟩ := h
  obtain ⟨⟨x, S1⟩, e1, hm⟩ := bind2 hm
  obtain ⟨⟨y, S2⟩, e2, hm⟩ := bind2 hm
  cases hm
  refine ⟨ρ, l, S, x, S1, hs, hl, e1, fun ρ1 v H1 x1 s1 r1 => ?_⟩
  refine ⟨ρ1, l, S1, y, S2, s1, x1.loc hs hl, e2, fun ρ2 u H2 x2 s2 r2 => ?_⟩
  exact q ρ2 _ H2 (x1.trans x2) s2 (.cons (x2.rd s1 r1) r2)
def mTup (m : MA) : M := fun l S => (m l S).bind fun p => if p.1.length ≤ 1000 then some (.tup p.1, p.2) else none
theorem le_line {n k : Nat} (h : n ≤ k) (hk : k ≤ 16777216) : n ≤ sizeLine := by rw [sizeLine_eq]; omega
theorem s_tup {es : List Expr} {m : MA} {x1} (h : SndA X es m) : Snd X (.Tuple es x1 pos) (mTup m) := pe_imp (pe_tup h) fun σ H Q h => by
  obtain ⟨ρ, l, S, d, S', hs, hl, hm, q⟩ := h
  obtain ⟨⟨x, S1⟩, e1, hm⟩ := bind2 hm
  dsimp only at hm
  split at hm
  · rename_i hz
    cases hm
    refine ⟨ρ, l, S, x, _, hs, hl, e1, fun ρ1 vs H1 x1 s1 r1 => ⟨le_line (by rw [← r1.length]; exact hz) (by decide), fun p hp => ?_⟩⟩
    exact q ρ1 _ _ (x1.trans (Ext.new hp)) (s1.other (s1.fresh hp) hp) (.tup upd_same ((Ext.new hp).rds s1 r1))
  · cases hm
end

/-! ### fresh lists: made, held by nothing yet -/
/-- the answer is a new list that the store does not hold -/
def tML (g : Wr) (m : MA) : TE := fun σ H Q => ∃ ρ l S ds S', Sim g ρ S H ∧ LocR g ρ H l σ ∧ m l S = some (ds, S') ∧
  ∀ ρ' p vs H', Ext ρ H ρ' H' → Sim g ρ' S' H' → H' p = some (.lst vs) → p ∉ ρ' → H p = none → RDs g ρ' H' ds vs → Q (.ref p) H'
def SndL (X : Cx) (e : Expr) (m : MA) : Prop := PE X e (tML (Cx.g X) m)
/-- the store takes it -/
def mAlloc (m : MA) : M := fun l S => (m l S).bind fun p => some (.ref p.2.length, p.2 ++ [.lst p.1])
section
variable {X : Cx} {pos : Pos}
theorem Sim.take_in {g : Wr} {ρ : List Addr} {S : Sto} {H : Hp} {p : Addr} {o : HO} {c : Cell} (s : Sim g ρ S H) (hp : H p = some o) (hn : p ∉ ρ) (r : CellR g ρ H c o) : Sim g (ρ ++ [p]) (S ++ [c]) H := by
  have sb : Sub g ρ H (ρ ++ [p]) H := ⟨fun n a e => by rw [List.getElem?_append_left (List.getElem?_eq_some_iff.mp e).1]; exact e, fun _ _ h => h, fun _ _ h => h, fun _ _ h => h⟩
  refine ⟨by simp [s.len], ?_, fun n a d h1 h2 => ?_⟩
  · rw [List.nodup_append]
    refine ⟨s.nd, by simp, fun a ha b hb => ?_⟩
    rw [List.mem_singleton] at hb
    subst hb
    exact fun z => hn (z ▸ ha)
  · by_cases hlt : n < ρ.length
    · rw [List.getElem?_append_left hlt] at h1
      rw [List.getElem?_append_left (by rw [← s.len]; exact hlt)] at h2
      obtain ⟨o', h3, h4⟩ := s.cell n a d h1 h2
      exact ⟨o', h3, h4.mono sb⟩
    · have hn' : n = ρ.length := by
        have := (List.getElem?_eq_some_iff.mp h1).1
        rw [List.length_append, List.length_singleton] at this
        omega
      subst hn'
      rw [List.getElem?_append_right (Nat.le_refl _), Nat.sub_self] at h1
      rw [List.getElem?_append_right (by rw [s.len]; exact Nat.le_refl _), s.len, Nat.sub_self] at h2
      simp at h1 h2
      subst h1 h2
      exact ⟨o, hp, r.mono sb⟩
theorem Ext.take_in {ρ ρ' : List Addr} {H H' : Hp} {p : Addr} (x : Ext ρ H ρ' H') (hp : H p = none) : Ext ρ H (ρ' ++ [p]) H' := by
  refine ⟨fun n a e => ?_, fun a o n e => ?_, x.fz⟩
  · have e' := x.pre n a e
    rw [List.getElem?_append_left (List.getElem?_eq_some_iff.mp e').1]; exact e'
  · obtain ⟨h1, h2⟩ := x.fr a o n e
    refine ⟨h1, fun z => ?_⟩
    rcases List.mem_append.mp z with z | z
    · exact h2 z
    · rw [List.mem_singleton] at z
      rw [z, hp] at e
      cases e
theorem s_alloc {e : Expr} {m : MA} (h : SndL X e m) : Snd X e (mAlloc m) := pe_imp h fun σ H Q h => by
  obtain ⟨ρ, l, S, d, S', hs, hl, hm, q⟩ := h
  obtain ⟨⟨x, S1⟩, e1, hm⟩ := bind2 hm
  cases hm
  refine ⟨ρ, l, S, x, S1, hs, hl, e1, fun ρ1 p vs H1 x1 s1 hp hn hf r1 => ?_⟩
  refine q (ρ1 ++ [p]) _ H1 (x1.take_in hf) (s1.take_in hp hn (.lst r1)) (.ref ?_)
  dsimp only
  rw [← s1.len, List.getElem?_append_right (Nat.le_refl _), Nat.sub_self]
  rfl
/-- a display -/
def mLst (m : MA) : MA := fun l S => (m l S).bind fun p => if p.1.length ≤ 1000 then some p else none
theorem l_lst {es : List Expr} {m : MA} (h : SndA X es m) : SndL X (.List es pos) (mLst m) := pe_imp (pe_lst h) fun σ H Q h => by
  obtain ⟨ρ, l, S, d, S', hs, hl, hm, q⟩ := h
  obtain ⟨⟨x, S1⟩, e1, hm⟩ := bind2 hm
  dsimp only at hm
  split at hm
  · rename_i hz
    cases hm
    refine ⟨ρ, l, S, d, S', hs, hl, e1, fun ρ1 vs H1 x1 s1 r1 => ⟨le_line (by rw [← r1.length]; exact hz) (by decide), fun p hp => ?_⟩⟩
    have hp0 : H p = none := by
      cases e : H p with
      | none => rfl
      | some o =>
        by_cases hin : p ∈ ρ
        · obtain ⟨n, hn, e2⟩ := List.mem_iff_getElem.mp hin
          exact absurd (List.mem_of_getElem? (x1.pre n p (by rw [List.getElem?_eq_getElem hn, e2]))) (s1.fresh hp)
        · rw [(x1.fr p o hin e).1] at hp
          cases hp
    exact q ρ1 p vs _ (x1.trans (Ext.new hp)) (s1.other (s1.fresh hp) hp) upd_same (s1.fresh hp) hp0 ((Ext.new hp).rds s1 r1)
  · cases hm
end
theorem Ext.back {g : Wr} {ρ ρ1 : List Addr} {S1 : Sto} {H H1 : Hp} {p : Addr} (x1 : Ext ρ H ρ1 H1) (s1 : Sim g ρ1 S1 H1) (hp : H1 p = none) : H p = none := by
  cases e : H p with
  | none => rfl
  | some o =>
    by_cases hin : p ∈ ρ
    · obtain ⟨n, hn, e2⟩ := List.mem_iff_getElem.mp hin
      exact absurd (List.mem_of_getElem? (x1.pre n p (by rw [List.getElem?_eq_getElem hn, e2]))) (s1.fresh hp)
    · rw [(x1.fr p o hin e).1] at hp
      cases hp

/-! ### tests -/
section
variable {X : Cx} {pos : Pos}
/-- truth of data -/
def truD (d : D) (S : Sto) : Option Bool := match d with
  | .non => some false
  | .bl b => some b
  | .int i => some (i != 0)
  | .str x => if x.length ≤ 1000000 then some (x.length != 0) else none
  | .tup xs => some (!xs.isEmpty)
  | .ktup xs => some (!xs.isEmpty)
  | .sl ns => some (!ns.isEmpty)
  | .ref n => match S[n]? with
    | some (.lst xs) => some (!xs.isEmpty)
    | some (.dK xs) => some (!xs.isEmpty)
    | _ => none
  | .fn _ => none
theorem RDs.isEmpty {g : Wr} {ρ : List Addr} {H : Hp} {ds : List D} {vs : List V} (h : RDs g ρ H ds vs) : ds.isEmpty = vs.isEmpty := by cases h <;> rfl
theorem RDk.isEmpty {κ : Type} {g : Wr} {ρ : List Addr} {H : Hp} {ds : List (κ × D)} {vs : List (κ × V)} (h : RDk g ρ H ds vs) : ds.isEmpty = vs.isEmpty := by cases h <;> rfl
theorem tru_of {g : Wr} {ρ : List Addr} {S : Sto} {H : Hp} {d : D} {v : V} {b : Bool} (s : Sim g ρ S H) (r : RD g ρ H d v) (h : truD d S = some b) : TruV g.K v H b := by
  cases r with
  | non => cases h; rfl
  | bl b => cases h; rfl
  | int i => cases h; rfl
  | str x =>
    simp only [truD] at h
    split at h
    · rename_i hz
      cases h
      refine ⟨le_line hz (by decide), ?_⟩
      rw [Bool.eq_iff_iff]
      simp
    · cases h
  | tup hq hs =>
    cases h
    exact .inr (.inl ⟨_, .inl (.inl hq), by rw [hs.isEmpty]⟩)
  | ktup hq hs =>
    cases h
    exact .inr (.inl ⟨_, hq, by rw [hs.isEmpty]⟩)
  | sl hq =>
    cases h
    exact .inl ⟨_, hq.sq, by simp⟩
  | @ref n a e =>
    simp only [truD] at h
    split at h
    · rename_i xs ec
      cases h
      obtain ⟨o, h1, h2⟩ := s.cell n a _ e ec
      cases h2 with
      | lst h2 => exact .inl ⟨_, SqL.of h1, by rw [h2.isEmpty]⟩
    · rename_i xs ec
      cases h
      obtain ⟨o, h1, h2⟩ := s.cell n a _ e ec
      cases h2 with
      | dK h2 => exact .inr (.inr ⟨_, h1, by rw [h2.isEmpty]⟩)
    · cases h
  | fn e => cases h
def mTru (m : M) : MT := fun l S => (m l S).bind fun p => (truD p.1 p.2).bind fun b => some (b, p.2)
theorem t_val {a : Expr} {m : M} (h : Snd X a m) (he : ∀ whole, isTrue a X.env whole = (do let v ← whole; standAt a.pos; holding [v] (truthy v)) := by intro _; rfl) : SndT X a (mTru m) := pt_imp (pt_truth h he) fun σ H Q h => by
  obtain ⟨ρ, l, S, d, S', hs, hl, hm, q⟩ := h
  obtain ⟨⟨x, S1⟩, e1, hm⟩ := bind2 hm
  obtain ⟨b, e2, hm⟩ := bind2 hm
  cases hm
  exact ⟨ρ, l, S, x, _, hs, hl, e1, fun ρ1 v H1 x1 s1 r1 => ⟨d, tru_of s1 r1 e2, q ρ1 H1 x1 s1⟩⟩
def mNotT (m : MT) : MT := fun l S => (m l S).bind fun p => some (!p.1, p.2)
def mAndT (a b : MT) : MT := fun l S => (a l S).bind fun p => if p.1 = true then b l p.2 else some (false, p.2)
def mOrT (a b : MT) : MT := fun l S => (a l S).bind fun p => if p.1 = true then some (true, p.2) else b l p.2
theorem t_not {a : Expr} {m : MT} (h : SndT X a m) : SndT X (.UnaryOp .Not a pos) (mNotT m) := pt_imp (pt_not h) fun σ H Q h => by
  obtain ⟨ρ, l, S, d, S', hs, hl, hm, q⟩ := h
  obtain ⟨⟨x, S1⟩, e1, hm⟩ := bind2 hm
  cases hm
  exact ⟨ρ, l, S, x, _, hs, hl, e1, fun ρ1 H1 x1 s1 => q ρ1 H1 x1 s1⟩
theorem w_and1 {a : Expr} {m : MT} (h : SndT X a m) : SndW X (.BoolOp .And [a] pos) m := pw_and1 h
theorem w_or1 {a : Expr} {m : MT} (h : SndT X a m) : SndW X (.BoolOp .Or [a] pos) m := pw_or1 h
theorem w_and {a b : Expr} {rest : List Expr} {ma mb : MT} (ha : SndT X a ma) (hb : SndW X (.BoolOp .And (b :: rest) pos) mb) : SndW X (.BoolOp .And (a :: b :: rest) pos) (mAndT ma mb) := pw_imp (pw_and ha hb) fun σ H Q h => by
  obtain ⟨ρ, l, S, d, S', hs, hl, hm, q⟩ := h
  obtain ⟨⟨x, S1⟩, e1, hm⟩ := bind2 hm
  refine ⟨ρ, l, S, x, S1, hs, hl, e1, fun ρ1 H1 x1 s1 => ?_⟩
  cases x with
  | true => exact ⟨ρ1, l, S1, d, S', s1, x1.loc hs hl, hm, fun ρ2 H2 x2 s2 => q ρ2 H2 (x1.trans x2) s2⟩
  | false => cases hm; exact q ρ1 H1 x1 s1
theorem w_or {a b : Expr} {rest : List Expr} {ma mb : MT} (ha : SndT X a ma) (hb : SndW X (.BoolOp .Or (b :: rest) pos) mb) : SndW X (.BoolOp .Or (a :: b :: rest) pos) (mOrT ma mb) := pw_imp (pw_or ha hb) fun σ H Q h => by
  obtain ⟨ρ, l, S, d, S', hs, hl, hm, q⟩ := h
  obtain ⟨⟨x, S1⟩, e1, hm⟩ := bind2 hm
  refine ⟨ρ, l, S, x, S1, hs, hl, e1, fun ρ1 H1 x1 s1 => ?_⟩
  cases x with
  | false => exact ⟨ρ1, l, S1, d, S', s1, x1.loc hs hl, hm, fun ρ2 H2 x2 s2 => q ρ2 H2 (x1.trans x2) s2⟩
  | true => cases hm; exact q ρ1 H1 x1 s1
theorem t_w {a : Expr} {m : MT} (h : SndW X a m) : SndT X a m := PW.pt h
/-- and, or, not as values -/
def mAnd (a b : M) : M := fun l S => (a l S).bind fun p => (truD p.1 p.2).bind fun t => if t = true then b l p.2 else some p
def mOr (a b : M) : M := fun l S => (a l S).bind fun p => (truD p.1 p.2).bind fun t => if t = true then some p else b l p.2
def mNot (a : M) : M := fun l S => (a l S).bind fun p => (truD p.1 p.2).bind fun t => some (.bl (!t), p.2)
theorem s_one {op} {a : Expr} {m : M} (h : Snd X a m) : Snd X (.BoolOp op [a] pos) m := pe_one h
theorem s_and {a b : Expr} {rest : List Expr} {ma mb : M} (ha : Snd X a ma) (hb : Snd X (.BoolOp .And (b :: rest) pos) mb) : Snd X (.BoolOp .And (a :: b :: rest) pos) (mAnd ma mb) := pe_imp (pe_andT ha hb) fun σ H Q h => by
  obtain ⟨ρ, l, S, d, S', hs, hl, hm, q⟩ := h
  obtain ⟨⟨x, S1⟩, e1, hm⟩ := bind2 hm
  obtain ⟨t, e2, hm⟩ := bind2 hm
  refine ⟨ρ, l, S, x, S1, hs, hl, e1, fun ρ1 v H1 x1 s1 r1 => ⟨t, tru_of s1 r1 e2, ?_⟩⟩
  cases t with
  | true => exact ⟨ρ1, l, S1, d, S', s1, x1.loc hs hl, hm, fun ρ2 v2 H2 x2 s2 => q ρ2 v2 H2 (x1.trans x2) s2⟩
  | false => cases hm; exact q ρ1 v H1 x1 s1 r1
theorem s_or {a b : Expr} {rest : List Expr} {ma mb : M} (ha : Snd X a ma) (hb : Snd X (.BoolOp .Or (b :: rest) pos) mb) : Snd X (.BoolOp .Or (a :: b :: rest) pos) (mOr ma mb) := pe_imp (pe_orT ha hb) fun σ H Q h => by
  obtain ⟨ρ, l, S, d, S', hs, hl, hm, q⟩ := h
  obtain ⟨⟨x, S1⟩, e1, hm⟩ := bind2 hm
  obtain ⟨t, e2, hm⟩ := bind2 hm
  refine ⟨ρ, l, S, x, S1, hs, hl, e1, fun ρ1 v H1 x1 s1 r1 => ⟨t, tru_of s1 r1 e2, ?_⟩⟩
  cases t with
  | false => exact ⟨ρ1, l, S1, d, S', s1, x1.loc hs hl, hm, fun ρ2 v2 H2 x2 s2 => q ρ2 v2 H2 (x1.trans x2) s2⟩
  | true => cases hm; exact q ρ1 v H1 x1 s1 r1
theorem s_not {a : Expr} {ma : M} (ha : Snd X a ma) : Snd X (.UnaryOp .Not a pos) (mNot ma) := pe_imp (pe_notT ha) fun σ H Q h => by
  obtain ⟨ρ, l, S, d, S', hs, hl, hm, q⟩ := h
  obtain ⟨⟨x, S1⟩, e1, hm⟩ := bind2 hm
  obtain ⟨t, e2, hm⟩ := bind2 hm
  cases hm
  exact ⟨ρ, l, S, x, _, hs, hl, e1, fun ρ1 v H1 x1 s1 r1 => ⟨t, tru_of s1 r1 e2, q ρ1 _ H1 x1 s1 (.bl _)⟩⟩
/-- a if t else b -/
def mIf (t : MT) (a b : M) : M := fun l S => (t l S).bind fun p => if p.1 = true then a l p.2 else b l p.2
theorem s_if {c a b : Expr} {t : MT} {ma mb : M} (hc : SndT X c t) (ha : Snd X a ma) (hb : Snd X b mb) : Snd X (.IfExp c a b pos) (mIf t ma mb) := pe_imp (pe_ifExp hc ha hb) fun σ H Q h => by
  obtain ⟨ρ, l, S, d, S', hs, hl, hm, q⟩ := h
  obtain ⟨⟨x, S1⟩, e1, hm⟩ := bind2 hm
  refine ⟨ρ, l, S, x, S1, hs, hl, e1, fun ρ1 H1 x1 s1 => ?_⟩
  cases x with
  | false => exact ⟨ρ1, l, S1, d, S', s1, x1.loc hs hl, hm, fun ρ2 v2 H2 x2 s2 => q ρ2 v2 H2 (x1.trans x2) s2⟩
  | true => exact ⟨ρ1, l, S1, d, S', s1, x1.loc hs hl, hm, fun ρ2 v2 H2 x2 s2 => q ρ2 v2 H2 (x1.trans x2) s2⟩
end

/-! ### statements -/
section
variable {X : Cx} {pos : Pos}
def mSkip : MS := fun l S => some (.nx l, S)
def mSeq (a b : MS) : MS := fun l S => (a l S).bind fun p => match p.1 with
  | .nx l1 => b l1 p.2
  | f => some (f, p.2)
theorem b_nil : SndB X [] mSkip := pss_imp pss_nil fun E σ H h => by
  obtain ⟨ρ, l, S, d, S', hs, hl, hm, q⟩ := h
  cases hm
  exact q ρ H Ext.refl hs σ hl
theorem b_cons {st : Stmt} {rest : List Stmt} {a b : MS} (h1 : SndS X st a) (h2 : SndB X rest b) : SndB X (st :: rest) (mSeq a b) := pss_imp (pss_cons h1 h2) fun E σ H h => by
  obtain ⟨ρ, l, S, d, S', hs, hl, hm, q⟩ := h
  obtain ⟨⟨x, S1⟩, e1, hm⟩ := bind2 hm
  refine ⟨ρ, l, S, x, S1, hs, hl, e1, fun ρ1 H1 x1 s1 => ?_⟩
  cases x with
  | nx l1 => exact fun σ1 hl1 => ⟨ρ1, l1, S1, d, S', s1, hl1, hm, fun ρ2 H2 x2 s2 => q ρ2 H2 (x1.trans x2) s2⟩
  | rt v => cases hm; exact q ρ1 H1 x1 s1
  | bk v => cases hm; exact q ρ1 H1 x1 s1
  | ct v => cases hm; exact q ρ1 H1 x1 s1
theorem b_one {st : Stmt} {a : MS} (h1 : SndS X st a) : SndB X [st] a := pss_one h1
def mRet (m : M) : MS := fun l S => (m l S).bind fun p => some (.rt p.1, p.2)
theorem st_ret {e : Expr} {m : M} (h : Snd X e m) : SndS X (.Return (some e) pos) (mRet m) := ps_imp (ps_ret h) fun E σ H h => by
  obtain ⟨ρ, l, S, d, S', hs, hl, hm, q⟩ := h
  obtain ⟨⟨x, S1⟩, e1, hm⟩ := bind2 hm
  cases hm
  exact ⟨ρ, l, S, x, _, hs, hl, e1, fun ρ1 v H1 x1 s1 r1 => q ρ1 H1 x1 s1 v r1⟩
theorem st_retN : SndS X (.Return none pos) (mRet (mC .non)) := ps_imp ps_retN fun E σ H h => by
  obtain ⟨ρ, l, S, d, S', hs, hl, hm, q⟩ := h
  cases hm
  exact q ρ H Ext.refl hs _ .non
def mSet (i : Nat) (m : M) : MS := fun l S => (m l S).bind fun p => some (.nx (l.set i (some p.1)), p.2)
theorem st_set {i : Nat} {x : Str} {e : Expr} {m : M} {pos' : Pos} (hN : X.N.Nodup) (h : Snd X e m) (hi : X.N[i]? = some x := by rfl) (hx : L2.Loc X.env.scope x := by first | exact .inl rfl | exact .inr rfl) (hs : swapsWith e (some (.Name x pos')) pos.line X.env = pure false := by rfl) (hf : X.fn x = true ∨ X.env.scope.names.lookup x = some .local := by first | exact .inl rfl | exact .inr rfl | assumption) :
    SndS X (.Assign [.Name x pos'] e pos) (mSet i m) := ps_imp (ps_set hN hi hx h hs hf) fun E σ H h => by
  obtain ⟨ρ, l, S, d, S', hs, hl, hm, q⟩ := h
  obtain ⟨⟨x, S1⟩, e1, hm⟩ := bind2 hm
  cases hm
  exact ⟨ρ, l, S, x, _, hs, hl, e1, fun ρ1 v H1 x1 s1 r1 => q ρ1 H1 x1 s1 _ ((x1.loc hs hl).set r1)⟩
def mDrop (m : M) : MS := fun l S => (m l S).bind fun p => some (.nx l, p.2)
theorem st_expr {e : Expr} {m : M} (h : Snd X e m) (hs : swapsWith e none pos.line X.env = pure false := by rfl) : SndS X (.Expr e pos) (mDrop m) := ps_imp (ps_expr h hs) fun E σ H h => by
  obtain ⟨ρ, l, S, d, S', hs, hl, hm, q⟩ := h
  obtain ⟨⟨x, S1⟩, e1, hm⟩ := bind2 hm
  cases hm
  exact ⟨ρ, l, S, x, _, hs, hl, e1, fun ρ1 v H1 x1 s1 r1 => q ρ1 H1 x1 s1 _ (x1.loc hs hl)⟩
def mIfS (t : MT) (a b : MS) : MS := fun l S => (t l S).bind fun p => if p.1 = true then a l p.2 else b l p.2
theorem st_if {c : Expr} {a b : List Stmt} {t : MT} {ma mb : MS} (hc : SndT X c t) (ha : SndB X a ma) (hb : SndB X b mb) : SndS X (.If c a b pos) (mIfS t ma mb) := ps_imp (ps_if hc ha hb) fun E σ H h => by
  obtain ⟨ρ, l, S, d, S', hs, hl, hm, q⟩ := h
  obtain ⟨⟨x, S1⟩, e1, hm⟩ := bind2 hm
  refine ⟨ρ, l, S, x, S1, hs, hl, e1, fun ρ1 H1 x1 s1 => ?_⟩
  cases x with
  | false => exact ⟨ρ1, l, S1, d, S', s1, x1.loc hs hl, hm, fun ρ2 H2 x2 s2 => q ρ2 H2 (x1.trans x2) s2⟩
  | true => exact ⟨ρ1, l, S1, d, S', s1, x1.loc hs hl, hm, fun ρ2 H2 x2 s2 => q ρ2 H2 (x1.trans x2) s2⟩
def mBreak : MS := fun l S => some (.bk l, S)
def mCont : MS := fun l S => some (.ct l, S)
theorem st_pass : SndS X (.Pass pos) mSkip := ps_imp ps_pass fun E σ H h => by
  obtain ⟨ρ, l, S, d, S', hs, hl, hm, q⟩ := h
  cases hm
  exact q ρ H Ext.refl hs σ hl
theorem st_break : SndS X (.Break pos) mBreak := ps_imp ps_break fun E σ H h => by
  obtain ⟨ρ, l, S, d, S', hs, hl, hm, q⟩ := h
  cases hm
  exact q ρ H Ext.refl hs σ hl
theorem st_continue : SndS X (.Continue pos) mCont := ps_imp ps_continue fun E σ H h => by
  obtain ⟨ρ, l, S, d, S', hs, hl, hm, q⟩ := h
  cases hm
  exact q ρ H Ext.refl hs σ hl
/-- code that is not come to -/
def mNever : MS := fun _ _ => none
theorem st_never {st : Stmt} : SndS X st mNever := ps_imp ps_never fun E σ H h => by
  obtain ⟨ρ, l, S, d, S', hs, hl, hm, q⟩ := h
  cases hm
end
end Zi
set_option maxRecDepth 100000
/-! operators, comparisons, subscripts, slices, built-ins over data -/
namespace Zi
open PySem PySem.Spec PyProof.Rows L2

/-! ### data as a whole, for == -/
def allS (f : D → Option PyData) : List D → Option (List PyData)
  | [] => some []
  | d :: ds => (f d).bind fun x => (allS f ds).bind fun r => some (x :: r)
def snap : Nat → Sto → D → Option PyData
  | 0, _, _ => none
  | n + 1, S, d => match d with
    | .non => some .none
    | .bl b => some (.bool b)
    | .int i => some (.int i)
    | .str x => if PyData.canLay0 (.str x) = true then some (.str x) else none
    | .tup xs => (allS (snap n S) xs).bind fun r => some (.tuple r)
    | .ktup xs => (allS (snap n S) xs).bind fun r => some (.tuple r)
    | .sl ns => some (.list (ns.map PyData.int))
    | .ref k => match S[k]? with
      | some (.lst xs) => (allS (snap n S) xs).bind fun r => some (.list r)
      | _ => none
    | .fn _ => none

/-- a value, or the items of a new list that the store does not hold -/
inductive O where
  | d (d : D) | n (ds : List D)
abbrev MO := Lo → Sto → Option (O × Sto)
def snapO (S : Sto) : O → Option PyData
  | .d d => snap 190 S d
  | .n ds => (allS (snap 189 S) ds).bind fun r => some (.list r)

/-- H₀: the heap ahead -/
inductive OR (g : Wr) (ρ : List Addr) (H : Hp) (H₀ : Hp) : O → V → Prop
  | d {d : D} {v : V} : RD g ρ H d v → OR g ρ H H₀ (.d d) v
  | n {ds : List D} {p : Addr} {vs : List V} : H p = some (.lst vs) → p ∉ ρ → H₀ p = none → RDs g ρ H ds vs → OR g ρ H H₀ (.n ds) (.ref p)
theorem OR.ext {g : Wr} {ρ ρ' : List Addr} {S : Sto} {H H' H₀ : Hp} (x : Ext ρ H ρ' H') (s : Sim g ρ S H) {o : O} {v : V} (h : OR g ρ H H₀ o v) : OR g ρ' H' H₀ o v := by
  cases h with
  | d h => exact .d (x.rd s h)
  | n h1 h2 h3 h4 =>
    obtain ⟨e1, e2⟩ := x.fr _ _ h2 h1
    exact .n e1 e2 h3 (x.rds s h4)
theorem OR.back {g : Wr} {ρ0 ρ : List Addr} {S : Sto} {H H' H₀ : Hp} (x : Ext ρ0 H ρ H₀) (s0 : Sim g ρ S H₀) {ρ' : List Addr} {o : O} {v : V} (h : OR g ρ' H' H₀ o v) : OR g ρ' H' H o v := by
  cases h with
  | d h => exact .d h
  | n h1 h2 h3 h4 => exact .n h1 h2 (x.back s0 h3) h4

def tMO (g : Wr) (m : MO) : TE := fun σ H Q => ∃ ρ l S o S', Sim g ρ S H ∧ LocR g ρ H l σ ∧ m l S = some (o, S') ∧
  ∀ ρ' v H', Ext ρ H ρ' H' → Sim g ρ' S' H' → OR g ρ' H' H o v → Q v H'
def SndO (X : Cx) (e : Expr) (m : MO) : Prop := PE X e (tMO (Cx.g X) m)
def oD (m : M) : MO := fun l S => (m l S).bind fun p => some (.d p.1, p.2)
def oN (m : MA) : MO := fun l S => (m l S).bind fun p => some (.n p.1, p.2)
def oS (m : MO) : M := fun l S => (m l S).bind fun p => match p.1 with
  | .d d => some (d, p.2)
  | .n ds => some (.ref p.2.length, p.2 ++ [.lst ds])
section
variable {X : Cx} {pos : Pos} {e : Expr}
theorem o_d {m : M} (h : Snd X e m) : SndO X e (oD m) := pe_imp h fun σ H Q h => by
  obtain ⟨ρ, l, S, o, S', hs, hl, hm, q⟩ := h
  obtain ⟨⟨x, S1⟩, e1, hm⟩ := bind2 hm
  cases hm
  exact ⟨ρ, l, S, x, _, hs, hl, e1, fun ρ1 v H1 x1 s1 r1 => q ρ1 v H1 x1 s1 (.d r1)⟩
theorem o_n {m : MA} (h : SndL X e m) : SndO X e (oN m) := pe_imp h fun σ H Q h => by
  obtain ⟨ρ, l, S, o, S', hs, hl, hm, q⟩ := h
  obtain ⟨⟨x, S1⟩, e1, hm⟩ := bind2 hm
  cases hm
  exact ⟨ρ, l, S, x, _, hs, hl, e1, fun ρ1 p vs H1 x1 s1 hp hn hf r1 => q ρ1 _ H1 x1 s1 (.n hp hn hf r1)⟩
theorem s_o {m : MO} (h : SndO X e m) : Snd X e (oS m) := pe_imp h fun σ H Q h => by
  obtain ⟨ρ, l, S, o, S', hs, hl, hm, q⟩ := h
  obtain ⟨⟨x, S1⟩, e1, hm⟩ := bind2 hm
  cases x with
  | d d =>
    cases hm
    refine ⟨ρ, l, S, .d o, _, hs, hl, e1, fun ρ1 v H1 x1 s1 r1 => ?_⟩
    cases r1 with
    | d r1 => exact q ρ1 v H1 x1 s1 r1
  | n ds =>
    cases hm
    refine ⟨ρ, l, S, .n ds, _, hs, hl, e1, fun ρ1 v H1 x1 s1 r1 => ?_⟩
    cases r1 with
    | @n _ p vs hp hn hf r1 =>
      refine q (ρ1 ++ [p]) _ H1 (x1.take_in hf) (s1.take_in hp hn (.lst r1)) (.ref ?_)
      dsimp only
      rw [← s1.len, List.getElem?_append_right (Nat.le_refl _), Nat.sub_self]
      rfl
end

section
variable {g : Wr} {ρ : List Addr} {S : Sto} {H : Hp}
theorem dp_ints : ∀ ns : List Int, DpAll g.K H (ns.map V.int) (ns.map PyData.int)
  | [] => .nil
  | n :: ns => .cons (.int n) (dp_ints ns)
theorem lay_ints : ∀ ns : List Int, PyData.canLayAll0 (ns.map PyData.int) = true
  | [] => by simp [PyData.canLayAll0]
  | n :: ns => by simp [PyData.canLayAll0, PyData.canLay0, lay_ints ns]
theorem depth_ints : ∀ ns : List Int, PyData.depthAll (ns.map PyData.int) = 0
  | [] => by simp [PyData.depthAll]
  | n :: ns => by simp [PyData.depthAll, PyData.depth, depth_ints ns]
theorem allS_ok {f : D → Option PyData} {n : Nat} (hf : ∀ d v p, RD g ρ H d v → f d = some p → Dp g.K H v p ∧ p.canLay0 = true ∧ p.depth ≤ n) :
    ∀ {ds : List D} {vs : List V} {ps : List PyData}, RDs g ρ H ds vs → allS f ds = some ps → DpAll g.K H vs ps ∧ PyData.canLayAll0 ps = true ∧ PyData.depthAll ps ≤ n
  | _, _, _, .nil, h => by
    cases h
    exact ⟨.nil, by simp [PyData.canLayAll0], by simp [PyData.depthAll]⟩
  | _, _, _, .cons r rs, h => by
    obtain ⟨p, e1, h⟩ := bind2 h
    obtain ⟨ps, e2, h⟩ := bind2 h
    cases h
    obtain ⟨a1, a2, a3⟩ := hf _ _ _ r e1
    obtain ⟨b1, b2, b3⟩ := allS_ok hf rs e2
    refine ⟨.cons a1 b1, by simp [PyData.canLayAll0, a2, b2], ?_⟩
    simp only [PyData.depthAll]
    omega
theorem snap_ok (s : Sim g ρ S H) : ∀ (n : Nat) (d : D) (v : V) (p : PyData), RD g ρ H d v → snap n S d = some p → Dp g.K H v p ∧ p.canLay0 = true ∧ p.depth ≤ n
  | 0, _, _, _, _, h => by cases h
  | n + 1, d, v, p, r, h => by
    cases r with
    | non => cases h; exact ⟨.non, by simp [PyData.canLay0], by simp [PyData.depth]⟩
    | bl b => cases h; exact ⟨.bl b, by simp [PyData.canLay0], by simp [PyData.depth]⟩
    | int i => cases h; exact ⟨.int i, by simp [PyData.canLay0], by simp [PyData.depth]⟩
    | str x =>
      simp only [snap] at h
      split at h
      · rename_i hx
        cases h
        exact ⟨.str x, hx, by simp [PyData.depth]⟩
      · cases h
    | tup hq hs =>
      obtain ⟨ps, e1, h⟩ := bind2 (show (allS (snap n S) _).bind _ = some p from h)
      cases h
      obtain ⟨b1, b2, b3⟩ := allS_ok (fun d v p => snap_ok s n d v p) hs e1
      refine ⟨.tup (.inl (.inl hq)) b1, by simp only [PyData.canLay0]; exact b2, ?_⟩
      simp only [PyData.depth]
      omega
    | ktup hq hs =>
      obtain ⟨ps, e1, h⟩ := bind2 (show (allS (snap n S) _).bind _ = some p from h)
      cases h
      obtain ⟨b1, b2, b3⟩ := allS_ok (fun d v p => snap_ok s n d v p) hs e1
      refine ⟨.tup hq b1, by simp only [PyData.canLay0]; exact b2, ?_⟩
      simp only [PyData.depth]
      omega
    | @sl ns a hq =>
      cases h
      refine ⟨.lst hq.sq (dp_ints _), by simp only [PyData.canLay0]; exact lay_ints _, ?_⟩
      simp only [PyData.depth, depth_ints]
      omega
    | @ref k a e =>
      simp only [snap] at h
      split at h
      · rename_i xs ec
        obtain ⟨ps, e1, h⟩ := bind2 h
        cases h
        obtain ⟨o, h1, h2⟩ := s.cell k a _ e ec
        cases h2 with
        | lst h2 =>
          obtain ⟨b1, b2, b3⟩ := allS_ok (fun d v p => snap_ok s n d v p) h2 e1
          refine ⟨.lst (SqL.of h1) b1, by simp only [PyData.canLay0]; exact b2, ?_⟩
          simp only [PyData.depth]
          omega
      · cases h
    | fn e => cases h
theorem snapO_ok (s : Sim g ρ S H) {H₀ : Hp} {o : O} {v : V} {p : PyData} (r : OR g ρ H H₀ o v) (h : snapO S o = some p) : Dp g.K H v p ∧ p.canLay0 = true ∧ p.depth ≤ 190 := by
  cases r with
  | d r => exact snap_ok s 190 _ _ _ r h
  | n h1 h2 h3 h4 =>
    obtain ⟨ps, e1, h⟩ := bind2 h
    cases h
    obtain ⟨b1, b2, b3⟩ := allS_ok (fun d v p => snap_ok s 189 d v p) h4 e1
    refine ⟨.lst (SqL.of h1) b1, by simp only [PyData.canLay0]; exact b2, ?_⟩
    simp only [PyData.depth]
    omega
end

/-! ### ==, != of data -/
def rDat (K : PySem.W.Frag) (f : PyData → PyData → Bool) : R2 := fun x y H Q => ∃ d e, Dp K H x d ∧ Dp K H y e ∧ d.canLay0 = true ∧ e.canLay0 = true ∧ d.depth ≤ 190 ∧ e.depth ≤ 190 ∧ Q (.bl (f d e)) H
section
variable {X : Cx} {pos : Pos}
theorem op_eqX (hu : X.A.units + 200 < cLine) : OpR X (compareOp .Eq) (rDat X.K PyData.eqv) := by
  intro pins s σ H x y v u Q I rx ry h
  obtain ⟨d, e, hd, he, ld, le, pd, pe, q⟩ := h
  obtain ⟨as, r1⟩ := Dp.reads I d x v hd rx
  obtain ⟨bs, r2⟩ := Dp.reads I e y u he ry
  exact SeqAt.compareEq_reads r1 r2 ld le (by have := Nat.min_le_left d.depth e.depth; omega) ⟨.bl _, H, I, rfl, q⟩
theorem op_neX (hu : X.A.units + 200 < cLine) : OpR X (compareOp .NotEq) (rDat X.K fun d e => !PyData.eqv d e) := by
  intro pins s σ H x y v u Q I rx ry h
  obtain ⟨d, e, hd, he, ld, le, pd, pe, q⟩ := h
  obtain ⟨as, r1⟩ := Dp.reads I d x v hd rx
  obtain ⟨bs, r2⟩ := Dp.reads I e y u he ry
  exact SeqAt.compareNe_reads r1 r2 ld le (by have := Nat.min_le_left d.depth e.depth; omega) ⟨.bl _, H, I, rfl, q⟩
end
/-- two-place operations over O -/
abbrev OpG := O → O → Sto → Option (D × Sto)
def OpOkO (g : Wr) (r : R2) (f : OpG) : Prop := ∀ ρ S H H₀ x y v u z S' Q, Sim g ρ S H → OR g ρ H H₀ x v → OR g ρ H H₀ y u → f x y S = some (z, S') →
  (∀ ρ' w H', Ext ρ H ρ' H' → Sim g ρ' S' H' → RD g ρ' H' z w → Q w H') → r v u H Q
def mOpO (f : OpG) (a b : MO) : M := fun l S => (a l S).bind fun p => (b l p.2).bind fun q => f p.1 q.1 q.2
theorem tOpO_of {g : Wr} {r : R2} {f : OpG} {ma mb : MO} (hf : OpOkO g r f) {σ : L2.St} {H : Hp} {Q : VK} (h : tM g (mOpO f ma mb) σ H Q) : tOp r (tMO g ma) (tMO g mb) σ H Q := by
  obtain ⟨ρ, l, S, d, S', hs, hl, hm, q⟩ := h
  obtain ⟨⟨x, S1⟩, e1, hm⟩ := bind2 hm
  obtain ⟨⟨y, S2⟩, e2, hm⟩ := bind2 hm
  refine ⟨ρ, l, S, x, S1, hs, hl, e1, fun ρ1 v H1 x1 s1 r1 => ?_⟩
  refine ⟨ρ1, l, S1, y, S2, s1, x1.loc hs hl, e2, fun ρ2 u H2 x2 s2 r2 => ?_⟩
  exact hf ρ2 S2 H2 H x y v u d S' Q s2 (r1.ext x2 s1) (r2.back x1 s1) hm fun ρ3 w H3 x3 s3 r3 => q ρ3 w H3 ((x1.trans x2).trans x3) s3 r3
section
variable {X : Cx} {pos : Pos}
theorem s_cmpO {op : CmpOp} {r : R2} {f : OpG} {a b : Expr} {ma mb : MO} (ho : OpR X (compareOp op) r) (hf : OpOkO (Cx.g X) r f) (ha : SndO X a ma) (hb : SndO X b mb) (hm : behindInMarks op b = false) : Snd X (.Compare a [op] [b] pos) (mOpO f ma mb) :=
  pe_imp (pe_cmpR ho ha hb hm) fun _ _ _ h => tOpO_of hf h
theorem t_cmpO {op : CmpOp} {r : R2} {f : OpG} {a b : Expr} {ma mb : MO} (ho : OpR X (compareOp op) r) (hf : OpOkO (Cx.g X) r f) (ha : SndO X a ma) (hb : SndO X b mb) (hm : behindInMarks op b = false) : SndT X (.Compare a [op] [b] pos) (mBool (mOpO f ma mb)) :=
  pt_imp (pt_cmpR ho ha hb hm) fun _ _ _ h => tTest_of (fun _ _ _ h => tOpO_of hf h) h
def fDat (f : PyData → PyData → Bool) : OpG := fun x y S => (snapO S x).bind fun p => (snapO S y).bind fun q => some (.bl (f p q), S)
theorem dat_ok {g : Wr} {f : PyData → PyData → Bool} : OpOkO g (rDat g.K f) (fDat f) := fun ρ S H H₀ x y v u z S' Q s rx ry h q => by
  obtain ⟨p, e1, h⟩ := bind2 h
  obtain ⟨p', e2, h⟩ := bind2 h
  cases h
  obtain ⟨a1, a2, a3⟩ := snapO_ok s rx e1
  obtain ⟨b1, b2, b3⟩ := snapO_ok s ry e2
  exact ⟨p, p', a1, b1, a2, b2, a3, b3, q ρ _ H Ext.refl s (.bl _)⟩
def fEq : OpG := fDat PyData.eqv
def fNe : OpG := fDat fun d e => !PyData.eqv d e
theorem s_eq {a b : Expr} {ma mb : MO} (hu : X.A.units + 200 < cLine) (ha : SndO X a ma) (hb : SndO X b mb) : Snd X (.Compare a [.Eq] [b] pos) (mOpO fEq ma mb) := s_cmpO (op_eqX hu) dat_ok ha hb (nomark b)
theorem t_eq {a b : Expr} {ma mb : MO} (hu : X.A.units + 200 < cLine) (ha : SndO X a ma) (hb : SndO X b mb) : SndT X (.Compare a [.Eq] [b] pos) (mBool (mOpO fEq ma mb)) := t_cmpO (op_eqX hu) dat_ok ha hb (nomark b)
theorem s_ne {a b : Expr} {ma mb : MO} (hu : X.A.units + 200 < cLine) (ha : SndO X a ma) (hb : SndO X b mb) : Snd X (.Compare a [.NotEq] [b] pos) (mOpO fNe ma mb) := s_cmpO (op_neX hu) dat_ok ha hb (nomark b)
theorem t_ne {a b : Expr} {ma mb : MO} (hu : X.A.units + 200 < cLine) (ha : SndO X a ma) (hb : SndO X b mb) : SndT X (.Compare a [.NotEq] [b] pos) (mBool (mOpO fNe ma mb)) := t_cmpO (op_neX hu) dat_ok ha hb (nomark b)
end

/-! ### arithmetic -/
def fI (C : Int → Int → Bool) (f : Int → Int → D) : OpF := fun x y S => match x, y with
  | .int i, .int j => if C i j = true then some (f i j, S) else none
  | _, _ => none
theorem fI_ok {g : Wr} {C : Int → Int → Bool} {P : Int → Int → Prop} {f : Int → Int → D} {fv : Int → Int → V} (hC : ∀ i j, C i j = true → P i j) (hf : ∀ ρ H i j, RD g ρ H (f i j) (fv i j)) : OpOk g (rI P fv) (fI C f) := fun ρ S H x y v u z S' Q s rx ry h q => by
  cases rx <;> first
    | (cases ry <;> first
        | (rename_i i j
           simp only [fI] at h
           split at h
           · rename_i hc
             cases h
             exact ⟨i, j, rfl, rfl, hC i j hc, q ρ _ H Ext.refl s (hf _ _ _ _)⟩
           · cases h)
        | cases h)
    | cases h
def fI0 (f : Int → Int → D) : OpF := fun x y S => match x, y with
  | .int i, .int j => some (f i j, S)
  | _, _ => none
theorem fI0_ok {g : Wr} {f : Int → Int → D} {fv : Int → Int → V} (hf : ∀ ρ H i j, RD g ρ H (f i j) (fv i j)) : OpOk g (rI0 fv) (fI0 f) := fun ρ S H x y v u z S' Q s rx ry h q => by
  cases rx <;> first
    | (cases ry <;> first
        | (rename_i i j
           cases h
           exact ⟨i, j, rfl, rfl, q ρ _ H Ext.refl s (hf _ _ _ _)⟩)
        | cases h)
    | cases h
def fSub : OpF := fI0 fun i j => .int (i - j)
def mulC (i j : Int) : Bool := decide ((-(2 ^ 64) < i ∧ i < 2 ^ 64) ∨ (-(2 ^ 64) < j ∧ j < 2 ^ 64))
def fMul : OpF := fI mulC fun i j => .int (i * j)
def divC (_ j : Int) : Bool := decide (0 < j ∧ j < 2 ^ 64)
def fDiv : OpF := fI divC fun i j => .int (i / j)
def modC (_ j : Int) : Bool := decide (0 < j)
def fMod : OpF := fI modC fun i j => .int (i % j)
def powC (i j : Int) : Bool := decide (0 ≤ j ∧ j ≤ 1000000 ∧ i.natAbs < 2 ^ 64)
def fPow : OpF := fI powC fun i j => .int (i ^ j.toNat)
def fLt : OpF := fI0 fun i j => .bl (decide (i < j))
def fLe : OpF := fI0 fun i j => .bl (decide (i ≤ j))
def fGt : OpF := fI0 fun i j => .bl (decide (j < i))
def fGe : OpF := fI0 fun i j => .bl (decide (j ≤ i))
/-- +: ints, texts, tuples -/
def fAdd : OpF := fun x y S => match x, y with
  | .int i, .int j => some (.int (i + j), S)
  | .str i, .str j => if i.length + j.length ≤ 1000000 then some (.str (i ++ j), S) else none
  | .tup xs, .tup ys => if xs.length + ys.length ≤ 1000000 then some (.tup (xs ++ ys), S) else none
  | _, _ => none
def rAddX (K : PySem.W.Frag) : R2 := fun x y H Q => rI0 (fun i j => .int (i + j)) x y H Q ∨ ((∃ i j, x = .str i ∧ y = .str j ∧ i.length + j.length ≤ sizeLine ∧ Q (.str (i ++ j)) H) ∨ rCatA K x y H Q)
theorem add_ok {g : Wr} : OpOk g (rAddX g.K) fAdd := fun ρ S H x y v u z S' Q s rx ry h q => by
  cases rx with
  | int i =>
    cases ry with
    | int j => cases h; exact .inl ⟨i, j, rfl, rfl, q ρ _ H Ext.refl s (.int _)⟩
    | _ => cases h
  | str i =>
    cases ry with
    | str j =>
      simp only [fAdd] at h
      split at h
      · rename_i hz
        cases h
        exact .inr (.inl ⟨i, j, rfl, rfl, le_line hz (by decide), q ρ _ H Ext.refl s (.str _)⟩)
      · cases h
    | _ => cases h
  | @tup xs a vs h1 r1 =>
    cases ry with
    | @tup ys b us h2 r2 =>
      simp only [fAdd] at h
      split at h
      · rename_i hz
        cases h
        have hz' : vs.length + us.length ≤ sizeLine := le_line (by rw [← r1.length, ← r2.length]; exact hz) (by decide)
        refine .inr (.inr ⟨a, b, vs, us, rfl, rfl, .inl (.inl h1), .inl (.inl h2), hz', fun e => ?_, fun _ e => ?_, fun _ _ p hp => ?_⟩)
        · subst e
          cases r1
          exact q ρ _ H Ext.refl s (.tup h2 r2)
        · subst e
          cases r2
          rw [List.append_nil] at q
          exact q ρ _ H Ext.refl s (.tup h1 r1)
        · exact q ρ _ _ (Ext.new hp) (s.other (s.fresh hp) hp) (.tup upd_same (RDs.append ((Ext.new hp).rds s r1) ((Ext.new hp).rds s r2)))
      · cases h
    | _ => cases h
  | _ => cases h
section
variable {X : Cx} {pos : Pos} {a b : Expr} {ma mb : M}
theorem mul_c {i j : Int} (h : mulC i j = true) : CMul i j := by
  have h' : (-(2 ^ 64) < i ∧ i < 2 ^ 64) ∨ (-(2 ^ 64) < j ∧ j < 2 ^ 64) := of_decide_eq_true h
  exact h'
theorem pow_c {i j : Int} (h : powC i j = true) : CPow i j := by
  have h' : 0 ≤ j ∧ j ≤ 1000000 ∧ i.natAbs < 2 ^ 64 := of_decide_eq_true h
  exact h'
theorem op_addX : OpR X (binaryOp .Add) (rAddX X.K) := op_add.or (op_add_str.or op_catA)
theorem s_add (ha : Snd X a ma) (hb : Snd X b mb) : Snd X (.BinOp a .Add b pos) (mOp fAdd ma mb) := s_op op_addX add_ok ha hb
theorem s_sub (ha : Snd X a ma) (hb : Snd X b mb) : Snd X (.BinOp a .Sub b pos) (mOp fSub ma mb) := s_op op_sub (fI0_ok fun _ _ _ _ => .int _) ha hb
theorem s_mul (ha : Snd X a ma) (hb : Snd X b mb) : Snd X (.BinOp a .Mult b pos) (mOp fMul ma mb) := s_op op_mul (fI_ok (fun i j h => mul_c h) fun _ _ _ _ => .int _) ha hb
theorem div_wide {i j : Int} (h : divC i j = true) : CDivW i j := by
  have h' := of_decide_eq_true h
  exact wide_div (b := 64) h'.1 (by omega) (by decide) (by decide)
theorem s_div (ha : Snd X a ma) (hb : Snd X b mb) : Snd X (.BinOp a .FloorDiv b pos) (mOp fDiv ma mb) := s_op op_fdivW (fI_ok (fun i j h => div_wide h) fun _ _ _ _ => .int _) ha hb
theorem s_mod (ha : Snd X a ma) (hb : Snd X b mb) : Snd X (.BinOp a .Mod b pos) (mOp fMod ma mb) := s_op op_mod (fI_ok (fun i j h => of_decide_eq_true h) fun _ _ _ _ => .int _) ha hb
theorem s_pow (ha : Snd X a ma) (hb : Snd X b mb) : Snd X (.BinOp a .Pow b pos) (mOp fPow ma mb) := s_op op_pow (fI_ok (fun i j h => pow_c h) fun _ _ _ _ => .int _) ha hb
theorem s_lt (ha : Snd X a ma) (hb : Snd X b mb) : Snd X (.Compare a [.Lt] [b] pos) (mOp fLt ma mb) := s_cmp op_lt (fI0_ok fun _ _ _ _ => .bl _) ha hb (nomark b)
theorem t_lt (ha : Snd X a ma) (hb : Snd X b mb) : SndT X (.Compare a [.Lt] [b] pos) (mBool (mOp fLt ma mb)) := t_cmp op_lt (fI0_ok fun _ _ _ _ => .bl _) ha hb (nomark b)
theorem s_le (ha : Snd X a ma) (hb : Snd X b mb) : Snd X (.Compare a [.LtE] [b] pos) (mOp fLe ma mb) := s_cmp op_le (fI0_ok fun _ _ _ _ => .bl _) ha hb (nomark b)
theorem t_le (ha : Snd X a ma) (hb : Snd X b mb) : SndT X (.Compare a [.LtE] [b] pos) (mBool (mOp fLe ma mb)) := t_cmp op_le (fI0_ok fun _ _ _ _ => .bl _) ha hb (nomark b)
theorem s_gt (ha : Snd X a ma) (hb : Snd X b mb) : Snd X (.Compare a [.Gt] [b] pos) (mOp fGt ma mb) := s_cmp op_gt (fI0_ok fun _ _ _ _ => .bl _) ha hb (nomark b)
theorem t_gt (ha : Snd X a ma) (hb : Snd X b mb) : SndT X (.Compare a [.Gt] [b] pos) (mBool (mOp fGt ma mb)) := t_cmp op_gt (fI0_ok fun _ _ _ _ => .bl _) ha hb (nomark b)
theorem s_ge (ha : Snd X a ma) (hb : Snd X b mb) : Snd X (.Compare a [.GtE] [b] pos) (mOp fGe ma mb) := s_cmp op_ge (fI0_ok fun _ _ _ _ => .bl _) ha hb (nomark b)
theorem t_ge (ha : Snd X a ma) (hb : Snd X b mb) : SndT X (.Compare a [.GtE] [b] pos) (mBool (mOp fGe ma mb)) := t_cmp op_ge (fI0_ok fun _ _ _ _ => .bl _) ha hb (nomark b)
/-- -n -/
def mNeg (m : M) : M := fun l S => (m l S).bind fun p => match p.1 with
  | .int i => some (.int (-i), p.2)
  | _ => none
theorem s_neg (ha : Snd X a ma) : Snd X (.UnaryOp .USub a pos) (mNeg ma) := pe_imp (pe_un un_neg ha) fun σ H Q h => by
  obtain ⟨ρ, l, S, d, S', hs, hl, hm, q⟩ := h
  obtain ⟨⟨x, S1⟩, e1, hm⟩ := bind2 hm
  refine ⟨ρ, l, S, x, S1, hs, hl, e1, fun ρ1 v H1 x1 s1 r1 => ?_⟩
  cases r1 <;> first
    | (cases hm; exact ⟨_, rfl, q ρ1 _ H1 x1 s1 (.int _)⟩)
    | cases hm
/-- is None -/
def isNon : D → Bool
  | .non => true
  | _ => false
def mIsN (m : M) : M := fun l S => (m l S).bind fun p => some (.bl (isNon p.1), p.2)
def mNotN (m : M) : M := fun l S => (m l S).bind fun p => some (.bl (!isNon p.1), p.2)
theorem RD.isNon {g : Wr} {ρ : List Addr} {H : Hp} {d : D} {v : V} (r : RD g ρ H d v) : decide (v = .non) = isNon d := by
  cases r <;> simp [Zi.isNon]
theorem s_isN {j pos'} (ha : Snd X a ma) : Snd X (.Compare a [.Is] [.Constant .none j pos'] pos) (mIsN ma) := pe_imp (pe_cmp (pc_isN ha)) fun σ H Q h => by
  obtain ⟨ρ, l, S, d, S', hs, hl, hm, q⟩ := h
  obtain ⟨⟨x, S1⟩, e1, hm⟩ := bind2 hm
  cases hm
  exact ⟨ρ, l, S, x, _, hs, hl, e1, fun ρ1 v H1 x1 s1 r1 => q ρ1 _ H1 x1 s1 (by rw [r1.isNon]; exact .bl _)⟩
theorem s_notN {j pos'} (ha : Snd X a ma) : Snd X (.Compare a [.IsNot] [.Constant .none j pos'] pos) (mNotN ma) := pe_imp (pe_cmp (pc_notN ha)) fun σ H Q h => by
  obtain ⟨ρ, l, S, d, S', hs, hl, hm, q⟩ := h
  obtain ⟨⟨x, S1⟩, e1, hm⟩ := bind2 hm
  cases hm
  exact ⟨ρ, l, S, x, _, hs, hl, e1, fun ρ1 v H1 x1 s1 r1 => q ρ1 _ H1 x1 s1 (by rw [r1.isNon]; exact .bl _)⟩
/-- a value that is a bool, as a test -/
theorem t_bool {e : Expr} {m : M} (h : Snd X e m) (he : ∀ whole, isTrue e X.env whole = (do let v ← whole; standAt e.pos; holding [v] (truthy v)) := by intro _; rfl) : SndT X e (mBool m) := pt_imp (pt_val h he) fun σ H Q h => tTest_of (t := tM (Cx.g X) m) (fun _ _ _ h => h) h
theorem t_isN {j pos'} (ha : Snd X a ma) : SndT X (.Compare a [.Is] [.Constant .none j pos'] pos) (mBool (mIsN ma)) := pt_imp (pt_cmp (pc_isN ha)) fun σ H Q h => by
  obtain ⟨ρ, l, S, d, S', hs, hl, hm, q⟩ := h
  obtain ⟨⟨x, S1⟩, e1, hm⟩ := bind2 hm
  obtain ⟨⟨y, S2⟩, e2, e1⟩ := bind2 e1
  cases e1
  cases hm
  exact ⟨ρ, l, S, y, _, hs, hl, e2, fun ρ1 v H1 x1 s1 r1 => ⟨isNon y, by rw [r1.isNon], q ρ1 H1 x1 s1⟩⟩
theorem t_notN {j pos'} (ha : Snd X a ma) : SndT X (.Compare a [.IsNot] [.Constant .none j pos'] pos) (mBool (mNotN ma)) := pt_imp (pt_cmp (pc_notN ha)) fun σ H Q h => by
  obtain ⟨ρ, l, S, d, S', hs, hl, hm, q⟩ := h
  obtain ⟨⟨x, S1⟩, e1, hm⟩ := bind2 hm
  obtain ⟨⟨y, S2⟩, e2, e1⟩ := bind2 e1
  cases e1
  cases hm
  exact ⟨ρ, l, S, y, _, hs, hl, e2, fun ρ1 v H1 x1 s1 r1 => ⟨!isNon y, by rw [r1.isNon], q ρ1 H1 x1 s1⟩⟩
end

/-! ### in, not in -/
/-- what stands in a sequence -/
def seqO (S : Sto) : O → Option (List D)
  | .n ds => some ds
  | .d (.tup ds) => some ds
  | .d (.ktup ds) => some ds
  | .d (.sl ns) => some (ns.map D.int)
  | .d (.ref k) => match S[k]? with
    | some (.lst xs) => some xs
    | _ => none
  | .d _ => none
def rInX (K : PySem.W.Frag) (f : Bool → Bool) : R2 := fun x y H Q => ∃ d ds, Dp K H x d ∧ (Dp K H y (.list ds) ∨ Dp K H y (.tuple ds)) ∧ d.canLay0 = true ∧ PyData.canLayAll0 ds = true ∧ d.depth ≤ 190 ∧ Q (.bl (f (ds.any fun z => PyData.eqv z d))) H
section
variable {X : Cx} {pos : Pos} {a b : Expr} {ma mb : MO}
theorem op_inX (hu : X.A.units + 200 < cLine) : OpR X (compareOp .In) (rInX X.K fun b => b) := by
  intro pins s σ H x y v u Q I rx ry h
  obtain ⟨d, ds, hd, he, ld, le, pd, q⟩ := h
  obtain ⟨as, r1⟩ := Dp.reads I d x v hd rx
  rcases he with he | he
  · obtain ⟨bs, r2⟩ := Dp.reads I _ y u he ry
    exact SeqAt.in_list_reads r2 r1 le ld (by have := Nat.min_le_right (PyData.depthAll ds) d.depth; omega) ⟨.bl _, H, I, rfl, q⟩
  · obtain ⟨bs, r2⟩ := Dp.reads I _ y u he ry
    exact SeqAt.in_tuple_reads r2 r1 le ld (by have := Nat.min_le_right (PyData.depthAll ds) d.depth; omega) ⟨.bl _, H, I, rfl, q⟩
theorem op_ninX (hu : X.A.units + 200 < cLine) : OpR X (compareOp .NotIn) (rInX X.K fun b => !b) := by
  intro pins s σ H x y v u Q I rx ry h
  obtain ⟨d, ds, hd, he, ld, le, pd, q⟩ := h
  obtain ⟨as, r1⟩ := Dp.reads I d x v hd rx
  rcases he with he | he
  · obtain ⟨bs, r2⟩ := Dp.reads I _ y u he ry
    exact SeqAt.notIn_list_reads r2 r1 le ld (by have := Nat.min_le_right (PyData.depthAll ds) d.depth; omega) ⟨.bl _, H, I, rfl, q⟩
  · obtain ⟨bs, r2⟩ := Dp.reads I _ y u he ry
    exact SeqAt.notIn_tuple_reads r2 r1 le ld (by have := Nat.min_le_right (PyData.depthAll ds) d.depth; omega) ⟨.bl _, H, I, rfl, q⟩
def itemsP : PyData → Option (List PyData)
  | .list xs => some xs
  | .tuple xs => some xs
  | _ => none
def fInG (f : Bool → Bool) : OpG := fun x y S => (snapO S x).bind fun p => (snapO S y).bind fun q => (itemsP q).bind fun qs => some (.bl (f (qs.any fun z => PyData.eqv z p)), S)
theorem inX_ok {g : Wr} {f : Bool → Bool} : OpOkO g (rInX g.K f) (fInG f) := fun ρ S H H₀ x y v u z S' Q s rx ry h q => by
  obtain ⟨p, e1, h⟩ := bind2 h
  obtain ⟨p', e2, h⟩ := bind2 h
  obtain ⟨qs, e3, h⟩ := bind2 h
  cases h
  obtain ⟨a1, a2, a3⟩ := snapO_ok s rx e1
  obtain ⟨b1, b2, b3⟩ := snapO_ok s ry e2
  cases p' <;> first
    | (cases e3
       exact ⟨p, _, a1, by first | exact .inl b1 | exact .inr b1, a2, by simpa [PyData.canLay0] using b2, a3, q ρ _ H Ext.refl s (.bl _)⟩)
    | cases e3
def fIn : OpG := fInG fun b => b
def fNin : OpG := fInG fun b => !b
theorem s_in (hu : X.A.units + 200 < cLine) (ha : SndO X a ma) (hb : SndO X b mb) (hm : behindInMarks .In b = false := by rfl) : Snd X (.Compare a [.In] [b] pos) (mOpO fIn ma mb) := s_cmpO (op_inX hu) inX_ok ha hb hm
theorem t_in (hu : X.A.units + 200 < cLine) (ha : SndO X a ma) (hb : SndO X b mb) (hm : behindInMarks .In b = false := by rfl) : SndT X (.Compare a [.In] [b] pos) (mBool (mOpO fIn ma mb)) := t_cmpO (op_inX hu) inX_ok ha hb hm
theorem s_nin (hu : X.A.units + 200 < cLine) (ha : SndO X a ma) (hb : SndO X b mb) (hm : behindInMarks .NotIn b = false := by rfl) : Snd X (.Compare a [.NotIn] [b] pos) (mOpO fNin ma mb) := s_cmpO (op_ninX hu) inX_ok ha hb hm
theorem t_nin (hu : X.A.units + 200 < cLine) (ha : SndO X a ma) (hb : SndO X b mb) (hm : behindInMarks .NotIn b = false := by rfl) : SndT X (.Compare a [.NotIn] [b] pos) (mBool (mOpO fNin ma mb)) := t_cmpO (op_ninX hu) inX_ok ha hb hm
end

/-! ### subscripts -/
def atD {α : Type} (xs : List α) (i : Int) : Option α := atI xs i
/-- a list's, a tuple's, a text's item -/
def ixF : OpF := fun x y S => match x, y with
  | .tup ds, .int i => (atI ds i).bind fun d => some (d, S)
  | .ktup ds, .int i => (atI ds i).bind fun d => some (d, S)
  | .sl ns, .int i => (atI ns i).bind fun n => some (.int n, S)
  | .ref k, .int i => match S[k]? with
    | some (.lst xs) => (atI xs i).bind fun d => some (d, S)
    | _ => none
  | .str z, .int i => if z.length ≤ 1000000 then (atI z.cps.toList i).bind fun c => some (.str ⟨#[c]⟩, S) else none
  | _, _ => none
theorem atI_rel {g : Wr} {ρ : List Addr} {H : Hp} {ds : List D} {vs : List V} {i : Int} {d : D} (r : RDs g ρ H ds vs) (h : atI ds i = some d) : ∃ v, atI vs i = some v ∧ RD g ρ H d v := by
  unfold atI at h ⊢
  rw [← r.length]
  obtain ⟨j, e1, e2⟩ := bind2 h
  obtain ⟨v, h1, h2⟩ := r.get e2
  exact ⟨v, by rw [e1]; exact h1, h2⟩
theorem ix_ok {g : Wr} : OpOk g (rIx g.K) ixF := fun ρ S H x y v u z S' Q s rx ry h q => by
  cases rx with
  | tup h1 r1 =>
    cases ry with
    | int i =>
      obtain ⟨d, e1, h⟩ := bind2 h
      cases h
      obtain ⟨w, h2, h3⟩ := atI_rel r1 e1
      exact .inr (.inl ⟨_, _, i, w, rfl, rfl, .inl (.inl h1), h2, q ρ w H Ext.refl s h3⟩)
    | _ => cases h
  | ktup h1 r1 =>
    cases ry with
    | int i =>
      obtain ⟨d, e1, h⟩ := bind2 h
      cases h
      obtain ⟨w, h2, h3⟩ := atI_rel r1 e1
      exact .inr (.inl ⟨_, _, i, w, rfl, rfl, h1, h2, q ρ w H Ext.refl s h3⟩)
    | _ => cases h
  | @sl ns a h1 =>
    cases ry with
    | int i =>
      obtain ⟨d, e1, h⟩ := bind2 h
      cases h
      refine .inl ⟨_, _, i, .int d, rfl, rfl, h1.sq, ?_, q ρ _ H Ext.refl s (.int d)⟩
      unfold atI at e1 ⊢
      obtain ⟨j, e3, e2⟩ := bind2 e1
      rw [List.length_map, e3]
      show (ns.map V.int)[j]? = _
      rw [List.getElem?_map, e2]
      rfl
    | _ => cases h
  | @ref k a e =>
    cases ry with
    | int i =>
      simp only [ixF] at h
      split at h
      · rename_i xs ec
        obtain ⟨d, e1, h⟩ := bind2 h
        cases h
        obtain ⟨o, h1, h2⟩ := s.cell k a _ e ec
        cases h2 with
        | lst h2 =>
          obtain ⟨w, h3, h4⟩ := atI_rel h2 e1
          exact .inl ⟨_, _, i, w, rfl, rfl, SqL.of h1, h3, q ρ w H Ext.refl s h4⟩
      · cases h
    | _ => cases h
  | str z =>
    cases ry with
    | int i =>
      simp only [ixF] at h
      split at h
      · rename_i hz
        obtain ⟨d, e1, h⟩ := bind2 h
        cases h
        exact .inr (.inr ⟨z, i, d, rfl, rfl, le_line hz (by decide), e1, q ρ _ H Ext.refl s (.str _)⟩)
      · cases h
    | _ => cases h
  | _ => cases h
section
variable {X : Cx} {pos : Pos} {a b : Expr} {ma mb : M}
theorem s_ix (ha : Snd X a ma) (hb : Snd X b mb) (hs : PlainIx b := by exact fun _ _ => rfl) : Snd X (.Subscript a b pos) (mOp ixF ma mb) := pe_imp (pe_ix ix_seq ha hb hs) fun _ _ _ h => tOp_of ix_ok h
end

/-! ### slices -/
abbrev MOpt := Lo → Sto → Option (Option Int × Sto)
def tMI? (g : Wr) (m : MOpt) : TO := fun σ H Q => ∃ ρ l S o S', Sim g ρ S H ∧ LocR g ρ H l σ ∧ m l S = some (o, S') ∧ ∀ ρ' H', Ext ρ H ρ' H' → Sim g ρ' S' H' → Q o H'
def SndI? (X : Cx) (e : Option Expr) (m : MOpt) : Prop := PO X e (tMI? (Cx.g X) m)
def mNoI : MOpt := fun _ S => some (none, S)
def mSoI (m : M) : MOpt := fun l S => (m l S).bind fun p => match p.1 with
  | .int i => some (some i, p.2)
  | _ => none
section
variable {X : Cx} {pos : Pos} {a b : Expr} {ma : M} {lo hi : Option Expr} {ml mh : MOpt} {p2 : Pos}
theorem po_imp {e : Option Expr} {t t' : TO} (h : PO X e t) (w : ∀ σ H Q, t' σ H Q → t σ H Q) : PO X e t' := ⟨fun pins s σ H Q I q => h.run pins s σ H Q I (w σ H Q q)⟩
theorem i_none : SndI? X none mNoI := po_imp po_none fun σ H Q h => by
  obtain ⟨ρ, l, S, d, S', hs, hl, hm, q⟩ := h
  cases hm
  exact q ρ H Ext.refl hs
theorem i_some {e : Expr} {m : M} (h : Snd X e m) : SndI? X (some e) (mSoI m) := po_imp (po_some h) fun σ H Q h => by
  obtain ⟨ρ, l, S, d, S', hs, hl, hm, q⟩ := h
  obtain ⟨⟨x, S1⟩, e1, hm⟩ := bind2 hm
  refine ⟨ρ, l, S, x, S1, hs, hl, e1, fun ρ1 v H1 x1 s1 r1 => ?_⟩
  cases r1 <;> first
    | (cases hm; exact ⟨_, rfl, q ρ1 H1 x1 s1⟩)
    | cases hm
/-- the items from lo to hi -/
def cutD {α : Type} (xs : List α) (lo hi : Option Int) : List α := (xs.drop (HT.sIx xs.length 0 lo)).take (HT.sIx xs.length xs.length hi - HT.sIx xs.length 0 lo)
def slF (x : D) (lo hi : Option Int) (S : Sto) : Option O := match x with
  | .tup ds => some (.d (.tup (cutD ds lo hi)))
  | .sl ns => some (.n ((cutD ns lo hi).map D.int))
  | .ref k => match S[k]? with
    | some (.lst xs) => some (.n (cutD xs lo hi))
    | _ => none
  | .str z => if z.length ≤ 1000000 then some (.d (.str (cutS z lo hi))) else none
  | _ => none
def mSl (a : M) (lo hi : MOpt) : MO := fun l S => (a l S).bind fun p => (lo l p.2).bind fun q => (hi l q.2).bind fun r => (slF p.1 q.1 r.1 r.2).bind fun o => some (o, r.2)
theorem RDs.cut {g : Wr} {ρ : List Addr} {H : Hp} {ds : List D} {vs : List V} (r : RDs g ρ H ds vs) (lo hi : Option Int) : RDs g ρ H (cutD ds lo hi) (cutV vs lo hi) := by
  unfold cutD cutV
  rw [← r.length]
  exact (r.drop _).take _
theorem cut_map {α β : Type} (f : α → β) (xs : List α) (lo hi : Option Int) : cutD (xs.map f) lo hi = (cutD xs lo hi).map f := by
  unfold cutD
  rw [List.length_map, List.map_take, List.map_drop]
theorem o_sl (ha : Snd X a ma) (hl : SndI? X lo ml) (hh : SndI? X hi mh) : SndO X (.Subscript a (.Slice lo hi none p2) pos) (mSl ma ml mh) :=
  pe_imp (pe_slice (sl_list.or (sl_tupA.or sl_str)) ha hl hh) fun σ H Q h => by
  obtain ⟨ρ, l, S, o, S', hs, hl, hm, q⟩ := h
  obtain ⟨⟨x, S1⟩, e1, hm⟩ := bind2 hm
  obtain ⟨⟨y, S2⟩, e2, hm⟩ := bind2 hm
  obtain ⟨⟨z, S3⟩, e3, hm⟩ := bind2 hm
  obtain ⟨o', e4, hm⟩ := bind2 hm
  cases hm
  refine ⟨ρ, l, S, x, S1, hs, hl, e1, fun ρ1 v H1 x1 s1 r1 => ?_⟩
  refine ⟨ρ1, l, S1, y, S2, s1, x1.loc hs hl, e2, fun ρ2 H2 x2 s2 => ?_⟩
  refine ⟨ρ2, l, S2, z, S3, s2, x2.loc s1 (x1.loc hs hl), e3, fun ρ3 H3 x3 s3 => ?_⟩
  have xx := (x1.trans x2).trans x3
  have r3 := (x2.trans x3).rd s1 r1
  dsimp only at e4
  cases r3 with
  | @tup ds b vs h1 r =>
    cases e4
    refine .inr (.inl ⟨b, vs, rfl, .inl (.inl h1), fun hw => ?_, fun hw p hp => ?_⟩)
    · have e : cutD ds y z = ds := by
        unfold cutD
        rw [r.length]
        rw [hw.1, hw.2, List.drop_zero, Nat.sub_zero, ← r.length, List.take_length]
      rw [e] at q
      exact q ρ3 _ H3 xx s3 (.d (.tup h1 r))
    · exact q ρ3 _ _ (xx.trans (Ext.new hp)) (s3.other (s3.fresh hp) hp) (.d (.tup upd_same ((Ext.new hp).rds s3 (r.cut y z))))
  | @sl ns b h1 =>
    cases e4
    refine .inl ⟨b, _, rfl, h1.sq, fun p hp => ?_⟩
    refine q ρ3 _ _ (xx.trans (Ext.new hp)) (s3.other (s3.fresh hp) hp) (.n upd_same (s3.fresh hp) (xx.back s3 hp) ?_)
    have hc : cutV (ns.map V.int) y z = (cutD ns y z).map V.int := cut_map V.int ns y z
    rw [hc]
    exact RDs.ints
  | @ref k b e =>
    simp only [slF] at e4
    split at e4
    · rename_i xs ec
      cases e4
      obtain ⟨o, h1, h2⟩ := s3.cell k b _ e ec
      cases h2 with
      | lst h2 =>
        refine .inl ⟨b, _, rfl, SqL.of h1, fun p hp => ?_⟩
        exact q ρ3 _ _ (xx.trans (Ext.new hp)) (s3.other (s3.fresh hp) hp) (.n upd_same (s3.fresh hp) (xx.back s3 hp) ((Ext.new hp).rds s3 (h2.cut y z)))
    · cases e4
  | str w =>
    simp only [slF] at e4
    split at e4
    · rename_i hz
      cases e4
      exact .inr (.inr ⟨w, rfl, le_line hz (by decide), q ρ3 _ H3 xx s3 (.d (.str _))⟩)
    · cases e4
  | _ => cases e4
end
end Zi
set_option maxRecDepth 100000
/-! targets, walks, for, comprehensions -/
namespace Zi
open PySem PySem.Spec PyProof.Rows L2

/-! ### targets -/
abbrev MG := D → Lo → Sto → Option Lo
abbrev MGs := List D → Lo → Sto → Option Lo
/-- all slots but these are as they were -/
def SameO (is : List Nat) (σ σ' : L2.St) : Prop := σ'.length = σ.length ∧ ∀ j, j ∉ is → σ'[j]? = σ[j]?
def tMG (g : Wr) (is : List Nat) (m : MG) : TG := fun v σ H Q => ∃ ρ l S d l', Sim g ρ S H ∧ LocR g ρ H l σ ∧ RD g ρ H d v ∧ m d l S = some l' ∧ ∀ σ', LocR g ρ H l' σ' → SameO is σ σ' → Q σ' H
def tMGs (g : Wr) (is : List Nat) (m : MGs) : TGs := fun vs σ H Q => ∃ ρ l S ds l', Sim g ρ S H ∧ LocR g ρ H l σ ∧ RDs g ρ H ds vs ∧ m ds l S = some l' ∧ ∀ σ', LocR g ρ H l' σ' → SameO is σ σ' → Q σ' H
def SndG (X : Cx) (e : Expr) (is : List Nat) (m : MG) : Prop := PG X e (tMG (Cx.g X) is m)
def SndGs (X : Cx) (es : List Expr) (is : List Nat) (m : MGs) : Prop := PGs X es (tMGs (Cx.g X) is m)
theorem pg_imp {X : Cx} {e : Expr} {t t' : TG} (h : PG X e t) (w : ∀ v σ H Q, t' v σ H Q → t v σ H Q) : PG X e t' := ⟨fun pins s σ H v u Q I r q => h.run pins s σ H v u Q I r (w v σ H Q q)⟩
theorem pgs_imp {X : Cx} {e : List Expr} {t t' : TGs} (h : PGs X e t) (w : ∀ v σ H Q, t' v σ H Q → t v σ H Q) : PGs X e t' := ⟨fun pins s σ H v u Q I r q => h.run pins s σ H v u Q I r (w v σ H Q q)⟩
theorem pg_or {X : Cx} {e : Expr} {t t' : TG} (h : PG X e t) (h' : PG X e t') : PG X e (fun v σ H Q => t v σ H Q ∨ t' v σ H Q) := ⟨fun pins s σ H v u Q I r q => by
  rcases q with q | q
  · exact h.run pins s σ H v u Q I r q
  · exact h'.run pins s σ H v u Q I r q⟩
section
variable {X : Cx} {pos : Pos}
def mgN (i : Nat) : MG := fun d l _ => some (l.set i (some d))
theorem g_name (i : Nat) {x : Str} (hN : X.N.Nodup) (hi : X.N[i]? = some x := by rfl) (hx : L2.Loc X.env.scope x := by first | exact .inl rfl | exact .inr rfl) (hf : X.fn x = true ∨ X.env.scope.names.lookup x = some .local := by first | exact .inl rfl | exact .inr rfl | assumption) : SndG X (.Name x pos) [i] (mgN i) :=
  pg_imp (pg_name hN hi hx hf) fun v σ H Q h => by
  obtain ⟨ρ, l, S, d, l', hs, hl, hr, hm, q⟩ := h
  cases hm
  exact q _ (hl.set hr) ⟨by simp, fun j hj => List.getElem?_set_ne (fun z => hj (by simp [z]))⟩
def mgNil : MGs := fun ds l _ => match ds with
  | [] => some l
  | _ => none
def mgCons (m : MG) (r : MGs) : MGs := fun ds l S => match ds with
  | d :: es => (m d l S).bind fun l1 => r es l1 S
  | [] => none
theorem gs_nil : SndGs X [] [] mgNil := pgs_imp pgs_nil fun v σ H Q h => by
  obtain ⟨ρ, l, S, ds, l', hs, hl, hr, hm, q⟩ := h
  cases hr with
  | nil => cases hm; exact ⟨rfl, q σ hl ⟨rfl, fun _ _ => rfl⟩⟩
  | cons => cases hm
theorem gs_cons {e : Expr} {es : List Expr} {is js : List Nat} {m : MG} {r : MGs} (h1 : SndG X e is m) (h2 : SndGs X es js r) (hs : (assignEach (e :: es) X.env).map (·.2) = assign e X.env :: (assignEach es X.env).map (·.2) := by rfl) : SndGs X (e :: es) (is ++ js) (mgCons m r) :=
  pgs_imp (pgs_cons h1 h2 hs) fun v σ H Q h => by
  obtain ⟨ρ, l, S, ds, l', hs, hl, hr, hm, q⟩ := h
  cases hr with
  | nil => cases hm
  | cons r1 r2 =>
    obtain ⟨l1, e1, hm⟩ := bind2 hm
    exact ⟨_, _, rfl, ρ, l, S, _, l1, hs, hl, r1, e1, fun σ1 hl1 so1 => ⟨ρ, l1, S, _, l', hs, hl1, r2, hm, fun σ2 hl2 so2 => q σ2 hl2 ⟨so2.1.trans so1.1, fun j hj => by
      rw [List.mem_append, not_or] at hj
      exact (so2.2 j hj.2).trans (so1.2 j hj.1)⟩⟩⟩
def mgTup (n : Nat) (r : MGs) : MG := fun d l S => (seqO S (.d d)).bind fun ds => if ds.length = n then r ds l S else none
theorem g_tup {es : List Expr} {k : Nat} {n : Nat} {is : List Nat} {r : MGs} (hc : X.calm = true) (h : SndGs X es is r) (hn : (assignEach es X.env).length = n := by rfl) (hst : (assignEach es X.env).findIdx? (·.1) = none := by rfl) : SndG X (.Tuple es k pos) is (mgTup n r) :=
  pg_imp (pg_or (pg_tup hc h hn hst) (pg_unl hc h hn hst)) fun v σ H Q h => by
  obtain ⟨ρ, l, S, d, l', hs, hl, hr, hm, q⟩ := h
  obtain ⟨ds, e1, hm2⟩ := bind2 hm
  split at hm2
  · rename_i hlen
    cases hr with
    | tup h1 r1 =>
      cases e1
      exact .inl ⟨_, _, rfl, .inl (.inl h1), by rw [← r1.length]; exact hlen, ρ, l, S, _, l', hs, hl, r1, hm2, q⟩
    | ktup h1 r1 =>
      cases e1
      exact .inl ⟨_, _, rfl, h1, by rw [← r1.length]; exact hlen, ρ, l, S, _, l', hs, hl, r1, hm2, q⟩
    | sl h1 =>
      cases e1
      exact .inr ⟨_, _, rfl, h1.sq, by simpa using hlen, ρ, l, S, _, l', hs, hl, RDs.ints, hm2, q⟩
    | @ref k a e =>
      simp only [seqO] at e1
      split at e1
      · rename_i xs ec
        cases e1
        obtain ⟨o, h1, h2⟩ := hs.cell k a _ e ec
        cases h2 with
        | lst h2 => exact .inr ⟨_, _, rfl, SqL.of h1, by rw [← h2.length]; exact hlen, ρ, l, S, _, l', hs, hl, h2, hm2, q⟩
      · cases e1
    | _ => cases e1
  · cases hm2
/-- target = e -/
def mAsg (tg : MG) (m : M) : MS := fun l S => (m l S).bind fun p => (tg p.1 l p.2).bind fun l1 => some (.nx l1, p.2)
theorem st_asg {tg e : Expr} {m : M} {is : List Nat} {mg : MG} (hg : SndG X tg is mg) (h : Snd X e m) (hs : swapsWithSole [tg] e pos.line X.env = pure false := by rfl) (hw : swappedStores [tg] e X.env = pure none := by rfl)
    (h1 : (assignEach [tg] X.env).map (·.2) = [assign tg X.env] := by rfl) : SndS X (.Assign [tg] e pos) (mAsg mg m) := ps_imp (ps_asg h hg hs hw h1) fun E σ H h => by
  obtain ⟨ρ, l, S, d, S', hs, hl, hm, q⟩ := h
  obtain ⟨⟨x, S1⟩, e1, hm⟩ := bind2 hm
  obtain ⟨l1, e2, hm⟩ := bind2 hm
  cases hm
  exact ⟨ρ, l, S, x, _, hs, hl, e1, fun ρ1 v H1 x1 s1 r1 => ⟨ρ1, l, S1, x, l1, s1, x1.loc hs hl, r1, e2, fun σ1 hl1 _ => q ρ1 H1 x1 s1 σ1 hl1⟩⟩
/-- a, b = e1, e2 with plain local names -/
def mPar (i j : Nat) (m : MA) : MS := fun l S => (m l S).bind fun p => match p.1 with
  | [x, y] => some (.nx ((l.set i (some x)).set j (some y)), p.2)
  | _ => none
theorem st_par {i j : Nat} {x y : Str} {a b : Expr} {m : MA} {px py pt : Pos} {kt k2 pt2} (hc : X.calm = true) (hN : X.N.Nodup) (hi : X.N[i]? = some x) (hj : X.N[j]? = some y) (hij : i ≠ j)
    (hx : X.env.scope.names.lookup x = some .local) (hy : X.env.scope.names.lookup y = some .local) (ha : SndA X [a, b] m)
    (hw : swappedStores [.Tuple [.Name x px, .Name y py] kt pt] (.Tuple [a, b] k2 pt2) X.env = pure (some [x, y]))
    (hs : swapsWithSole [.Tuple [.Name x px, .Name y py] kt pt] (.Tuple [a, b] k2 pt2) pos.line X.env = pure false := by rfl) :
    SndS X (.Assign [.Tuple [.Name x px, .Name y py] kt pt] (.Tuple [a, b] k2 pt2) pos) (mPar i j m) := ps_imp (ps_par hc hN hi hj hij hx hy ha hw hs) fun E σ H h => by
  obtain ⟨ρ, l, S, d, S', hs, hl, hm, q⟩ := h
  obtain ⟨⟨x, S1⟩, e1, hm⟩ := bind2 hm
  refine ⟨ρ, l, S, x, S1, hs, hl, e1, fun ρ1 vs H1 x1 s1 r1 => ?_⟩
  dsimp only at hm
  cases r1 with
  | nil => cases hm
  | cons a1 r1 =>
    cases r1 with
    | nil => cases hm
    | cons a2 r1 =>
      cases r1 with
      | cons => cases hm
      | nil =>
        cases hm
        exact ⟨_, _, rfl, q ρ1 H1 x1 s1 _ (((x1.loc hs hl).set a1).set a2)⟩
/-- x += e -/
def mAug (i : Nat) (f : OpF) (m : M) : MS := fun l S => match l[i]? with
  | some (some d) => (m l S).bind fun p => (f d p.1 p.2).bind fun r => some (.nx (l.set i (some r.1)), r.2)
  | _ => none
theorem st_aug {i : Nat} {x : Str} {e : Expr} {m : M} {op : Operator} {r : R2} {f : OpF} {pos' : Pos} (ho : OpR X (inplaceOp op) r) (hf : OpOk (Cx.g X) r f) (hN : X.N.Nodup) (h : Snd X e m) (hi : X.N[i]? = some x := by rfl) (hx : L2.Loc X.env.scope x := by first | exact .inl rfl | exact .inr rfl)
    (hfn : X.fn x = true ∨ X.env.scope.names.lookup x = some .local := by first | exact .inl rfl | exact .inr rfl | assumption) : SndS X (.AugAssign (.Name x pos') op e pos) (mAug i f m) := ps_imp (ps_aug hN hi hx h ho hfn) fun E σ H h => by
  obtain ⟨ρ, l, S, d, S', hs, hl, hm, q⟩ := h
  unfold mAug at hm
  split at hm
  · rename_i d0 e0
    obtain ⟨⟨x, S1⟩, e1, hm⟩ := bind2 hm
    obtain ⟨⟨y, S2⟩, e2, hm⟩ := bind2 hm
    cases hm
    obtain ⟨v, h1, h2⟩ := hl.val i d0 e0
    refine ⟨v, h1, ρ, l, S, x, S1, hs, hl, e1, fun ρ1 u H1 x1 s1 r1 => ?_⟩
    refine hf ρ1 S1 H1 d0 x v u y S2 _ s1 (x1.rd hs h2) r1 e2 fun ρ2 w H2 x2 s2 r2 => ?_
    exact q ρ2 H2 (x1.trans x2) s2 _ (((x1.trans x2).loc hs hl).set r2)
  · cases hm
theorem iop_addX : OpR X (inplaceOp .Add) (fun x y H Q => rI0 (fun i j => .int (i + j)) x y H Q ∨ (∃ i j, x = .str i ∧ y = .str j ∧ i.length + j.length ≤ sizeLine ∧ Q (.str (i ++ j)) H)) := iop_add.or iop_add_str
def fIadd : OpF := fun x y S => match x, y with
  | .int i, .int j => some (.int (i + j), S)
  | .str i, .str j => if i.length + j.length ≤ 1000000 then some (.str (i ++ j), S) else none
  | _, _ => none
theorem iadd_ok {g : Wr} : OpOk g (fun x y H Q => rI0 (fun i j => .int (i + j)) x y H Q ∨ (∃ i j, x = .str i ∧ y = .str j ∧ i.length + j.length ≤ sizeLine ∧ Q (.str (i ++ j)) H)) fIadd := fun ρ S H x y v u z S' Q s rx ry h q => by
  cases rx with
  | int i =>
    cases ry with
    | int j => cases h; exact .inl ⟨i, j, rfl, rfl, q ρ _ H Ext.refl s (.int _)⟩
    | _ => cases h
  | str i =>
    cases ry with
    | str j =>
      simp only [fIadd] at h
      split at h
      · rename_i hz
        cases h
        exact .inr ⟨i, j, rfl, rfl, le_line hz (by decide), q ρ _ H Ext.refl s (.str _)⟩
      · cases h
    | _ => cases h
  | _ => cases h
theorem st_iadd {i : Nat} {x : Str} {e : Expr} {m : M} {pos' : Pos} (hN : X.N.Nodup) (h : Snd X e m) (hi : X.N[i]? = some x := by rfl) (hx : L2.Loc X.env.scope x := by first | exact .inl rfl | exact .inr rfl)
    (hfn : X.fn x = true ∨ X.env.scope.names.lookup x = some .local := by first | exact .inl rfl | exact .inr rfl | assumption) : SndS X (.AugAssign (.Name x pos') .Add e pos) (mAug i fIadd m) := st_aug iop_addX iadd_ok hN h hi hx hfn
end

/-! ### what is walked -/
structure Src where
  ds : List D
  ok : Sto → Prop
structure SrcR (g : Wr) (ρ0 : List Addr) (H0 : Hp) (s : Src) (J : It) : Prop where
  go : ∀ i d ρ S H, s.ds[i]? = some d → Ext ρ0 H0 ρ H → Sim g ρ S H → s.ok S → J.go i H ∧ ∀ x H', J.yld i H x H' → Ext ρ H ρ H' ∧ Sim g ρ S H' ∧ RD g ρ H' d x
  stop : ∀ ρ S H, Ext ρ0 H0 ρ H → Sim g ρ S H → s.ok S → J.stop s.ds.length H
abbrev MI := Lo → Sto → Option (Src × Sto)
def tMI (g : Wr) (m : MI) : TI := fun σ H R => ∃ ρ l S s S', Sim g ρ S H ∧ LocR g ρ H l σ ∧ m l S = some (s, S') ∧ ∀ ρ' H' J, Ext ρ H ρ' H' → Sim g ρ' S' H' → SrcR g ρ' H' s J → R J H'
def SndI (X : Cx) (tg e : Expr) (m : MI) : Prop := PI X tg e (tMI (Cx.g X) m)
theorem pi_imp {X : Cx} {tg e : Expr} {t t' : TI} (h : PI X tg e t) (w : ∀ σ H R, t' σ H R → t σ H R) : PI X tg e t' := ⟨fun pins s σ H R I q => h.run pins s σ H R I (w σ H R q)⟩

/-- a list or a tuple -/
def iSeq (K : PySem.W.Frag) (tl : TE) : TI := fun σ H R => tl σ H fun x H1 => ∃ a, x = .ref a ∧ (((∃ xs, SqL K H1 a xs) ∧ R (Itl K a) H1) ∨ ((∃ xs, SqT K H1 a xs) ∧ R (Itt K a) H1))
theorem pi_seq {X : Cx} {tg l : Expr} {tl : TE} (hl : PE X l tl) : PI X tg l (iSeq X.K tl) := ⟨fun pins s σ H R I h => thn (hl.run pins s σ H _ I h) fun v s1 ⟨x, H1, I1, r1, q1⟩ => by
  obtain ⟨a, ex, q1⟩ := q1
  subst ex
  cases r1
  have fresh : ∀ b ∈ [s1.heap.objs.size], FpOk X pins H1 b := fun b hb => by
    rw [List.mem_singleton] at hb
    subst hb
    exact I1.fpOk (Nat.le_refl _) (I1.hok.fresh (Nat.le_refl _))
  rcases q1 with ⟨⟨xs, hq⟩, q⟩ | ⟨⟨xs, hq⟩, q⟩
  · obtain ⟨its, rv, p, hz⟩ := I1.list hq
    exact wpAny_pyIter_list p.isList ⟨_, [s1.heap.objs.size], _, _, H1, rfl, I1.kept (t' := s1.toks) (fun b o e => Heap.get?_push_of_some _ e), turn_list a _, ⟨_, Heap.get?_push_size _ rfl, rfl, rfl⟩, fresh, q⟩
  · obtain ⟨its, rv, p, hz⟩ := I1.tuple hq
    exact wpAny_pyIter_tuple (show s1.heap.IsTuple a its.toArray from p) ⟨_, [s1.heap.objs.size], _, _, H1, rfl, I1.kept (t' := s1.toks) (fun b o e => Heap.get?_push_of_some _ e), turn_tuple a _, ⟨_, Heap.get?_push_size _ rfl, rfl, rfl⟩, fresh, q⟩⟩

def srcO (S : Sto) : O → Option Src
  | .n ds => some ⟨ds, fun _ => True⟩
  | .d (.tup ds) => some ⟨ds, fun _ => True⟩
  | .d (.ktup ds) => some ⟨ds, fun _ => True⟩
  | .d (.sl ns) => some ⟨ns.map D.int, fun _ => True⟩
  | .d (.ref k) => match S[k]? with
    | some (.lst xs) => some ⟨xs, fun S' => S'[k]? = some (.lst xs)⟩
    | _ => none
  | .d _ => none
def mSrc (m : MO) : MI := fun l S => (m l S).bind fun p => (srcO p.2 p.1).bind fun s => some (s, p.2)
section
variable {g : Wr} {ρ : List Addr} {S : Sto} {H : Hp}
/-- what walks a standing list's items -/
theorem src_lst {a : Addr} {s : Src} (hq : ∀ ρ' S' H', Ext ρ H ρ' H' → Sim g ρ' S' H' → s.ok S' → ∃ vs, SqL g.K H' a vs ∧ RDs g ρ' H' s.ds vs) : SrcR g ρ H s (Itl g.K a) where
  go := fun i d ρ' S' H' hd x sm ok => by
    obtain ⟨vs, h1, h2⟩ := hq ρ' S' H' x sm ok
    obtain ⟨v, h3, h4⟩ := h2.get hd
    refine ⟨⟨vs, v, h1, h3⟩, fun y H2 hy => ?_⟩
    obtain ⟨e, hy⟩ := hy
    subst e
    have e2 := (hy vs h1).symm.trans h3
    cases e2
    exact ⟨Ext.refl, sm, h4⟩
  stop := fun ρ' S' H' x sm ok => by
    obtain ⟨vs, h1, h2⟩ := hq ρ' S' H' x sm ok
    exact ⟨vs, h1, by rw [h2.length]; exact Nat.le_refl _⟩
theorem src_tup {a : Addr} {s : Src} (hq : ∀ ρ' S' H', Ext ρ H ρ' H' → Sim g ρ' S' H' → s.ok S' → ∃ vs, SqT g.K H' a vs ∧ RDs g ρ' H' s.ds vs) : SrcR g ρ H s (Itt g.K a) where
  go := fun i d ρ' S' H' hd x sm ok => by
    obtain ⟨vs, h1, h2⟩ := hq ρ' S' H' x sm ok
    obtain ⟨v, h3, h4⟩ := h2.get hd
    refine ⟨⟨vs, v, h1, h3⟩, fun y H2 hy => ?_⟩
    obtain ⟨e, hy⟩ := hy
    subst e
    have e2 := (hy vs h1).symm.trans h3
    cases e2
    exact ⟨Ext.refl, sm, h4⟩
  stop := fun ρ' S' H' x sm ok => by
    obtain ⟨vs, h1, h2⟩ := hq ρ' S' H' x sm ok
    exact ⟨vs, h1, by rw [h2.length]; exact Nat.le_refl _⟩
/-- the items of a sequence through all steps -/
theorem seq_stays (sm : Sim g ρ S H) {o : O} {v : V} {H₀ : Hp} {s : Src} (r : OR g ρ H H₀ o v) (h : srcO S o = some s) : s.ok S ∧ ∃ a, v = .ref a ∧
    ((∀ ρ' S' H', Ext ρ H ρ' H' → Sim g ρ' S' H' → s.ok S' → ∃ vs, SqL g.K H' a vs ∧ RDs g ρ' H' s.ds vs) ∨ (∀ ρ' S' H', Ext ρ H ρ' H' → Sim g ρ' S' H' → s.ok S' → ∃ vs, SqT g.K H' a vs ∧ RDs g ρ' H' s.ds vs)) := by
  cases r with
  | n h1 h2 h3 h4 =>
    cases h
    exact ⟨trivial, _, rfl, .inl fun ρ' S' H' x _ _ => ⟨_, SqL.of (x.fr _ _ h2 h1).1, x.rds sm h4⟩⟩
  | d r =>
    cases r with
    | tup h1 r1 =>
      cases h
      exact ⟨trivial, _, rfl, .inr fun ρ' S' H' x _ _ => ⟨_, (x.sub sm).tup _ _ (.inl (.inl h1)), x.rds sm r1⟩⟩
    | ktup h1 r1 =>
      cases h
      exact ⟨trivial, _, rfl, .inr fun ρ' S' H' x _ _ => ⟨_, (x.sub sm).tup _ _ h1, x.rds sm r1⟩⟩
    | sl h1 =>
      cases h
      exact ⟨trivial, _, rfl, .inl fun ρ' S' H' x _ _ => ⟨_, ((x.sub sm).scr _ _ h1).sq, RDs.ints⟩⟩
    | @ref k a e =>
      simp only [srcO] at h
      split at h
      · rename_i xs ec
        cases h
        refine ⟨ec, a, rfl, .inl fun ρ' S' H' x s' ok => ?_⟩
        obtain ⟨o, h1, h2⟩ := s'.cell k a _ (x.pre _ _ e) ok
        cases h2 with
        | lst h2 => exact ⟨_, SqL.of h1, h2⟩
      · cases h
    | _ => cases h
end
section
variable {X : Cx} {tg e : Expr} {pos p : Pos}
theorem i_seq {m : MO} (h : SndO X e m) : SndI X tg e (mSrc m) := pi_imp (pi_seq h) fun σ H R h => by
  obtain ⟨ρ, l, S, s, S', hs, hl, hm, q⟩ := h
  obtain ⟨⟨o, S1⟩, e1, hm⟩ := bind2 hm
  obtain ⟨s1, e2, hm⟩ := bind2 hm
  cases hm
  refine ⟨ρ, l, S, o, _, hs, hl, e1, fun ρ1 v H1 x1 sm r1 => ?_⟩
  obtain ⟨ok, a, ev, hq⟩ := seq_stays sm r1 e2
  subst ev
  rcases hq with hq | hq
  · obtain ⟨vs, h1, _⟩ := hq ρ1 S1 H1 Ext.refl sm ok
    exact ⟨a, rfl, .inl ⟨⟨vs, h1⟩, q ρ1 H1 _ x1 sm (src_lst hq)⟩⟩
  · obtain ⟨vs, h1, _⟩ := hq ρ1 S1 H1 Ext.refl sm ok
    exact ⟨a, rfl, .inr ⟨⟨vs, h1⟩, q ρ1 H1 _ x1 sm (src_tup hq)⟩⟩
/-- range -/
def rangeD (lo : Int) (n : Nat) : List D := (List.range n).map fun k => D.int (lo + (k : Nat))
theorem src_rng {g : Wr} {ρ : List Addr} {H : Hp} {lo : Int} {n : Nat} : SrcR g ρ H ⟨rangeD lo n, fun _ => True⟩ (Itr lo n) where
  go := fun i d ρ' S' H' hd x sm ok => by
    have hd' : (rangeD lo n)[i]? = some d := hd
    unfold rangeD at hd'
    rw [List.getElem?_map] at hd'
    by_cases hi : i < n
    · rw [List.getElem?_range hi] at hd'
      cases hd'
      refine ⟨hi, fun y H2 hy => ?_⟩
      obtain ⟨e1, e2⟩ := hy
      subst e1 e2
      exact ⟨Ext.refl, sm, .int _⟩
    · rw [List.getElem?_eq_none (by simpa using hi)] at hd'
      cases hd'
  stop := fun ρ' S' H' x sm ok => by
    show n ≤ (rangeD lo n).length
    unfold rangeD
    simp
def mRng1 (m : M) : MI := fun l S => (m l S).bind fun p => match p.1 with
  | .int j => if -(2 ^ 62) ≤ j ∧ j < 2 ^ 62 then some (⟨rangeD 0 j.toNat, fun _ => True⟩, p.2) else none
  | _ => none
theorem i_rng1 {a : Expr} {m : M} (h : Snd X a m) (hm : X.mg "range" = none) (hg : Gl X "range" := by rfl) (hs : starEach [a] X.env = [(false, eval a X.env)] := by rfl) (hs' : starEach (a :: []) X.env = (false, eval a X.env) :: starEach [] X.env := by rfl) : SndI X tg (.Call (.Name "range" p) [a] [] pos) (mRng1 m) :=
  pi_imp (pi_range1 hg hm (sa_cons h sa_nil hs') hs) fun σ H R h => by
  obtain ⟨ρ, l, S, s, S', hs, hl, hm, q⟩ := h
  obtain ⟨⟨x, S1⟩, e1, hm⟩ := bind2 hm
  refine ⟨ρ, l, S, [x], S1, hs, hl, by unfold mCons; rw [e1]; rfl, fun ρ1 vs H1 x1 s1 r1 => ?_⟩
  cases r1 with
  | cons r1 r2 =>
    cases r2
    cases r1 <;> first
      | (rename_i i
         dsimp only at hm
         split at hm
         · rename_i hb
           cases hm
           exact ⟨i, rfl, hb.1, hb.2, q ρ1 H1 _ x1 s1 src_rng⟩
         · cases hm)
      | cases hm
def mRng2 (m m' : M) : MI := fun l S => (m l S).bind fun p => (m' l p.2).bind fun r => match p.1, r.1 with
  | .int i, .int j => if (-(2 ^ 62) ≤ i ∧ i < 2 ^ 62) ∧ -(2 ^ 62) ≤ j ∧ j < 2 ^ 62 then some (⟨rangeD i (j - i).toNat, fun _ => True⟩, r.2) else none
  | _, _ => none
theorem i_rng2 {a b : Expr} {m m' : M} (h : Snd X a m) (h' : Snd X b m') (hm : X.mg "range" = none) (hg : Gl X "range" := by rfl) (hs : starEach [a, b] X.env = [(false, eval a X.env), (false, eval b X.env)] := by rfl) (hs2 : starEach [b] X.env = [(false, eval b X.env)] := by rfl)
    (hs3 : starEach (a :: [b]) X.env = (false, eval a X.env) :: starEach [b] X.env := by rfl) (hs4 : starEach (b :: []) X.env = (false, eval b X.env) :: starEach [] X.env := by rfl) : SndI X tg (.Call (.Name "range" p) [a, b] [] pos) (mRng2 m m') :=
  pi_imp (pi_range2 hg hm (sa_cons h (sa_cons h' sa_nil hs4) hs3) hs hs2) fun σ H R h => by
  obtain ⟨ρ, l, S, s, S', hs, hl, hm, q⟩ := h
  obtain ⟨⟨x, S1⟩, e1, hm⟩ := bind2 hm
  obtain ⟨⟨y, S2⟩, e2, hm⟩ := bind2 hm
  refine ⟨ρ, l, S, [x, y], S2, hs, hl, by unfold mCons; rw [e1]; dsimp only [Option.bind_some]; rw [e2]; rfl, fun ρ1 vs H1 x1 s1 r1 => ?_⟩
  cases r1 with
  | cons r1 r2 =>
    cases r2 with
    | cons r2 r3 =>
      cases r3
      dsimp only at hm
      cases r1 with
      | int i =>
        cases r2 with
        | int j =>
          replace hm : (if (-(2 ^ 62) ≤ i ∧ i < 2 ^ 62) ∧ -(2 ^ 62) ≤ j ∧ j < 2 ^ 62 then some ((⟨rangeD i (j - i).toNat, fun _ => True⟩ : Src), S2) else none) = some (s, S') := hm
          split at hm
          · rename_i hb
            cases hm
            exact ⟨i, j, rfl, ⟨hb.1.1, hb.1.2, hb.2⟩, q ρ1 H1 _ x1 s1 src_rng⟩
          · cases hm
        | _ => cases hm
      | _ => cases hm
end

/-! ### for -/
open Classical in
noncomputable def forL (ok : Sto → Prop) (tg : MG) (body : MS) : List D → MS
  | [] => fun l S => if ok S then some (.nx l, S) else none
  | d :: ds => fun l S => if ok S then (tg d l S).bind fun l1 => (body l1 S).bind fun p => match p.1 with
      | .nx l2 => forL ok tg body ds l2 p.2
      | .ct l2 => forL ok tg body ds l2 p.2
      | .bk l2 => some (.nx l2, p.2)
      | .rt r => some (.rt r, p.2)
    else none
noncomputable def mFor (src : MI) (tg : MG) (body : MS) : MS := fun l S => (src l S).bind fun p => forL p.1.ok tg body p.1.ds l p.2
theorem drop_cons' {α : Type} {xs : List α} {i : Nat} {d : α} {r : List α} (h : xs.drop i = d :: r) : xs[i]? = some d ∧ xs.drop (i + 1) = r := by
  have hi : i < xs.length := by
    have := congrArg List.length h
    rw [List.length_drop, List.length_cons] at this
    omega
  rw [List.drop_eq_getElem_cons hi] at h
  injection h with h1 h2
  exact ⟨by rw [List.getElem?_eq_getElem hi, h1], h2⟩
theorem drop_nil' {α : Type} {xs : List α} {i : Nat} (h : xs.drop i = []) : xs.length ≤ i := List.drop_eq_nil_iff.mp h
section
variable {X : Cx} {tg e : Expr} {pos : Pos}
theorem st_for {body : List Stmt} {src : MI} {is : List Nat} {mg : MG} {mb : MS} (hp : PassesOwn (model X.prog X.w) X.A X.env X.xe) (hc : X.calm = true) (hi : SndI X tg e src) (hg : SndG X tg is mg) (hb : SndB X body mb)
    (hs : ∀ x, foldedSetIterable e X.env x = pure x := by intro _; rfl) : SndS X (.For tg e body [] pos) (mFor src mg mb) := ps_imp (ps_for hp hc hi hg hb hs) fun E σ H h => by
  obtain ⟨ρ, l, S, f, S', hs, hl, hm, q⟩ := h
  obtain ⟨⟨s, S1⟩, e1, hm⟩ := bind2 hm
  refine ⟨ρ, l, S, s, S1, hs, hl, e1, fun ρ1 H1 J x1 s1 sr => ?_⟩
  refine ⟨fun i m σ H => ∃ ρi li Si, Ext ρ1 H1 ρi H ∧ Sim (Cx.g X) ρi Si H ∧ LocR (Cx.g X) ρi H li σ ∧ m = (s.ds.drop i).length ∧ i ≤ s.ds.length ∧ forL s.ok mg mb (s.ds.drop i) li Si = some (f, S'),
    ⟨_, ρ1, l, S1, Ext.refl, s1, x1.loc hs hl, rfl, Nat.zero_le _, hm⟩, ?_⟩
  rintro i m σi Hi ⟨ρi, li, Si, xi, si, hli, rfl, hle, hf⟩
  cases hd : s.ds.drop i with
  | nil =>
    rw [hd] at hf
    simp only [forL] at hf
    split at hf
    · rename_i ok
      cases hf
      have hi : i = s.ds.length := Nat.le_antisymm hle (drop_nil' hd)
      subst hi
      exact .inl ⟨sr.stop ρi _ Hi xi si ok, q ρi Hi (x1.trans xi) si σi hli⟩
    · cases hf
  | cons d rest =>
    rw [hd] at hf
    simp only [forL] at hf
    split at hf
    · rename_i ok
      obtain ⟨l1, e2, hf⟩ := bind2 hf
      obtain ⟨⟨f1, S2⟩, e3, hf⟩ := bind2 hf
      obtain ⟨hget, hdrop⟩ := drop_cons' hd
      obtain ⟨go, yl⟩ := sr.go i d ρi Si Hi hget xi si ok
      refine .inr ⟨go, fun σ' H' => ∃ ρ' l' S'', Ext ρ1 H1 ρ' H' ∧ Sim (Cx.g X) ρ' S'' H' ∧ LocR (Cx.g X) ρ' H' l' σ' ∧ forL s.ok mg mb rest l' S'' = some (f, S'), fun σ' H' hN => ?_, fun x H' hy => ?_⟩
      · obtain ⟨ρ', l', S'', a1, a2, a3, a4⟩ := hN
        have hlt : i < s.ds.length := (List.getElem?_eq_some_iff.mp hget).1
        exact ⟨_, by rw [List.length_cons]; exact Nat.lt_succ_self _, ρ', l', S'', a1, a2, a3, by rw [hdrop], hlt, by rw [hdrop]; exact a4⟩
      · obtain ⟨b1, b2, b3⟩ := yl x H' hy
        refine ⟨ρi, li, Si, d, l1, b2, b1.loc si hli, b3, e2, fun σ1 hl1 _ => ?_⟩
        refine ⟨ρi, l1, Si, f1, S2, b2, hl1, e3, fun ρ2 H2 x2 s2 => ?_⟩
        have xx := (xi.trans b1).trans x2
        cases f1 with
        | nx l2 => exact fun σ2 hl2 => ⟨ρ2, l2, S2, xx, s2, hl2, hf⟩
        | ct l2 => exact fun σ2 hl2 => ⟨ρ2, l2, S2, xx, s2, hl2, hf⟩
        | bk l2 => cases hf; exact fun σ2 hl2 => q ρ2 H2 (x1.trans xx) s2 σ2 hl2
        | rt r => cases hf; exact fun v r2 => q ρ2 H2 (x1.trans xx) s2 v r2
    · cases hf
end
end Zi
set_option maxRecDepth 100000
/-! enumerate, zip, comprehensions -/
namespace Zi
open PySem PySem.Spec PyProof.Rows L2

/-! ### enumerate of a tuple -/
set_option maxHeartbeats 1000000 in
theorem meets_enum1 {v : Value} {o : Obj} {H : Heap → Prop} (B : Begins v o H) :
    Meets (Builtin.«enumerate.__new__» ⟨[.type "enumerate", v], []⟩) (fun _ R s => H s.heap ∧
      R (.ok (.ret (.ref (s.heap.push o).objs.size))) { s with heap := (s.heap.push o).push { cls := .type "enumerate", data := .fields #[.none, .bool false, .ref s.heap.objs.size, rawInt 0, .none, .none] } }) :=
  .of_wp fun prog w A R s h => by
    obtain ⟨hp, g, d, tk, os⟩ := s; obtain ⟨h1, h⟩ := h
    have hs1 := sub_enumerate
    have q1 : ∀ {A' : Around} {E : Value → Shared → Prop} {Q : Value → Shared → Prop}, Q (.ref hp.objs.size) ⟨hp.push o, g, d, tk, os⟩ → wpAny (model prog w) A' (pyIter v) Q E ⟨hp, g, d, tk, os⟩ := fun q => B.iter prog w _ _ ⟨hp, g, d, tk, os⟩ _ h1 q
    wp_walk using q1
    refine wpAny_stack_any fun st => wpAny_pure ?_
    split
    · rename_i c _ _ _ _ _
      cases (c == Value.type "enumerate") <;> (wp_walk using q1; exact ⟨_, rfl, h⟩)
    · wp_walk using q1
      exact ⟨_, rfl, h⟩
section
variable {prog : Program} {w : World} {A : Around} {E : Value → Shared → Prop} {s : Shared}
theorem enum_begins1 {v : Value} {o : Obj} {H : Heap → Prop} {Q : Value → Shared → Prop} (B : Begins v o H) (h1 : H s.heap)
    (h : ∀ h', IsEnum h' (s.heap.objs.size + 1) s.heap.objs.size 0 .none → h'.get? s.heap.objs.size = some o → h'.objs.size = s.heap.objs.size + 2 → (∀ b o, s.heap.get? b = some o → h'.get? b = some o) → Q (.ref (s.heap.objs.size + 1)) { s with heap := h' }) :
    wpAny (model prog w) A (call (.type "enumerate") [v]) Q E s := by
  refine callType_new F.called_enumerate (by decide) (F.typeCall_enumerate_1 _) (F.newCall_enumerate_1 _) (fun obj => F.args_object_init_2 obj _) F.entry_enumerate_new (meets_enum1 B) ⟨h1, ?_⟩
  have hz : (s.heap.push o).objs.size = s.heap.objs.size + 1 := Heap.size_push ..
  show _ ∧ _
  rw [hz]
  have he : IsEnum ((s.heap.push o).push { cls := .type "enumerate", data := .fields #[.none, .bool false, .ref s.heap.objs.size, rawInt 0, .none, .none] }) (s.heap.objs.size + 1) s.heap.objs.size 0 .none := by
    have q := Heap.get?_push_size (s.heap.push o) (o := { cls := .type "enumerate", data := .fields #[.none, .bool false, .ref s.heap.objs.size, rawInt 0, .none, .none] }) rfl
    rw [hz] at q; exact q
  exact ⟨⟨_, he, rfl⟩, h _ he (Heap.get?_push_of_some _ (Heap.get?_push_size _ B.free)) (by rw [Heap.size_push, hz]) fun b o x => Heap.get?_push_of_some _ (Heap.get?_push_of_some _ x)⟩
end
/-- the tuple at a, each item in a new pair -/
def IteT (K : PySem.W.Frag) (a : Addr) : It :=
  ⟨fun i H => ∃ (xs : List V) (x : V), SqT K H a xs ∧ xs[i]? = some x, fun i H v H' => ∃ T x, v = .ref T ∧ H T = none ∧ H' = upd H T (.tup [.int (i : Nat), x]) ∧ ∀ xs, SqT K H a xs → xs[i]? = some x, fun i H => ∃ xs : List V, SqT K H a xs ∧ xs.length ≤ i⟩
theorem turn_enumT {P : Program} {w : World} {K : PySem.W.Frag} {elts : List Expr} {kk : Nat} {tpos : Pos} (a e it : Addr) :
    Turn P w K (.Tuple elts kk tpos) (IteT K a) [e, it] e (fun i h => (∃ old, IsEnum h e it ((i : Nat) : Int) old) ∧ h.IsTupleIter it a i ∧ e ≠ it ∧ a ≠ it ∧ e ≠ a) where
  mem := by simp
  obj := fun i h st b hb => by
    obtain ⟨⟨old, he⟩, ⟨o, ho, hc, hd⟩, _⟩ := st
    rcases (show b = e ∨ b = it by simpa using hb) with z | z
    · rw [z]; exact ⟨_, he, fun v q => nomatch q⟩
    · rw [z]; exact ⟨o, ho, fun v q => by rw [hd] at q; cases q⟩
  keep := fun i h h' st k => by
    obtain ⟨⟨old, he⟩, hi, hne⟩ := st
    exact ⟨⟨old, k e (by simp) _ he⟩, hi.at fun o q => k it (by simp) o q, hne⟩
  item := by
    intro X hP hw hK hc i pins s σ H E I hf st hg
    subst hP hw hK
    obtain ⟨⟨old, he⟩, hit, hne, hai, hea⟩ := st
    obtain ⟨xs, x, hq, hx⟩ := hg
    obtain ⟨its, rv, p, hz⟩ := I.tuple hq
    obtain ⟨u, hu, ru⟩ := rv.get hx
    have hel : e < s.heap.objs.size := Heap.lt_size he
    have hil : it < s.heap.objs.size := by obtain ⟨_, q, _⟩ := hit; exact Heap.lt_size q
    have hlt : i < its.toArray.size := by
      obtain ⟨hh, _⟩ := List.getElem?_eq_some_iff.mp hu
      simpa using hh
    have DD := Draws.tuple (prog := X.prog) (w := X.w) (A := X.A.in1) (show X.A.in1.handled = none from I.ok.hd hc) it a hai its.toArray
    refine wpAny_pyNext_enum_itemD DD he ⟨hit, p⟩ hlt hne (by simp [hne, hea]) fun x' h' tk hPx ho hst' hT hsz hk => ?_
    have hxu : x' = u := by
      have e1 : its.toArray[i]? = some x' := hPx
      rw [List.getElem?_toArray, hu] at e1
      cases e1; rfl
    subst hxu
    refine ⟨_, rfl, wpAny_letOwnedTupleGo_enum (s := { s with heap := h', toks := tk + 1 }) ho fun h'' he' sb => ?_⟩
    have hT2 : h''.get? s.heap.objs.size = some { cls := .type "tuple", data := .seq #[.int i tk, x'] } := (sb.2 _ (Nat.ne_of_gt hel)).trans hT
    have new : ObjOk X.prog X.w (upd H s.heap.objs.size (.tup [.int (i : Nat), x])) h'' s.heap.objs.size (.tup [.int (i : Nat), x]) :=
      ⟨by show 2 ≤ sizeLine; decide, [.int i tk, x'], .cons ⟨_, rfl⟩ (.cons ru .nil), ⟨_, hT2, rfl, _, rfl⟩⟩
    have I1 : Inv X pins σ (upd H s.heap.objs.size (.tup [.int (i : Nat), x])) { s with heap := h'', toks := tk + 1 } :=
      I.turnedNew (ch := [e, it]) (fun b ob hb q => (sb.2 b (fun z => hb (by simp [z]))).trans (hk b ob (fun z => hb (by simp [z])) (fun z => hb (by simp [z])) q)) hf (Nat.le_refl _) new
    refine ⟨.ref s.heap.objs.size, _, I1, rfl, ⟨_, x, rfl, I.hok.fresh (Nat.le_refl _), rfl, fun ys hy => by rw [I.tuple_inj hy hq]; exact hx⟩, ⟨⟨x', ?_⟩, hst'.1.at fun o q => (sb.2 it (Ne.symm hne)).trans q, hne, hai, hea⟩, fun b hb => ?_⟩
    · rw [show ((i + 1 : Nat) : Int) = (i : Int) + 1 by omega]; exact he'
    · have hb' : b < s.heap.objs.size := by
        rcases (show b = e ∨ b = it by simpa using hb) with z | z
        · rw [z]; exact hel
        · rw [z]; exact hil
      rw [upd_ne (Nat.ne_of_lt hb')]
      exact (hf b hb).1
  done := by
    intro X hP hw hK hc i pins s σ H E I hf st hg
    subst hP hw hK
    obtain ⟨⟨old, he⟩, hit, hne, hai, hea⟩ := st
    obtain ⟨xs, hq, hx⟩ := hg
    obtain ⟨its, rv, p, hz⟩ := I.tuple hq
    obtain ⟨f0, f1, f2, f3, f4, f5⟩ := hf it (by simp)
    have hl := rv.length
    by_cases hi : i = its.toArray.size
    · subst hi
      have DD := Draws.tuple (prog := X.prog) (w := X.w) (A := X.A.in1) (show X.A.in1.handled = none from I.ok.hd hc) it a hai its.toArray
      exact wpAny_pyNext_enum_endD DD he ⟨hit, p⟩ fun h' eb => ⟨rfl, I.turned (t' := s.toks) (fun b o hb q => eb b o hb q) f0 f1 f3 f4 f5⟩
    · have hT : s.TypeIs (.ref e) "enumerate" := ⟨_, he, rfl⟩
      unfold pyNext
      refine wpAny_bind (wpAny_attempt (wpAny_callSpecial?_slot (name := Str.ofString "__next__") hT F.slot_enumerate_next (wpAny_call_entry F.slot_enumerate_next hT F.entry_enumerate_next ?_ (F.args_enumerate_next_1 _))))
      show wpAny _ _ (field (.ref e) 2 >>= _) _ _ _
      refine wpAny_bind (wpAny_field he rfl (x := .ref it) rfl ?_)
      refine wpAny_bind (wpAny_nextOf_tuple_end (show X.A.in1.handled = none from I.ok.hd hc) hit p (by rw [List.getElem?_toArray]; exact List.getElem?_eq_none (by omega)) fun h' x' he' hx' => ?_)
      obtain ⟨o, ho, hcl⟩ := hx'
      refine wpAny_bind (wpAny_isInstance (T := "StopIteration") (b := true) ⟨o, ho, hcl⟩ isSubtype_stop ?_)
      exact wpAny_pure ⟨rfl, I.turned (t' := s.toks) (fun b o hb q => he' b o hb q) f0 f1 f3 f4 f5⟩
  self := fun A i s Q E st h => let ⟨⟨_, he⟩, _⟩ := st; wpAny_pyIter_enum he h
/-- enumerate(list or tuple) -/
def iEnumX (K : PySem.W.Frag) (ta : TA) : TI := fun σ H R => ta σ H fun vs H1 => ∃ a, vs = [.ref a] ∧ (((∃ xs, SqL K H1 a xs) ∧ R (Ite K a) H1) ∨ ((∃ xs, SqT K H1 a xs) ∧ R (IteT K a) H1))
theorem pi_enumX {X : Cx} {e : Expr} {ta : TA} {p pos tpos : Pos} {elts : List Expr} {kk : Nat} (hg : Gl X "enumerate") (hm : X.mg "enumerate" = none) (ha : PA X [e] ta) (hs : starEach [e] X.env = [(false, eval e X.env)]) :
    PI X (.Tuple elts kk tpos) (.Call (.Name "enumerate" p) [e] [] pos) (iEnumX X.K ta) := by
  refine ⟨fun pins s σ H R I h => Call_ (ld_blt I hg hm boot_enumerate (PyProof.Rows.callWith_type1 (thn (ha.run pos pins s σ H _ I h) fun us s1 ⟨vs, H1, I1, r1, q1⟩ => ?_) hs rfl))⟩
  obtain ⟨a, ex, q1⟩ := q1
  subst ex
  cases r1 with
  | cons r rr =>
    cases rr
    cases r
    have fresh : ∀ b ∈ [s1.heap.objs.size + 1, s1.heap.objs.size], FpOk X pins H1 b := fun b hb => by
      have hle : s1.heap.objs.size ≤ b := by
        rcases (show b = s1.heap.objs.size + 1 ∨ b = s1.heap.objs.size by simpa using hb) with z | z
        · rw [z]; exact Nat.le_add_right _ _
        · rw [z]; exact Nat.le_refl _
      exact I1.fpOk hle (I1.hok.fresh hle)
    rcases q1 with ⟨⟨xs, hq⟩, q⟩ | ⟨⟨xs, hq⟩, q⟩
    · obtain ⟨its, rv, p', hz⟩ := I1.list hq
      refine call_enumerate_list p'.isList fun h' he hit hsz hk => wpAny_pyIter_enum he ?_
      exact ⟨s1.heap.objs.size + 1, [s1.heap.objs.size + 1, s1.heap.objs.size], _, _, H1, rfl, I1.kept (t' := s1.toks) hk, turn_enum a (s1.heap.objs.size + 1) s1.heap.objs.size, ⟨⟨.none, he⟩, hit, Nat.succ_ne_self _⟩, fresh, q⟩
    · obtain ⟨its, rv, p', hz⟩ := I1.tuple hq
      obtain ⟨o', ho', _⟩ := id p'
      have hlt : a < s1.heap.objs.size := Heap.lt_size ho'
      refine enum_begins1 (begins_tuple a its.toArray) p' fun h' he hit hsz hk => wpAny_pyIter_enum he ?_
      exact ⟨s1.heap.objs.size + 1, [s1.heap.objs.size + 1, s1.heap.objs.size], _, _, H1, rfl, I1.kept (t' := s1.toks) hk, turn_enumT a (s1.heap.objs.size + 1) s1.heap.objs.size, ⟨⟨.none, he⟩, ⟨_, hit, rfl, rfl⟩, Nat.succ_ne_self _, Nat.ne_of_lt hlt, Nat.ne_of_gt (Nat.lt_succ_of_lt hlt)⟩, fresh, q⟩
def enumD : Nat → List D → List D
  | _, [] => []
  | k, d :: ds => .tup [.int (k : Nat), d] :: enumD (k + 1) ds
theorem enumD_get : ∀ (ds : List D) (k i : Nat), (enumD k ds)[i]? = (ds[i]?).map fun d => .tup [.int ((k + i : Nat) : Int), d]
  | [], _, _ => by simp [enumD]
  | d :: ds, k, 0 => by simp [enumD]
  | d :: ds, k, i + 1 => by
    show (enumD (k + 1) ds)[i]? = (ds[i]?).map _
    rw [enumD_get ds (k + 1) i, show k + 1 + i = k + (i + 1) by omega]
theorem enumD_len : ∀ (ds : List D) (k : Nat), (enumD k ds).length = ds.length
  | [], _ => rfl
  | d :: ds, k => congrArg (· + 1) (enumD_len ds (k + 1))
def mEnum (m : MO) : MI := fun l S => (m l S).bind fun p => (srcO p.2 p.1).bind fun s => some (⟨enumD 0 s.ds, s.ok⟩, p.2)
section
variable {g : Wr} {ρ : List Addr} {S : Sto} {H : Hp}
theorem src_enumL {a : Addr} {s : Src} (hq : ∀ ρ' S' H', Ext ρ H ρ' H' → Sim g ρ' S' H' → s.ok S' → ∃ vs, SqL g.K H' a vs ∧ RDs g ρ' H' s.ds vs) : SrcR g ρ H ⟨enumD 0 s.ds, s.ok⟩ (Ite g.K a) where
  go := fun i d ρ' S' H' hd x sm ok => by
    obtain ⟨vs, h1, h2⟩ := hq ρ' S' H' x sm ok
    have hd' : (enumD 0 s.ds)[i]? = some d := hd
    rw [enumD_get, Nat.zero_add] at hd'
    obtain ⟨d0, e0, e1⟩ := Option.map_eq_some_iff.mp hd'
    subst e1
    obtain ⟨v, h3, h4⟩ := h2.get e0
    refine ⟨⟨vs, v, h1, h3⟩, fun y H2 hy => ?_⟩
    obtain ⟨T, x', rfl, hT, rfl, hy⟩ := hy
    have e2 := (hy vs h1).symm.trans h3
    cases e2
    exact ⟨Ext.new hT, sm.other (sm.fresh hT) hT, .tup upd_same (.cons (.int _) (.cons ((Ext.new hT).rd sm h4) .nil))⟩
  stop := fun ρ' S' H' x sm ok => by
    obtain ⟨vs, h1, h2⟩ := hq ρ' S' H' x sm ok
    exact ⟨vs, h1, by show vs.length ≤ (enumD 0 s.ds).length; rw [enumD_len, h2.length]; exact Nat.le_refl _⟩
theorem src_enumT {a : Addr} {s : Src} (hq : ∀ ρ' S' H', Ext ρ H ρ' H' → Sim g ρ' S' H' → s.ok S' → ∃ vs, SqT g.K H' a vs ∧ RDs g ρ' H' s.ds vs) : SrcR g ρ H ⟨enumD 0 s.ds, s.ok⟩ (IteT g.K a) where
  go := fun i d ρ' S' H' hd x sm ok => by
    obtain ⟨vs, h1, h2⟩ := hq ρ' S' H' x sm ok
    have hd' : (enumD 0 s.ds)[i]? = some d := hd
    rw [enumD_get, Nat.zero_add] at hd'
    obtain ⟨d0, e0, e1⟩ := Option.map_eq_some_iff.mp hd'
    subst e1
    obtain ⟨v, h3, h4⟩ := h2.get e0
    refine ⟨⟨vs, v, h1, h3⟩, fun y H2 hy => ?_⟩
    obtain ⟨T, x', rfl, hT, rfl, hy⟩ := hy
    have e2 := (hy vs h1).symm.trans h3
    cases e2
    exact ⟨Ext.new hT, sm.other (sm.fresh hT) hT, .tup upd_same (.cons (.int _) (.cons ((Ext.new hT).rd sm h4) .nil))⟩
  stop := fun ρ' S' H' x sm ok => by
    obtain ⟨vs, h1, h2⟩ := hq ρ' S' H' x sm ok
    exact ⟨vs, h1, by show vs.length ≤ (enumD 0 s.ds).length; rw [enumD_len, h2.length]; exact Nat.le_refl _⟩
end
section
variable {X : Cx} {e : Expr} {pos p tpos : Pos} {elts : List Expr} {kk : Nat}
theorem i_enum {m : MO} (h : SndO X e m) (hm : X.mg "enumerate" = none) (hg : Gl X "enumerate" := by rfl) (hs : starEach [e] X.env = [(false, eval e X.env)] := by rfl) (hs1 : starEach (e :: []) X.env = (false, eval e X.env) :: starEach [] X.env := by rfl) :
    SndI X (.Tuple elts kk tpos) (.Call (.Name "enumerate" p) [e] [] pos) (mEnum m) := pi_imp (pi_enumX hg hm (pa_cons h pa_nil hs1) hs) fun σ H R h => by
  obtain ⟨ρ, l, S, s, S', hs, hl, hm, q⟩ := h
  obtain ⟨⟨o, S1⟩, e1, hm⟩ := bind2 hm
  obtain ⟨s1, e2, hm⟩ := bind2 hm
  cases hm
  refine ⟨ρ, l, S, o, _, hs, hl, e1, fun ρ1 v H1 x1 sm r1 => ?_⟩
  obtain ⟨ok, a, ev, hq⟩ := seq_stays sm r1 e2
  subst ev
  rcases hq with hq | hq
  · obtain ⟨vs, h1, _⟩ := hq ρ1 S1 H1 Ext.refl sm ok
    exact ⟨a, rfl, .inl ⟨⟨vs, h1⟩, q ρ1 H1 _ x1 sm (src_enumL hq)⟩⟩
  · obtain ⟨vs, h1, _⟩ := hq ρ1 S1 H1 Ext.refl sm ok
    exact ⟨a, rfl, .inr ⟨⟨vs, h1⟩, q ρ1 H1 _ x1 sm (src_enumT hq)⟩⟩
end

/-! ### zip of two lists, of two tuples -/
def zipD : List D → List D → List D
  | d :: ds, e :: es => .tup [d, e] :: zipD ds es
  | _, _ => []
theorem zipD_get : ∀ (ds es : List D) (i : Nat) (z : D), (zipD ds es)[i]? = some z → ∃ d e, ds[i]? = some d ∧ es[i]? = some e ∧ z = .tup [d, e]
  | [], _, _, _, h => by simp [zipD] at h
  | _ :: _, [], _, _, h => by simp [zipD] at h
  | d :: ds, e :: es, 0, z, h => by
    simp [zipD] at h
    exact ⟨d, e, rfl, rfl, h.symm⟩
  | d :: ds, e :: es, i + 1, z, h => by
    have h' : (zipD ds es)[i]? = some z := h
    exact zipD_get ds es i z h'
theorem zipD_len : ∀ (ds es : List D), ds.length ≤ (zipD ds es).length ∨ es.length ≤ (zipD ds es).length
  | [], _ => .inl (Nat.zero_le _)
  | _ :: _, [] => .inr (Nat.zero_le _)
  | d :: ds, e :: es => (zipD_len ds es).imp Nat.succ_le_succ Nat.succ_le_succ
def isTup : O → Bool
  | .d (.tup _) => true
  | .d (.ktup _) => true
  | _ => false
def mZip (m m' : MO) : MI := fun l S => (m l S).bind fun p => (m' l p.2).bind fun r => if isTup p.1 = isTup r.1 then (srcO r.2 p.1).bind fun s => (srcO r.2 r.1).bind fun s' => some (⟨zipD s.ds s'.ds, fun S => s.ok S ∧ s'.ok S⟩, r.2) else none
section
variable {g : Wr} {ρ : List Addr} {S : Sto} {H : Hp}
theorem src_zipL {a b : Addr} {s s' : Src} (hq : ∀ ρ' S' H', Ext ρ H ρ' H' → Sim g ρ' S' H' → s.ok S' → ∃ vs, SqL g.K H' a vs ∧ RDs g ρ' H' s.ds vs) (hq' : ∀ ρ' S' H', Ext ρ H ρ' H' → Sim g ρ' S' H' → s'.ok S' → ∃ vs, SqL g.K H' b vs ∧ RDs g ρ' H' s'.ds vs) :
    SrcR g ρ H ⟨zipD s.ds s'.ds, fun S => s.ok S ∧ s'.ok S⟩ (Itz g.K a b) where
  go := fun i d ρ' S' H' hd x sm ok => by
    obtain ⟨vs, h1, h2⟩ := hq ρ' S' H' x sm ok.1
    obtain ⟨ws, k1, k2⟩ := hq' ρ' S' H' x sm ok.2
    obtain ⟨d0, d1, e0, e1, rfl⟩ := zipD_get _ _ _ _ hd
    obtain ⟨v, h3, h4⟩ := h2.get e0
    obtain ⟨w, k3, k4⟩ := k2.get e1
    refine ⟨⟨vs, ws, v, w, h1, k1, h3, k3⟩, fun y H2 hy => ?_⟩
    obtain ⟨T, x', y', rfl, hT, rfl, hy, hy'⟩ := hy
    have e2 := (hy vs h1).symm.trans h3
    have e3 := (hy' ws k1).symm.trans k3
    cases e2
    cases e3
    exact ⟨Ext.new hT, sm.other (sm.fresh hT) hT, .tup upd_same (.cons ((Ext.new hT).rd sm h4) (.cons ((Ext.new hT).rd sm k4) .nil))⟩
  stop := fun ρ' S' H' x sm ok => by
    obtain ⟨vs, h1, h2⟩ := hq ρ' S' H' x sm ok.1
    obtain ⟨ws, k1, k2⟩ := hq' ρ' S' H' x sm ok.2
    exact ⟨vs, ws, h1, k1, by rw [← h2.length, ← k2.length]; exact zipD_len _ _⟩
theorem src_zipT {a b : Addr} {s s' : Src} (hq : ∀ ρ' S' H', Ext ρ H ρ' H' → Sim g ρ' S' H' → s.ok S' → ∃ vs, SqT g.K H' a vs ∧ RDs g ρ' H' s.ds vs) (hq' : ∀ ρ' S' H', Ext ρ H ρ' H' → Sim g ρ' S' H' → s'.ok S' → ∃ vs, SqT g.K H' b vs ∧ RDs g ρ' H' s'.ds vs) :
    SrcR g ρ H ⟨zipD s.ds s'.ds, fun S => s.ok S ∧ s'.ok S⟩ (RZ.ItzT g.K a b) where
  go := fun i d ρ' S' H' hd x sm ok => by
    obtain ⟨vs, h1, h2⟩ := hq ρ' S' H' x sm ok.1
    obtain ⟨ws, k1, k2⟩ := hq' ρ' S' H' x sm ok.2
    obtain ⟨d0, d1, e0, e1, rfl⟩ := zipD_get _ _ _ _ hd
    obtain ⟨v, h3, h4⟩ := h2.get e0
    obtain ⟨w, k3, k4⟩ := k2.get e1
    refine ⟨⟨vs, ws, v, w, h1, k1, h3, k3⟩, fun y H2 hy => ?_⟩
    obtain ⟨T, x', y', rfl, hT, rfl, hy, hy'⟩ := hy
    have e2 := (hy vs h1).symm.trans h3
    have e3 := (hy' ws k1).symm.trans k3
    cases e2
    cases e3
    exact ⟨Ext.new hT, sm.other (sm.fresh hT) hT, .tup upd_same (.cons ((Ext.new hT).rd sm h4) (.cons ((Ext.new hT).rd sm k4) .nil))⟩
  stop := fun ρ' S' H' x sm ok => by
    obtain ⟨vs, h1, h2⟩ := hq ρ' S' H' x sm ok.1
    obtain ⟨ws, k1, k2⟩ := hq' ρ' S' H' x sm ok.2
    exact ⟨vs, ws, h1, k1, by rw [← h2.length, ← k2.length]; exact zipD_len _ _⟩
/-- which way it goes, by the data -/
theorem seq_staysL (sm : Sim g ρ S H) {o : O} {v : V} {H₀ : Hp} {s : Src} (r : OR g ρ H H₀ o v) (h : srcO S o = some s) (ht : isTup o = false) : s.ok S ∧ ∃ a, v = .ref a ∧
    ∀ ρ' S' H', Ext ρ H ρ' H' → Sim g ρ' S' H' → s.ok S' → ∃ vs, SqL g.K H' a vs ∧ RDs g ρ' H' s.ds vs := by
  cases r with
  | n h1 h2 h3 h4 =>
    cases h
    exact ⟨trivial, _, rfl, fun ρ' S' H' x _ _ => ⟨_, SqL.of (x.fr _ _ h2 h1).1, x.rds sm h4⟩⟩
  | d r =>
    cases r with
    | tup h1 r1 => cases ht
    | ktup h1 r1 => cases ht
    | sl h1 =>
      cases h
      exact ⟨trivial, _, rfl, fun ρ' S' H' x _ _ => ⟨_, ((x.sub sm).scr _ _ h1).sq, RDs.ints⟩⟩
    | @ref k a e =>
      simp only [srcO] at h
      split at h
      · rename_i xs ec
        cases h
        refine ⟨ec, a, rfl, fun ρ' S' H' x s' ok => ?_⟩
        obtain ⟨o, h1, h2⟩ := s'.cell k a _ (x.pre _ _ e) ok
        cases h2 with
        | lst h2 => exact ⟨_, SqL.of h1, h2⟩
      · cases h
    | _ => cases h
theorem seq_staysT (sm : Sim g ρ S H) {o : O} {v : V} {H₀ : Hp} {s : Src} (r : OR g ρ H H₀ o v) (h : srcO S o = some s) (ht : isTup o = true) : s.ok S ∧ ∃ a, v = .ref a ∧
    ∀ ρ' S' H', Ext ρ H ρ' H' → Sim g ρ' S' H' → s.ok S' → ∃ vs, SqT g.K H' a vs ∧ RDs g ρ' H' s.ds vs := by
  cases r with
  | n h1 h2 h3 h4 => cases ht
  | d r =>
    cases r with
    | tup h1 r1 =>
      cases h
      exact ⟨trivial, _, rfl, fun ρ' S' H' x _ _ => ⟨_, (x.sub sm).tup _ _ (.inl (.inl h1)), x.rds sm r1⟩⟩
    | ktup h1 r1 =>
      cases h
      exact ⟨trivial, _, rfl, fun ρ' S' H' x _ _ => ⟨_, (x.sub sm).tup _ _ h1, x.rds sm r1⟩⟩
    | _ => cases ht
end
section
variable {X : Cx} {e e2 : Expr} {pos p tpos : Pos} {elts : List Expr} {kk : Nat}
theorem i_zip {m m' : MO} (h : SndO X e m) (h' : SndO X e2 m') (hm : X.mg "zip" = none) (hg : Gl X "zip" := by rfl)
    (hs : starEach [e, e2] X.env = (false, eval e X.env) :: starEach [e2] X.env := by rfl) (hs2 : starEach (e2 :: []) X.env = (false, eval e2 X.env) :: starEach [] X.env := by rfl) (hpl : (backTo pos (starEach [e2] X.env)).any (·.1) = false := by rfl) :
    SndI X (.Tuple elts kk tpos) (.Call (.Name "zip" p) [e, e2] [] pos) (mZip m m') := pi_imp (RZ.pi_zipA hg hm (pa_cons h (pa_cons h' pa_nil hs2) hs) hs hpl) fun σ H R h => by
  obtain ⟨ρ, l, S, s, S', hs, hl, hm, q⟩ := h
  obtain ⟨⟨o, S1⟩, e1, hm⟩ := bind2 hm
  obtain ⟨⟨o', S2⟩, e2, hm⟩ := bind2 hm
  split at hm
  · rename_i hk
    obtain ⟨s1, e3, hm⟩ := bind2 hm
    obtain ⟨s2, e4, hm⟩ := bind2 hm
    cases hm
    refine ⟨ρ, l, S, o, _, hs, hl, e1, fun ρ1 v H1 x1 sm r1 => ?_⟩
    refine ⟨ρ1, l, S1, o', _, sm, x1.loc hs hl, e2, fun ρ2 u H2 x2 sm2 r2 => ?_⟩
    have r1' := r1.ext x2 sm
    dsimp only at hk e3 e4
    cases ht : isTup o with
    | true =>
      obtain ⟨ok, a, ev, hq⟩ := seq_staysT sm2 r1' e3 ht
      obtain ⟨ok', b, ev', hq'⟩ := seq_staysT sm2 r2 e4 (by rw [← hk]; exact ht)
      subst ev ev'
      obtain ⟨vs, h1, _⟩ := hq ρ2 S2 H2 Ext.refl sm2 ok
      obtain ⟨ws, k1, _⟩ := hq' ρ2 S2 H2 Ext.refl sm2 ok'
      exact ⟨a, b, vs, ws, rfl, .inr ⟨h1, k1, q ρ2 H2 _ (x1.trans x2) sm2 (src_zipT hq hq')⟩⟩
    | false =>
      obtain ⟨ok, a, ev, hq⟩ := seq_staysL sm2 r1' e3 ht
      obtain ⟨ok', b, ev', hq'⟩ := seq_staysL sm2 r2 e4 (by rw [← hk]; exact ht)
      subst ev ev'
      obtain ⟨vs, h1, _⟩ := hq ρ2 S2 H2 Ext.refl sm2 ok
      obtain ⟨ws, k1, _⟩ := hq' ρ2 S2 H2 Ext.refl sm2 ok'
      exact ⟨a, b, vs, ws, rfl, .inl ⟨h1, k1, q ρ2 H2 _ (x1.trans x2) sm2 (src_zipL hq hq')⟩⟩
  · cases hm
end

/-! ### comprehensions -/
def wipeD (l : Lo) : List Nat → Lo
  | [] => l
  | v :: vs => (wipeD l vs).set v none
theorem LocR.wipe {g : Wr} {ρ : List Addr} {H : Hp} {l : Lo} {σ : L2.St} (h : LocR g ρ H l σ) : ∀ vs : List Nat, LocR g ρ H (wipeD l vs) (wipe σ vs)
  | [] => h
  | v :: vs => (LocR.wipe h vs).setN
theorem wipe_get {σ : L2.St} {i : Nat} : ∀ {vs : List Nat}, i ∈ vs → i < σ.length → (wipe σ vs)[i]? = some none
  | [], h, _ => by simp at h
  | v :: vs, h, hl => by
    unfold L2.wipe
    by_cases hv : v = i
    · subst hv
      rw [List.getElem?_set_self (by rw [wipe_length]; exact hl)]
    · rw [List.getElem?_set_ne hv]
      exact wipe_get (by rcases List.mem_cons.mp h with z | z; exact absurd z.symm hv; exact z) hl
theorem wipe_get' {σ : L2.St} {i : Nat} : ∀ {vs : List Nat}, i ∉ vs → (wipe σ vs)[i]? = σ[i]?
  | [], _ => rfl
  | v :: vs, h => by
    rw [List.mem_cons, not_or] at h
    unfold L2.wipe
    rw [List.getElem?_set_ne (Ne.symm h.1)]
    exact wipe_get' h.2
theorem wipe_same {σ σ' : L2.St} {vs is : List Nat} (h : SameO is (wipe σ vs) σ') (hs : ∀ j ∈ is, j ∈ vs) : wipe σ' vs = wipe σ vs := by
  have hl : σ'.length = σ.length := h.1.trans (wipe_length _ _)
  refine List.ext_getElem? fun i => ?_
  by_cases hi : i ∈ vs
  · by_cases hlt : i < σ.length
    · rw [wipe_get hi hlt, wipe_get hi (by rw [hl]; exact hlt)]
    · rw [List.getElem?_eq_none (by rw [wipe_length, hl]; omega), List.getElem?_eq_none (by rw [wipe_length]; omega)]
  · rw [wipe_get' hi, h.2 i (fun z => hi (hs i z))]
open Classical in
noncomputable def compL (ok : Sto → Prop) (tg : MG) (c : MT) (elt : M) (l : Lo) : List D → Sto → Option (List D × Sto)
  | [], S => if ok S then some ([], S) else none
  | d :: ds, S => if ok S then (tg d l S).bind fun l1 => (c l1 S).bind fun b => if b.1 = true then (elt l1 b.2).bind fun r => (compL ok tg c elt l ds r.2).bind fun q => some (r.1 :: q.1, q.2) else compL ok tg c elt l ds b.2
    else none
noncomputable def mComp (src : MI) (vs : List Nat) (tg : MG) (c : MT) (elt : M) : MA := fun l S => (src l S).bind fun p => if p.1.ds.length ≤ 1000000 then compL p.1.ok tg c elt (wipeD l vs) p.1.ds p.2 else none
def mYes : MT := fun _ S => some (true, S)
def SndTs (X : Cx) (ifs : List Expr) (m : MT) : Prop := PTs X ifs (tMT (Cx.g X) m)
theorem ts_nil {X : Cx} : SndTs X [] mYes := ⟨fun pins s σ H Q I h => by
  obtain ⟨ρ, l, S, d, S', hs, hl, hm, q⟩ := h
  cases hm
  exact pts_nil.run pins s σ H Q I (q ρ H Ext.refl hs)⟩
theorem ts_one {X : Cx} {c : Expr} {m : MT} (h : SndT X c m) : SndTs X [c] m := pts_one h
theorem Ext.own {ρ ρ' : List Addr} {H H' : Hp} {p : Addr} {o : HO} (x : Ext ρ H ρ' H') (h : H p = none) : Ext ρ H ρ' (upd H' p o) :=
  ⟨x.pre, fun a u n e => ⟨by rw [upd_ne (ne_of_none e h)]; exact (x.fr a u n e).1, (x.fr a u n e).2⟩, fun a u w e => by rw [upd_ne (ne_of_none e h)]; exact x.fz a u w e⟩
theorem Sub.own {g : Wr} {ρ : List Addr} {H : Hp} {p : Addr} {o : HO} {vs : List V} (h : H p = some (.lst vs)) : Sub g ρ H ρ (upd H p o) := by
  have ne : ∀ a u, H a = some u → u ≠ .lst vs → a ≠ p := fun a u e q z => by
    rw [z, h] at e
    exact q (Option.some.inj e).symm
  refine ⟨fun _ _ e => e, fun a xs e => ?_, fun a ns e => ?_, fun a xs e => by rw [upd_ne (ne a _ e (fun z => by cases z))]; exact e⟩
  · rcases e with (e | ⟨ob, e⟩) | e
    · exact .inl (.inl (by rw [upd_ne (ne a _ e (fun z => by cases z))]; exact e))
    · exact .inl (.inr ⟨ob, by rw [upd_ne (ne a _ e (fun z => by cases z))]; exact e⟩)
    · exact .inr e
  · rcases e with ⟨ob, e⟩ | e
    · exact .inl ⟨ob, by rw [upd_ne (ne a _ e (fun z => by cases z))]; exact e⟩
    · exact .inr e
theorem Sim.own {g : Wr} {ρ : List Addr} {S : Sto} {H : Hp} {p : Addr} {o : HO} {vs : List V} (s : Sim g ρ S H) (hn : p ∉ ρ) (h : H p = some (.lst vs)) : Sim g ρ S (L2.upd H p o) := by
  refine ⟨s.len, s.nd, fun n a c h1 h2 => ?_⟩
  obtain ⟨o', h3, h4⟩ := s.cell n a c h1 h2
  have ha : a ∈ ρ := List.mem_of_getElem? h1
  have hne : a ≠ p := fun z => hn (by rw [← z]; exact ha)
  exact ⟨o', by rw [upd_ne hne]; exact h3, h4.mono (Sub.own h)⟩
theorem comp_tLc {g : Wr} {src : MI} {vs is : List Nat} {tg : MG} {c : MT} {elt : M} (hsub : ∀ j ∈ is, j ∈ vs) {σ : L2.St} {H : Hp} {Q : VK} (h : tML g (mComp src vs tg c elt) σ H Q) : tLc (tMI g src) (tMG g is tg) (tMT g c) (tM g elt) vs σ H Q := by
  obtain ⟨ρ, l, S, ds, S', hs, hl, hm, q⟩ := h
  obtain ⟨⟨s, S1⟩, e1, hm⟩ := bind2 hm
  dsimp only at hm
  split at hm
  · rename_i hlen
    refine ⟨ρ, l, S, s, S1, hs, hl, e1, fun ρ1 H1 J x1 s1 sr D hD => ?_⟩
    have hD0 : H D = none := x1.back s1 hD
    refine ⟨fun i m Hi => ∃ ρi Si acc av rest, Ext ρ1 H1 ρi Hi ∧ Sim g ρi Si Hi ∧ D ∉ ρi ∧ Hi D = some (.lst av) ∧ RDs g ρi Hi acc av ∧ acc.length ≤ i ∧ m = (s.ds.drop i).length ∧ i ≤ s.ds.length ∧ compL s.ok tg c elt (wipeD l vs) (s.ds.drop i) Si = some (rest, S') ∧ ds = acc ++ rest,
      ⟨_, ρ1, S1, [], [], ds, Ext.new hD, s1.other (s1.fresh hD) hD, s1.fresh hD, upd_same, .nil, Nat.le_refl _, rfl, Nat.zero_le _, hm, rfl⟩, ?_⟩
    rintro i m Hi ⟨ρi, Si, acc, av, rest, xi, si, hDi, hDa, ra, hal, rfl, hle, hf, hds⟩
    have hloc : LocR g ρi Hi (wipeD l vs) (wipe σ vs) := (xi.loc s1 (x1.loc hs hl)).wipe vs
    cases hd : s.ds.drop i with
    | nil =>
      rw [hd] at hf
      simp only [compL] at hf
      split at hf
      · rename_i ok
        cases hf
        have hi : i = s.ds.length := Nat.le_antisymm hle (drop_nil' hd)
        subst hi
        rw [List.append_nil] at hds
        subst hds
        exact .inl ⟨sr.stop ρi _ Hi xi si ok, q ρi D av Hi (x1.trans xi) si hDa hDi hD0 ra⟩
      · cases hf
    | cons d rest' =>
      rw [hd] at hf
      simp only [compL] at hf
      split at hf
      · rename_i ok
        obtain ⟨l1, e2, hf⟩ := bind2 hf
        obtain ⟨⟨b, S2⟩, e3, hf⟩ := bind2 hf
        obtain ⟨hget, hdrop⟩ := drop_cons' hd
        obtain ⟨go, yl⟩ := sr.go i d ρi Si Hi hget xi si ok
        have hlt : i < s.ds.length := (List.getElem?_eq_some_iff.mp hget).1
        refine .inr ⟨go, fun H' => ∃ ρ' S'' acc' av' rr, Ext ρ1 H1 ρ' H' ∧ Sim g ρ' S'' H' ∧ D ∉ ρ' ∧ H' D = some (.lst av') ∧ RDs g ρ' H' acc' av' ∧ acc'.length ≤ i + 1 ∧ compL s.ok tg c elt (wipeD l vs) rest' S'' = some (rr, S') ∧ ds = acc' ++ rr, fun H' hN => ?_, fun x H' hy => ?_⟩
        · obtain ⟨ρ', S'', acc', av', rr, a1, a2, a3, a4, a5, a6, a7, a8⟩ := hN
          exact ⟨_, by rw [List.length_cons]; exact Nat.lt_succ_self _, ρ', S'', acc', av', rr, a1, a2, a3, a4, a5, a6, by rw [hdrop], hlt, by rw [hdrop]; exact a7, a8⟩
        · obtain ⟨b1, b2, b3⟩ := yl x H' hy
          obtain ⟨hDa', hDi'⟩ := b1.fr D _ hDi hDa
          refine ⟨ρi, wipeD l vs, Si, d, l1, b2, b1.loc si hloc, b3, e2, fun σ1 hl1 so1 => ⟨wipe_same so1 hsub, ?_⟩⟩
          refine ⟨ρi, l1, Si, b, S2, b2, hl1, e3, fun ρ2 H2 x2 s2 => ?_⟩
          obtain ⟨hDa2, hDi2⟩ := x2.fr D _ hDi' hDa'
          have ra2 := x2.rds b2 (b1.rds si ra)
          cases b with
          | true =>
            obtain ⟨⟨r, S3⟩, e4, hf⟩ := bind2 hf
            obtain ⟨⟨rr, S4⟩, e5, hf⟩ := bind2 hf
            cases hf
            refine ⟨ρ2, l1, S2, r, S3, s2, x2.loc b2 hl1, e4, fun ρ3 y H3 x3 s3 r3 => ?_⟩
            obtain ⟨hDa3, hDi3⟩ := x3.fr D _ hDi2 hDa2
            have ra3 := x3.rds s2 ra2
            have xx := ((xi.trans b1).trans x2).trans x3
            refine ⟨av, hDa3, le_line (k := 1000000) ?_ (by decide), ?_⟩
            · rw [← ra.length]
              show acc.length + 1 ≤ 1000000
              omega
            · have sb : Sub (g := g) (ρ := ρ3) (H := H3) ρ3 (upd H3 D (.lst (av ++ [y]))) := Sub.own hDa3
              exact ⟨ρ3, S3, acc ++ [r], av ++ [y], rr, xx.own hD, s3.own hDi3 hDa3, hDi3, upd_same, RDs.append (ra3.mono sb) (.cons (r3.mono sb) .nil), by rw [List.length_append]; show acc.length + 1 ≤ i + 1; omega, e5, by rw [hds, List.append_assoc]; rfl⟩
          | false => exact ⟨ρ2, S2, acc, av, rest, (xi.trans b1).trans x2, s2, hDi2, hDa2, ra2, Nat.le_succ_of_le hal, hf, hds⟩
      · cases hf
  · cases hm
section
variable {X : Cx} {pos : Pos} {elt tg iter : Expr} {ifs : List Expr} {scope : Scope} {own : List (Str × Nat)}
theorem l_comp {src : MI} {is : List Nat} {mg : MG} {c : MT} {m : M} (hc : X.calm = true) (hN : X.N.Nodup) (hi : SndI X tg iter src) (ok : BlkOk X.N X.env.scope scope own) (hsub : ∀ j ∈ is, j ∈ own.map (·.2))
    (hg : ∀ (s : Shared) (H : Hp) (C : Addr) (cl : List (Str × Addr)) (fp : List Addr), SndG (X.blk s H scope (compEnvC scope cl C X.env) fp) tg is mg) (ht : ∀ (s : Shared) (H : Hp) (C : Addr) (cl : List (Str × Addr)) (fp : List Addr), SndTs (X.blk s H scope (compEnvC scope cl C X.env) fp) ifs c)
    (he : ∀ (s : Shared) (H : Hp) (C : Addr) (cl : List (Str × Addr)) (fp : List Addr), Snd (X.blk s H scope (compEnvC scope cl C X.env) fp) elt m) (hs : ∀ x, foldedSetIterable iter X.env x = pure x := by intro _; rfl) :
    SndL X (.ListComp elt [⟨tg, iter, ifs, 0⟩] scope pos) (mComp src (own.map (·.2)) mg c m) := pe_imp (pe_lc (g := tMG (Cx.g X) is mg) (tt := tMT (Cx.g X) c) (te := tM (Cx.g X) m) hc hN hi ok hg ht he hs) fun σ H Q h => comp_tLc hsub h
/-- y = [..] -/
def mSetL (i : Nat) (m : MA) : MS := mSet i (mAlloc m)
theorem st_setL {i : Nat} {y : Str} {py spos : Pos} {src : MI} {is : List Nat} {mg : MG} {c : MT} {m : M} (hc : X.calm = true) (hN : X.N.Nodup) (hy : X.N[i]? = some y) (hyl : X.env.scope.names.lookup y = some .local)
    (hsw : swapsWith (.ListComp elt [⟨tg, iter, ifs, 0⟩] scope pos) (some (.Name y py)) spos.line X.env = pure true) (hi : SndI X tg iter src) (ok : BlkOk X.N X.env.scope scope own) (hsub : ∀ j ∈ is, j ∈ own.map (·.2))
    (hg : ∀ (s : Shared) (H : Hp) (C : Addr) (cl : List (Str × Addr)) (fp : List Addr), SndG (X.blk s H scope (compEnvC scope cl C X.env) fp) tg is mg) (ht : ∀ (s : Shared) (H : Hp) (C : Addr) (cl : List (Str × Addr)) (fp : List Addr), SndTs (X.blk s H scope (compEnvC scope cl C X.env) fp) ifs c)
    (he : ∀ (s : Shared) (H : Hp) (C : Addr) (cl : List (Str × Addr)) (fp : List Addr), Snd (X.blk s H scope (compEnvC scope cl C X.env) fp) elt m) (hs : ∀ x, foldedSetIterable iter X.env x = pure x := by intro _; rfl) :
    SndS X (.Assign [.Name y py] (.ListComp elt [⟨tg, iter, ifs, 0⟩] scope pos) spos) (mSetL i (mComp src (own.map (·.2)) mg c m)) := ps_imp (ps_setLc (g := tMG (Cx.g X) is mg) (tt := tMT (Cx.g X) c) (te := tM (Cx.g X) m) hc hN hy hyl hsw hi ok hg ht he hs) fun E σ H h => by
  obtain ⟨ρ, l, S, f, S', hs, hl, hm, q⟩ := h
  obtain ⟨⟨x, S1⟩, e1, hm⟩ := bind2 hm
  cases hm
  obtain ⟨⟨ds, S2⟩, e2, hm⟩ := bind2 e1
  cases hm
  refine comp_tLc hsub ⟨ρ, l, S, ds, S2, hs, hl, e2, fun ρ1 p vs H1 x1 s1 hp hn hf r1 => ?_⟩
  refine q (ρ1 ++ [p]) H1 (x1.take_in hf) (s1.take_in hp hn (.lst r1)) _ ((((x1.take_in hf).loc hs hl)).set (.ref ?_))
  dsimp only
  rw [← s1.len, List.getElem?_append_right (Nat.le_refl _), Nat.sub_self]
  rfl
end
end Zi
set_option maxRecDepth 100000
/-! built-ins, methods, calls, the program's functions -/
namespace Zi
open PySem PySem.Spec PyProof.Rows L2

section
variable {g : Wr} {ρ : List Addr} {S : Sto} {H H₀ : Hp}
/-- a list's items -/
def lisO (S : Sto) : O → Option (List D)
  | .n ds => some ds
  | .d (.sl ns) => some (ns.map D.int)
  | .d (.ref k) => match S[k]? with
    | some (.lst xs) => some xs
    | _ => none
  | .d _ => none
theorem lis_of (s : Sim g ρ S H) {o : O} {v : V} {ds : List D} (r : OR g ρ H H₀ o v) (h : lisO S o = some ds) : ∃ a vs, v = .ref a ∧ SqL g.K H a vs ∧ RDs g ρ H ds vs := by
  cases r with
  | n h1 h2 h3 h4 => cases h; exact ⟨_, _, rfl, SqL.of h1, h4⟩
  | d r =>
    cases r with
    | sl h1 => cases h; exact ⟨_, _, rfl, h1.sq, RDs.ints⟩
    | @ref k a e =>
      simp only [lisO] at h
      split at h
      · rename_i xs ec
        cases h
        obtain ⟨o, h1, h2⟩ := s.cell k a _ e ec
        cases h2 with
        | lst h2 => exact ⟨_, _, rfl, SqL.of h1, h2⟩
      · cases h
    | _ => cases h
theorem seq_of (s : Sim g ρ S H) {o : O} {v : V} {ds : List D} (r : OR g ρ H H₀ o v) (h : seqO S o = some ds) : ∃ a vs, v = .ref a ∧ (SqL g.K H a vs ∨ (SqT g.K H a vs ∧ ((o = .d (.tup ds) ∧ H a = some (.tup vs)) ∨ o = .d (.ktup ds)))) ∧ RDs g ρ H ds vs := by
  cases r with
  | n h1 h2 h3 h4 => cases h; exact ⟨_, _, rfl, .inl (SqL.of h1), h4⟩
  | d r =>
    cases r with
    | sl h1 => cases h; exact ⟨_, _, rfl, .inl h1.sq, RDs.ints⟩
    | tup h1 r1 => cases h; exact ⟨_, _, rfl, .inr ⟨.inl (.inl h1), .inl ⟨rfl, h1⟩⟩, r1⟩
    | ktup h1 r1 => cases h; exact ⟨_, _, rfl, .inr ⟨h1, .inr rfl⟩, r1⟩
    | @ref k a e =>
      simp only [seqO] at h
      split at h
      · rename_i xs ec
        cases h
        obtain ⟨o, h1, h2⟩ := s.cell k a _ e ec
        cases h2 with
        | lst h2 => exact ⟨_, _, rfl, .inl (SqL.of h1), h2⟩
      · cases h
    | _ => cases h
def allI : List D → Option (List Int)
  | [] => some []
  | .int i :: ds => (allI ds).bind fun r => some (i :: r)
  | _ :: _ => none
def allB : List D → Option (List Bool)
  | [] => some []
  | .bl i :: ds => (allB ds).bind fun r => some (i :: r)
  | _ :: _ => none
theorem allI_ok : ∀ {ds : List D} {vs : List V} {ns : List Int}, RDs g ρ H ds vs → allI ds = some ns → vs = ns.map V.int
  | _, _, _, .nil, h => by cases h; rfl
  | _, _, _, .cons r rs, h => by
    cases r <;> first
      | (obtain ⟨q, e1, h⟩ := bind2 h
         cases h
         rw [allI_ok rs e1]
         rfl)
      | cases h
theorem allB_ok : ∀ {ds : List D} {vs : List V} {ns : List Bool}, RDs g ρ H ds vs → allB ds = some ns → vs = ns.map V.bl
  | _, _, _, .nil, h => by cases h; rfl
  | _, _, _, .cons r rs, h => by
    cases r <;> first
      | (obtain ⟨q, e1, h⟩ := bind2 h
         cases h
         rw [allB_ok rs e1]
         rfl)
      | cases h
theorem allI_map : ∀ ns : List Int, allI (ns.map D.int) = some ns
  | [] => rfl
  | n :: ns => by show (allI (ns.map D.int)).bind _ = _; rw [allI_map ns]; rfl
theorem allB_map : ∀ ns : List Bool, allB (ns.map D.bl) = some ns
  | [] => rfl
  | n :: ns => by show (allB (ns.map D.bl)).bind _ = _; rw [allB_map ns]; rfl
end

/-! ### built-ins of one argument -/
/-- what a built-in makes of its argument -/
abbrev Fn1 := O → Sto → Option (D × Sto)
def Fn1Ok (g : Wr) (r : List V → Hp → VK → Prop) (f : Fn1) : Prop := ∀ ρ S H H₀ x v z S' Q, Sim g ρ S H → OR g ρ H H₀ x v → f x S = some (z, S') →
  (∀ ρ' w H', Ext ρ H ρ' H' → Sim g ρ' S' H' → RD g ρ' H' z w → Q w H') → r [v] H Q
def mFn1 (f : Fn1) (m : MO) : M := fun l S => (m l S).bind fun p => f p.1 p.2
theorem tFn1 {g : Wr} {r : List V → Hp → VK → Prop} {f : Fn1} {m : MO} (hf : Fn1Ok g r f) {σ : L2.St} {H : Hp} {Q : VK} (h : tM g (mFn1 f m) σ H Q) : tCB r (tCons (tMO g m) tNil) σ H Q := by
  obtain ⟨ρ, l, S, d, S', hs, hl, hm, q⟩ := h
  obtain ⟨⟨x, S1⟩, e1, hm⟩ := bind2 hm
  exact ⟨ρ, l, S, x, S1, hs, hl, e1, fun ρ1 v H1 x1 s1 r1 => hf ρ1 S1 H1 H x v d S' Q s1 r1 hm fun ρ2 w H2 x2 s2 r2 => q ρ2 w H2 (x1.trans x2) s2 r2⟩
section
variable {X : Cx} {x : Str} {p pos : Pos} {e : Expr} {id : String}
theorem s_callB {r : List V → Hp → VK → Prop} {f : Fn1} {m : MO} (hc : CallR X (.builtin id) r) (hf : Fn1Ok (Cx.g X) r f) (h : SndO X e m) (hm : X.mg x = none) (hv : bootBuiltins x = some (.builtin id)) (hg : Gl X x) (hn : x ≠ "__name__") (hdb : (x == ("__debug__" : Str)) = false)
    (he : starEach (e :: []) X.env = (false, eval e X.env) :: starEach [] X.env) : Snd X (.Call (.Name x p) [e] [] pos) (mFn1 f m) := pe_imp (pe_callB hc hg hm hv (pa_cons h pa_nil he) hn hdb he rfl) fun _ _ _ h => tFn1 hf h
theorem s_callT {r : List V → Hp → VK → Prop} {f : Fn1} {m : MO} (hc : CallR X (.type id) r) (hf : Fn1Ok (Cx.g X) r f) (h : SndO X e m) (hm : X.mg x = none) (hv : bootBuiltins x = some (.type id)) (hg : Gl X x) (hn : x ≠ "__name__") (hdb : (x == ("__debug__" : Str)) = false)
    (he : starEach (e :: []) X.env = (false, eval e X.env) :: starEach [] X.env) : Snd X (.Call (.Name x p) [e] [] pos) (mFn1 f m) := pe_imp (pe_callTy hc hg hm hv (pa_cons h pa_nil he) hn hdb he rfl) fun _ _ _ h => tFn1 hf h
/-- len -/
def lenO (S : Sto) : O → Option Nat
  | .d (.str z) => if z.length ≤ 1000000 then some z.length else none
  | o => (seqO S o).bind fun ds => some ds.length
def fLen : Fn1 := fun o S => (lenO S o).bind fun n => some (.int (n : Nat), S)
theorem len_ok {g : Wr} : Fn1Ok g (fun xs H Q => ∃ x n, xs = [x] ∧ LenV g.K x H n ∧ Q (.int n) H) fLen := fun ρ S H H₀ o v z S' Q s r h q => by
  obtain ⟨n, e0, h⟩ := bind2 h
  cases h
  have main : ∀ ds, seqO S o = some ds → n = ds.length → ∃ x n, [v] = [x] ∧ LenV g.K x H n ∧ Q (.int n) H := fun ds e1 e2 => by
    subst e2
    obtain ⟨a, vs, rfl, hq, rs⟩ := seq_of s r e1
    refine ⟨_, vs.length, rfl, ?_, q ρ _ H Ext.refl s (by rw [rs.length]; exact .int _)⟩
    rcases hq with hq | ⟨hq, _⟩
    · exact .inl ⟨_, hq, rfl⟩
    · exact .inr ⟨_, hq, rfl⟩
  have gen : (seqO S o).bind (fun ds => some ds.length) = some n → ∃ x n, [v] = [x] ∧ LenV g.K x H n ∧ Q (.int n) H := fun e => by
    obtain ⟨ds, e1, e2⟩ := bind2 e
    cases e2
    exact main ds e1 rfl
  cases r with
  | n h1 h2 h3 h4 => exact gen e0
  | d r =>
    cases r with
    | str w =>
      simp only [lenO] at e0
      split at e0
      · rename_i hz
        cases e0
        exact ⟨_, w.length, rfl, ⟨le_line hz (by decide), rfl⟩, q ρ _ H Ext.refl s (.int _)⟩
      · cases e0
    | _ => exact gen e0
theorem s_len {m : MO} (h : SndO X e m) (hm : X.mg "len" = none) (hg : Gl X "len" := by rfl) (he : starEach (e :: []) X.env = (false, eval e X.env) :: starEach [] X.env := by rfl) : Snd X (.Call (.Name "len" p) [e] [] pos) (mFn1 fLen m) := s_callB call_len len_ok h hm PySem.boot_len hg (by decide) (by decide) he
/-- int(n) -/
def fInt : Fn1 := fun o S => match o with
  | .d (.int i) => some (.int i, S)
  | .d (.bl b) => some (.int (if b then 1 else 0), S)
  | _ => none
theorem int_ok {g : Wr} : Fn1Ok g (fun xs H Q => (∃ i, xs = [.int i] ∧ Q (.int i) H) ∨ ∃ k, xs = [.bl k] ∧ Q (.int (if k then 1 else 0)) H) fInt := fun ρ S H H₀ o v z S' Q s r h q => by
  cases r with
  | n => cases h
  | d r =>
    cases r with
    | int i => cases h; exact .inl ⟨i, rfl, q ρ _ H Ext.refl s (.int _)⟩
    | bl b => cases h; exact .inr ⟨b, rfl, q ρ _ H Ext.refl s (.int _)⟩
    | _ => cases h
theorem s_intc {m : MO} (h : SndO X e m) (hm : X.mg "int" = none) (hg : Gl X "int" := by rfl) (he : starEach (e :: []) X.env = (false, eval e X.env) :: starEach [] X.env := by rfl) : Snd X (.Call (.Name "int" p) [e] [] pos) (mFn1 fInt m) := s_callT call_int1 int_ok h hm PyProof.Rows.boot_int hg (by decide) (by decide) he
/-- str(n) -/
def fStr : Fn1 := fun o S => match o with
  | .d (.int i) => if i.natAbs < 2 ^ 1000 then some (.str (toString i), S) else none
  | _ => none
theorem str_ok {g : Wr} : Fn1Ok g (fun xs H Q => ∃ i : Int, xs = [.int i] ∧ i.natAbs.log2 < 1920 ∧ Q (.str (toString i)) H) fStr := fun ρ S H H₀ o v z S' Q s r h q => by
  cases r with
  | n => cases h
  | d r =>
    cases r with
    | int i =>
      simp only [fStr] at h
      split at h
      · rename_i hz
        cases h
        exact ⟨i, rfl, Nat.lt_of_lt_of_le (PySem.Flt.log2_lt_of (by decide) hz) (by decide), q ρ _ H Ext.refl s (.str _)⟩
      · cases h
    | _ => cases h
theorem s_strc {m : MO} (h : SndO X e m) (hm : X.mg "str" = none) (hg : Gl X "str" := by rfl) (he : starEach (e :: []) X.env = (false, eval e X.env) :: starEach [] X.env := by rfl) : Snd X (.Call (.Name "str" p) [e] [] pos) (mFn1 fStr m) := s_callT call_str_int str_ok h hm PyProof.Rows.boot_str hg (by decide) (by decide) he
/-- tuple(list or tuple) -/
def fTupc : Fn1 := fun o S => match o with
  | .d (.ktup ds) => some (.ktup ds, S)
  | o => (seqO S o).bind fun ds => some (.tup ds, S)
theorem tupc_ok {g : Wr} : Fn1Ok g (fun xs H Q => ∃ p ys, xs = [.ref p] ∧ ((SqL g.K H p ys ∧ ∀ l, H l = none → Q (.ref l) (upd H l (.tup ys))) ∨ (SqT g.K H p ys ∧ Q (.ref p) H))) fTupc := fun ρ S H H₀ o v z S' Q s r h q => by
  have gen : (seqO S o).bind (fun ds => some (D.tup ds, S)) = some (z, S') → (∀ ds, o ≠ .d (.ktup ds)) → ∃ p ys, [v] = [V.ref p] ∧ ((SqL g.K H p ys ∧ ∀ l, H l = none → Q (.ref l) (upd H l (.tup ys))) ∨ (SqT g.K H p ys ∧ Q (.ref p) H)) := fun h hk => by
    obtain ⟨ds, e1, h⟩ := bind2 h
    cases h
    obtain ⟨a, vs, rfl, hq, rs⟩ := seq_of s r e1
    rcases hq with hq | ⟨hq, ⟨ho, hh⟩ | ho⟩
    · exact ⟨a, vs, rfl, .inl ⟨hq, fun l hl => q ρ _ _ (Ext.new hl) (s.other (s.fresh hl) hl) (.tup upd_same ((Ext.new hl).rds s rs))⟩⟩
    · exact ⟨a, vs, rfl, .inr ⟨hq, q ρ _ H Ext.refl s (.tup hh rs)⟩⟩
    · exact absurd ho (hk _)
  unfold fTupc at h
  split at h
  · cases h
    cases r with
    | d r =>
      cases r with
      | ktup hq rs => exact ⟨_, _, rfl, .inr ⟨hq, q ρ _ H Ext.refl s (.ktup hq rs)⟩⟩
  · rename_i hk
    exact gen h (fun ds e => hk ds e)
theorem s_tupc {m : MO} (h : SndO X e m) (hm : X.mg "tuple" = none) (hg : Gl X "tuple" := by rfl) (he : starEach (e :: []) X.env = (false, eval e X.env) :: starEach [] X.env := by rfl) : Snd X (.Call (.Name "tuple" p) [e] [] pos) (mFn1 fTupc m) := s_callT call_tuple_of tupc_ok h hm PyProof.Rows.boot_tuple hg (by decide) (by decide) he
/-- list(list or tuple): a new list -/
def mLisc (m : MO) : MA := fun l S => (m l S).bind fun p => (seqO p.2 p.1).bind fun ds => some (ds, p.2)
theorem l_lisc {m : MO} (h : SndO X e m) (hm : X.mg "list" = none) (hg : Gl X "list" := by rfl) (he : starEach (e :: []) X.env = (false, eval e X.env) :: starEach [] X.env := by rfl) : SndL X (.Call (.Name "list" p) [e] [] pos) (mLisc m) :=
  pe_imp (pe_callTy call_list_of hg hm PyProof.Rows.boot_list (pa_cons h pa_nil he) (by decide) (by decide) he rfl) fun σ H Q h => by
  obtain ⟨ρ, l, S, d, S', hs, hl, hm, q⟩ := h
  obtain ⟨⟨x, S1⟩, e1, hm⟩ := bind2 hm
  obtain ⟨ds, e2, hm⟩ := bind2 hm
  cases hm
  refine ⟨ρ, l, S, x, _, hs, hl, e1, fun ρ1 v H1 x1 s1 r1 => ?_⟩
  obtain ⟨a, vs, rfl, hq, rs⟩ := seq_of s1 r1 e2
  exact ⟨a, vs, rfl, hq.imp id (·.1), fun p hp => q ρ1 p vs _ (x1.trans (Ext.new hp)) (s1.other (s1.fresh hp) hp) upd_same (s1.fresh hp) (x1.back s1 hp) ((Ext.new hp).rds s1 rs)⟩
/-- sum, all, any, max of a list -/
def fSum : Fn1 := fun o S => (lisO S o).bind fun ds => (allI ds).bind fun ns => some (.int ns.sum, S)
theorem sum_ok {g : Wr} : Fn1Ok g (rSum g.K) fSum := fun ρ S H H₀ o v z S' Q s r h q => by
  obtain ⟨ds, e1, h⟩ := bind2 h
  obtain ⟨ns, e2, h⟩ := bind2 h
  cases h
  obtain ⟨a, vs, rfl, hq, rs⟩ := lis_of s r e1
  have e := allI_ok rs e2
  subst e
  exact ⟨a, ns, rfl, hq, q ρ _ H Ext.refl s (.int _)⟩
def fAll : Fn1 := fun o S => (lisO S o).bind fun ds => (allB ds).bind fun bs => some (.bl (bs.all _root_.id), S)
theorem all_ok {g : Wr} : Fn1Ok g (rAll g.K) fAll := fun ρ S H H₀ o v z S' Q s r h q => by
  obtain ⟨ds, e1, h⟩ := bind2 h
  obtain ⟨ns, e2, h⟩ := bind2 h
  cases h
  obtain ⟨a, vs, rfl, hq, rs⟩ := lis_of s r e1
  have e := allB_ok rs e2
  subst e
  exact ⟨a, ns, rfl, hq, q ρ _ H Ext.refl s (.bl _)⟩
def fAny : Fn1 := fun o S => (lisO S o).bind fun ds => (allB ds).bind fun bs => some (.bl (bs.any _root_.id), S)
theorem any_ok {g : Wr} : Fn1Ok g (rAny g.K) fAny := fun ρ S H H₀ o v z S' Q s r h q => by
  obtain ⟨ds, e1, h⟩ := bind2 h
  obtain ⟨ns, e2, h⟩ := bind2 h
  cases h
  obtain ⟨a, vs, rfl, hq, rs⟩ := lis_of s r e1
  have e := allB_ok rs e2
  subst e
  exact ⟨a, ns, rfl, hq, q ρ _ H Ext.refl s (.bl _)⟩
def maxI (i : Int) (ns : List Int) : Int := ns.foldl max i
theorem maxI_ge : ∀ (ns : List Int) (i : Int), i ≤ maxI i ns ∧ (∀ y ∈ ns, y ≤ maxI i ns) ∧ (maxI i ns = i ∨ maxI i ns ∈ ns)
  | [], i => ⟨Int.le_refl _, fun _ h => by simp at h, .inl rfl⟩
  | n :: ns, i => by
    obtain ⟨h1, h2, h3⟩ := maxI_ge ns (max i n)
    have e : maxI i (n :: ns) = maxI (max i n) ns := rfl
    rw [e]
    have a1 : i ≤ max i n := Int.le_max_left ..
    have a2 : n ≤ max i n := Int.le_max_right ..
    refine ⟨Int.le_trans a1 h1, fun y hy => ?_, ?_⟩
    · rcases List.mem_cons.mp hy with z | z
      · rw [z]; exact Int.le_trans a2 h1
      · exact h2 y z
    · rcases h3 with h3 | h3
      · by_cases hc : i ≤ n
        · exact .inr (by rw [h3, show max i n = n by omega]; exact List.mem_cons_self)
        · exact .inl (by rw [h3]; omega)
      · exact .inr (List.mem_cons_of_mem _ h3)
def fMax : Fn1 := fun o S => (lisO S o).bind fun ds => (allI ds).bind fun ns => match ns with
  | n :: r => some (.int (maxI n r), S)
  | [] => none
theorem max_ok {g : Wr} : Fn1Ok g (rMax g.K) fMax := fun ρ S H H₀ o v z S' Q s r h q => by
  obtain ⟨ds, e1, h⟩ := bind2 h
  obtain ⟨ns, e2, h⟩ := bind2 h
  cases ns with
  | nil => cases h
  | cons n rr =>
    cases h
    obtain ⟨a, vs, rfl, hq, rs⟩ := lis_of s r e1
    have e := allI_ok rs e2
    subst e
    obtain ⟨h1, h2, h3⟩ := maxI_ge rr n
    refine ⟨a, n :: rr, rfl, hq, by simp, fun m hm hle => ?_⟩
    have em : m = maxI n rr := by
      refine Int.le_antisymm ?_ (hle _ ?_)
      · rcases List.mem_cons.mp hm with z | z
        · rw [z]; exact h1
        · exact h2 m z
      · rcases h3 with z | z
        · rw [z]; exact List.mem_cons_self
        · exact List.mem_cons_of_mem _ z
    rw [em]
    exact q ρ _ H Ext.refl s (.int _)
theorem boot_sum' : bootBuiltins "sum" = some (.builtin "sum") := by decide +kernel
theorem boot_all' : bootBuiltins "all" = some (.builtin "all") := by decide +kernel
theorem boot_any' : bootBuiltins "any" = some (.builtin "any") := by decide +kernel
theorem boot_max' : bootBuiltins "max" = some (.builtin "max") := by decide +kernel
theorem boot_isi' : bootBuiltins "isinstance" = some (.builtin "isinstance") := by decide +kernel
theorem s_sum {m : MO} (hc : X.calm = true) (h : SndO X e m) (hm : X.mg "sum" = none) (hg : Gl X "sum" := by rfl) (he : starEach (e :: []) X.env = (false, eval e X.env) :: starEach [] X.env := by rfl) : Snd X (.Call (.Name "sum" p) [e] [] pos) (mFn1 fSum m) := s_callB (cr_sum hc) sum_ok h hm boot_sum' hg (by decide) (by decide) he
theorem s_all {m : MO} (hc : X.calm = true) (h : SndO X e m) (hm : X.mg "all" = none) (hg : Gl X "all" := by rfl) (he : starEach (e :: []) X.env = (false, eval e X.env) :: starEach [] X.env := by rfl) : Snd X (.Call (.Name "all" p) [e] [] pos) (mFn1 fAll m) := s_callB (cr_all hc) all_ok h hm boot_all' hg (by decide) (by decide) he
theorem s_any {m : MO} (hc : X.calm = true) (h : SndO X e m) (hm : X.mg "any" = none) (hg : Gl X "any" := by rfl) (he : starEach (e :: []) X.env = (false, eval e X.env) :: starEach [] X.env := by rfl) : Snd X (.Call (.Name "any" p) [e] [] pos) (mFn1 fAny m) := s_callB (cr_any hc) any_ok h hm boot_any' hg (by decide) (by decide) he
theorem s_max {m : MO} (hc : X.calm = true) (h : SndO X e m) (hm : X.mg "max" = none) (hg : Gl X "max" := by rfl) (he : starEach (e :: []) X.env = (false, eval e X.env) :: starEach [] X.env := by rfl) : Snd X (.Call (.Name "max" p) [e] [] pos) (mFn1 fMax m) := s_callB (cr_max hc) max_ok h hm boot_max' hg (by decide) (by decide) he
end

/-! ### max of two, of three ints -/
section
variable {X : Cx} {p pos : Pos} {a b c : Expr} {ma mb mc : M}
def mMax2 (a b : M) : M := fun l S => (a l S).bind fun p => (b l p.2).bind fun q => match p.1, q.1 with
  | .int i, .int j => some (.int (max i j), q.2)
  | _, _ => none
theorem s_max2 (hc : X.calm = true) (ha : Snd X a ma) (hb : Snd X b mb) (hm : X.mg "max" = none) (hg : Gl X "max" := by rfl) (he : starEach (a :: [b]) X.env = (false, eval a X.env) :: starEach [b] X.env := by rfl) (he2 : starEach (b :: []) X.env = (false, eval b X.env) :: starEach [] X.env := by rfl) (hpl : (backTo pos (starEach [b] X.env)).any (·.1) = false := by rfl) : Snd X (.Call (.Name "max" p) [a, b] [] pos) (mMax2 ma mb) :=
  pe_imp (pe_callB (call_max2 hc) hg hm boot_max' (pa_cons ha (pa_cons hb pa_nil he2) he) (by decide) (by decide) he hpl) fun σ H Q h => by
  obtain ⟨ρ, l, S, d, S', hs, hl, hm, q⟩ := h
  obtain ⟨⟨x, S1⟩, e1, hm⟩ := bind2 hm
  obtain ⟨⟨y, S2⟩, e2, hm⟩ := bind2 hm
  refine ⟨ρ, l, S, x, S1, hs, hl, e1, fun ρ1 v H1 x1 s1 r1 => ⟨ρ1, l, S1, y, S2, s1, x1.loc hs hl, e2, fun ρ2 u H2 x2 s2 r2 => ?_⟩⟩
  cases r1 with
  | int i =>
    cases r2 with
    | int j =>
      cases hm
      refine ⟨i, j, rfl, ?_⟩
      rw [show (if j > i then j else i) = max i j by omega]
      exact q ρ2 _ H2 (x1.trans x2) s2 (.int _)
    | _ => cases hm
  | _ => cases hm
theorem call_max3X (hc : X.calm = true) : CallR X (.builtin "max") (fun xs H Q => ∃ i j k, xs = [.int i, .int j, .int k] ∧ Q (.int (max (max i j) k)) H) := by
  intro pins s σ H xs us Q I r h
  obtain ⟨i, j, k, rfl, q⟩ := h
  cases r with
  | cons r1 r =>
    cases r with
    | cons r2 r =>
      cases r with
      | cons r3 r =>
        cases r
        obtain ⟨t1, rfl⟩ := r1
        obtain ⟨t2, rfl⟩ := r2
        obtain ⟨t3, rfl⟩ := r3
        refine max_three_ints (I.ok.hd hc) fun h' tk kp => ⟨_, H, I.kept kp, ?_, q⟩
        by_cases h1 : j > i
        · by_cases h2 : k > j
          · rw [if_pos h1, if_pos h2, show max (max i j) k = k by omega]; exact ⟨_, rfl⟩
          · rw [if_pos h1, if_neg h2, show max (max i j) k = j by omega]; exact ⟨_, rfl⟩
        · by_cases h2 : k > i
          · rw [if_neg h1, if_pos h2, show max (max i j) k = k by omega]; exact ⟨_, rfl⟩
          · rw [if_neg h1, if_neg h2, show max (max i j) k = i by omega]; exact ⟨_, rfl⟩
def mMax3 (a b c : M) : M := fun l S => (a l S).bind fun p => (b l p.2).bind fun q => (c l q.2).bind fun r => match p.1, q.1, r.1 with
  | .int i, .int j, .int k => some (.int (max (max i j) k), r.2)
  | _, _, _ => none
theorem s_max3 (hc : X.calm = true) (ha : Snd X a ma) (hb : Snd X b mb) (hcc : Snd X c mc) (hm : X.mg "max" = none) (hg : Gl X "max" := by rfl) (he : starEach (a :: [b, c]) X.env = (false, eval a X.env) :: starEach [b, c] X.env := by rfl) (he2 : starEach (b :: [c]) X.env = (false, eval b X.env) :: starEach [c] X.env := by rfl)
    (he3 : starEach (c :: []) X.env = (false, eval c X.env) :: starEach [] X.env := by rfl) (hpl : (backTo pos (starEach [b, c] X.env)).any (·.1) = false := by rfl) : Snd X (.Call (.Name "max" p) [a, b, c] [] pos) (mMax3 ma mb mc) :=
  pe_imp (pe_callB (call_max3X hc) hg hm boot_max' (pa_cons ha (pa_cons hb (pa_cons hcc pa_nil he3) he2) he) (by decide) (by decide) he hpl) fun σ H Q h => by
  obtain ⟨ρ, l, S, d, S', hs, hl, hm, q⟩ := h
  obtain ⟨⟨x, S1⟩, e1, hm⟩ := bind2 hm
  obtain ⟨⟨y, S2⟩, e2, hm⟩ := bind2 hm
  obtain ⟨⟨z, S3⟩, e3, hm⟩ := bind2 hm
  refine ⟨ρ, l, S, x, S1, hs, hl, e1, fun ρ1 v H1 x1 s1 r1 => ⟨ρ1, l, S1, y, S2, s1, x1.loc hs hl, e2, fun ρ2 u H2 x2 s2 r2 => ⟨ρ2, l, S2, z, S3, s2, x2.loc s1 (x1.loc hs hl), e3, fun ρ3 w H3 x3 s3 r3 => ?_⟩⟩⟩
  cases r1 with
  | int i =>
    cases r2 with
    | int j =>
      cases r3 with
      | int k =>
        cases hm
        exact ⟨i, j, k, rfl, q ρ3 _ H3 ((x1.trans x2).trans x3) s3 (.int _)⟩
      | _ => cases hm
    | _ => cases hm
  | _ => cases hm
end

/-! ### isinstance -/
def tyNames : List String := ["NoneType", "bool", "int", "str", "tuple", "list", "dict"]
def isTyB (t T : String) : Bool := decide (t = T) || (decide (t = "bool") && decide (T = "int"))
theorem kit_all : (tyNames.all fun t => tyNames.all fun T => decide (kitB t T = some (isTyB t T))) = true := by decide +kernel
theorem kit_at {t T : String} (h1 : t ∈ tyNames) (h2 : T ∈ tyNames) : kitB t T = some (isTyB t T) := of_decide_eq_true (List.all_eq_true.mp (List.all_eq_true.mp kit_all t h1) T h2)
def tyO (S : Sto) : O → Option String
  | .n _ => some "list"
  | .d .non => some "NoneType"
  | .d (.bl _) => some "bool"
  | .d (.int _) => some "int"
  | .d (.str _) => some "str"
  | .d (.tup _) => some "tuple"
  | .d (.ktup _) => some "tuple"
  | .d (.sl _) => some "list"
  | .d (.ref k) => match S[k]? with
    | some (.lst _) => some "list"
    | some (.dK _) => some "dict"
    | some (.dT _) => some "dict"
    | some (.lk _) => some "dict"
    | some (.lkT _) => none
    | none => none
  | .d (.fn _) => none
theorem tyO_ok {g : Wr} {ρ : List Addr} {S : Sto} {H H₀ : Hp} (s : Sim g ρ S H) {o : O} {v : V} {t : String} (r : OR g ρ H H₀ o v) (h : tyO S o = some t) : TyX g.K H v (.type t) ∧ t ∈ tyNames := by
  cases r with
  | n h1 h2 h3 h4 => cases h; exact ⟨.base (.lst h1), by decide⟩
  | d r =>
    cases r with
    | non => cases h; exact ⟨.base .non, by decide⟩
    | bl b => cases h; exact ⟨.base (.bl b), by decide⟩
    | int b => cases h; exact ⟨.base (.int b), by decide⟩
    | str b => cases h; exact ⟨.base (.str b), by decide⟩
    | tup h1 r1 => cases h; exact ⟨.base (.tup h1), by decide⟩
    | ktup h1 r1 =>
      cases h
      refine ⟨?_, by decide⟩
      rcases h1 with (h1 | ⟨o, h1⟩) | ⟨o, its, n, h1, h2, _⟩
      · exact .base (.tup h1)
      · exact .fTuple h1
      · exact .kTuple h1 h2
    | sl h1 =>
      cases h
      refine ⟨?_, by decide⟩
      rcases h1 with ⟨o, h1⟩ | ⟨o, its, n, h1, h2, _⟩
      · exact .base (.frz h1)
      · exact .kList h1 h2
    | @ref k a e =>
      cases ec : S[k]? with
      | none => simp only [tyO, ec] at h; cases h
      | some c =>
        obtain ⟨ob, h1, h2⟩ := s.cell k a _ e ec
        cases h2 with
        | lst h2 => simp only [tyO, ec] at h; cases h; exact ⟨.base (.lst h1), by decide⟩
        | dK h2 => simp only [tyO, ec] at h; cases h; exact ⟨.base (.dK h1), by decide⟩
        | dT h2 => simp only [tyO, ec] at h; cases h; exact ⟨.base (.dT h1), by decide⟩
        | lk h2 => simp only [tyO, ec] at h; cases h; exact ⟨.fDict h1, by decide⟩
        | lkT h2 => simp only [tyO, ec] at h; cases h
    | fn e => cases h
section
variable {X : Cx} {p pos p2 : Pos} {e : Expr}
def mIsI (T : String) (m : MO) : M := fun l S => (m l S).bind fun p => (tyO p.2 p.1).bind fun t => some (.bl (isTyB t T), p.2)
theorem s_isi (T : String) {x : Str} {m : MO} (h : SndO X e m) (hm : X.mg "isinstance" = none) (hT : X.mg x = none) (hb : bootBuiltins x = some (.type T) := by decide +kernel) (hin : T ∈ tyNames := by decide) (hg : Gl X "isinstance" := by rfl) (hgx : Gl X x := by rfl) (hn : x ≠ "__name__" := by decide) (hd : (x == ("__debug__" : Str)) = false := by decide)
    (he : starEach (e :: [.Name x p2]) X.env = (false, eval e X.env) :: starEach [.Name x p2] X.env := by rfl) (he2 : starEach (.Name x p2 :: []) X.env = (false, eval (.Name x p2) X.env) :: starEach [] X.env := by rfl) (hpl : (backTo pos (starEach [.Name x p2] X.env)).any (·.1) = false := by rfl) :
    Snd X (.Call (.Name "isinstance" p) [e, .Name x p2] [] pos) (mIsI T m) := pe_imp (pe_callB call_isi hg hm boot_isi' (pa_cons h (pa_cons (pe_bltn (v := .ty T) hgx hT hb rfl hn hd) pa_nil he2) he) (by decide) (by decide) he hpl) fun σ H Q h => by
  obtain ⟨ρ, l, S, d, S', hs, hl, hm, q⟩ := h
  obtain ⟨⟨x, S1⟩, e1, hm⟩ := bind2 hm
  obtain ⟨t, e2, hm⟩ := bind2 hm
  cases hm
  refine ⟨ρ, l, S, x, _, hs, hl, e1, fun ρ1 v H1 x1 s1 r1 => ?_⟩
  obtain ⟨h1, h2⟩ := tyO_ok s1 r1 e2
  exact ⟨v, .ty T, .type t, .type T, isTyB t T, rfl, .ty T, h1, kit_ty (kit_at h2 hin), q ρ1 _ H1 x1 s1 (.bl _)⟩
end

/-! ### methods of lists -/
section
variable {X : Cx} {pos apos : Pos} {o e : Expr} {mo me : M}
/-- o.append(e) -/
def mApp (o e : M) : M := fun l S => (o l S).bind fun p => match p.1 with
  | .ref k => match p.2[k]? with
    | some (.lst _) => (e l p.2).bind fun r => match r.2[k]? with
      | some (.lst xs) => if xs.length < 1000000 then some (.non, r.2.set k (.lst (xs ++ [r.1]))) else none
      | _ => none
    | _ => none
  | _ => none
theorem s_app (ho : Snd X o mo) (he : Snd X e me) (hbase : attributeBase o "append" X.env (eval o X.env) = eval o X.env := by rfl)
    (hfew : ((backTo pos (starEach [e] X.env)).all (fun x => !x.1) && (backToKw pos (keywordEach [] X.env)).all (fun x => x.1.isSome) && decide (([e] : List Expr).length + ([] : List Keyword).length + (if ([] : List Keyword).isEmpty then 0 else 1) < 30)) = true := by rfl)
    (hline : (apos.endLine == pos.line) = true := by rfl) (hs : starEach (e :: []) X.env = (false, eval e X.env) :: starEach [] X.env := by rfl) : Snd X (.Call (.Attribute o "append" apos) [e] [] pos) (mApp mo me) :=
  pe_imp (pe_bm PySem.F.plainAttrs_list PySem.F.slot_list_append PySem.F.type_list_append mt_append ho (pa_cons he pa_nil hs) hbase hfew hline hs rfl) fun σ H Q h => by
  obtain ⟨ρ, l, S, d, S', hs, hl, hm, q⟩ := h
  obtain ⟨⟨x, S1⟩, e1, hm⟩ := bind2 hm
  refine ⟨ρ, l, S, x, S1, hs, hl, e1, fun ρ1 v H1 x1 s1 r1 => ?_⟩
  cases r1 with
  | @ref k a ek =>
    dsimp only at hm
    split at hm
    · rename_i ys ec
      obtain ⟨ob, h1, h2⟩ := s1.cell k a _ ek ec
      cases h2 with
      | lst h2 =>
        obtain ⟨⟨y, S2⟩, e2, hm⟩ := bind2 hm
        refine ⟨.inl ⟨rfl, _, SqL.of h1⟩, ρ1, l, S1, y, S2, s1, x1.loc hs hl, e2, fun ρ2 u H2 x2 s2 r2 => ?_⟩
        dsimp only at hm
        split at hm
        · rename_i xs ec2
          split at hm
          · rename_i hz
            cases hm
            have ek2 := x2.pre _ _ ek
            obtain ⟨ob2, h3, h4⟩ := s2.cell k a _ ek2 ec2
            cases h4 with
            | lst h4 =>
              obtain ⟨x3, s3⟩ := s2.upd (c := .lst (xs ++ [y])) ek2 ec2 rfl (.lst (RDs.append h4 (.cons r2 .nil)))
              refine ⟨a, _, u, rfl, rfl, h3, ?_, q ρ2 _ _ ((x1.trans x2).trans x3) s3 .non⟩
              rw [sizeLine_eq, ← h4.length]
              omega
          · cases hm
        · cases hm
    · cases hm
  | _ => cases hm
/-- o.reverse() -/
def mRevM (o : M) : M := fun l S => (o l S).bind fun p => match p.1 with
  | .ref k => match p.2[k]? with
    | some (.lst xs) => some (.non, p.2.set k (.lst xs.reverse))
    | _ => none
  | _ => none
theorem s_revm (ho : Snd X o mo) (hbase : attributeBase o "reverse" X.env (eval o X.env) = eval o X.env := by rfl) (hline : (apos.endLine == pos.line) = true := by rfl) : Snd X (.Call (.Attribute o "reverse" apos) [] [] pos) (mRevM mo) :=
  pe_imp (pe_bm0 PySem.F.plainAttrs_list PySem.F.slot_list_reverse PySem.F.type_list_reverse mt_reverse ho hbase hline) fun σ H Q h => by
  obtain ⟨ρ, l, S, d, S', hs, hl, hm, q⟩ := h
  obtain ⟨⟨x, S1⟩, e1, hm⟩ := bind2 hm
  refine ⟨ρ, l, S, x, S1, hs, hl, e1, fun ρ1 v H1 x1 s1 r1 => ?_⟩
  cases r1 with
  | @ref k a ek =>
    dsimp only at hm
    split at hm
    · rename_i ys ec
      obtain ⟨ob, h1, h2⟩ := s1.cell k a _ ek ec
      cases h2 with
      | lst h2 =>
        cases hm
        obtain ⟨x3, s3⟩ := s1.upd (c := .lst ys.reverse) ek ec rfl (.lst h2.reverse)
        exact ⟨.inl ⟨rfl, _, SqL.of h1⟩, a, _, rfl, rfl, h1, q ρ1 _ _ (x1.trans x3) s3 .non⟩
    · cases hm
  | _ => cases hm
/-- o.pop() -/
def mPop (o : M) : M := fun l S => (o l S).bind fun p => match p.1 with
  | .ref k => match p.2[k]? with
    | some (.lst xs) => (xs[xs.length - 1]?).bind fun d => some (d, p.2.set k (.lst xs.dropLast))
    | _ => none
  | _ => none
theorem s_pop (ho : Snd X o mo) (hbase : attributeBase o "pop" X.env (eval o X.env) = eval o X.env := by rfl) (hline : (apos.endLine == pos.line) = true := by rfl) : Snd X (.Call (.Attribute o "pop" apos) [] [] pos) (mPop mo) :=
  pe_imp (pe_bm0 PySem.F.plainAttrs_list PySem.F.slot_list_pop PySem.F.type_list_pop mt_pop ho hbase hline) fun σ H Q h => by
  obtain ⟨ρ, l, S, d, S', hs, hl, hm, q⟩ := h
  obtain ⟨⟨x, S1⟩, e1, hm⟩ := bind2 hm
  refine ⟨ρ, l, S, x, S1, hs, hl, e1, fun ρ1 v H1 x1 s1 r1 => ?_⟩
  cases r1 with
  | @ref k a ek =>
    dsimp only at hm
    split at hm
    · rename_i ys ec
      obtain ⟨ob, h1, h2⟩ := s1.cell k a _ ek ec
      cases h2 with
      | lst h2 =>
        obtain ⟨d0, e2, hm⟩ := bind2 hm
        cases hm
        obtain ⟨w, h3, h4⟩ := h2.get e2
        obtain ⟨x3, s3⟩ := s1.upd (c := .lst ys.dropLast) ek ec rfl (.lst h2.dropLast)
        exact ⟨.inl ⟨rfl, _, SqL.of h1⟩, a, _, w, rfl, rfl, h1, by rw [← h2.length]; exact h3, q ρ1 _ _ (x1.trans x3) s3 (x3.rd s1 h4)⟩
    · cases hm
  | _ => cases hm
/-- o[i] = e, o a list -/
def setF (o i v : D) (S : Sto) : Option Sto := match o, i with
  | .ref k, .int j => match S[k]? with
    | some (.lst xs) => (ixN xs.length j).bind fun n => some (S.set k (.lst (xs.set n v)))
    | _ => none
  | _, _ => none
def mSetI (o i e : M) : MS := fun l S => (e l S).bind fun p => (o l p.2).bind fun q => (i l q.2).bind fun r => (setF q.1 r.1 p.1 r.2).bind fun S3 => some (.nx l, S3)
theorem st_setI {i : Expr} {mi : M} {tpos : Pos} (ho : Snd X o mo) (hi : Snd X i mi) (he : Snd X e me)
    (ha : ∀ v, assign (.Subscript o i tpos) X.env v = (do
      let ov ← holding [v] (eval o X.env)
      let iv ← holding [v, ov] (eval i X.env)
      standAt tpos
      holding [v, ov, iv] (setItem ov iv v)
      release [v, ov, iv] []) := by intro _; rfl) (hs : swapsWithSole [.Subscript o i tpos] e pos.line X.env = pure false := by rfl) (hw : swappedStores [.Subscript o i tpos] e X.env = pure none := by rfl)
    (h1 : (assignEach [.Subscript o i tpos] X.env).map (·.2) = [assign (.Subscript o i tpos) X.env] := by rfl) : SndS X (.Assign [.Subscript o i tpos] e pos) (mSetI mo mi me) := ps_imp (ps_asg he (pg_sub ho hi set_list ha) hs hw h1) fun E σ H h => by
  obtain ⟨ρ, l, S, f, S', hs, hl, hm, q⟩ := h
  obtain ⟨⟨x, S1⟩, e1, hm⟩ := bind2 hm
  obtain ⟨⟨y, S2⟩, e2, hm⟩ := bind2 hm
  obtain ⟨⟨z, S3⟩, e3, hm⟩ := bind2 hm
  obtain ⟨S4, e4, hm⟩ := bind2 hm
  cases hm
  refine ⟨ρ, l, S, x, S1, hs, hl, e1, fun ρ1 v H1 x1 s1 r1 => ?_⟩
  refine ⟨ρ1, l, S1, y, S2, s1, x1.loc hs hl, e2, fun ρ2 ov H2 x2 s2 r2 => ?_⟩
  refine ⟨ρ2, l, S2, z, S3, s2, x2.loc s1 (x1.loc hs hl), e3, fun ρ3 iv H3 x3 s3 r3 => ?_⟩
  have r2' := x3.rd s2 r2
  have r1' := (x2.trans x3).rd s1 r1
  dsimp only at e4
  cases r2' with
  | @ref k a ek =>
    cases r3 with
    | int j =>
      simp only [setF] at e4
      split at e4
      · rename_i xs ec
        obtain ⟨n, e5, e4⟩ := bind2 e4
        cases e4
        obtain ⟨ob, h1, h2⟩ := s3.cell k a _ ek ec
        cases h2 with
        | lst h2 =>
          obtain ⟨x4, s4⟩ := s3.upd (c := .lst (xs.set n x)) ek ec rfl (.lst (h2.set r1' n))
          exact ⟨a, _, j, n, rfl, rfl, h1, by rw [← h2.length]; exact e5, q ρ3 _ (((x1.trans x2).trans x3).trans x4) s4 _ ((((x1.trans x2).trans x3).trans x4).loc hs hl)⟩
      · cases e4
    | _ => cases e4
  | _ => cases e4
end

/-! ### functions -/
/-- what the program's functions give: by name, arguments, store -/
abbrev GF := Nat → List D → Sto → Option (D × Sto)
mutual
/-- no place of the store from n on -/
def refLt (n : Nat) : D → Bool
  | .ref k => decide (k < n)
  | .tup xs => refLtL n xs
  | .ktup xs => refLtL n xs
  | _ => true
def refLtL (n : Nat) : List D → Bool
  | [] => true
  | d :: ds => refLt n d && refLtL n ds
end
def cellLt (n : Nat) : Cell → Bool
  | .lst xs => refLtL n xs
  | .dK kvs => refLtL n (kvs.map (·.2))
  | .dT kvs => refLtL n (kvs.map (·.2))
  | .lk kvs => refLtL n (kvs.map (·.2))
  | .lkT kvs => refLtL n (kvs.map (·.2))
open Classical in
/-- what a call leaves of its own: nothing, or the one list or dict that it hands back -/
noncomputable def fin (S : Sto) (p : D × Sto) : D × Sto :=
  if p.2.take S.length = S then
    if refLt S.length p.1 = true then (p.1, S) else
    match p.1 with
    | .ref k => match p.2[k]? with
      | some c => if cellLt S.length c = true then (.ref S.length, S ++ [c]) else p
      | none => p
    | _ => p
  else p
section
variable {g : Wr} {ρ ρ0 : List Addr} {H : Hp} {n : Nat}
mutual
theorem RD.cut (hn : ∀ (k : Nat) (a : Addr), k < n → ρ[k]? = some a → ρ0[k]? = some a) : ∀ {d : D} {v : V}, RD g ρ H d v → refLt n d = true → RD g ρ0 H d v
  | _, _, .non, _ => .non
  | _, _, .bl b, _ => .bl b
  | _, _, .int i, _ => .int i
  | _, _, .str x, _ => .str x
  | _, _, .tup h hs, e => .tup h (RDs.cutN hn hs (by simpa [refLt] using e))
  | _, _, .ktup h hs, e => .ktup h (RDs.cutN hn hs (by simpa [refLt] using e))
  | _, _, .sl h, _ => .sl h
  | _, _, .ref h, e => .ref (hn _ _ (by simpa [refLt] using e) h)
  | _, _, .fn h, _ => .fn h
theorem RDs.cutN (hn : ∀ (k : Nat) (a : Addr), k < n → ρ[k]? = some a → ρ0[k]? = some a) : ∀ {ds : List D} {vs : List V}, RDs g ρ H ds vs → refLtL n ds = true → RDs g ρ0 H ds vs
  | _, _, .nil, _ => .nil
  | _, _, .cons h hs, e => by
    have e' := Bool.and_eq_true_iff.mp (show (refLt n _ && refLtL n _) = true by simpa [refLtL] using e)
    exact .cons (RD.cut hn h e'.1) (RDs.cutN hn hs e'.2)
end
theorem RDk.cutN {κ : Type} (hn : ∀ (k : Nat) (a : Addr), k < n → ρ[k]? = some a → ρ0[k]? = some a) : ∀ {ds : List (κ × D)} {vs : List (κ × V)}, RDk g ρ H ds vs → refLtL n (ds.map (·.2)) = true → RDk g ρ0 H ds vs
  | _, _, .nil, _ => .nil
  | _, _, .cons h hs, e => by
    have e' := Bool.and_eq_true_iff.mp (show (refLt n _ && refLtL n _) = true by simpa [refLtL] using e)
    exact .cons (h.cut hn e'.1) (RDk.cutN hn hs e'.2)
theorem CellR.cut (hn : ∀ (k : Nat) (a : Addr), k < n → ρ[k]? = some a → ρ0[k]? = some a) {c : Cell} {o : HO} (h : CellR g ρ H c o) (e : cellLt n c = true) : CellR g ρ0 H c o := by
  cases h with
  | lst h => exact .lst (h.cutN hn e)
  | dK h => exact .dK (h.cutN hn e)
  | dT h => exact .dT (h.cutN hn e)
  | lk h => exact .lk (h.cutN hn e)
  | lkT h => exact .lkT (h.cutN hn e)
/-- what a call leaves is held, too -/
theorem fin_ok {S S' : Sto} {H0 : Hp} {d : D} {v : V} (s0 : Sim g ρ0 S H0) (x : Ext ρ0 H0 ρ H) (s : Sim g ρ S' H) (r : RD g ρ H d v) : ∃ ρ', Ext ρ0 H0 ρ' H ∧ Sim g ρ' (fin S (d, S')).2 H ∧ RD g ρ' H (fin S (d, S')).1 v := by
  have same : ∃ ρ', Ext ρ0 H0 ρ' H ∧ Sim g ρ' S' H ∧ RD g ρ' H d v := ⟨ρ, x, s, r⟩
  by_cases hS : S'.take S.length = S
  · have hle : S.length ≤ S'.length := by
      have := congrArg List.length hS
      rw [List.length_take] at this
      omega
    have hpre : ∀ (k : Nat) (a : Addr), k < S.length → ρ[k]? = some a → ρ0[k]? = some a := fun k a hk e => by
      have hk0 : k < ρ0.length := by rw [s0.len]; exact hk
      have e0 := x.pre k ρ0[k] (List.getElem?_eq_getElem hk0)
      rw [e] at e0
      cases e0
      exact List.getElem?_eq_getElem hk0
    have hcell : ∀ (k : Nat) (c : Cell), S[k]? = some c → S'[k]? = some c := fun k c e => by
      have hk : k < S.length := (List.getElem?_eq_some_iff.mp e).1
      rw [← hS, List.getElem?_take_of_lt hk] at e
      exact e
    -- the store's places alone
    have sub0 : ∀ a, a ∈ ρ0 → a ∈ ρ := fun a ha => by
      obtain ⟨k, hk, e⟩ := List.mem_iff_getElem.mp ha
      exact List.mem_of_getElem? (x.pre k a (by rw [List.getElem?_eq_getElem hk, e]))
    have x0 : Ext ρ0 H0 ρ0 H := ⟨fun _ _ e => e, fun a o n e => ⟨(x.fr a o n e).1, n⟩, x.fz⟩
    have cellOf : ∀ (k : Nat) (a : Addr) (c : Cell), ρ0[k]? = some a → S[k]? = some c → ∃ o, H a = some o ∧ CellR g ρ0 H c o := fun k a c e1 e2 => by
      obtain ⟨o, h1, h2⟩ := s.cell k a c (x.pre k a e1) (hcell k c e2)
      obtain ⟨o0, h3, h4⟩ := s0.cell k a c e1 e2
      -- the cell's own references lie in the old store
      have lt : cellLt S.length c = true := by
        have go : ∀ {d : D} {v : V}, RD g ρ0 H0 d v → refLt S.length d = true := by
          intro d v r
          exact RD.rec (motive_1 := fun d v _ => refLt S.length d = true) (motive_2 := fun ds vs _ => refLtL S.length ds = true)
            (by simp [refLt]) (fun _ => by simp [refLt]) (fun _ => by simp [refLt]) (fun _ => by simp [refLt]) (fun _ _ ih => by simp [refLt, ih]) (fun _ => by simp [refLt])
            (fun {n a} e => by
              have := (List.getElem?_eq_some_iff.mp e).1
              simp [refLt, ← s0.len, this]) (fun _ => by simp [refLt]) (fun _ _ ih => by simp [refLt, ih]) (by simp [refLtL]) (fun _ _ i1 i2 => by simp [refLtL, i1, i2]) r
        have gos : ∀ {ds : List D} {vs : List V}, RDs g ρ0 H0 ds vs → refLtL S.length ds = true := by
          intro ds
          induction ds with
          | nil => intro vs _; simp [refLtL]
          | cons d ds ih =>
            intro vs r
            cases r with
            | cons r1 r2 => simp [refLtL, go r1, ih r2]
        have gok : ∀ {κ : Type} {ds : List (κ × D)} {vs : List (κ × V)}, RDk g ρ0 H0 ds vs → refLtL S.length (ds.map (·.2)) = true := by
          intro κ ds
          induction ds with
          | nil => intro vs _; simp [refLtL]
          | cons d ds ih =>
            intro vs r
            cases r with
            | cons r1 r2 => simp [refLtL, go r1, ih r2]
        cases h4 with
        | lst h4 => exact gos h4
        | dK h4 => exact gok h4
        | dT h4 => exact gok h4
        | lk h4 => exact gok h4
        | lkT h4 => exact gok h4
      exact ⟨o, h1, h2.cut hpre lt⟩
    have sim0 : Sim g ρ0 S H := ⟨s0.len, s0.nd, cellOf⟩
    by_cases hr : refLt S.length d = true
    · have e : fin S (d, S') = (d, S) := by unfold fin; dsimp only; rw [if_pos hS, if_pos hr]
      rw [e]
      exact ⟨ρ0, x0, sim0, r.cut hpre hr⟩
    · cases r with
      | @ref k a ek =>
        cases ec : S'[k]? with
        | none =>
          have e : fin S (.ref k, S') = (.ref k, S') := by unfold fin; dsimp only; rw [if_pos hS, if_neg hr]; simp only [ec]
          rw [e]
          exact same
        | some c =>
          by_cases hc : cellLt S.length c = true
          · have e : fin S (.ref k, S') = (.ref S.length, S ++ [c]) := by unfold fin; dsimp only; rw [if_pos hS, if_neg hr]; simp only [ec]; rw [if_pos hc]
            rw [e]
            have hk : ¬ k < S.length := by simpa [refLt] using hr
            have ha0 : a ∉ ρ0 := fun z => by
              obtain ⟨j, hj, ej⟩ := List.mem_iff_getElem.mp z
              have e1 := x.pre j a (by rw [List.getElem?_eq_getElem hj, ej])
              obtain ⟨l1, f1⟩ := List.getElem?_eq_some_iff.mp e1
              obtain ⟨l2, f2⟩ := List.getElem?_eq_some_iff.mp ek
              have : j = k := (List.getElem_inj s.nd).mp (f1.trans f2.symm)
              rw [← this, ← s0.len] at hk
              exact hk hj
            obtain ⟨o, h1, h2⟩ := s.cell k a c ek ec
            have hfresh : H0 a = none := by
              cases e0 : H0 a with
              | none => rfl
              | some u => exact absurd (List.mem_of_getElem? ek) (x.fr a u ha0 e0).2
            refine ⟨ρ0 ++ [a], x0.take_in hfresh, sim0.take_in h1 ha0 (h2.cut hpre hc), .ref ?_⟩
            rw [← s0.len, List.getElem?_append_right (Nat.le_refl _), Nat.sub_self]
            rfl
          · have e : fin S (.ref k, S') = (.ref k, S') := by unfold fin; dsimp only; rw [if_pos hS, if_neg hr]; simp only [ec]; rw [if_neg hc]
            rw [e]
            exact same
      | @tup ds a vs h1 r1 =>
        have e : fin S (.tup ds, S') = (.tup ds, S') := by unfold fin; dsimp only; rw [if_pos hS, if_neg hr]
        rw [e]
        exact same
      | @ktup ds a vs h1 r1 =>
        have e : fin S (.ktup ds, S') = (.ktup ds, S') := by unfold fin; dsimp only; rw [if_pos hS, if_neg hr]
        rw [e]
        exact same
      | _ => exact absurd (by simp [refLt]) hr
  · have e : fin S (d, S') = (d, S') := by unfold fin; dsimp only; rw [if_neg hS]
    rw [e]
    exact same
end
end Zi
set_option maxRecDepth 100000
/-! calls, functions, the law's end -/
namespace Zi
open PySem PySem.Spec PyProof.Rows L2

/-- what a function that computes F promises -/
def spG (g : Wr) (F : List D → Sto → Option (D × Sto)) : Sp := fun vs H Q _ => ∃ ρ S ds d S', Sim g ρ S H ∧ RDs g ρ H ds vs ∧ F ds S = some (d, S') ∧ ∀ ρ' v H', Ext ρ H ρ' H' → Sim g ρ' S' H' → RD g ρ' H' d v → Q v H'
def mCall (F : List D → Sto → Option (D × Sto)) (m : MA) : M := fun l S => (m l S).bind fun p => F p.1 p.2
section
variable {X : Cx} {k : Nat} {f : Addr} {fd : FuncData} {ps : List Str} {x : Str} {p pos : Pos} {e : Expr} {es : List Expr} {F : List D → Sto → Option (D × Sto)} {m : MA}
theorem s_call (G : FnOk X.prog X.w X.K X.mg X.base CX0 k f fd ps (spG (Cx.g X) F)) (hr : Room k X.A) (hm : X.mg x = some (.ref f)) (hk : PySem.W.keepIn X.K (.ref f) = true) (hb : Binds X.K fd ps []) (ha : SndA X (e :: es) m) (hg : Gl X x := by rfl)
    (hdb : (x == ("__debug__" : Str)) = false := by decide) (he : starEach (e :: es) X.env = (false, eval e X.env) :: starEach es X.env := by rfl) (hpl : (backTo pos (starEach es X.env)).any (·.1) = false := by rfl) : Snd X (.Call (.Name x p) (e :: es) [] pos) (mCall F m) :=
  pe_imp (pe_call G hr hg hm hk hb .nil pass0 ha hdb he hpl) fun σ H Q h => by
  obtain ⟨ρ, l, S, d, S', hs, hl, hm, q⟩ := h
  obtain ⟨⟨ds, S1⟩, e1, hm⟩ := bind2 hm
  refine ⟨ρ, l, S, ds, S1, hs, hl, e1, fun ρ1 vs H1 x1 s1 r1 => ?_⟩
  show spG (Cx.g X) F (vs ++ []) H1 Q E0
  rw [List.append_nil]
  exact ⟨ρ1, S1, ds, d, S', s1, r1, hm, fun ρ2 w H2 x2 s2 r2 => q ρ2 w H2 (x1.trans x2) s2 r2⟩
/-- f() -/
theorem s_call0 (G : FnOk X.prog X.w X.K X.mg X.base CX0 k f fd ps (spG (Cx.g X) F)) (hr : Room k X.A) (hm : X.mg x = some (.ref f)) (hk : PySem.W.keepIn X.K (.ref f) = true) (hb : Binds X.K fd ps []) (hg : Gl X x := by rfl)
    (hdb : (x == ("__debug__" : Str)) = false := by decide) : Snd X (.Call (.Name x p) [] [] pos) (mCall F mNil) :=
  pe_imp (pe_call0 G hr hg hm hk hb .nil pass0 hdb) fun σ H Q h => by
  obtain ⟨ρ, l, S, d, S', hs, hl, hm, q⟩ := h
  obtain ⟨⟨ds, S1⟩, e1, hm⟩ := bind2 hm
  cases e1
  exact ⟨ρ, S, [], d, S', hs, .nil, hm, q⟩
end

/-- a function's value by its body -/
abbrev Fb := GF → List D → Sto → Option (D × Sto)
def flOut : Fl × Sto → Option (D × Sto)
  | (.rt d, S) => some (d, S)
  | (.nx _, S) => some (.non, S)
  | _ => none
/-- n parameters, j slots -/
def mkFb (n j : Nat) (ms : GF → MS) : Fb := fun G ds S => if ds.length = n then (ms G (ds.map some ++ List.replicate (j - n) none) S).bind flOut else none
noncomputable def run0 (prog : Nat → Option Fb) : Nat → GF
  | 0 => fun _ _ _ => none
  | k + 1 => fun f ds S => (prog f).bind fun b => (b (run0 prog k) ds S).map (fin S)
/-- .. which nothing unfolds -/
@[irreducible] noncomputable def run (prog : Nat → Option Fb) (k : Nat) : GF := run0 prog k
theorem run_is (prog : Nat → Option Fb) (k : Nat) : run prog k = run0 prog k := by unfold run; rfl
theorem run_succ {prog : Nat → Option Fb} {k i : Nat} {ds : List D} {S : Sto} : run prog (k + 1) i ds S = (prog i).bind fun b => (b (run prog k) ds S).map (fin S) := by rw [run_is, run_is]; rfl
theorem run_zero {prog : Nat → Option Fb} {i : Nat} {ds : List D} {S : Sto} : run prog 0 i ds S = none := by rw [run_is]; rfl
theorem fn_ok {P : Program} {w : World} {K : PySem.W.Frag} {mg : Str → Option Value} {base : Heap} {x qual : Str} {st : Stmt} {f : Addr} {fd : FuncData} {N ps : List Str} {k : Nat} {prog : Nat → Option Fb} {nm : Nat} {ms : GF → MS} (F : Fun K x qual st f fd) (S : FnScope N ps (defScope st))
    (hp : prog nm = some (mkFb ps.length N.length ms))
    (hbody : ∀ (cdv : Value) (A : Around) (outer : List Env) (s : Shared) (H : Hp) (E : XK), Room k (A.deeper (envOfC qual (defScope st) s.heap.objs.size f cdv)) → SndB (cxOf CX0 P w K mg base N qual (defScope st) f cdv A outer s H E).nox (defBody st) (ms (run prog k))) :
    FnOk P w K mg base CX0 (k + 1) f fd ps (spG ⟨K, mg⟩ (run prog (k + 1) nm)) := by
  have out : ∀ {ds : List D} {S S' : Sto} {d : D}, run prog (k + 1) nm ds S = some (d, S') → ds.length = ps.length ∧ ∃ fl S1 d0 S0, ms (run prog k) (ds.map some ++ List.replicate (N.length - ps.length) none) S = some (fl, S1) ∧ flOut (fl, S1) = some (d0, S0) ∧ (d, S') = fin S (d0, S0) := fun {ds S S' d} h => by
    rw [run_succ] at h
    obtain ⟨b, e1, h⟩ := bind2 h
    rw [hp] at e1
    cases e1
    obtain ⟨⟨d0, S0⟩, e2, e3⟩ := Option.map_eq_some_iff.mp h
    simp only [mkFb] at e2
    split at e2
    · rename_i hlen
      obtain ⟨⟨fl, S1⟩, e4, e5⟩ := bind2 e2
      exact ⟨hlen, fl, S1, d0, S0, e4, e5, e3.symm⟩
    · cases e2
  refine F.ok S (fun vs H Q E h => ?_) (fun cdv A outer s H vs Q E hr h => ?_)
  · obtain ⟨ρ, S, ds, d, S', hs, rs, hm, q⟩ := h
    rw [← rs.length]
    exact (out hm).1
  · obtain ⟨ρ, S, ds, d, S', hs, rs, hm, q⟩ := h
    obtain ⟨hlen, fl, S1, d0, S0, e1, e2, e3⟩ := out hm
    refine ⟨_, hbody cdv A outer s H E hr, ρ, _, S, fl, S1, hs, LocR.start_of rs N, by rw [hlen]; exact e1, fun ρ1 H1 x1 s1 => ?_⟩
    have done : ∀ v, RD ⟨K, mg⟩ ρ1 H1 d0 v → S0 = S1 → Q v H1 := fun v r e => by
      subst e
      obtain ⟨ρ2, x2, s2, r2⟩ := fin_ok hs x1 s1 r
      rw [← e3] at s2 r2
      exact q ρ2 v H1 x2 s2 r2
    cases fl with
    | rt d1 => cases e2; exact fun v r => done v r rfl
    | nx l => cases e2; exact fun σ _ => done .non .non rfl
    | bk l => cases e2
    | ct l => cases e2
theorem fn_zero {P : Program} {w : World} {K : PySem.W.Frag} {mg : Str → Option Value} {base : Heap} {f : Addr} {fd : FuncData} {ps : List Str} {prog : Nat → Option Fb} {nm : Nat} : FnOk P w K mg base CX0 0 f fd ps (spG ⟨K, mg⟩ (run prog 0 nm)) :=
by
  refine ⟨fun vs H Q E h => ?_, fun A outer s H args us vs Q E hr he hb hv h => ?_⟩
  · obtain ⟨ρ, S, ds, d, S', hs, rs, hm, q⟩ := h
    rw [run_zero] at hm
    cases hm
  · obtain ⟨ρ, S, ds, d, S', hs, rs, hm, q⟩ := h
    rw [run_zero] at hm
    cases hm
/-- the law's own promise at its entry -/
def spLaw (K : PySem.W.Frag) (F : List D → Sto → Option (D × Sto)) : Sp := fun vs H Q _ => ∃ a ns, vs = [.ref a] ∧ Scr K H a ns ∧ (∃ S', F [.sl ns] [] = some (.bl true, S')) ∧ ∀ H', Q (.bl true) H'
theorem law_imp {K : PySem.W.Frag} {mg : Str → Option Value} {F : List D → Sto → Option (D × Sto)} : ∀ vs H Q E, spLaw K F vs H Q E → spG ⟨K, mg⟩ F vs H Q E := fun vs H Q E h => by
  obtain ⟨a, ns, rfl, hs, ⟨S', h⟩, q⟩ := h
  exact ⟨[], [], [.sl ns], .bl true, S', ⟨rfl, List.nodup_nil, fun n a c e => by simp at e⟩, .cons (.sl hs) .nil, h, fun ρ' v H' _ _ r => by cases r; exact q H'⟩
theorem law_sp {K : PySem.W.Frag} {F : List D → Sto → Option (D × Sto)} {H : Hp} {a : Addr} {ns : List Int} (hO : Only H) (hS : SqL K H a (ns.map V.int)) (h : ∃ S', F [.sl ns] [] = some (.bl true, S')) : spLaw K F [.ref a] H (fun v _ => v = .bl true) fun _ _ _ => False := by
  refine ⟨a, ns, rfl, ?_, h, fun _ => rfl⟩
  rcases hS with (h1 | ⟨o, h1⟩) | h1
  · rcases hO a with z | ⟨o, xs, z⟩
    · rw [h1] at z; cases z
    · rw [h1] at z; cases z
  · exact .inl ⟨o, h1⟩
  · exact .inr h1
theorem hu2 {k : Nat} {A : Around} (hr : Room k A) : A.units + 200 < cLine := by
  have h := hr.un
  omega
theorem room230 : Room 230 callerA := ⟨rfl, by decide, by decide⟩
end Zi
set_option maxRecDepth 100000
/-! more operations: lists joined, tuples compared, while -/
namespace Zi
open PySem PySem.Spec PyProof.Rows L2

/-! ### xs + ys of lists -/
/-- the items of a list that may be joined -/
def ownO (S : Sto) : O → Option (List D)
  | .n ds => some ds
  | .d (.ref k) => match S[k]? with
    | some (.lst xs) => some xs
    | _ => none
  | .d _ => none
theorem own_of {g : Wr} {ρ : List Addr} {S : Sto} {H H₀ : Hp} (s : Sim g ρ S H) {o : O} {v : V} {ds : List D} (r : OR g ρ H H₀ o v) (h : ownO S o = some ds) : ∃ a vs, v = .ref a ∧ H a = some (.lst vs) ∧ RDs g ρ H ds vs := by
  cases r with
  | n h1 h2 h3 h4 => cases h; exact ⟨_, _, rfl, h1, h4⟩
  | d r =>
    cases r with
    | @ref k a e =>
      simp only [ownO] at h
      split at h
      · rename_i xs ec
        cases h
        obtain ⟨o, h1, h2⟩ := s.cell k a _ e ec
        cases h2 with
        | lst h2 => exact ⟨_, _, rfl, h1, h2⟩
      · cases h
    | _ => cases h
def mCatL (a b : MO) : MA := fun l S => (a l S).bind fun p => (b l p.2).bind fun q => (ownO q.2 p.1).bind fun xs => (ownO q.2 q.1).bind fun ys => if xs.length + ys.length ≤ 1000000 then some (xs ++ ys, q.2) else none
section
variable {X : Cx} {pos : Pos} {a b : Expr} {ma mb : MO}
theorem l_cat (ha : SndO X a ma) (hb : SndO X b mb) : SndL X (.BinOp a .Add b pos) (mCatL ma mb) := pe_imp (pe_op op_cat ha hb) fun σ H Q h => by
  obtain ⟨ρ, l, S, d, S', hs, hl, hm, q⟩ := h
  obtain ⟨⟨x, S1⟩, e1, hm⟩ := bind2 hm
  obtain ⟨⟨y, S2⟩, e2, hm⟩ := bind2 hm
  obtain ⟨xs, e3, hm⟩ := bind2 hm
  obtain ⟨ys, e4, hm⟩ := bind2 hm
  split at hm
  · rename_i hz
    cases hm
    refine ⟨ρ, l, S, x, S1, hs, hl, e1, fun ρ1 v H1 x1 s1 r1 => ?_⟩
    refine ⟨ρ1, l, S1, y, S2, s1, x1.loc hs hl, e2, fun ρ2 u H2 x2 s2 r2 => ?_⟩
    obtain ⟨p1, vs, rfl, h1, q1⟩ := own_of s2 (r1.ext x2 s1) e3
    obtain ⟨p2, ws, rfl, h2, q2⟩ := own_of s2 r2 e4
    refine ⟨p1, p2, vs, ws, rfl, rfl, h1, h2, le_line (by rw [← q1.length, ← q2.length]; exact hz) (by decide), fun p hp => ?_⟩
    exact q ρ2 p _ _ ((x1.trans x2).trans (Ext.new hp)) (s2.other (s2.fresh hp) hp) upd_same (s2.fresh hp) ((x1.trans x2).back s2 hp) ((Ext.new hp).rds s2 (q1.append q2))
  · cases hm
end

/-! ### < of tuples of ints -/
def fLtT : OpF := fun x y S => match x, y with
  | .tup xs, .tup ys => (allI xs).bind fun ns => (allI ys).bind fun ms => some (.bl (HT.lexLt ns ms), S)
  | _, _ => none
theorem ltT_ok {g : Wr} : OpOk g (rLtT g.K) fLtT := fun ρ S H x y v u z S' Q s rx ry h q => by
  cases rx with
  | tup h1 r1 =>
    cases ry with
    | tup h2 r2 =>
      obtain ⟨ns, e1, h⟩ := bind2 h
      obtain ⟨ms, e2, h⟩ := bind2 h
      cases h
      have f1 := allI_ok r1 e1
      have f2 := allI_ok r2 e2
      subst f1 f2
      exact ⟨_, _, ns, ms, rfl, rfl, .inl (.inl h1), .inl (.inl h2), q ρ _ H Ext.refl s (.bl _)⟩
    | _ => cases h
  | _ => cases h
section
variable {X : Cx} {pos : Pos} {a b : Expr} {ma mb : M}
theorem s_ltT (hu : X.A.units + 200 < cLine) (ha : Snd X a ma) (hb : Snd X b mb) : Snd X (.Compare a [.Lt] [b] pos) (mOp fLtT ma mb) := s_cmp (op_ltT (by omega)) ltT_ok ha hb (nomark b)
theorem t_ltT (hu : X.A.units + 200 < cLine) (ha : Snd X a ma) (hb : Snd X b mb) : SndT X (.Compare a [.Lt] [b] pos) (mBool (mOp fLtT ma mb)) := t_cmp (op_ltT (by omega)) ltT_ok ha hb (nomark b)
end

/-! ### truth of a list just made -/
def mTruO (m : MO) : MT := fun l S => (m l S).bind fun p => match p.1 with
  | .d d => (truD d p.2).bind fun b => some (b, p.2)
  | .n ds => some (!ds.isEmpty, p.2)
theorem t_valO {X : Cx} {a : Expr} {m : MO} (h : SndO X a m) (he : ∀ whole, isTrue a X.env whole = (do let v ← whole; standAt a.pos; holding [v] (truthy v)) := by intro _; rfl) : SndT X a (mTruO m) := pt_imp (pt_truth h he) fun σ H Q h => by
  obtain ⟨ρ, l, S, d, S', hs, hl, hm, q⟩ := h
  obtain ⟨⟨x, S1⟩, e1, hm⟩ := bind2 hm
  refine ⟨ρ, l, S, x, S1, hs, hl, e1, fun ρ1 v H1 x1 s1 r1 => ?_⟩
  cases r1 with
  | d r1 =>
    obtain ⟨b, e2, hm⟩ := bind2 hm
    cases hm
    exact ⟨d, tru_of s1 r1 e2, q ρ1 H1 x1 s1⟩
  | n h1 h2 h3 h4 =>
    cases hm
    exact ⟨_, .inl ⟨_, SqL.of h1, by rw [h4.isEmpty]⟩, q ρ1 H1 x1 s1⟩

/-! ### while -/
/-- n turns at most -/
def whileL (t : MT) (body : MS) : Nat → MS
  | 0 => fun _ _ => none
  | n + 1 => fun l S => (t l S).bind fun p => if p.1 = true then (body l p.2).bind fun r => match r.1 with
      | .nx l2 => whileL t body n l2 r.2
      | .ct l2 => whileL t body n l2 r.2
      | .bk l2 => some (.nx l2, r.2)
      | .rt d => some (.rt d, r.2)
    else some (.nx l, p.2)
theorem whileL_mono {t : MT} {body : MS} : ∀ {n : Nat} {l : Lo} {S : Sto} {r : Fl × Sto}, whileL t body n l S = some r → whileL t body (n + 1) l S = some r
  | 0, _, _, _, h => by cases h
  | n + 1, l, S, r, h => by
    obtain ⟨⟨b, S1⟩, e1, h⟩ := bind2 h
    show (t l S).bind _ = _
    rw [e1]
    cases b with
    | false => exact h
    | true =>
      obtain ⟨⟨f, S2⟩, e2, h⟩ := bind2 h
      show (body l S1).bind _ = _
      rw [e2]
      cases f with
      | nx l2 => exact whileL_mono h
      | ct l2 => exact whileL_mono h
      | bk l2 => exact h
      | rt d => exact h
theorem whileL_le {t : MT} {body : MS} {n m : Nat} {l : Lo} {S : Sto} {r : Fl × Sto} (h : whileL t body n l S = some r) (hle : n ≤ m) : whileL t body m l S = some r := by
  induction hle with
  | refl => exact h
  | step _ ih => exact whileL_mono ih
open Classical in
/-- as many turns as are wanted -/
noncomputable def mWhile (t : MT) (body : MS) : MS := fun l S => if h : ∃ n r, whileL t body n l S = some r then some h.choose_spec.choose else none
theorem mWhile_of {t : MT} {body : MS} {n : Nat} {l : Lo} {S : Sto} {r : Fl × Sto} (h : whileL t body n l S = some r) : mWhile t body l S = some r := by
  have hex : ∃ n r, whileL t body n l S = some r := ⟨n, r, h⟩
  unfold mWhile
  rw [dif_pos hex]
  have h2 := hex.choose_spec.choose_spec
  have a := whileL_le h (Nat.le_max_left n hex.choose)
  have b := whileL_le h2 (Nat.le_max_right n hex.choose)
  rw [a] at b
  exact b.symm
theorem mWhile_ex {t : MT} {body : MS} {l : Lo} {S : Sto} {r : Fl × Sto} (h : mWhile t body l S = some r) : ∃ n, whileL t body n l S = some r := by
  unfold mWhile at h
  split at h
  · rename_i hex
    cases h
    exact ⟨_, hex.choose_spec.choose_spec⟩
  · cases h
theorem st_while {X : Cx} {pos : Pos} {c : Expr} {body : List Stmt} {t : MT} {mb : MS} (hp : PassesOwn (model X.prog X.w) X.A X.env X.xe) (hc : SndT X c t) (hb : SndB X body mb) : SndS X (.While c body [] pos) (mWhile t mb) := ps_imp (ps_while hp hc hb) fun E σ H h => by
  obtain ⟨ρ, l, S, f, S', hs, hl, hm, q⟩ := h
  obtain ⟨n, hn⟩ := mWhile_ex hm
  refine ⟨fun m σ H1 => ∃ ρ1 l1 S1, Ext ρ H ρ1 H1 ∧ Sim (Cx.g X) ρ1 S1 H1 ∧ LocR (Cx.g X) ρ1 H1 l1 σ ∧ whileL t mb m l1 S1 = some (f, S'), ⟨n, ρ, l, S, Ext.refl, hs, hl, hn⟩, ?_⟩
  rintro m σ1 H1 ⟨ρ1, l1, S1, x1, s1, hl1, hm1⟩
  cases m with
  | zero => cases hm1
  | succ m =>
    obtain ⟨⟨b, S2⟩, e1, hm1⟩ := bind2 hm1
    refine ⟨ρ1, l1, S1, b, S2, s1, hl1, e1, fun ρ2 H2 x2 s2 => ?_⟩
    cases b with
    | false =>
      cases hm1
      exact q ρ2 H2 (x1.trans x2) s2 σ1 (x2.loc s1 hl1)
    | true =>
      obtain ⟨⟨f1, S3⟩, e2, hm1⟩ := bind2 hm1
      refine ⟨fun σ' H' => ∃ ρ' l' S'', Ext ρ H ρ' H' ∧ Sim (Cx.g X) ρ' S'' H' ∧ LocR (Cx.g X) ρ' H' l' σ' ∧ whileL t mb m l' S'' = some (f, S'), fun σ' H' hN => ⟨m, Nat.lt_succ_self _, hN⟩, ?_⟩
      refine ⟨ρ2, l1, S2, f1, S3, s2, x2.loc s1 hl1, e2, fun ρ3 H3 x3 s3 => ?_⟩
      have xx := (x1.trans x2).trans x3
      cases f1 with
      | nx l2 => exact fun σ3 hl3 => ⟨ρ3, l2, S3, xx, s3, hl3, hm1⟩
      | ct l2 => exact fun σ3 hl3 => ⟨ρ3, l2, S3, xx, s3, hl3, hm1⟩
      | bk l2 => cases hm1; exact fun σ3 hl3 => q ρ3 H3 xx s3 σ3 hl3
      | rt d => cases hm1; exact fun v r => q ρ3 H3 xx s3 v r
end Zi
set_option maxRecDepth 100000
/-! dicts keyed by ints or texts, or by tuples of them -/
namespace Zi
open PySem PySem.Spec PyProof.Rows L2

section
variable {κ : Type} [DecidableEq κ]
def valD (kvs : List (κ × D)) (k : κ) : Option D := (kvs.find? fun kv => decide (kv.1 = k)).map (·.2)
def putD (kvs : List (κ × D)) (k : κ) (v : D) : List (κ × D) :=
  if (kvs.any fun kv => decide (kv.1 = k)) = true then kvs.map (fun kv => if kv.1 = k then (kv.1, v) else kv) else kvs ++ [(k, v)]
variable {g : Wr} {ρ : List Addr} {H : Hp}
inductive OptR (g : Wr) (ρ : List Addr) (H : Hp) : Option D → Option V → Prop
  | no : OptR g ρ H none none
  | yes {d : D} {v : V} : RD g ρ H d v → OptR g ρ H (some d) (some v)
theorem OptR.isSome {d : Option D} {v : Option V} (h : OptR g ρ H d v) : d.isSome = v.isSome := by cases h <;> rfl
theorem OptR.getD {d : Option D} {v : Option V} {x : D} {y : V} (h : OptR g ρ H d v) (r : RD g ρ H x y) : RD g ρ H (d.getD x) (v.getD y) := by
  cases h with
  | no => exact r
  | yes h => exact h
theorem RDk.val {k : κ} : ∀ {ds : List (κ × D)} {vs : List (κ × V)}, RDk g ρ H ds vs → OptR g ρ H (valD ds k) (valV vs k)
  | _, _, .nil => .no
  | _, _, .cons (k := j) (d := d) (v := v) (ds := ds) (vs := vs) r rs => by
    by_cases e : j = k
    · rw [show valD ((j, d) :: ds) k = some d by simp [valD, List.find?_cons, e], show valV ((j, v) :: vs) k = some v by simp [valV, List.find?_cons, e]]
      exact .yes r
    · rw [show valD ((j, d) :: ds) k = valD ds k by simp [valD, List.find?_cons, e], show valV ((j, v) :: vs) k = valV vs k by simp [valV, List.find?_cons, e]]
      exact RDk.val rs
theorem RDk.length : ∀ {ds : List (κ × D)} {vs : List (κ × V)}, RDk g ρ H ds vs → ds.length = vs.length
  | _, _, .nil => rfl
  | _, _, .cons r rs => congrArg (· + 1) (RDk.length rs)
theorem RDk.any {k : κ} : ∀ {ds : List (κ × D)} {vs : List (κ × V)}, RDk g ρ H ds vs → (ds.any fun kv => decide (kv.1 = k)) = vs.any fun kv => decide (kv.1 = k)
  | _, _, .nil => rfl
  | _, _, .cons r rs => by simp only [List.any_cons, RDk.any rs]
theorem RDk.mapk {k : κ} {d : D} {v : V} (r : RD g ρ H d v) : ∀ {ds : List (κ × D)} {vs : List (κ × V)}, RDk g ρ H ds vs → RDk g ρ H (ds.map fun kv => if kv.1 = k then (kv.1, d) else kv) (vs.map fun kv => if kv.1 = k then (kv.1, v) else kv)
  | _, _, .nil => .nil
  | _, _, .cons (k := j) r' rs => by
    simp only [List.map_cons]
    by_cases e : j = k
    · rw [if_pos e, if_pos e]
      exact .cons r (RDk.mapk r rs)
    · rw [if_neg e, if_neg e]
      exact .cons r' (RDk.mapk r rs)
theorem RDk.snoc {k : κ} {d : D} {v : V} (r : RD g ρ H d v) : ∀ {ds : List (κ × D)} {vs : List (κ × V)}, RDk g ρ H ds vs → RDk g ρ H (ds ++ [(k, d)]) (vs ++ [(k, v)])
  | _, _, .nil => .cons r .nil
  | _, _, .cons r' rs => .cons r' (RDk.snoc r rs)
theorem RDk.put {k : κ} {d : D} {v : V} (r : RD g ρ H d v) {ds : List (κ × D)} {vs : List (κ × V)} (rs : RDk g ρ H ds vs) : RDk g ρ H (putD ds k d) (putK vs k v) := by
  unfold putD putK
  rw [RDk.any rs]
  split
  · exact RDk.mapk r rs
  · exact RDk.snoc r rs
end
def keyD : D → Option Key
  | .int i => some (.inl i)
  | .str x => some (.inr x)
  | _ => none
theorem key_ok {g : Wr} {ρ : List Addr} {H : Hp} {d : D} {v : V} {k : Key} (r : RD g ρ H d v) (h : keyD d = some k) : v = kV k := by
  cases r <;> first
    | (cases h; rfl)
    | cases h
def keysD : List D → Option (List Key)
  | [] => some []
  | d :: ds => (keyD d).bind fun k => (keysD ds).bind fun ks => some (k :: ks)
def keyT : D → Option (List Key)
  | .tup ds => keysD ds
  | _ => none
theorem keys_ok {g : Wr} {ρ : List Addr} {H : Hp} : ∀ {ds : List D} {vs : List V} {ks : List Key}, RDs g ρ H ds vs → keysD ds = some ks → vs = ks.map kV
  | _, _, _, .nil, h => by cases h; rfl
  | _, _, _, .cons r rs, h => by
    obtain ⟨k, e1, h⟩ := bind2 h
    obtain ⟨ks, e2, h⟩ := bind2 h
    cases h
    rw [key_ok r e1, keys_ok rs e2]
    rfl
theorem keyT_ok {g : Wr} {ρ : List Addr} {H : Hp} {d : D} {v : V} {k : List Key} (r : RD g ρ H d v) (h : keyT d = some k) : ∃ b, v = .ref b ∧ H b = some (.tup (k.map kV)) := by
  cases r with
  | tup h1 r1 =>
    have e := keys_ok r1 h
    subst e
    exact ⟨_, rfl, h1⟩
  | _ => cases h
/-- a dict that may be read -/
def dkO (S : Sto) : D → Option (List (Key × D))
  | .ref n => match S[n]? with
    | some (.dK kvs) => some kvs
    | some (.lk kvs) => some kvs
    | _ => none
  | _ => none
def dtO (S : Sto) : D → Option (List (List Key × D))
  | .ref n => match S[n]? with
    | some (.dT kvs) => some kvs
    | some (.lkT kvs) => some kvs
    | _ => none
  | _ => none
/-- what the dict x holds at y -/
def gotD (S : Sto) (x y : D) : Option (Option D) := match dkO S x with
  | some kvs => (keyD y).bind fun k => some (valD kvs k)
  | none => (dtO S x).bind fun kvs => (keyT y).bind fun k => some (valD kvs k)
def isDO (S : Sto) (x : D) : Bool := (dkO S x).isSome || (dtO S x).isSome
section
variable {g : Wr} {ρ : List Addr} {S : Sto} {H : Hp}
theorem dk_of' (s : Sim g ρ S H) {d : D} {v : V} {kvs : List (Key × D)} (r : RD g ρ H d v) (h : dkO S d = some kvs) : ∃ a vs, v = .ref a ∧ Rd H a (.dK vs) ∧ RDk g ρ H kvs vs := by
  cases r with
  | @ref n a e =>
    simp only [dkO] at h
    split at h
    · rename_i ks ec
      cases h
      obtain ⟨o, h1, h2⟩ := s.cell n a _ e ec
      cases h2 with
      | dK h2 => exact ⟨a, _, rfl, .inl h1, h2⟩
    · rename_i ks ec
      cases h
      obtain ⟨o, h1, h2⟩ := s.cell n a _ e ec
      cases h2 with
      | lk h2 => exact ⟨a, _, rfl, .inr ⟨_, h1⟩, h2⟩
    · cases h
  | _ => cases h
theorem dt_of' (s : Sim g ρ S H) {d : D} {v : V} {kvs : List (List Key × D)} (r : RD g ρ H d v) (h : dtO S d = some kvs) : ∃ a vs, v = .ref a ∧ Rd H a (.dT vs) ∧ RDk g ρ H kvs vs := by
  cases r with
  | @ref n a e =>
    simp only [dtO] at h
    split at h
    · rename_i ks ec
      cases h
      obtain ⟨o, h1, h2⟩ := s.cell n a _ e ec
      cases h2 with
      | dT h2 => exact ⟨a, _, rfl, .inl h1, h2⟩
    · rename_i ks ec
      cases h
      obtain ⟨o, h1, h2⟩ := s.cell n a _ e ec
      cases h2 with
      | lkT h2 => exact ⟨a, _, rfl, .inr ⟨_, h1⟩, h2⟩
    · cases h
  | _ => cases h
theorem isD_of (s : Sim g ρ S H) {d : D} {v : V} (r : RD g ρ H d v) (h : isDO S d = true) : ∃ a, v = .ref a ∧ IsD H a := by
  unfold isDO at h
  rcases Bool.or_eq_true_iff.mp h with z | z
  · obtain ⟨kvs, e⟩ := Option.isSome_iff_exists.mp z
    obtain ⟨a, vs, ev, h1, _⟩ := dk_of' s r e
    exact ⟨a, ev, .inl ⟨_, h1⟩⟩
  · obtain ⟨kvs, e⟩ := Option.isSome_iff_exists.mp z
    obtain ⟨a, vs, ev, h1, _⟩ := dt_of' s r e
    exact ⟨a, ev, .inr ⟨_, h1⟩⟩
theorem got_ok (s : Sim g ρ S H) {d y : D} {v u : V} {o : Option D} (r : RD g ρ H d v) (ry : RD g ρ H y u) (h : gotD S d y = some o) : ∃ a o', v = .ref a ∧ DGet H a u o' ∧ OptR g ρ H o o' := by
  unfold gotD at h
  split at h
  · rename_i kvs e
    obtain ⟨k, e1, h⟩ := bind2 h
    cases h
    obtain ⟨a, vs, rfl, h1, h2⟩ := dk_of' s r e
    have e := key_ok ry e1
    subst e
    exact ⟨a, _, rfl, .inl ⟨vs, k, h1, rfl, rfl⟩, RDk.val h2⟩
  · obtain ⟨kvs, e, h⟩ := bind2 h
    obtain ⟨k, e1, h⟩ := bind2 h
    cases h
    obtain ⟨a, vs, rfl, h1, h2⟩ := dt_of' s r e
    obtain ⟨b, rfl, hb⟩ := keyT_ok ry e1
    exact ⟨a, _, rfl, .inr ⟨vs, k, b, h1, rfl, hb, rfl⟩, RDk.val h2⟩
end
section
variable {X : Cx} {pos pos' apos tpos : Pos} {o i e f : Expr} {mo mi me mf : M}
/-- d[y] -/
def ixX : OpF := fun x y S => (gotD S x y).bind fun o => o.bind fun d => some (d, S)
theorem s_ixX (hu : X.A.units + 200 < cLine) (ho : Snd X o mo) (hi : Snd X i mi) (hs : NoSl i := by intro _ _; rfl) : Snd X (.Subscript o i pos) (mOp ixX mo mi) := pe_imp (pe_dget (by omega) ho hi hs) fun σ H Q h => by
  obtain ⟨ρ, l, S, d, S', hs, hl, hm, q⟩ := h
  obtain ⟨⟨x, S1⟩, e1, hm⟩ := bind2 hm
  obtain ⟨⟨y, S2⟩, e2, hm⟩ := bind2 hm
  obtain ⟨o, e3, hm⟩ := bind2 hm
  obtain ⟨d1, e5, hm⟩ := bind2 hm
  cases hm
  refine ⟨ρ, l, S, x, S1, hs, hl, e1, fun ρ1 v H1 x1 s1 r1 => ?_⟩
  refine ⟨ρ1, l, S1, y, S2, s1, x1.loc hs hl, e2, fun ρ2 u H2 x2 s2 r2 => ?_⟩
  obtain ⟨a, o', rfl, hg, ro⟩ := got_ok s2 (x2.rd s1 r1) r2 e3
  subst e5
  cases ro with
  | @yes _ w rw => exact ⟨a, w, rfl, hg, q ρ2 w H2 (x1.trans x2) s2 rw⟩
/-- d.get(y, z) -/
def mGet2 (o i e : M) : M := fun l S => (o l S).bind fun p => if isDO p.2 p.1 = true then (i l p.2).bind fun r => (e l r.2).bind fun t => (gotD t.2 p.1 r.1).bind fun v => some (v.getD t.1, t.2) else none
theorem s_get2 (hu : X.A.units + 200 < cLine) (ho : Snd X o mo) (hi : Snd X i mi) (he : Snd X e me) (m : M2 X o "get" apos i e pos := by exact ⟨rfl, rfl, rfl, rfl⟩) : Snd X (.Call (.Attribute o "get" apos) [i, e] [] pos) (mGet2 mo mi me) := pe_imp (pe_dget2 (by omega) ho hi he m) fun σ H Q h => by
  obtain ⟨ρ, l, S, d, S', hs, hl, hm, q⟩ := h
  obtain ⟨⟨x, S1⟩, e1, hm⟩ := bind2 hm
  split at hm
  · rename_i e0
    obtain ⟨⟨y, S2⟩, e2, hm⟩ := bind2 hm
    obtain ⟨⟨z, S3⟩, e3, hm⟩ := bind2 hm
    obtain ⟨o, e4, hm⟩ := bind2 hm
    cases hm
    refine ⟨ρ, l, S, x, S1, hs, hl, e1, fun ρ1 v H1 x1 s1 r1 => ?_⟩
    obtain ⟨a0, rfl, g0⟩ := isD_of s1 r1 e0
    refine ⟨a0, rfl, g0, ρ1, l, S1, y, S2, s1, x1.loc hs hl, e2, fun ρ2 u H2 x2 s2 r2 => ?_⟩
    refine ⟨ρ2, l, S2, z, S3, s2, x2.loc s1 (x1.loc hs hl), e3, fun ρ3 w H3 x3 s3 r3 => ?_⟩
    obtain ⟨a, o', ea, hg, ro⟩ := got_ok s3 ((x2.trans x3).rd s1 r1) (x3.rd s2 r2) e4
    cases ea
    exact ⟨o', hg, q ρ3 _ H3 ((x1.trans x2).trans x3) s3 (ro.getD r3)⟩
  · cases hm
/-- d.get(y) -/
def mGet1 (o i : M) : M := fun l S => (o l S).bind fun p => if isDO p.2 p.1 = true then (i l p.2).bind fun r => (gotD r.2 p.1 r.1).bind fun v => some (v.getD .non, r.2) else none
theorem s_get1 (hu : X.A.units + 200 < cLine) (ho : Snd X o mo) (hi : Snd X i mi) (m : M1 X o "get" apos i pos := by exact ⟨rfl, rfl, rfl, rfl⟩) : Snd X (.Call (.Attribute o "get" apos) [i] [] pos) (mGet1 mo mi) := pe_imp (pe_dget1 (by omega) ho hi m) fun σ H Q h => by
  obtain ⟨ρ, l, S, d, S', hs, hl, hm, q⟩ := h
  obtain ⟨⟨x, S1⟩, e1, hm⟩ := bind2 hm
  split at hm
  · rename_i e0
    obtain ⟨⟨y, S2⟩, e2, hm⟩ := bind2 hm
    obtain ⟨o, e4, hm⟩ := bind2 hm
    cases hm
    refine ⟨ρ, l, S, x, S1, hs, hl, e1, fun ρ1 v H1 x1 s1 r1 => ?_⟩
    obtain ⟨a0, rfl, g0⟩ := isD_of s1 r1 e0
    refine ⟨a0, rfl, g0, ρ1, l, S1, y, S2, s1, x1.loc hs hl, e2, fun ρ2 u H2 x2 s2 r2 => ?_⟩
    obtain ⟨a, o', ea, hg, ro⟩ := got_ok s2 (x2.rd s1 r1) r2 e4
    cases ea
    exact ⟨o', hg, q ρ2 _ H2 (x1.trans x2) s2 (ro.getD .non)⟩
  · cases hm
/-- {} -/
def mDnewK : M := fun _ S => some (.ref S.length, S ++ [.dK []])
def mDnewT : M := fun _ S => some (.ref S.length, S ++ [.dT []])
theorem Ext.newIn {ρ : List Addr} {H : Hp} {p : Addr} {o : HO} (hp : H p = none) : Ext ρ H (ρ ++ [p]) (upd H p o) :=
  Ext.newc hp
theorem take_new {g : Wr} {ρ : List Addr} {S : Sto} {H : Hp} {p : Addr} {o : HO} {c : Cell} (hs : Sim g ρ S H) (hp : H p = none) (r : CellR g ρ (upd H p o) c o) : Sim g (ρ ++ [p]) (S ++ [c]) (upd H p o) ∧ RD g (ρ ++ [p]) (upd H p o) (.ref S.length) (.ref p) :=
  ⟨(hs.other (hs.fresh hp) hp).take_in upd_same (hs.fresh hp) r, .ref (by rw [← hs.len, List.getElem?_append_right (Nat.le_refl _), Nat.sub_self]; rfl)⟩
theorem s_dnewK : Snd X (.Dict [] [] pos) mDnewK := pe_imp pe_dnewK fun σ H Q h => by
  obtain ⟨ρ, l, S, d, S', hs, hl, hm, q⟩ := h
  cases hm
  intro p hp
  obtain ⟨s, r⟩ := take_new (c := .dK []) hs hp (.dK .nil)
  exact q (ρ ++ [p]) (.ref p) _ (Ext.newIn hp) s r
theorem s_dnewT : Snd X (.Dict [] [] pos) mDnewT := pe_imp pe_dnewT fun σ H Q h => by
  obtain ⟨ρ, l, S, d, S', hs, hl, hm, q⟩ := h
  cases hm
  intro p hp
  obtain ⟨s, r⟩ := take_new (c := .dT []) hs hp (.dT .nil)
  exact q (ρ ++ [p]) (.ref p) _ (Ext.newIn hp) s r
def setDF (o i v : D) (S : Sto) : Option Sto := match o with
  | .ref n => match S[n]? with
    | some (.dK kvs) => (keyD i).bind fun k => if kvs.length < 1000000 then some (S.set n (.dK (putD kvs k v))) else none
    | some (.dT kvs) => (keyT i).bind fun k => if kvs.length < 1000000 then some (S.set n (.dT (putD kvs k v))) else none
    | _ => none
  | _ => none
/-- d[y] = v -/
def mSetD (o i e : M) : MS := fun l S => (e l S).bind fun p => (o l p.2).bind fun q => (i l q.2).bind fun r => (setDF q.1 r.1 p.1 r.2).bind fun S3 => some (.nx l, S3)
theorem st_setD (hu : X.A.units + 200 < cLine) (ho : Snd X o mo) (hi : Snd X i mi) (he : Snd X e me) (hs : swapsWith e (some (.Subscript o i tpos)) pos.line X.env = pure false := by rfl) : SndS X (.Assign [.Subscript o i tpos] e pos) (mSetD mo mi me) := ps_imp (ps_dput (by omega) ho hi he hs) fun E σ H h => by
  obtain ⟨ρ, l, S, f, S', hs, hl, hm, q⟩ := h
  obtain ⟨⟨x, S1⟩, e1, hm⟩ := bind2 hm
  obtain ⟨⟨y, S2⟩, e2, hm⟩ := bind2 hm
  obtain ⟨⟨z, S3⟩, e3, hm⟩ := bind2 hm
  obtain ⟨S4, e4, hm⟩ := bind2 hm
  cases hm
  refine ⟨ρ, l, S, x, S1, hs, hl, e1, fun ρ1 v H1 x1 s1 r1 => ?_⟩
  refine ⟨ρ1, l, S1, y, S2, s1, x1.loc hs hl, e2, fun ρ2 ov H2 x2 s2 r2 => ?_⟩
  refine ⟨ρ2, l, S2, z, S3, s2, x2.loc s1 (x1.loc hs hl), e3, fun ρ3 iv H3 x3 s3 r3 => ?_⟩
  have r2' := x3.rd s2 r2
  have r1' := (x2.trans x3).rd s1 r1
  dsimp only at e4
  cases r2' with
  | @ref k a ek =>
    simp only [setDF] at e4
    split at e4
    · rename_i xs ec
      obtain ⟨n, e5, e4⟩ := bind2 e4
      split at e4
      · rename_i hz
        cases e4
        obtain ⟨ob, h1, h2⟩ := s3.cell k a _ ek ec
        cases h2 with
        | dK h2 =>
          obtain ⟨x4, s4⟩ := s3.upd (c := .dK (putD xs n x)) ek ec rfl (.dK (h2.put r1'))
          exact ⟨a, _, rfl, .inl ⟨_, n, h1, key_ok r3 e5, by rw [← h2.length, sizeLine_eq]; omega, rfl⟩, q ρ3 _ (((x1.trans x2).trans x3).trans x4) s4 _ ((((x1.trans x2).trans x3).trans x4).loc hs hl)⟩
      · cases e4
    · rename_i xs ec
      obtain ⟨n, e5, e4⟩ := bind2 e4
      split at e4
      · rename_i hz
        cases e4
        obtain ⟨ob, h1, h2⟩ := s3.cell k a _ ek ec
        cases h2 with
        | dT h2 =>
          obtain ⟨b, rfl, hb⟩ := keyT_ok r3 e5
          obtain ⟨x4, s4⟩ := s3.upd (c := .dT (putD xs n x)) ek ec rfl (.dT (h2.put r1'))
          exact ⟨a, _, rfl, .inr ⟨_, n, b, h1, rfl, hb, by rw [← h2.length, sizeLine_eq]; omega, rfl⟩, q ρ3 _ (((x1.trans x2).trans x3).trans x4) s4 _ ((((x1.trans x2).trans x3).trans x4).loc hs hl)⟩
      · cases e4
    · cases e4
  | _ => cases e4
end
section
variable {X : Cx} {pos : Pos} {a b : Expr} {ma mb : M}
/-- y in d -/
def fInD : OpF := fun y x S => (gotD S x y).bind fun o => some (.bl o.isSome, S)
def fNinD : OpF := fun y x S => (gotD S x y).bind fun o => some (.bl (!o.isSome), S)
theorem tIn_of {σ : L2.St} {H : Hp} {Q : VK} (h : tM (Cx.g X) (mOp fInD ma mb) σ H Q) : tDIn (tM (Cx.g X) ma) (tM (Cx.g X) mb) σ H Q := by
  obtain ⟨ρ, l, S, d, S', hs, hl, hm, q⟩ := h
  obtain ⟨⟨y, S1⟩, e1, hm⟩ := bind2 hm
  obtain ⟨⟨x, S2⟩, e2, hm⟩ := bind2 hm
  obtain ⟨o, e3, hm⟩ := bind2 hm
  cases hm
  refine ⟨ρ, l, S, y, S1, hs, hl, e1, fun ρ1 u H1 x1 s1 r1 => ?_⟩
  refine ⟨ρ1, l, S1, x, S2, s1, x1.loc hs hl, e2, fun ρ2 v H2 x2 s2 r2 => ?_⟩
  obtain ⟨a, o', rfl, hg, ro⟩ := got_ok s2 r2 (x2.rd s1 r1) e3
  exact ⟨a, o', rfl, hg, q ρ2 _ H2 (x1.trans x2) s2 (by rw [ro.isSome]; exact .bl _)⟩
theorem tNin_of {σ : L2.St} {H : Hp} {Q : VK} (h : tM (Cx.g X) (mOp fNinD ma mb) σ H Q) : tDNotIn (tM (Cx.g X) ma) (tM (Cx.g X) mb) σ H Q := by
  obtain ⟨ρ, l, S, d, S', hs, hl, hm, q⟩ := h
  obtain ⟨⟨y, S1⟩, e1, hm⟩ := bind2 hm
  obtain ⟨⟨x, S2⟩, e2, hm⟩ := bind2 hm
  obtain ⟨o, e3, hm⟩ := bind2 hm
  cases hm
  refine ⟨ρ, l, S, y, S1, hs, hl, e1, fun ρ1 u H1 x1 s1 r1 => ?_⟩
  refine ⟨ρ1, l, S1, x, S2, s1, x1.loc hs hl, e2, fun ρ2 v H2 x2 s2 r2 => ?_⟩
  obtain ⟨a, o', rfl, hg, ro⟩ := got_ok s2 r2 (x2.rd s1 r1) e3
  exact ⟨a, o', rfl, hg, q ρ2 _ H2 (x1.trans x2) s2 (by rw [ro.isSome]; exact .bl _)⟩
theorem s_inD (hu : X.A.units + 200 < cLine) (ha : Snd X a ma) (hb : Snd X b mb) (hk : behindInMarks .In b = false := by first | rfl | assumption) : Snd X (.Compare a [.In] [b] pos) (mOp fInD ma mb) := pe_imp (pe_cmp (pc_din (by omega) ha hb) hk) fun _ _ _ h => tIn_of h
theorem s_ninD (hu : X.A.units + 200 < cLine) (ha : Snd X a ma) (hb : Snd X b mb) (hk : behindInMarks .NotIn b = false := by first | rfl | assumption) : Snd X (.Compare a [.NotIn] [b] pos) (mOp fNinD ma mb) := pe_imp (pe_cmp (pc_dnotin (by omega) ha hb) hk) fun _ _ _ h => tNin_of h
theorem t_inD (hu : X.A.units + 200 < cLine) (ha : Snd X a ma) (hb : Snd X b mb) (hk : behindInMarks .In b = false := by first | rfl | assumption) : SndT X (.Compare a [.In] [b] pos) (mBool (mOp fInD ma mb)) := pt_imp (pt_cmp (pc_din (by omega) ha hb) hk) fun _ _ _ h => tTest_of (fun _ _ _ h => tIn_of h) h
theorem t_ninD (hu : X.A.units + 200 < cLine) (ha : Snd X a ma) (hb : Snd X b mb) (hk : behindInMarks .NotIn b = false := by first | rfl | assumption) : SndT X (.Compare a [.NotIn] [b] pos) (mBool (mOp fNinD ma mb)) := pt_imp (pt_cmp (pc_dnotin (by omega) ha hb) hk) fun _ _ _ h => tTest_of (fun _ _ _ h => tNin_of h) h
end
end Zi
set_option maxRecDepth 100000
/-! a dict that is walked stands still -/
namespace Zi
open PySem PySem.Spec PyProof.Rows L2
def lockC : Cell → Option Cell
  | .dK k => some (.lk k)
  | .dT k => some (.lkT k)
  | _ => none
def openC : Cell → Option Cell
  | .lk k => some (.dK k)
  | .lkT k => some (.dT k)
  | _ => none
section
variable {g : Wr} {ρ ρ1 : List Addr} {S S1 : Sto} {H H1 : Hp}
theorem Sub.unlock {a : Addr} {od : Obj} {u : HO} (hu : (∃ vs, u = .dK vs) ∨ ∃ vs, u = .dT vs) (ha : H1 a = some (.frz od u)) : Sub g ρ1 H1 ρ1 (L2.upd H1 a u) := by
  have nt : ∀ xs, u ≠ .tup xs := fun xs z => by rcases hu with ⟨_, e⟩ | ⟨_, e⟩ <;> rw [e] at z <;> cases z
  have nl : ∀ xs, u ≠ .lst xs := fun xs z => by rcases hu with ⟨_, e⟩ | ⟨_, e⟩ <;> rw [e] at z <;> cases z
  refine ⟨fun _ _ h => h, fun b xs h => ?_, fun b ns h => ?_, fun b xs h => ?_⟩
  · rcases h with (h | ⟨o, h⟩) | h
    · refine .inl (.inl ?_)
      rw [upd_ne (fun z => by rw [z, ha] at h; cases h)]
      exact h
    · refine .inl (.inr ⟨o, ?_⟩)
      rw [upd_ne (fun z => by rw [z, ha] at h; injection h with h; injection h with _ h; exact nt _ h)]
      exact h
    · exact .inr h
  · rcases h with ⟨o, h⟩ | h
    · refine .inl ⟨o, ?_⟩
      rw [upd_ne (fun z => by rw [z, ha] at h; injection h with h; injection h with _ h; exact nl _ h)]
      exact h
    · exact .inr h
  · rw [upd_ne (fun z => by rw [z, ha] at h; cases h)]
    exact h
theorem open_of {c c' : Cell} {o : HO} (h : openC c = some c') (r : CellR g ρ H c o) : ∃ od u, o = .frz od u ∧ ((∃ vs, u = .dK vs) ∨ ∃ vs, u = .dT vs) ∧ CellR g ρ H c' u := by
  cases r with
  | lk r => cases h; exact ⟨_, _, rfl, .inl ⟨_, rfl⟩, .dK r⟩
  | lkT r => cases h; exact ⟨_, _, rfl, .inr ⟨_, rfl⟩, .dT r⟩
  | _ => cases h
theorem lock_of {c c' : Cell} {u : HO} (h : lockC c = some c') (r : CellR g ρ H c u) : ((∃ vs, u = .dK vs) ∨ ∃ vs, u = .dT vs) ∧ c.free = true ∧ Mut (some u) ∧ ∀ od, CellR g ρ H c' (.frz od u) := by
  cases r with
  | dK r => cases h; exact ⟨.inl ⟨_, rfl⟩, rfl, True.intro, fun od => .lk r⟩
  | dT r => cases h; exact ⟨.inr ⟨_, rfl⟩, rfl, True.intro, fun od => .lkT r⟩
  | _ => cases h
theorem Sim.unlock (s : Sim g ρ1 S1 H1) {n : Nat} {a : Addr} {c c' : Cell} {od : Obj} {u : HO} (hn : ρ1[n]? = some a) (h0 : S1[n]? = some c) (ho : openC c = some c') (ha : H1 a = some (.frz od u)) : Sim g ρ1 (S1.set n c') (L2.upd H1 a u) ∧ ((∃ vs, u = .dK vs) ∨ ∃ vs, u = .dT vs) := by
  obtain ⟨o0, ho0, hr0⟩ := s.cell n a _ hn h0
  obtain ⟨od', u', e, hu, r⟩ := open_of ho hr0
  rw [ha, e] at ho0
  cases ho0
  have sb := Sub.unlock (g := g) (ρ1 := ρ1) hu ha
  refine ⟨⟨by simp [s.len], s.nd, fun m b d h1 h2 => ?_⟩, hu⟩
  by_cases hm : m = n
  · subst hm
    rw [hn] at h1
    cases h1
    have hl : m < S1.length := by rw [← s.len]; exact (List.getElem?_eq_some_iff.mp hn).1
    rw [List.getElem?_set_self hl] at h2
    cases h2
    exact ⟨_, upd_same, r.mono sb⟩
  · rw [List.getElem?_set_ne (Ne.symm hm)] at h2
    have nb : b ≠ a := fun z => by
      subst z
      obtain ⟨l1, e1⟩ := List.getElem?_eq_some_iff.mp h1
      obtain ⟨l2, e2⟩ := List.getElem?_eq_some_iff.mp hn
      exact hm ((List.getElem_inj s.nd).mp (e1.trans e2.symm))
    obtain ⟨o', h3, h4⟩ := s.cell m b d h1 h2
    exact ⟨o', by rw [upd_ne nb]; exact h3, h4.mono sb⟩
theorem Ext.unlock {a : Addr} {od : Obj} {u : HO} {ρ' : List Addr} {H' : Hp} (x : Ext ρ (L2.upd H a (.frz od u)) ρ' H') (ha : a ∈ ρ) (h1 : H a = some u) (hu : (∃ vs, u = .dK vs) ∨ ∃ vs, u = .dT vs) : Ext ρ H ρ' (L2.upd H' a u) := by
  refine ⟨x.pre, fun b o nb eb => ?_, fun b o v eb => ?_⟩
  · have hne : b ≠ a := fun z => nb (by rw [z]; exact ha)
    have := x.fr b o nb (by rw [upd_ne hne]; exact eb)
    exact ⟨by rw [upd_ne hne]; exact this.1, this.2⟩
  · have hne : b ≠ a := fun z => by
      rw [z, h1] at eb
      rcases hu with ⟨_, e⟩ | ⟨_, e⟩ <;> rw [e] at eb <;> cases eb
    rw [upd_ne hne]
    exact x.fz b o v (by rw [upd_ne hne]; exact eb)
end
/-- the dict in slot i stands still meanwhile -/
def mLockA (i : Nat) (m : MA) : MA := fun l S => match l[i]? with
  | some (some (.ref n)) => (S[n]?).bind fun c => (lockC c).bind fun c1 => (m l (S.set n c1)).bind fun p => (p.2[n]?).bind fun c2 => (openC c2).bind fun c3 => some (p.1, p.2.set n c3)
  | _ => none
theorem l_lock (i : Nat) {X : Cx} {e : Expr} {m : MA} (h : SndL X e m) : SndL X e (mLockA i m) := pe_imp (pe_lock h) fun σ H Q h => by
  obtain ⟨ρ, l, S, ds, S', hs, hl, hm, q⟩ := h
  unfold mLockA at hm
  split at hm
  · rename_i n en
    obtain ⟨c, ec, hm⟩ := bind2 hm
    obtain ⟨c1, ec1, hm⟩ := bind2 hm
    obtain ⟨⟨ds1, S1⟩, e1, hm⟩ := bind2 hm
    obtain ⟨c2, ec2, hm⟩ := bind2 hm
    obtain ⟨c3, ec3, hm⟩ := bind2 hm
    cases hm
    obtain ⟨v, hv, rv⟩ := hl.val i _ en
    cases rv with
    | @ref _ a ek =>
    obtain ⟨u, h1, h2⟩ := hs.cell n a _ ek ec
    obtain ⟨hu, hf, mu, hc⟩ := lock_of ec1 h2
    refine ⟨a, u, h1, mu, fun od => ?_⟩
    obtain ⟨x0, s0⟩ := hs.upd (c := c1) (o := .frz od u) ek ec hf (hc od)
    refine ⟨ρ, l, S.set n c1, _, S1, s0, x0.loc hs hl, e1, fun ρ' p ws H' x s' hp np hf' rds => ?_⟩
    have hfz := x.fz a od u upd_same
    refine ⟨hfz, ?_⟩
    have hpa : p ≠ a := fun z => by rw [z, upd_same] at hf'; cases hf'
    have ha : a ∈ ρ := List.mem_of_getElem? ek
    exact q ρ' p ws _ (x.unlock ha h1 hu) (s'.unlock (x.pre _ _ ek) ec2 ec3 hfz).1 (by rw [upd_ne hpa]; exact hp) np (by rw [upd_ne hpa] at hf'; exact hf') (rds.mono (Sub.unlock hu hfz))
  · cases hm
/-- .. of a statement -/
def mLockS (i : Nat) (m : MS) : MS := fun l S => match l[i]? with
  | some (some (.ref n)) => (S[n]?).bind fun c => (lockC c).bind fun c1 => (m l (S.set n c1)).bind fun p => (p.2[n]?).bind fun c2 => (openC c2).bind fun c3 => some (p.1, p.2.set n c3)
  | _ => none
theorem LocR.of_sub {g : Wr} {ρ : List Addr} {H H' : Hp} (s : Sub g ρ H' ρ H) {l : Lo} {σ : L2.St} (h : LocR g ρ H' l σ) : LocR g ρ H l σ := h.mono s
theorem st_lock (i : Nat) {X : Cx} {st : Stmt} {m : MS} (h : SndS X st m) : SndS X st (mLockS i m) := ps_imp (ps_lock h) fun E σ H h => by
  obtain ⟨ρ, l, S, f, S', hs, hl, hm, q⟩ := h
  unfold mLockS at hm
  split at hm
  · rename_i n en
    obtain ⟨c, ec, hm⟩ := bind2 hm
    obtain ⟨c1, ec1, hm⟩ := bind2 hm
    obtain ⟨⟨f1, S1⟩, e1, hm⟩ := bind2 hm
    obtain ⟨c2, ec2, hm⟩ := bind2 hm
    obtain ⟨c3, ec3, hm⟩ := bind2 hm
    cases hm
    obtain ⟨v, hv, rv⟩ := hl.val i _ en
    cases rv with
    | @ref _ a ek =>
    obtain ⟨u, h1, h2⟩ := hs.cell n a _ ek ec
    obtain ⟨hu, hf, mu, hc⟩ := lock_of ec1 h2
    refine ⟨a, u, h1, mu, fun od => ?_⟩
    obtain ⟨x0, s0⟩ := hs.upd (c := c1) (o := .frz od u) ek ec hf (hc od)
    refine ⟨ρ, l, S.set n c1, f1, S1, s0, x0.loc hs hl, e1, fun ρ' H' x s' => ?_⟩
    have hfz := x.fz a od u upd_same
    have ha : a ∈ ρ := List.mem_of_getElem? ek
    have sb : Sub (Cx.g X) ρ' H' ρ' (L2.upd H' a u) := Sub.unlock hu hfz
    have qq := q ρ' _ (x.unlock ha h1 hu) (s'.unlock (x.pre _ _ ek) ec2 ec3 hfz).1
    cases f1 with
    | nx l2 => exact fun σ' hl' => ⟨hfz, qq σ' (hl'.mono sb)⟩
    | rt d => exact fun v r => ⟨hfz, qq v (r.mono sb)⟩
    | bk l2 => exact fun σ' hl' => ⟨hfz, qq σ' (hl'.mono sb)⟩
    | ct l2 => exact fun σ' hl' => ⟨hfz, qq σ' (hl'.mono sb)⟩
  · cases hm
def keyOfD : Key → D
  | .inl i => .int i
  | .inr x => .str x
theorem keyOf_rd {g : Wr} {ρ : List Addr} {H : Hp} (k : Key) : RD g ρ H (keyOfD k) (kV k) := by
  cases k with
  | inl j => exact .int j
  | inr z => exact .str z
theorem keysOf_rd {g : Wr} {ρ : List Addr} {H : Hp} : ∀ ks : List Key, RDs g ρ H (ks.map keyOfD) (ks.map kV)
  | [] => .nil
  | k :: ks => .cons (keyOf_rd k) (keysOf_rd ks)
theorem RDk.getk {κ : Type} {g : Wr} {ρ : List Addr} {H : Hp} : ∀ {ds : List (κ × D)} {vs : List (κ × V)} {i : Nat} {k : κ} {v : V}, RDk g ρ H ds vs → vs[i]? = some (k, v) → ∃ d, ds[i]? = some (k, d) ∧ RD g ρ H d v
  | _, _, 0, k, v, .cons r rs, h => by
    simp only [List.getElem?_cons_zero, Option.some.injEq, Prod.mk.injEq] at h
    obtain ⟨rfl, rfl⟩ := h
    exact ⟨_, rfl, r⟩
  | _, _, i + 1, k, v, .cons r rs, h => by
    rw [List.getElem?_cons_succ] at h ⊢
    exact RDk.getk rs h
  | _, _, i, k, v, .nil, h => by simp at h
/-- the keys of a dict that stands still -/
def mKeys (m : M) : MI := fun l S => (m l S).bind fun p => match p.1 with
  | .ref n => match p.2[n]? with
    | some (.lk kvs) => some (⟨kvs.map fun kv => keyOfD kv.1, fun S' => S'[n]? = some (.lk kvs)⟩, p.2)
    | some (.lkT kvs) => some (⟨kvs.map fun kv => D.tup (kv.1.map keyOfD), fun S' => S'[n]? = some (.lkT kvs)⟩, p.2)
    | _ => none
  | _ => none
theorem i_keys {X : Cx} {tg e : Expr} {m : M} (h : Snd X e m) : SndI X tg e (mKeys m) := pi_imp (pi_keys h) fun σ H R h => by
  obtain ⟨ρ, l, S, s, S', hs, hl, hm, q⟩ := h
  obtain ⟨⟨x, S1⟩, e1, hm⟩ := bind2 hm
  dsimp only at hm
  split at hm
  · rename_i n
    split at hm
    · rename_i kvs ec
      cases hm
      refine ⟨ρ, l, S, .ref n, _, hs, hl, e1, fun ρ1 v H1 x1 s1 r1 => ?_⟩
      cases r1 with
      | @ref _ a ek =>
      obtain ⟨o, h1, h2⟩ := s1.cell n a _ ek ec
      cases h2 with
      | @lk _ vs ob h2 =>
      refine ⟨a, ob, rfl, .inl ⟨vs, h1, q ρ1 H1 _ x1 s1 ⟨fun i d ρ' S'' H' hd x sm ok => ?_, fun ρ' S'' H' x sm ok => ?_⟩⟩⟩
      · have hfz := x.fz a ob _ h1
        have hlen := h2.length
        have hi : i < kvs.length := by
          have := (List.getElem?_eq_some_iff.mp hd).1
          rw [List.length_map] at this
          exact this
        refine ⟨⟨hfz, by rw [← hlen]; exact hi⟩, fun y H2 hy => ?_⟩
        obtain ⟨rfl, k, v, hv, rfl⟩ := hy
        obtain ⟨d1, hd1, _⟩ := RDk.getk h2 hv
        have hd' : (kvs.map fun kv => keyOfD kv.1)[i]? = some d := hd
        rw [List.getElem?_map, hd1] at hd'
        simp only [Option.map_some, Option.some.injEq] at hd'
        subst hd'
        exact ⟨Ext.refl, sm, keyOf_rd k⟩
      · refine ⟨x.fz a ob _ h1, ?_⟩
        show vs.length ≤ (kvs.map fun kv => keyOfD kv.1).length
        rw [List.length_map, h2.length]
        exact Nat.le_refl _
    · rename_i kvs ec
      cases hm
      refine ⟨ρ, l, S, .ref n, _, hs, hl, e1, fun ρ1 v H1 x1 s1 r1 => ?_⟩
      cases r1 with
      | @ref _ a ek =>
      obtain ⟨o, h1, h2⟩ := s1.cell n a _ ek ec
      cases h2 with
      | @lkT _ vs ob h2 =>
      refine ⟨a, ob, rfl, .inr ⟨vs, h1, q ρ1 H1 _ x1 s1 ⟨fun i d ρ' S'' H' hd x sm ok => ?_, fun ρ' S'' H' x sm ok => ?_⟩⟩⟩
      · have hfz := x.fz a ob _ h1
        have hlen := h2.length
        have hi : i < kvs.length := by
          have := (List.getElem?_eq_some_iff.mp hd).1
          rw [List.length_map] at this
          exact this
        refine ⟨⟨hfz, by rw [← hlen]; exact hi⟩, fun y H2 hy => ?_⟩
        obtain ⟨rfl, k, v, b, hv, rfl, hb⟩ := hy
        obtain ⟨d1, hd1, _⟩ := RDk.getk h2 hv
        have hd' : (kvs.map fun kv => D.tup (kv.1.map keyOfD))[i]? = some d := hd
        rw [List.getElem?_map, hd1] at hd'
        simp only [Option.map_some, Option.some.injEq] at hd'
        subst hd'
        exact ⟨Ext.refl, sm, .tup hb (keysOf_rd k)⟩
      · refine ⟨x.fz a ob _ h1, ?_⟩
        show vs.length ≤ (kvs.map fun kv => D.tup (kv.1.map keyOfD)).length
        rw [List.length_map, h2.length]
        exact Nat.le_refl _
    · cases hm
  · cases hm
/-- its pairs -/
def mItems (m : M) : MI := fun l S => (m l S).bind fun p => match p.1 with
  | .ref n => match p.2[n]? with
    | some (.lk kvs) => some (⟨kvs.map fun kv => D.tup [keyOfD kv.1, kv.2], fun S' => S'[n]? = some (.lk kvs)⟩, p.2)
    | _ => none
  | _ => none
theorem i_items {X : Cx} {e : Expr} {m : M} {elts : List Expr} {kk : Nat} {tpos apos cpos : Pos} (h : Snd X e m) (hbase : attributeBase e "items" X.env (eval e X.env) = eval e X.env := by rfl) (hline : (apos.endLine == cpos.line) = true := by rfl) : SndI X (.Tuple elts kk tpos) (.Call (.Attribute e "items" apos) [] [] cpos) (mItems m) := pi_imp (pi_items h hbase hline) fun σ H R h => by
  obtain ⟨ρ, l, S, s, S', hs, hl, hm, q⟩ := h
  obtain ⟨⟨x, S1⟩, e1, hm⟩ := bind2 hm
  dsimp only at hm
  split at hm
  · rename_i n
    split at hm
    · rename_i kvs ec
      cases hm
      refine ⟨ρ, l, S, .ref n, _, hs, hl, e1, fun ρ1 v H1 x1 s1 r1 => ?_⟩
      cases r1 with
      | @ref _ a ek =>
      obtain ⟨o, h1, h2⟩ := s1.cell n a _ ek ec
      cases h2 with
      | @lk _ vs ob h2 =>
      refine ⟨a, ob, vs, rfl, h1, q ρ1 H1 _ x1 s1 ⟨fun i d ρ' S'' H' hd x sm ok => ?_, fun ρ' S'' H' x sm ok => ?_⟩⟩
      · have hfz := x.fz a ob _ h1
        have hlen := h2.length
        have hi : i < kvs.length := by
          have := (List.getElem?_eq_some_iff.mp hd).1
          rw [List.length_map] at this
          exact this
        refine ⟨⟨hfz, by rw [← hlen]; exact hi⟩, fun y H2 hy => ?_⟩
        obtain ⟨T, k, v, hv, rfl, hT, rfl⟩ := hy
        obtain ⟨d1, hd1, rd1⟩ := RDk.getk (h2.mono (x.sub s1)) hv
        have hd' : (kvs.map fun kv => D.tup [keyOfD kv.1, kv.2])[i]? = some d := hd
        rw [List.getElem?_map, hd1] at hd'
        simp only [Option.map_some, Option.some.injEq] at hd'
        subst hd'
        exact ⟨Ext.new hT, sm.other (sm.fresh hT) hT, .tup upd_same (.cons (keyOf_rd k) (.cons ((Ext.new hT).rd sm rd1) .nil))⟩
      · refine ⟨x.fz a ob _ h1, ?_⟩
        show vs.length ≤ (kvs.map fun kv => D.tup [keyOfD kv.1, kv.2]).length
        rw [List.length_map, h2.length]
        exact Nat.le_refl _
    · cases hm
  · cases hm
/-- dict(d): a copy -/
def mDcopy (m : M) : M := fun l S => (m l S).bind fun p => (dkO p.2 p.1).bind fun kvs => some (.ref p.2.length, p.2 ++ [.dK kvs])
/-- {k: v} -/
def mDisp1 (a b : M) : M := fun l S => (a l (S ++ [.dK []])).bind fun p => (b l p.2).bind fun q => match q.2[S.length]? with
  | some (.dK []) => (keyD p.1).bind fun k => some (.ref S.length, q.2.set S.length (.dK [(k, q.1)]))
  | _ => none
theorem s_disp1 {X : Cx} {pos : Pos} {a b : Expr} {ma mb : M} (hu : X.A.units + 200 < cLine) (ha : Snd X a ma) (hb : Snd X b mb) : Snd X (.Dict [some a] [b] pos) (mDisp1 ma mb) := pe_imp (pe_disp (pps_cons ha hb pps_nil) rfl rfl (by simp) (by simp)) fun σ H Q h => by
  obtain ⟨ρ, l, S, d, S', hs, hl, hm, q⟩ := h
  obtain ⟨⟨x, S1⟩, e1, hm⟩ := bind2 hm
  obtain ⟨⟨y, S2⟩, e2, hm⟩ := bind2 hm
  dsimp only at hm
  split at hm
  · rename_i ec
    obtain ⟨k, e3, hm⟩ := bind2 hm
    cases hm
    intro p hp
    obtain ⟨s0, r0⟩ := take_new (c := .dK []) hs hp (.dK .nil)
    have x0 : Ext ρ H (ρ ++ [p]) (upd H p (.dK [])) := Ext.newIn hp
    refine ⟨ρ ++ [p], l, S ++ [.dK []], x, S1, s0, x0.loc hs hl, e1, fun ρ1 v H1 x1 s1 r1 => ?_⟩
    refine ⟨ρ1, l, S1, y, S2, s1, (x0.trans x1).loc hs hl, e2, fun ρ2 u H2 x2 s2 r2 => ?_⟩
    have en : ρ2[S.length]? = some p := (x1.trans x2).pre _ _ (by cases r0 with | ref e => exact e)
    obtain ⟨o, h1, h2⟩ := s2.cell _ p _ en ec
    cases h2 with
    | dK h2 =>
      cases h2 with
      | nil =>
        obtain ⟨x3, s3⟩ := s2.upd (c := .dK [(k, y)]) (o := .dK [(k, u)]) en ec rfl (.dK (.cons r2 .nil))
        have ek := key_ok (x2.rd s1 r1) e3
        subst ek
        refine ⟨h1, [(k, u)], rfl, by simp, ?_⟩
        exact q ρ2 _ _ (((x0.trans x1).trans x2).trans x3) s3 (.ref en)
  · cases hm
end Zi
namespace Zi
open PySem PySem.Spec PyProof.Rows L2
section
variable {X : Cx} {p pos : Pos} {e : Expr}
theorem call_dcopy : CallR X (.type "dict") (fun xs H Q => ∃ (a : Addr) (kvs : List (Key × V)), xs = [.ref a] ∧ Rd H a (.dK kvs) ∧ ∀ p, H p = none → Q (.ref p) (upd H p (.dK kvs))) := by
  intro pins s σ H xs us Q I r h
  obtain ⟨a, kvs, rfl, hd, q⟩ := h
  cases r with
  | cons r1 r =>
    cases r
    cases r1
    exact d_copyOf I hd fun p s' hp I' => ⟨.ref p, _, I', rfl, q p hp⟩
theorem boot_dict' : bootBuiltins "dict" = some (.type "dict") := by decide +kernel
theorem s_dcopy {m : M} (h : Snd X e m) (hm : X.mg "dict" = none) (hg : Gl X "dict" := by rfl) (he : starEach (e :: []) X.env = (false, eval e X.env) :: starEach [] X.env := by rfl) : Snd X (.Call (.Name "dict" p) [e] [] pos) (mDcopy m) :=
  pe_imp (pe_callTy call_dcopy hg hm boot_dict' (pa_cons h pa_nil he) (by decide) (by decide) he rfl) fun σ H Q h => by
  obtain ⟨ρ, l, S, d, S', hs, hl, hm, q⟩ := h
  obtain ⟨⟨x, S1⟩, e1, hm⟩ := bind2 hm
  obtain ⟨kvs, e2, hm⟩ := bind2 hm
  cases hm
  refine ⟨ρ, l, S, x, S1, hs, hl, e1, fun ρ1 v H1 x1 s1 r1 => ?_⟩
  obtain ⟨a, vs, rfl, h1, h2⟩ := dk_of' s1 r1 e2
  refine ⟨a, vs, rfl, h1, fun p hp => ?_⟩
  have h2' := h2.mono ((Ext.new (o := .dK vs) hp).sub s1)
  obtain ⟨s2, r2⟩ := take_new (c := .dK kvs) s1 hp (.dK h2')
  exact q (ρ1 ++ [p]) (.ref p) _ (x1.trans (Ext.newIn hp)) s2 r2
end
end Zi
set_option maxRecDepth 100000
/-! more methods of lists -/
namespace Zi
open PySem PySem.Spec PyProof.Rows L2
section
variable {X : Cx} {pos apos : Pos} {o e f : Expr} {mo me mf : M}
theorem RDs.insert {g : Wr} {ρ : List Addr} {H : Hp} {ds : List D} {vs : List V} {d : D} {v : V} (n : Nat) (r : RDs g ρ H ds vs) (rd : RD g ρ H d v) : RDs g ρ H (ds.take n ++ [d] ++ ds.drop n) (vs.take n ++ [v] ++ vs.drop n) :=
  ((r.take n).append (.cons rd .nil)).append (r.drop n)
/-- o.insert(e, f), e not below 0 -/
def mIns (o e f : M) : M := fun l S => (o l S).bind fun p => match p.1 with
  | .ref k => match p.2[k]? with
    | some (.lst _) => (e l p.2).bind fun r => (f l r.2).bind fun t => (ownO t.2 (.d p.1)).bind fun xs => match r.1 with
      | .int i => if xs.length < 1000000 ∧ 0 ≤ i ∧ i < 2 ^ 63 then some (.non, t.2.set k (.lst (xs.take i.toNat ++ [t.1] ++ xs.drop i.toNat))) else none
      | _ => none
    | _ => none
  | _ => none
theorem s_ins (ho : Snd X o mo) (he : Snd X e me) (hf : Snd X f mf) (hbase : attributeBase o "insert" X.env (eval o X.env) = eval o X.env := by rfl)
    (hfew : ((backTo pos (starEach [e, f] X.env)).all (fun x => !x.1) && (backToKw pos (keywordEach [] X.env)).all (fun x => x.1.isSome) && decide (([e, f] : List Expr).length + ([] : List Keyword).length + (if ([] : List Keyword).isEmpty then 0 else 1) < 30)) = true := by rfl)
    (hline : (apos.endLine == pos.line) = true := by rfl) (hs : starEach (e :: [f]) X.env = (false, eval e X.env) :: starEach [f] X.env := by rfl) (hs2 : starEach (f :: []) X.env = (false, eval f X.env) :: starEach [] X.env := by rfl) (hpl : (backTo pos (starEach [f] X.env)).any (·.1) = false := by rfl) : Snd X (.Call (.Attribute o "insert" apos) [e, f] [] pos) (mIns mo me mf) :=
  pe_imp (pe_bm PySem.F.plainAttrs_list PySem.F.slot_list_insert PySem.F.type_list_insert mt_insert ho (pa_cons he (pa_cons hf pa_nil hs2) hs) hbase hfew hline hs hpl) fun σ H Q h => by
  obtain ⟨ρ, l, S, d, S', hs, hl, hm, q⟩ := h
  obtain ⟨⟨x, S1⟩, e1, hm⟩ := bind2 hm
  refine ⟨ρ, l, S, x, S1, hs, hl, e1, fun ρ1 v H1 x1 s1 r1 => ?_⟩
  cases r1 with
  | @ref k a ek =>
    dsimp only at hm
    split at hm
    · rename_i ys ec
      obtain ⟨ob, h1, h2⟩ := s1.cell k a _ ek ec
      cases h2 with
      | lst h2 =>
        obtain ⟨⟨y, S2⟩, e2, hm⟩ := bind2 hm
        obtain ⟨⟨z, S3⟩, e3, hm⟩ := bind2 hm
        refine ⟨.inl ⟨rfl, _, SqL.of h1⟩, ρ1, l, S1, y, S2, s1, x1.loc hs hl, e2, fun ρ2 u H2 x2 s2 r2 => ?_⟩
        refine ⟨ρ2, l, S2, z, S3, s2, (x1.trans x2).loc hs hl, e3, fun ρ3 w H3 x3 s3 r3 => ?_⟩
        obtain ⟨xs, e4, hm⟩ := bind2 hm
        have ek3 := (x2.trans x3).pre _ _ ek
        dsimp only at e4
        have ec2 : S3[k]? = some (.lst xs) := by
          simp only [ownO] at e4
          split at e4
          · rename_i zs ez
            cases e4
            exact ez
          · cases e4
        obtain ⟨ob2, h3, h4⟩ := s3.cell k a _ ek3 ec2
        cases r2 with
        | int i =>
          dsimp only at hm
          split at hm
          · rename_i hz
            cases hm
            cases h4 with
            | lst h4 =>
              obtain ⟨x4, s4⟩ := s3.upd (c := .lst (xs.take i.toNat ++ [z] ++ xs.drop i.toNat)) ek3 ec2 rfl (.lst (RDs.insert i.toNat h4 r3))
              refine ⟨a, _, i, w, rfl, rfl, h3, ?_, hz.2.1, hz.2.2, q ρ3 _ _ (((x1.trans x2).trans x3).trans x4) s4 .non⟩
              have := hz.1
              rw [sizeLine_eq, ← h4.length]
              omega
          · cases hm
        | _ => cases hm
    · cases hm
  | _ => cases hm
end
end Zi
set_option maxRecDepth 100000
/-! reckoning: what the combinators give -/
namespace Zi
open PySem L2

theorem run_at {prog : Nat → Option Fb} {i : Nat} {fb : Fb} (h : prog i = some fb) (k : Nat) (ds : List D) (S : Sto) : run prog (k + 1) i ds S = (fb (run prog k) ds S).map (fin S) := by
  rw [run_succ, h]
  rfl
theorem fin_same {S : Sto} {d : D} (h : refLt S.length d = true) : fin S (d, S) = (d, S) := by
  unfold fin
  dsimp only
  rw [if_pos List.take_length, if_pos h]
theorem fin_more {S T : Sto} {d : D} (h : refLt S.length d = true) : fin S (d, S ++ T) = (d, S) := by
  unfold fin
  dsimp only
  rw [if_pos List.take_left, if_pos h]
theorem fin_list {S T : Sto} {ds : List D} (h : refLtL S.length ds = true) : fin S (.ref S.length, S ++ .lst ds :: T) = (.ref S.length, S ++ [.lst ds]) := by
  unfold fin
  dsimp only
  rw [if_pos List.take_left, if_neg (by simp [refLt])]
  have e : (S ++ Cell.lst ds :: T)[S.length]? = some (.lst ds) := by
    rw [List.getElem?_append_right (Nat.le_refl _), Nat.sub_self]
    rfl
  simp only [e]
  rw [if_pos (show cellLt S.length (.lst ds) = true from h)]
theorem refLt_int {n : Nat} (i : Int) : refLt n (.int i) = true := by simp [refLt]
theorem refLt_bl {n : Nat} (i : Bool) : refLt n (.bl i) = true := by simp [refLt]
theorem refLt_non {n : Nat} : refLt n .non = true := by simp [refLt]
theorem refLt_str {n : Nat} (x : Str) : refLt n (.str x) = true := by simp [refLt]
theorem refLt_tup {n : Nat} (xs : List D) : refLt n (.tup xs) = refLtL n xs := by simp [refLt]
theorem refLt_sl {n : Nat} (xs : List Int) : refLt n (.sl xs) = true := by simp [refLt]
theorem refLtL_nil {n : Nat} : refLtL n [] = true := by simp [refLtL]
theorem refLtL_cons {n : Nat} (d : D) (ds : List D) : refLtL n (d :: ds) = (refLt n d && refLtL n ds) := by simp [refLtL]
theorem mulC_r {i j : Int} (h : -(2 ^ 64) < j ∧ j < 2 ^ 64) : mulC i j = true := decide_eq_true (.inr h)
theorem mulC_l {i j : Int} (h : -(2 ^ 64) < i ∧ i < 2 ^ 64) : mulC i j = true := decide_eq_true (.inl h)
theorem divC_r {i j : Int} (h : 0 < j ∧ j < 2 ^ 64) : divC i j = true := decide_eq_true h
theorem modC_r {i j : Int} (h : 0 < j) : modC i j = true := decide_eq_true h
theorem atI_nn {α : Type} {xs : List α} {i : Int} (h : 0 ≤ i) : atI xs i = xs[i.toNat]? := by
  unfold atI ixN
  rw [if_pos h]
  by_cases h1 : i < xs.length
  · rw [if_pos h1]; rfl
  · rw [if_neg h1, List.getElem?_eq_none (by omega)]; rfl
theorem atI_0 {α : Type} {x : α} {xs : List α} : atI (x :: xs) 0 = some x := by rw [atI_nn (by decide)]; rfl
theorem atI_1 {α : Type} {x y : α} {xs : List α} : atI (x :: y :: xs) 1 = some y := by rw [atI_nn (by decide)]; rfl
theorem atI_2 {α : Type} {x y z : α} {xs : List α} : atI (x :: y :: z :: xs) 2 = some z := by rw [atI_nn (by decide)]; rfl

/-! ### the laws' cells -/
noncomputable def c_cell : MS := (mSeq (mSet 2 (mOp fAdd (mOp fMul (mC (.int 7)) (mVar 1)) (mC (.int 3))))
    (mSeq (mIfS (mBool (mOp fLt (mVar 1) (mFn1 fLen (oD (mVar 0))))) (mSet 2 (mOp ixF (mVar 0) (mVar 1))) mSkip)
    (mSeq (mIfS (mBool (mOp fLt (mVar 2) (mC (.int 0)))) (mSet 2 (mOp fSub (mC (.int 1)) (mOp fMul (mC (.int 2)) (mVar 2)))) mSkip)
    (mSeq (mIfS (mBool (mOp fLt (mVar 2) (mC (.int 1000000000)))) (mSeq (mSet 3 (mOp fMod (mFn1 fInt (oD (mOp fAdd (mOp fAdd (mOp fMul (mVar 2) (mC (.int 48271))) (mOp fMul (mVar 1) (mC (.int 69621)))) (mC (.int 11))))) (mC (.int 2147483647))))
    (mSeq (mSet 4 (mOp fMod (mFn1 fInt (oD (mOp fAdd (mOp fAdd (mOp fMul (mVar 3) (mC (.int 16807))) (mOp fMul (mVar 1) (mC (.int 31)))) (mC (.int 1013))))) (mC (.int 2147483629))))
    (mSeq (mSet 5 (mOp fMod (mFn1 fInt (oD (mOp fAdd (mOp fAdd (mOp fMul (mVar 4) (mC (.int 39373))) (mVar 3)) (mC (.int 77))))) (mC (.int 2147483587))))
    (mSet 2 (mOp fAdd (mOp fMul (mOp fAdd (mOp fMul (mVar 5) (mC (.int 2147483647))) (mVar 4)) (mC (.int 2147483647))) (mVar 3)))))) mSkip)
    (mRet (mVar 2))))))
def cellMix (c j : Int) : Int := if c < 1000000000 then
    let low := (c * 48271 + j * 69621 + 11) % 2147483647
    let mid := (low * 16807 + j * 31 + 1013) % 2147483629
    let high := (mid * 39373 + low + 77) % 2147483587
    (high * 2147483647 + mid) * 2147483647 + low
  else c
def cellRaw (ns : List Int) (j : Int) : Int := if j < ns.length then ns.getD j.toNat 0 else 7 * j + 3
def cellAbs (c : Int) : Int := if c < 0 then 1 - 2 * c else c
/-- the j-th cell of a script -/
def cellV (ns : List Int) (j : Int) : Int := cellMix (cellAbs (cellRaw ns j)) j
theorem cellV_nn (ns : List Int) {j : Int} (hj : 0 ≤ j) : 0 ≤ cellV ns j := by
  have h0 : 0 ≤ cellAbs (cellRaw ns j) := by unfold cellAbs; split <;> omega
  unfold cellV cellMix
  split
  · dsimp only
    have a1 := Int.emod_nonneg (cellAbs (cellRaw ns j) * 48271 + j * 69621 + 11) (show (2147483647 : Int) ≠ 0 by decide)
    generalize (cellAbs (cellRaw ns j) * 48271 + j * 69621 + 11) % 2147483647 = low at *
    have a2 := Int.emod_nonneg (low * 16807 + j * 31 + 1013) (show (2147483629 : Int) ≠ 0 by decide)
    generalize (low * 16807 + j * 31 + 1013) % 2147483629 = mid at *
    have a3 := Int.emod_nonneg (mid * 39373 + low + 77) (show (2147483587 : Int) ≠ 0 by decide)
    generalize (mid * 39373 + low + 77) % 2147483587 = high at *
    omega
  · exact h0
theorem seq_ifset {t : MT} {e : M} {c : MS} {i : Nat} {l : Lo} {S : Sto} {b : Bool} {v cur : D} (ht : t l S = some (b, S)) (he : b = true → e l S = some (v, S)) (hc : l[i]? = some (some cur)) :
    mSeq (mIfS t (mSet i e) mSkip) c l S = c (l.set i (some (if b = true then v else cur))) S := by
  unfold mSeq mIfS mSet mSkip
  simp only [ht, Option.bind_some]
  cases b with
  | true => simp only [he rfl, Option.bind_some, if_true]
  | false =>
    have e1 : l.set i (some cur) = l := by
      obtain ⟨h1, h2⟩ := List.getElem?_eq_some_iff.mp hc
      rw [← h2]
      exact List.set_getElem_self h1
    simp only [Bool.false_eq_true, if_false, Option.bind_some, e1]
theorem seq_set {e : M} {c : MS} {i : Nat} {l : Lo} {S S1 : Sto} {v : D} (he : e l S = some (v, S1)) : mSeq (mSet i e) c l S = c (l.set i (some v)) S1 := by
  unfold mSeq mSet
  simp only [he, Option.bind_some]
theorem seq_ifT {t : MT} {a b c : MS} {l : Lo} {S S1 : Sto} (ht : t l S = some (true, S1)) : mSeq (mIfS t a b) c l S = mSeq a c l S1 := by
  unfold mSeq mIfS
  simp only [ht, Option.bind_some, if_true]
theorem seq_ifF {t : MT} {a b c : MS} {l : Lo} {S S1 : Sto} (ht : t l S = some (false, S1)) : mSeq (mIfS t a b) c l S = mSeq b c l S1 := by
  unfold mSeq mIfS
  simp only [ht, Option.bind_some, Bool.false_eq_true, if_false]
theorem seq_skip {c : MS} {l : Lo} {S : Sto} : mSeq mSkip c l S = c l S := rfl
theorem seq_seq {a b c : MS} {l : Lo} {S : Sto} : mSeq (mSeq a b) c l S = mSeq a (mSeq b c) l S := by
  unfold mSeq
  cases a l S with
  | none => rfl
  | some p =>
    obtain ⟨f, S1⟩ := p
    cases f <;> rfl
theorem mk_run {n j : Nat} {ms : GF → MS} {G : GF} {ds : List D} {S S1 : Sto} {d : D} (hn : ds.length = n) (h : ms G (ds.map some ++ List.replicate (j - n) none) S = some (.rt d, S1)) : mkFb n j ms G ds S = some (d, S1) := by
  unfold mkFb
  rw [if_pos hn, h]
  rfl
theorem mk_at {n j : Nat} {ms : GF → MS} {G : GF} {ds : List D} {S S1 : Sto} {d : D} (hn : ds.length = n) (h : ms G (ds.map some ++ List.replicate (j - n) none) S = some (.rt d, S1)) : (mkFb n j ms G ds S).map (fin S) = some (fin S (d, S1)) := by
  rw [mk_run hn h]
  rfl
/-- a call's value where nothing is made -/
theorem call_pure {prog : Nat → Option Fb} {i n j k : Nat} {ms : GF → MS} {ds : List D} {S : Sto} {d : D} (hp : prog i = some (mkFb n j ms)) (hn : ds.length = n) (h : ms (run prog k) (ds.map some ++ List.replicate (j - n) none) S = some (.rt d, S)) (hr : refLt S.length d = true) : run prog (k + 1) i ds S = some (d, S) := by
  rw [run_at hp, mk_at hn h, fin_same hr]
local macro_rules | `(tactic| walk_at "ev") => `(tactic| (simp only [mSeq, mSet, mRet, mIfS, mOp, mC, mVar, mBool, mFn1, oD, oN, oS, fLen, lenO, seqO, mSkip, fAdd, fMul, fI, fI0, fLt, fLe, fGt, fGe, fSub, fMod, fDiv, fInt, ixF, mNil, mCons, mTup, mCall, mLst, mAlloc, mIsN, mNotN, isNon, mNotT, mAndT, mOrT, mTru, truD, mulC_r, mulC_l, divC_r, modC_r, atI_0, atI_1, atI_2, List.length_cons, List.length_nil, Option.bind_some, List.map_cons, List.map_nil, List.cons_append, List.nil_append, List.replicate, List.getElem?_cons_zero, List.getElem?_cons_succ, List.set_cons_zero, List.set_cons_succ, if_true, decide_true, Int.reduceNeg, Int.reducePow, Int.reduceLT, Nat.reduceAdd, Nat.reduceSub, and_self, Nat.reduceLeDiff]))
set_option maxHeartbeats 1000000 in
theorem run_cell {prog : Nat → Option Fb} {i : Nat} (h : prog i = some (mkFb 2 6 fun _ => c_cell)) (k : Nat) (ns : List Int) {j : Int} (hj : 0 ≤ j) (S : Sto) : run prog (k + 1) i [.sl ns, .int j] S = some (.int (cellV ns j), S) := by
  refine call_pure h rfl ?_ (refLt_int _)
  show c_cell [some (.sl ns), some (.int j), none, none, none, none] S = _
  unfold c_cell
  rw [seq_set (v := .int (7 * j + 3)) (S1 := S) (by walk_at "ev")]
  rw [seq_ifset (b := decide (j < (ns.length : Int))) (v := .int (ns.getD j.toNat 0)) (cur := .int (7 * j + 3)) (by walk_at "ev"; rw [List.length_map]) (fun hb => by
    have hlt : j < (ns.length : Int) := of_decide_eq_true hb
    have hg : atI ns j = some (ns.getD j.toNat 0) := by
      rw [atI_nn hj, List.getD_eq_getElem?_getD, List.getElem?_eq_getElem (by omega)]
      rfl
    walk_at "ev"
    rw [hg]
    rfl) rfl]
  have e1 : (if decide (j < (ns.length : Int)) = true then D.int (ns.getD j.toNat 0) else D.int (7 * j + 3)) = .int (cellRaw ns j) := by
    unfold cellRaw
    by_cases hh : j < (ns.length : Int) <;> simp [hh]
  rw [e1]
  generalize hr : cellRaw ns j = r
  rw [seq_ifset (b := decide (r < 0)) (v := .int (1 - 2 * r)) (cur := .int r) (by walk_at "ev") (fun _ => by walk_at "ev") rfl]
  have e2 : (if decide (r < 0) = true then D.int (1 - 2 * r) else D.int r) = .int (cellAbs r) := by
    unfold cellAbs
    by_cases hh : r < 0 <;> simp [hh]
  rw [e2]
  have hc : cellV ns j = cellMix (cellAbs r) j := by rw [← hr]; rfl
  rw [hc]
  generalize cellAbs r = c
  by_cases hlt : c < 1000000000
  · rw [seq_ifT (S1 := S) (by walk_at "ev"; simp [hlt])]
    have e3 : cellMix c j = (((((c * 48271 + j * 69621 + 11) % 2147483647 * 16807 + j * 31 + 1013) % 2147483629 * 39373 + (c * 48271 + j * 69621 + 11) % 2147483647 + 77) % 2147483587) * 2147483647 + ((c * 48271 + j * 69621 + 11) % 2147483647 * 16807 + j * 31 + 1013) % 2147483629) * 2147483647 + (c * 48271 + j * 69621 + 11) % 2147483647 := by
      unfold cellMix
      rw [if_pos hlt]
    rw [e3]
    walk_at "ev"
  · rw [seq_ifF (S1 := S) (by walk_at "ev"; simp [hlt]), seq_skip]
    have e3 : cellMix c j = c := by
      unfold cellMix
      rw [if_neg hlt]
    rw [e3]
    walk_at "ev"
end Zi
set_option maxRecDepth 100000
/-! reckoning: comparisons, loops -/
namespace Zi
open PySem L2
theorem snap_int {n : Nat} {S : Sto} (i : Int) : snap (n + 1) S (.int i) = some (.int i) := rfl
theorem snap_bl {n : Nat} {S : Sto} (i : Bool) : snap (n + 1) S (.bl i) = some (.bool i) := rfl
theorem snap_non {n : Nat} {S : Sto} : snap (n + 1) S .non = some .none := rfl
theorem snap_tup {n : Nat} {S : Sto} (xs : List D) : snap (n + 1) S (.tup xs) = (allS (snap n S) xs).bind fun r => some (.tuple r) := rfl
theorem eqv_int (i j : Int) : PyData.eqv (.int i) (.int j) = decide (i = j) := by
  simp only [PyData.eqv]
  exact Bool.eq_iff_iff.mpr (by simp)
theorem eqv_bl (i j : Bool) : PyData.eqv (.bool i) (.bool j) = decide (i = j) := by
  simp only [PyData.eqv]
  exact Bool.eq_iff_iff.mpr (by simp)
theorem eqvAll_self {f : D → Option PyData} (hf : ∀ d p, f d = some p → PyData.eqv p p = true) : ∀ (ds : List D) (ps : List PyData), allS f ds = some ps → PyData.eqvAll ps ps = true
  | [], ps, h => by cases h; rfl
  | d :: ds, ps, h => by
    obtain ⟨x, e1, h⟩ := bind2 h
    obtain ⟨r, e2, h⟩ := bind2 h
    cases h
    simp only [PyData.eqvAll, hf d x e1, eqvAll_self hf ds r e2, Bool.and_self]
theorem eqv_ints : ∀ ns : List Int, PyData.eqvAll (ns.map PyData.int) (ns.map PyData.int) = true
  | [] => rfl
  | n :: ns => by simp only [List.map_cons, PyData.eqvAll, eqv_int, decide_true, eqv_ints ns, Bool.and_self]
theorem eqv_self : ∀ {n : Nat} {S : Sto} {d : D} {p : PyData}, snap n S d = some p → PyData.eqv p p = true
  | 0, _, _, _, h => by cases h
  | n + 1, S, d, p, h => by
    cases d with
    | non => cases h; rfl
    | bl b => cases h; simp [PyData.eqv]
    | int i => cases h; simp [PyData.eqv]
    | str x =>
      simp only [snap] at h
      split at h
      · cases h; simp [PyData.eqv]
      · cases h
    | tup xs =>
      obtain ⟨r, e1, h⟩ := bind2 (show (allS (snap n S) xs).bind _ = some p from h)
      cases h
      simp only [PyData.eqv]
      exact eqvAll_self (fun d p h => eqv_self h) xs r e1
    | ktup xs =>
      obtain ⟨r, e1, h⟩ := bind2 (show (allS (snap n S) xs).bind _ = some p from h)
      cases h
      simp only [PyData.eqv]
      exact eqvAll_self (fun d p h => eqv_self h) xs r e1
    | sl ns => cases h; simp only [PyData.eqv]; exact eqv_ints ns
    | ref k =>
      simp only [snap] at h
      split at h
      · obtain ⟨r, e1, h⟩ := bind2 h
        cases h
        simp only [PyData.eqv]
        exact eqvAll_self (fun d p h => eqv_self h) _ r e1
      · cases h
    | fn x => cases h
theorem eqvO_self {S : Sto} {o : O} {p : PyData} (h : snapO S o = some p) : PyData.eqv p p = true := by
  cases o with
  | d d => exact eqv_self h
  | n ds =>
    obtain ⟨r, e1, h⟩ := bind2 h
    cases h
    simp only [PyData.eqv]
    exact eqvAll_self (fun d p h => eqv_self h) _ r e1
theorem fEq_int {S : Sto} (i j : Int) : fEq (.d (.int i)) (.d (.int j)) S = some (.bl (decide (i = j)), S) := by
  show some (D.bl (PyData.eqv (.int i) (.int j)), S) = _
  rw [eqv_int]
theorem fNe_int {S : Sto} (i j : Int) : fNe (.d (.int i)) (.d (.int j)) S = some (.bl (!decide (i = j)), S) := by
  show some (D.bl (!PyData.eqv (.int i) (.int j)), S) = _
  rw [eqv_int]
theorem fEq_bl {S : Sto} (i j : Bool) : fEq (.d (.bl i)) (.d (.bl j)) S = some (.bl (decide (i = j)), S) := by
  show some (D.bl (PyData.eqv (.bool i) (.bool j)), S) = _
  rw [eqv_bl]
/-- the same snapshot on both sides -/
theorem fEq_same {S : Sto} {a b : O} {p : PyData} (h1 : snapO S a = some p) (h2 : snapO S b = some p) : fEq a b S = some (.bl true, S) := by
  unfold fEq fDat
  rw [h1, h2]
  show some (D.bl (PyData.eqv p p), S) = _
  rw [eqvO_self h1]
theorem fNe_same {S : Sto} {a b : O} {p : PyData} (h1 : snapO S a = some p) (h2 : snapO S b = some p) : fNe a b S = some (.bl false, S) := by
  unfold fNe fDat
  rw [h1, h2]
  show some (D.bl (!PyData.eqv p p), S) = _
  rw [eqvO_self h1]
  rfl
/-- three ints of a list -/
theorem fNe_l3 {S : Sto} {k : Nat} {a b c : Int} (h : S[k]? = some (.lst [.int a, .int b, .int c])) : fNe (.n [.int a, .int b, .int c]) (.d (.ref k)) S = some (.bl false, S) := fNe_same (p := .list [.int a, .int b, .int c]) rfl (by
  show (match S[k]? with
    | some (.lst xs) => (allS (snap 189 S) xs).bind fun r => some (PyData.list r)
    | _ => none) = _
  rw [h]
  rfl)
theorem forL_nil {ok : Sto → Prop} {tg : MG} {body : MS} {l : Lo} {S : Sto} (h : ok S) : forL ok tg body [] l S = some (.nx l, S) := by
  unfold forL
  rw [if_pos h]
theorem forL_nx {ok : Sto → Prop} {tg : MG} {body : MS} {d : D} {ds : List D} {l l1 l2 : Lo} {S S1 : Sto} (h : ok S) (ht : tg d l S = some l1) (hb : body l1 S = some (.nx l2, S1)) : forL ok tg body (d :: ds) l S = forL ok tg body ds l2 S1 := by
  rw [forL]
  simp only [if_pos h, ht, hb, Option.bind_some]
theorem forL_ct {ok : Sto → Prop} {tg : MG} {body : MS} {d : D} {ds : List D} {l l1 l2 : Lo} {S S1 : Sto} (h : ok S) (ht : tg d l S = some l1) (hb : body l1 S = some (.ct l2, S1)) : forL ok tg body (d :: ds) l S = forL ok tg body ds l2 S1 := by
  rw [forL]
  simp only [if_pos h, ht, hb, Option.bind_some]
theorem forL_rt {ok : Sto → Prop} {tg : MG} {body : MS} {d r : D} {ds : List D} {l l1 : Lo} {S S1 : Sto} (h : ok S) (ht : tg d l S = some l1) (hb : body l1 S = some (.rt r, S1)) : forL ok tg body (d :: ds) l S = some (.rt r, S1) := by
  rw [forL]
  simp only [if_pos h, ht, hb, Option.bind_some]
theorem forL_bk {ok : Sto → Prop} {tg : MG} {body : MS} {d : D} {ds : List D} {l l1 l2 : Lo} {S S1 : Sto} (h : ok S) (ht : tg d l S = some l1) (hb : body l1 S = some (.bk l2, S1)) : forL ok tg body (d :: ds) l S = some (.nx l2, S1) := by
  rw [forL]
  simp only [if_pos h, ht, hb, Option.bind_some]
theorem seq_nx {a b : MS} {l l1 : Lo} {S S1 : Sto} (h : a l S = some (.nx l1, S1)) : mSeq a b l S = b l1 S1 := by
  unfold mSeq
  rw [h]
  rfl
theorem seq_rt {a b : MS} {l : Lo} {d : D} {S S1 : Sto} (h : a l S = some (.rt d, S1)) : mSeq a b l S = some (.rt d, S1) := by
  unfold mSeq
  rw [h]
  rfl
theorem for_of {src : MI} {tg : MG} {body : MS} {l : Lo} {S S1 : Sto} {s : Src} (h : src l S = some (s, S1)) : mFor src tg body l S = forL s.ok tg body s.ds l S1 := by
  unfold mFor
  rw [h]
  rfl
theorem run_step {prog : Nat → Option Fb} {i n j k : Nat} {ms : GF → MS} {ds : List D} {S S1 : Sto} {d : D} (hp : prog i = some (mkFb n j ms)) (hn : ds.length = n) (h : ms (run prog k) (ds.map some ++ List.replicate (j - n) none) S = some (.rt d, S1)) : run prog (k + 1) i ds S = some (fin S (d, S1)) := by
  rw [run_at hp, mk_at hn h]
theorem run_list {prog : Nat → Option Fb} {i n j k : Nat} {ms : GF → MS} {ds xs : List D} {S T : Sto} (hp : prog i = some (mkFb n j ms)) (hn : ds.length = n) (h : ms (run prog k) (ds.map some ++ List.replicate (j - n) none) S = some (.rt (.ref S.length), S ++ .lst xs :: T)) (hr : refLtL S.length xs = true) : run prog (k + 1) i ds S = some (.ref S.length, S ++ [.lst xs]) := by
  rw [run_step hp hn h, fin_list hr]
theorem run_more {prog : Nat → Option Fb} {i n j k : Nat} {ms : GF → MS} {ds : List D} {S T : Sto} {d : D} (hp : prog i = some (mkFb n j ms)) (hn : ds.length = n) (h : ms (run prog k) (ds.map some ++ List.replicate (j - n) none) S = some (.rt d, S ++ T)) (hr : refLt S.length d = true) : run prog (k + 1) i ds S = some (d, S) := by
  rw [run_step hp hn h, fin_more hr]
end Zi
set_option maxRecDepth 100000
/-! shared functions: what they compute -/
namespace Zi
open PySem L2
def k_TRUTH : D := .ktup [.ktup [.int (0), .int (0), .int (0)], .ktup []]
/-- 0 0 a -/
def c_answer (G : GF) : MS := (mRet (mTup (mCons (mC (.int 5)) (mCons (mVar 0) (mCons (mC (.int 0)) mNil)))))
/-- 1 0 first, 1 second -/
def c_comes_before (G : GF) : MS := (mRet (mOp fLtT (mVar 0) (mVar 1)))
/-- 2 0 _law_script, 1 _law_k, 2 _law_cell_here, 3 _law_low, 4 _law_mid, 5 _law_high -/
def c__law_cell (G : GF) : MS := (mSeq (mSet 2 (mOp fAdd (mOp fMul (mC (.int 7)) (mVar 1)) (mC (.int 3))))
    (mSeq (mIfS (mBool (mOp fLt (mVar 1) (mFn1 fLen (oD (mVar 0))))) (mSet 2 (mOp ixF (mVar 0) (mVar 1))) mSkip)
    (mSeq (mIfS (mBool (mOp fLt (mVar 2) (mC (.int 0)))) (mSet 2 (mOp fSub (mC (.int 1)) (mOp fMul (mC (.int 2)) (mVar 2)))) mSkip)
    (mSeq (mIfS (mBool (mOp fLt (mVar 2) (mC (.int 1000000000)))) (mSeq (mSet 3 (mOp fMod (mFn1 fInt (oD (mOp fAdd (mOp fAdd (mOp fMul (mVar 2) (mC (.int 48271))) (mOp fMul (mVar 1) (mC (.int 69621)))) (mC (.int 11))))) (mC (.int 2147483647))))
    (mSeq (mSet 4 (mOp fMod (mFn1 fInt (oD (mOp fAdd (mOp fAdd (mOp fMul (mVar 3) (mC (.int 16807))) (mOp fMul (mVar 1) (mC (.int 31)))) (mC (.int 1013))))) (mC (.int 2147483629))))
    (mSeq (mSet 5 (mOp fMod (mFn1 fInt (oD (mOp fAdd (mOp fAdd (mOp fMul (mVar 4) (mC (.int 39373))) (mVar 3)) (mC (.int 77))))) (mC (.int 2147483587))))
    (mSet 2 (mOp fAdd (mOp fMul (mOp fAdd (mOp fMul (mVar 5) (mC (.int 2147483647))) (mVar 4)) (mC (.int 2147483647))) (mVar 3)))))) mSkip)
    (mRet (mVar 2))))))
/-- 3 0 term -/
def c_is_variable (G : GF) : MS := (mRet (mIsI "int" (oD (mVar 0))))
/-- 4 0 term, 1 total, 2 part -/
noncomputable def c_size (G : GF) : MS := (mSeq (mIfS (mTru (mCall (G 3) (mCons (mVar 0) mNil))) (mRet (mC (.int 1))) mSkip)
    (mSeq (mSet 1 (mC (.int 1)))
    (mSeq (mFor (mSrc (oD (mOp ixF (mVar 0) (mC (.int 1))))) (mgN 2) (mAug 1 fIadd (mCall (G 4) (mCons (mVar 2) mNil))))
    (mRet (mVar 1)))))
/-- 5 0 term, 1 deepest, 2 part -/
noncomputable def c_depth (G : GF) : MS := (mSeq (mIfS (mOrT (mTru (mCall (G 3) (mCons (mVar 0) mNil))) (mNotT (mTru (mOp ixF (mVar 0) (mC (.int 1)))))) (mRet (mC (.int 0))) mSkip)
    (mSeq (mSet 1 (mC (.int 0)))
    (mSeq (mFor (mSrc (oD (mOp ixF (mVar 0) (mC (.int 1))))) (mgN 2) (mSet 1 (mMax2 (mVar 1) (mCall (G 5) (mCons (mVar 2) mNil)))))
    (mRet (mOp fAdd (mVar 1) (mC (.int 1)))))))
/-- 6 0 term, 1 variable, 2 total, 3 part -/
noncomputable def c_occurrences (G : GF) : MS := (mSeq (mIfS (mTru (mCall (G 3) (mCons (mVar 0) mNil))) (mRet (mIf (mBool (mOpO fEq (oD (mVar 0)) (oD (mVar 1)))) (mC (.int 1)) (mC (.int 0)))) mSkip)
    (mSeq (mSet 2 (mC (.int 0)))
    (mSeq (mFor (mSrc (oD (mOp ixF (mVar 0) (mC (.int 1))))) (mgN 3) (mAug 2 fIadd (mCall (G 6) (mCons (mVar 3) (mCons (mVar 1) mNil)))))
    (mRet (mVar 2)))))
/-- 7 0 term, 1 found, 2 part -/
noncomputable def c_collect (G : GF) : MS := (mIfS (mTru (mCall (G 3) (mCons (mVar 0) mNil))) (mIfS (mBool (mOpO fNin (oD (mVar 0)) (oD (mVar 1)))) (mDrop (mApp (mVar 1) (mVar 0))) mSkip) (mFor (mSrc (oD (mOp ixF (mVar 0) (mC (.int 1))))) (mgN 2) (mDrop (mCall (G 7) (mCons (mVar 2) (mCons (mVar 1) mNil))))))
/-- 8 0 term, 1 found -/
def c_variables (G : GF) : MS := (mSeq (mSet 1 (mAlloc (mLst mNil)))
    (mSeq (mDrop (mCall (G 7) (mCons (mVar 0) (mCons (mVar 1) mNil))))
    (mRet (mVar 1))))
/-- 9 0 _law_actual -/
def c__law_is_integer (G : GF) : MS := (mRet (mAnd (mIsI "int" (oD (mVar 0))) (mNot (mIsI "bool" (oD (mVar 0))))))
/-- 10 0 _law_actual, 1 _law_due -/
def c__law_is_truth (G : GF) : MS := (mRet (mAnd (mIsI "bool" (oD (mVar 0))) (mOpO fEq (oD (mVar 0)) (oD (mVar 1)))))
/-- 11 0 _law_n, 1 _law_symbols -/
def c__law_symbol (G : GF) : MS := (mSeq (mSet 1 (mAlloc (mLst (mCons (mTup (mCons (mC (.int 2)) (mCons (mC (.int 0)) (mCons (mC (.int 0)) mNil)))) (mCons (mTup (mCons (mC (.int 2)) (mCons (mC (.int 1)) (mCons (mC (.int 0)) mNil)))) (mCons (mTup (mCons (mC (.int 3)) (mCons (mC (.int 0)) (mCons (mC (.int 0)) mNil)))) (mCons (mTup (mCons (mC (.int 2)) (mCons (mC (.int 2)) (mCons (mC (.int 0)) mNil)))) (mCons (mTup (mCons (mC (.int 3)) (mCons (mC (.int 4)) (mCons (mC (.int 1)) mNil)))) mNil))))))))
    (mRet (mOp ixF (mVar 1) (mOp fMod (mFn1 fInt (oD (mVar 0))) (mC (.int 5))))))
/-- 12 0 _law_row, 1 _law_deep, 2 _law_kind, 3 _law_many, 4 _law_symbol_here, 5 _law_parts, 6 _law_k, 7 _law_found -/
noncomputable def c__law_term (G : GF) : MS := (mSeq (mSet 2 (mOp fMod (mFn1 fInt (oD (mVar 0))) (mC (.int 5))))
    (mSeq (mSet 0 (mOp fDiv (mVar 0) (mC (.int 5))))
    (mSeq (mIfS (mBool (mOp fLt (mVar 2) (mC (.int 2)))) (mRet (mTup (mCons (mOp fMod (mFn1 fInt (oD (mVar 0))) (mC (.int 3))) (mCons (mOp fDiv (mVar 0) (mC (.int 3))) mNil)))) mSkip)
    (mSeq (mSet 3 (mOp fMod (mFn1 fInt (oD (mVar 0))) (mC (.int 3))))
    (mSeq (mSet 0 (mOp fDiv (mVar 0) (mC (.int 3))))
    (mSeq (mIfS (mBool (mOpO fEq (oD (mVar 1)) (oD (mC (.int 0))))) (mSet 3 (mC (.int 0))) mSkip)
    (mSeq (mSet 4 (mCall (G 11) (mCons (mOp fMod (mFn1 fInt (oD (mVar 0))) (mC (.int 5))) mNil)))
    (mSeq (mSet 0 (mOp fDiv (mVar 0) (mC (.int 5))))
    (mSeq (mSet 5 (mAlloc (mLst mNil)))
    (mSeq (mFor (mRng1 (mVar 3)) (mgN 6) (mSeq (mSet 7 (mCall (G 12) (mCons (mVar 0) (mCons (mOp fSub (mVar 1) (mC (.int 1))) mNil))))
    (mSeq (mDrop (mApp (mVar 5) (mOp ixF (mVar 7) (mC (.int 0)))))
    (mSet 0 (mOp ixF (mVar 7) (mC (.int 1)))))))
    (mRet (mTup (mCons (mTup (mCons (mVar 4) (mCons (mFn1 fTupc (oD (mVar 5))) mNil))) (mCons (mVar 0) mNil))))))))))))))
/-- 13 0 _law_row, 1 _law_deep, 2 _law_symbols, 3 _law_symbol_here, 4 _law_many, 5 _law_parts, 6 _law_k, 7 _law_found -/
noncomputable def c__law_atom (G : GF) : MS := (mSeq (mSet 2 (mAlloc (mLst (mCons (mTup (mCons (mC (.int 1)) (mCons (mC (.int 0)) (mCons (mC (.int 0)) mNil)))) (mCons (mTup (mCons (mC (.int 1)) (mCons (mC (.int 1)) (mCons (mC (.int 0)) mNil)))) (mCons (mTup (mCons (mC (.int 4)) (mCons (mC (.int 0)) (mCons (mC (.int 0)) mNil)))) (mCons (mTup (mCons (mC (.int 1)) (mCons (mC (.int 2)) (mCons (mC (.int 0)) mNil)))) (mCons (mTup (mCons (mC (.int 5)) (mCons (mC (.int 2)) (mCons (mC (.int 0)) mNil)))) (mCons (mTup (mCons (mC (.int 0)) (mCons (mC (.int 0)) (mCons (mC (.int 0)) mNil)))) mNil)))))))))
    (mSeq (mSet 3 (mOp ixF (mVar 2) (mOp fMod (mFn1 fInt (oD (mVar 0))) (mC (.int 6)))))
    (mSeq (mSet 0 (mOp fDiv (mVar 0) (mC (.int 6))))
    (mSeq (mSet 4 (mOp fMod (mFn1 fInt (oD (mVar 0))) (mC (.int 3))))
    (mSeq (mSet 0 (mOp fDiv (mVar 0) (mC (.int 3))))
    (mSeq (mSet 5 (mAlloc (mLst mNil)))
    (mSeq (mFor (mRng1 (mVar 4)) (mgN 6) (mSeq (mSet 7 (mCall (G 12) (mCons (mVar 0) (mCons (mVar 1) mNil))))
    (mSeq (mDrop (mApp (mVar 5) (mOp ixF (mVar 7) (mC (.int 0)))))
    (mSet 0 (mOp ixF (mVar 7) (mC (.int 1)))))))
    (mRet (mTup (mCons (mTup (mCons (mVar 3) (mCons (mFn1 fTupc (oD (mVar 5))) mNil))) (mCons (mVar 0) mNil)))))))))))
/-- 14 0 _law_term_here -/
def c__law_is_variable (G : GF) : MS := (mRet (mIsI "int" (oD (mVar 0))))
/-- 15 0 _law_term_here, 1 _law_found, 2 _law_part -/
noncomputable def c__law_variables (G : GF) : MS := (mSeq (mIfS (mTru (mCall (G 14) (mCons (mVar 0) mNil))) (mSeq (mIfS (mBool (mOpO fNin (oD (mVar 0)) (oD (mVar 1)))) (mSet 1 (mAlloc (mCatL (oD (mVar 1)) (oN (mLst (mCons (mVar 0) mNil)))))) mSkip)
    (mRet (mVar 1))) mSkip)
    (mSeq (mFor (mSrc (oD (mOp ixF (mVar 0) (mC (.int 1))))) (mgN 2) (mSet 1 (mCall (G 15) (mCons (mVar 2) (mCons (mVar 1) mNil)))))
    (mRet (mVar 1))))
/-- 16 0 _law_term_here, 1 _law_variable, 2 _law_total, 3 _law_part -/
noncomputable def c__law_count (G : GF) : MS := (mSeq (mIfS (mTru (mCall (G 14) (mCons (mVar 0) mNil))) (mRet (mIf (mBool (mOpO fEq (oD (mVar 0)) (oD (mVar 1)))) (mC (.int 1)) (mC (.int 0)))) mSkip)
    (mSeq (mSet 2 (mC (.int 0)))
    (mSeq (mFor (mSrc (oD (mOp ixF (mVar 0) (mC (.int 1))))) (mgN 3) (mSet 2 (mOp fAdd (mVar 2) (mCall (G 16) (mCons (mVar 3) (mCons (mVar 1) mNil))))))
    (mRet (mVar 2)))))
/-- 17 0 _law_term_here, 1 _law_part -/
noncomputable def c__law_size (G : GF) : MS := (mSeq (mIfS (mTru (mCall (G 14) (mCons (mVar 0) mNil))) (mRet (mC (.int 1))) mSkip)
    (mRet (mOp fAdd (mC (.int 1)) (mFn1 fSum (oN (mComp (mSrc (oD (mOp ixF (mVar 0) (mC (.int 1))))) [1] (mgN 1) mYes (mCall (G 17) (mCons (mVar 1) mNil))))))))
/-- 18 0 _law_term_here, 1 _law_part -/
noncomputable def c__law_depth (G : GF) : MS := (mSeq (mIfS (mOrT (mTru (mCall (G 14) (mCons (mVar 0) mNil))) (mNotT (mTru (mOp ixF (mVar 0) (mC (.int 1)))))) (mRet (mC (.int 0))) mSkip)
    (mRet (mOp fAdd (mC (.int 1)) (mFn1 fMax (oN (mComp (mSrc (oD (mOp ixF (mVar 0) (mC (.int 1))))) [1] (mgN 1) mYes (mCall (G 18) (mCons (mVar 1) mNil))))))))
/-- 19 0 term -/
def c_is_atom (G : GF) : MS := (mRet (mAnd (mNot (mCall (G 3) (mCons (mVar 0) mNil))) (mOpO fIn (oD (mOp ixF (mOp ixF (mVar 0) (mC (.int 0))) (mC (.int 0)))) (oD (mTup (mCons (mC (.int 0)) (mCons (mC (.int 1)) (mCons (mC (.int 4)) (mCons (mC (.int 5)) mNil)))))))))
/-- 20 0 term, 1 part -/
noncomputable def c_is_individual (G : GF) : MS := (mSeq (mIfS (mTru (mCall (G 3) (mCons (mVar 0) mNil))) (mRet (mC (.bl true))) mSkip)
    (mSeq (mIfS (mBool (mOpO fNin (oD (mOp ixF (mOp ixF (mVar 0) (mC (.int 0))) (mC (.int 0)))) (oD (mTup (mCons (mC (.int 2)) (mCons (mC (.int 3)) mNil)))))) (mRet (mC (.bl false))) mSkip)
    (mSeq (mFor (mSrc (oD (mOp ixF (mVar 0) (mC (.int 1))))) (mgN 1) (mIfS (mNotT (mTru (mCall (G 20) (mCons (mVar 1) mNil)))) (mRet (mC (.bl false))) mSkip))
    (mRet (mC (.bl true))))))
/-- 21 0 term, 1 part -/
noncomputable def c_is_atomic (G : GF) : MS := (mSeq (mIfS (mNotT (mTru (mCall (G 19) (mCons (mVar 0) mNil)))) (mRet (mC (.bl false))) mSkip)
    (mSeq (mFor (mSrc (oD (mOp ixF (mVar 0) (mC (.int 1))))) (mgN 1) (mIfS (mNotT (mTru (mCall (G 20) (mCons (mVar 1) mNil)))) (mRet (mC (.bl false))) mSkip))
    (mRet (mC (.bl true)))))
/-- 22 0 _law_term_here -/
def c__law_is_atom (G : GF) : MS := (mRet (mAnd (mNot (mCall (G 14) (mCons (mVar 0) mNil))) (mAnd (mOpO fNe (oD (mOp ixF (mOp ixF (mVar 0) (mC (.int 0))) (mC (.int 0)))) (oD (mC (.int 2)))) (mOpO fNe (oD (mOp ixF (mOp ixF (mVar 0) (mC (.int 0))) (mC (.int 0)))) (oD (mC (.int 3)))))))
/-- 23 0 _law_term_here, 1 _law_part -/
noncomputable def c__law_is_individual (G : GF) : MS := (mSeq (mIfS (mTru (mCall (G 14) (mCons (mVar 0) mNil))) (mRet (mC (.bl true))) mSkip)
    (mSeq (mIfS (mAndT (mBool (mOpO fNe (oD (mOp ixF (mOp ixF (mVar 0) (mC (.int 0))) (mC (.int 0)))) (oD (mC (.int 2))))) (mBool (mOpO fNe (oD (mOp ixF (mOp ixF (mVar 0) (mC (.int 0))) (mC (.int 0)))) (oD (mC (.int 3)))))) (mRet (mC (.bl false))) mSkip)
    (mRet (mFn1 fAll (oN (mComp (mSrc (oD (mOp ixF (mVar 0) (mC (.int 1))))) [1] (mgN 1) mYes (mCall (G 23) (mCons (mVar 1) mNil))))))))
/-- 24 0 _law_term_here, 1 _law_part -/
noncomputable def c__law_is_atomic (G : GF) : MS := (mSeq (mIfS (mOrT (mTru (mCall (G 14) (mCons (mVar 0) mNil))) (mOrT (mBool (mOpO fEq (oD (mOp ixF (mOp ixF (mVar 0) (mC (.int 0))) (mC (.int 0)))) (oD (mC (.int 2))))) (mBool (mOpO fEq (oD (mOp ixF (mOp ixF (mVar 0) (mC (.int 0))) (mC (.int 0)))) (oD (mC (.int 3))))))) (mRet (mC (.bl false))) mSkip)
    (mRet (mFn1 fAll (oN (mComp (mSrc (oD (mOp ixF (mVar 0) (mC (.int 1))))) [1] (mgN 1) mYes (mCall (G 23) (mCons (mVar 1) mNil)))))))
/-- 25 0 term, 1 found, 2 k, 3 part, 4 place, 5 inner -/
noncomputable def c_places (G : GF) : MS := (mSeq (mSet 1 (mAlloc (mLst (mCons (mTup (mCons (mTup mNil) (mCons (mVar 0) mNil))) mNil))))
    (mSeq (mIfS (mNotT (mTru (mCall (G 3) (mCons (mVar 0) mNil)))) (mFor (mEnum (oD (mOp ixF (mVar 0) (mC (.int 1))))) (mgTup 2 (mgCons (mgN 2) (mgCons (mgN 3) mgNil))) (mFor (mSrc (oD (mCall (G 25) (mCons (mVar 3) mNil)))) (mgTup 2 (mgCons (mgN 4) (mgCons (mgN 5) mgNil))) (mDrop (mApp (mVar 1) (mTup (mCons (mOp fAdd (mTup (mCons (mVar 2) mNil)) (mVar 4)) (mCons (mVar 5) mNil))))))) mSkip)
    (mRet (mVar 1))))
/-- 26 0 term, 1 place, 2 here, 3 step -/
noncomputable def c_at (G : GF) : MS := (mSeq (mSet 2 (mVar 0))
    (mSeq (mFor (mSrc (oD (mVar 1))) (mgN 3) (mSeq (mIfS (mOrT (mTru (mCall (G 3) (mCons (mVar 2) mNil))) (mOrT (mBool (mOp fLt (mVar 3) (mC (.int 0)))) (mBool (mOp fGe (mVar 3) (mFn1 fLen (oD (mOp ixF (mVar 2) (mC (.int 1))))))))) (mRet (mC .non)) mSkip)
    (mSet 2 (mOp ixF (mOp ixF (mVar 2) (mC (.int 1))) (mVar 3)))))
    (mRet (mVar 2))))
/-- 27 0 _law_term_here, 1 _law_found, 2 _law_k, 3 _law_pair -/
noncomputable def c__law_places (G : GF) : MS := (mSeq (mSet 1 (mAlloc (mLst (mCons (mTup (mCons (mTup mNil) (mCons (mVar 0) mNil))) mNil))))
    (mSeq (mIfS (mNotT (mTru (mCall (G 14) (mCons (mVar 0) mNil)))) (mFor (mRng1 (mFn1 fLen (oD (mOp ixF (mVar 0) (mC (.int 1)))))) (mgN 2) (mFor (mSrc (oD (mCall (G 27) (mCons (mOp ixF (mOp ixF (mVar 0) (mC (.int 1))) (mVar 2)) mNil)))) (mgN 3) (mDrop (mApp (mVar 1) (mTup (mCons (mOp fAdd (mTup (mCons (mVar 2) mNil)) (mOp ixF (mVar 3) (mC (.int 0)))) (mCons (mOp ixF (mVar 3) (mC (.int 1))) mNil))))))) mSkip)
    (mRet (mVar 1))))
/-- 28 0 _law_row, 1 _law_steps_here, 2 _law_k -/
noncomputable def c__law_steps (G : GF) : MS := (mSeq (mSet 1 (mAlloc (mLst mNil)))
    (mSeq (mFor (mRng1 (mOp fMod (mFn1 fInt (oD (mVar 0))) (mC (.int 5)))) (mgN 2) (mSeq (mSet 0 (mOp fDiv (mVar 0) (mC (.int 5))))
    (mDrop (mApp (mVar 1) (mOp fMod (mFn1 fInt (oD (mVar 0))) (mC (.int 4)))))))
    (mRet (mFn1 fTupc (oD (mVar 1))))))
/-- 29 0 term, 1 place, 2 new, 3 step, 4 parts -/
def c_put_inside (G : GF) : MS := (mSeq (mIfS (mNotT (mTru (mVar 1))) (mRet (mVar 2)) mSkip)
    (mSeq (mSet 3 (mOp ixF (mVar 1) (mC (.int 0))))
    (mSeq (mSet 4 (mAlloc (mLisc (oD (mOp ixF (mVar 0) (mC (.int 1)))))))
    (mSeq (mSetI (mVar 4) (mVar 3) (mCall (G 29) (mCons (mOp ixF (mVar 4) (mVar 3)) (mCons (oS (mSl (mVar 1) (mSoI (mC (.int 1))) mNoI)) (mCons (mVar 2) mNil)))))
    (mRet (mTup (mCons (mOp ixF (mVar 0) (mC (.int 0))) (mCons (mFn1 fTupc (oD (mVar 4))) mNil))))))))
/-- 30 0 term, 1 place, 2 new -/
def c_put_at (G : GF) : MS := (mSeq (mIfS (mBool (mIsN (mCall (G 26) (mCons (mVar 0) (mCons (mVar 1) mNil))))) (mRet (mVar 0)) mSkip)
    (mRet (mCall (G 29) (mCons (mVar 0) (mCons (mVar 1) (mCons (mVar 2) mNil))))))
/-- 31 0 literal, 1 k -/
def c_side (G : GF) : MS := (mRet (mOp ixF (mVar 0) (mOp fAdd (mC (.int 1)) (mVar 1))))
/-- 32 0 literal, 1 k, 2 term -/
def c_with_side (G : GF) : MS := (mSeq (mIfS (mBool (mOpO fEq (oD (mVar 1)) (oD (mC (.int 0))))) (mRet (mTup (mCons (mOp ixF (mVar 0) (mC (.int 0))) (mCons (mVar 2) (mCons (mOp ixF (mVar 0) (mC (.int 2))) mNil))))) mSkip)
    (mRet (mTup (mCons (mOp ixF (mVar 0) (mC (.int 0))) (mCons (mOp ixF (mVar 0) (mC (.int 1))) (mCons (mVar 2) mNil))))))
/-- 33 0 first, 1 second -/
def c_same_sides (G : GF) : MS := (mSeq (mIfS (mAndT (mBool (mOpO fEq (oD (mOp ixF (mVar 0) (mC (.int 1)))) (oD (mOp ixF (mVar 1) (mC (.int 1)))))) (mBool (mOpO fEq (oD (mOp ixF (mVar 0) (mC (.int 2)))) (oD (mOp ixF (mVar 1) (mC (.int 2))))))) (mRet (mC (.bl true))) mSkip)
    (mRet (mAnd (mOpO fEq (oD (mOp ixF (mVar 0) (mC (.int 1)))) (oD (mOp ixF (mVar 1) (mC (.int 2))))) (mOpO fEq (oD (mOp ixF (mVar 0) (mC (.int 2)))) (oD (mOp ixF (mVar 1) (mC (.int 1))))))))
/-- 34 0 first, 1 second -/
def c_same (G : GF) : MS := (mRet (mAnd (mOpO fEq (oD (mOp ixF (mVar 0) (mC (.int 0)))) (oD (mOp ixF (mVar 1) (mC (.int 0))))) (mCall (G 33) (mCons (mVar 0) (mCons (mVar 1) mNil)))))
/-- 35 0 literal -/
def c_is_well_formed_literal (G : GF) : MS := (mSeq (mIfS (mAndT (mTru (mCall (G 20) (mCons (mOp ixF (mVar 0) (mC (.int 1))) mNil))) (mTru (mCall (G 20) (mCons (mOp ixF (mVar 0) (mC (.int 2))) mNil)))) (mRet (mC (.bl true))) mSkip)
    (mRet (mAnd (mCall (G 21) (mCons (mOp ixF (mVar 0) (mC (.int 1))) mNil)) (mOpO fEq (oD (mOp ixF (mVar 0) (mC (.int 2)))) (oD (mC k_TRUTH))))))
/-- 36 0 clause, 1 literal -/
noncomputable def c_is_well_formed (G : GF) : MS := (mSeq (mFor (mSrc (oD (mVar 0))) (mgN 1) (mIfS (mNotT (mTru (mCall (G 35) (mCons (mVar 1) mNil)))) (mRet (mC (.bl false))) mSkip))
    (mRet (mC (.bl true))))
/-- 37 0 _law_row, 1 _law_deep, 2 _law_positive, 3 _law_kind, 4 _law_found, 5 _law_left, 6 _law_right -/
def c__law_literal (G : GF) : MS := (mSeq (mSet 2 (mOpO fEq (oD (mOp fMod (mFn1 fInt (oD (mVar 0))) (mC (.int 2)))) (oD (mC (.int 0)))))
    (mSeq (mSet 3 (mOp fMod (mOp fDiv (mVar 0) (mC (.int 2))) (mC (.int 3))))
    (mSeq (mSet 0 (mOp fDiv (mVar 0) (mC (.int 6))))
    (mSeq (mIfS (mBool (mOpO fEq (oD (mVar 3)) (oD (mC (.int 0))))) (mSeq (mSet 4 (mCall (G 13) (mCons (mVar 0) (mCons (mVar 1) mNil))))
    (mRet (mTup (mCons (mTup (mCons (mVar 2) (mCons (mOp ixF (mVar 4) (mC (.int 0))) (mCons (mTup (mCons (mTup (mCons (mC (.int 0)) (mCons (mC (.int 0)) (mCons (mC (.int 0)) mNil)))) (mCons (mTup mNil) mNil))) mNil)))) (mCons (mOp ixF (mVar 4) (mC (.int 1))) mNil))))) mSkip)
    (mSeq (mSet 5 (mCall (G 12) (mCons (mVar 0) (mCons (mVar 1) mNil))))
    (mSeq (mSet 6 (mCall (G 12) (mCons (mOp ixF (mVar 5) (mC (.int 1))) (mCons (mVar 1) mNil))))
    (mRet (mTup (mCons (mTup (mCons (mVar 2) (mCons (mOp ixF (mVar 5) (mC (.int 0))) (mCons (mOp ixF (mVar 6) (mC (.int 0))) mNil)))) (mCons (mOp ixF (mVar 6) (mC (.int 1))) mNil))))))))))
/-- 38 0 _law_row, 1 _law_most, 2 _law_deep, 3 _law_many, 4 _law_literals, 5 _law_k, 6 _law_found -/
noncomputable def c__law_clause (G : GF) : MS := (mSeq (mSet 3 (mOp fMod (mFn1 fInt (oD (mVar 0))) (mOp fAdd (mVar 1) (mC (.int 1)))))
    (mSeq (mSet 0 (mOp fDiv (mVar 0) (mOp fAdd (mVar 1) (mC (.int 1)))))
    (mSeq (mSet 4 (mAlloc (mLst mNil)))
    (mSeq (mFor (mRng1 (mVar 3)) (mgN 5) (mSeq (mSet 6 (mCall (G 37) (mCons (mVar 0) (mCons (mVar 2) mNil))))
    (mSeq (mDrop (mApp (mVar 4) (mOp ixF (mVar 6) (mC (.int 0)))))
    (mSeq (mSet 0 (mOp ixF (mVar 6) (mC (.int 1))))
    (mIfS (mBool (mOpO fEq (oD (mOp fMod (mOp fDiv (mVar 0) (mC (.int 3))) (mC (.int 4)))) (oD (mC (.int 1))))) (mDrop (mApp (mVar 4) (mOp ixF (mVar 4) (mOp fMod (mFn1 fInt (oD (mVar 0))) (mFn1 fLen (oD (mVar 4))))))) mSkip)))))
    (mRet (mFn1 fTupc (oD (mVar 4))))))))
/-- 39 0 _law_first, 1 _law_second_here -/
def c__law_same (G : GF) : MS := (mSeq (mIfS (mBool (mOpO fNe (oD (mOp ixF (mVar 0) (mC (.int 0)))) (oD (mOp ixF (mVar 1) (mC (.int 0)))))) (mRet (mC (.bl false))) mSkip)
    (mSeq (mIfS (mAndT (mBool (mOpO fEq (oD (mOp ixF (mVar 0) (mC (.int 1)))) (oD (mOp ixF (mVar 1) (mC (.int 1)))))) (mBool (mOpO fEq (oD (mOp ixF (mVar 0) (mC (.int 2)))) (oD (mOp ixF (mVar 1) (mC (.int 2))))))) (mRet (mC (.bl true))) mSkip)
    (mRet (mAnd (mOpO fEq (oD (mOp ixF (mVar 0) (mC (.int 1)))) (oD (mOp ixF (mVar 1) (mC (.int 2))))) (mOpO fEq (oD (mOp ixF (mVar 0) (mC (.int 2)))) (oD (mOp ixF (mVar 1) (mC (.int 1)))))))))
noncomputable def lZl0 : List Fb := [mkFb 1 1 c_answer,
  mkFb 2 2 c_comes_before,
  mkFb 2 6 c__law_cell,
  mkFb 1 1 c_is_variable,
  mkFb 1 3 c_size,
  mkFb 1 3 c_depth,
  mkFb 2 4 c_occurrences,
  mkFb 2 3 c_collect,
  mkFb 1 2 c_variables,
  mkFb 1 1 c__law_is_integer,
  mkFb 2 2 c__law_is_truth,
  mkFb 1 2 c__law_symbol,
  mkFb 2 8 c__law_term,
  mkFb 2 8 c__law_atom,
  mkFb 1 1 c__law_is_variable,
  mkFb 2 3 c__law_variables,
  mkFb 2 4 c__law_count,
  mkFb 1 2 c__law_size,
  mkFb 1 2 c__law_depth,
  mkFb 1 1 c_is_atom,
  mkFb 1 2 c_is_individual,
  mkFb 1 2 c_is_atomic,
  mkFb 1 1 c__law_is_atom,
  mkFb 1 2 c__law_is_individual,
  mkFb 1 2 c__law_is_atomic,
  mkFb 1 6 c_places,
  mkFb 2 4 c_at,
  mkFb 1 4 c__law_places,
  mkFb 1 3 c__law_steps,
  mkFb 3 5 c_put_inside,
  mkFb 3 3 c_put_at,
  mkFb 2 2 c_side,
  mkFb 3 3 c_with_side,
  mkFb 2 2 c_same_sides,
  mkFb 2 2 c_same,
  mkFb 1 1 c_is_well_formed_literal,
  mkFb 1 2 c_is_well_formed,
  mkFb 2 7 c__law_literal,
  mkFb 3 7 c__law_clause,
  mkFb 2 2 c__law_same]
end Zi
set_option maxRecDepth 100000
set_option maxHeartbeats 1000000
/-! terms -/
namespace Zi
open PySem L2
inductive Tm where
  | v (i : Int) | ap (a b c : Int) (ts : List Tm)
theorem Tm.ind {P : Tm → Prop} (hv : ∀ i, P (.v i)) (ha : ∀ a b c ts, (∀ t ∈ ts, P t) → P (.ap a b c ts)) (t : Tm) : P t :=
  Tm.rec (motive_1 := P) (motive_2 := fun ts => ∀ t ∈ ts, P t) hv (fun a b c ts ih => ha a b c ts ih) (fun _ h => by cases h) (fun t ts h1 h2 x hx => by
    rcases List.mem_cons.mp hx with e | e
    · subst e; exact h1
    · exact h2 x e) t
def eS (a b c : Int) : D := .tup [.int a, .int b, .int c]
mutual
def eT : Tm → D
  | .v i => .int i
  | .ap a b c ts => .tup [eS a b c, .tup (eTs ts)]
def eTs : List Tm → List D
  | [] => []
  | t :: ts => eT t :: eTs ts
end
theorem eTs_map : ∀ ts, eTs ts = ts.map eT
  | [] => by simp [eTs]
  | t :: ts => by simp [eTs, eTs_map ts]
theorem eT_v (i : Int) : eT (.v i) = .int i := by simp [eT]
theorem eT_ap (a b c : Int) (ts : List Tm) : eT (.ap a b c ts) = .tup [eS a b c, .tup (ts.map eT)] := by simp [eT, eTs_map]
mutual
def Tm.hgt : Tm → Nat
  | .v _ => 0
  | .ap _ _ _ ts => hgts ts + 1
def hgts : List Tm → Nat
  | [] => 0
  | t :: ts => max t.hgt (hgts ts)
end
theorem hgts_mem : ∀ {ts : List Tm} {t : Tm}, t ∈ ts → t.hgt ≤ hgts ts
  | t' :: ts, t, h => by
    rcases List.mem_cons.mp h with e | e
    · subst e; simp only [hgts]; omega
    · have := hgts_mem e
      simp only [hgts]; omega
theorem hgts_le : ∀ {ts : List Tm} {n : Nat}, (∀ t ∈ ts, t.hgt ≤ n) → hgts ts ≤ n
  | [], _, _ => by simp [hgts]
  | t :: ts, n, h => by
    have h1 := h t (by simp)
    have h2 := hgts_le (n := n) fun x hx => h x (List.mem_cons_of_mem _ hx)
    simp only [hgts]; omega
theorem hgt_ap {a b c : Int} {ts : List Tm} : (Tm.ap a b c ts).hgt = hgts ts + 1 := by simp [Tm.hgt]
/-- every list of arguments is short -/
inductive Tm.Wd (n : Nat) : Tm → Prop
  | v (i : Int) : Tm.Wd n (.v i)
  | ap {a b c : Int} {ts : List Tm} : ts.length ≤ n → (∀ t ∈ ts, Tm.Wd n t) → Tm.Wd n (.ap a b c ts)
mutual
theorem refLt_eT {n : Nat} : ∀ t, refLt n (eT t) = true
  | .v i => by simp [eT, refLt]
  | .ap a b c ts => by simp [eT, eS, refLt, refLtL, refLt_eTs ts]
theorem refLt_eTs {n : Nat} : ∀ ts, refLtL n (eTs ts) = true
  | [] => by simp [eTs, refLtL]
  | t :: ts => by simp [eTs, refLtL, refLt_eT t, refLt_eTs ts]
end
theorem refLt_pure {n : Nat} (d : D) : (match d with | .ref _ => False | .tup _ => False | .ktup _ => False | _ => True) → refLt n d = true := by
  cases d <;> intro h <;> first | exact h.elim | simp [refLt]

/-! ### walks -/
theorem forL_det {σ α : Type} {ok : Sto → Prop} {tg : MG} {body : MS} (e : α → D) (L : σ → Option D → Lo) (T : σ → Sto) (f : σ → α → σ) : ∀ (xs : List α) (_ : ∀ s, ok (T s)) (_ : ∀ s o x, x ∈ xs → tg (e x) (L s o) (T s) = some (L s (some (e x))))
    (_ : ∀ s x, x ∈ xs → body (L s (some (e x))) (T s) = some (.nx (L (f s x) (some (e x))), T (f s x))) (s : σ) (o : Option D), ∃ o', forL ok tg body (xs.map e) (L s o) (T s) = some (.nx (L (xs.foldl f s) o'), T (xs.foldl f s))
  | [], hok, _, _, s, o => ⟨o, forL_nil (hok s)⟩
  | x :: xs, hok, htg, hb, s, o => by
    obtain ⟨o', h⟩ := forL_det e L T f xs hok (fun s o y hy => htg s o y (List.mem_cons_of_mem _ hy)) (fun s y hy => hb s y (List.mem_cons_of_mem _ hy)) (f s x) (some (e x))
    exact ⟨o', (forL_nx (hok s) (htg s o x (by simp)) (hb s x (by simp))).trans h⟩
theorem forL_inv {α : Type} {ok : Sto → Prop} {tg : MG} {body : MS} (e : α → D) (I : List α → Lo → Sto → Prop) (hok : ∀ dn l S, I dn l S → ok S) (all : List α)
    (hs : ∀ dn x rest l S, all = dn ++ x :: rest → I dn l S → ∃ l1 l2 S1, tg (e x) l S = some l1 ∧ body l1 S = some (.nx l2, S1) ∧ I (dn ++ [x]) l2 S1) : ∀ (xs dn : List α) (l : Lo) (S : Sto), all = dn ++ xs → I dn l S → ∃ l' S', forL ok tg body (xs.map e) l S = some (.nx l', S') ∧ I all l' S'
  | [], dn, l, S, ha, h => ⟨l, S, forL_nil (hok dn l S h), by rw [ha, List.append_nil]; exact h⟩
  | x :: xs, dn, l, S, ha, h => by
    obtain ⟨l1, l2, S1, h1, h2, h3⟩ := hs dn x xs l S ha h
    obtain ⟨l', S', h4, h5⟩ := forL_inv e I hok all hs xs (dn ++ [x]) l2 S1 (by rw [ha, List.append_assoc]; rfl) h3
    exact ⟨l', S', (forL_nx (hok dn l S h) h1 h2).trans h4, h5⟩
/-- a walk that may end early: I holds of what was walked, R is what is handed back -/
theorem forL_ret {α : Type} {ok : Sto → Prop} {tg : MG} {body : MS} (e : α → D) (I : List α → Lo → Sto → Prop) (R : D → Sto → Prop) (hok : ∀ dn l S, I dn l S → ok S) (all : List α)
    (hs : ∀ dn x rest l S, all = dn ++ x :: rest → I dn l S → ∃ l1, tg (e x) l S = some l1 ∧ ((∃ l2 S1, body l1 S = some (.nx l2, S1) ∧ I (dn ++ [x]) l2 S1) ∨ ∃ d S1, body l1 S = some (.rt d, S1) ∧ R d S1)) : ∀ (xs dn : List α) (l : Lo) (S : Sto), all = dn ++ xs → I dn l S →
      (∃ l' S', forL ok tg body (xs.map e) l S = some (.nx l', S') ∧ I all l' S') ∨ ∃ d S', forL ok tg body (xs.map e) l S = some (.rt d, S') ∧ R d S'
  | [], dn, l, S, ha, h => .inl ⟨l, S, forL_nil (hok dn l S h), by rw [ha, List.append_nil]; exact h⟩
  | x :: xs, dn, l, S, ha, h => by
    obtain ⟨l1, h1, hh⟩ := hs dn x xs l S ha h
    rcases hh with ⟨l2, S1, h2, h3⟩ | ⟨d, S1, h2, h3⟩
    · rcases forL_ret e I R hok all hs xs (dn ++ [x]) l2 S1 (by rw [ha, List.append_assoc]; rfl) h3 with ⟨l', S', h4, h5⟩ | ⟨d, S', h4, h5⟩
      · exact .inl ⟨l', S', (forL_nx (hok dn l S h) h1 h2).trans h4, h5⟩
      · exact .inr ⟨d, S', (forL_nx (hok dn l S h) h1 h2).trans h4, h5⟩
    · exact .inr ⟨d, S1, forL_rt (hok dn l S h) h1 h2, h3⟩
theorem compL_map {α : Type} {ok : Sto → Prop} {tg : MG} {elt : M} {l : Lo} {S : Sto} (e : α → D) (g : α → D) (hok : ok S) : ∀ (xs : List α) (_ : ∀ x ∈ xs, ∃ l1, tg (e x) l S = some l1 ∧ elt l1 S = some (g x, S)),
    compL ok tg mYes elt l (xs.map e) S = some (xs.map g, S)
  | [], _ => by
    show compL ok tg mYes elt l [] S = _
    rw [compL, if_pos hok]
    rfl
  | x :: xs, h => by
    obtain ⟨l1, h1, h2⟩ := h x (by simp)
    have ih := compL_map (ok := ok) (tg := tg) (elt := elt) (l := l) (S := S) e g hok xs fun y hy => h y (List.mem_cons_of_mem _ hy)
    show compL ok tg mYes elt l (e x :: xs.map e) S = _
    rw [compL, if_pos hok]
    simp only [h1, Option.bind_some, mYes, if_true, h2, ih, List.map_cons]
theorem comp_of {src : MI} {vs : List Nat} {tg : MG} {c : MT} {elt : M} {l : Lo} {S S1 : Sto} {s : Src} (h : src l S = some (s, S1)) (hl : s.ds.length ≤ 1000000) : mComp src vs tg c elt l S = compL s.ok tg c elt (wipeD l vs) s.ds S1 := by
  unfold mComp
  rw [h]
  simp only [Option.bind_some, if_pos hl]
theorem setL_of {i : Nat} {m : MA} {l : Lo} {S S1 : Sto} {ds : List D} {c : MS} (h : m l S = some (ds, S1)) : mSeq (mSetL i m) c l S = c (l.set i (some (.ref S1.length))) (S1 ++ [.lst ds]) := by
  unfold mSeq mSetL mSet mAlloc
  simp only [h, Option.bind_some]
theorem i62a {n : Nat} (hn : n ≤ 1000000) : (n : Int) < 4611686018427387904 := by omega
theorem i62b {n : Nat} (hn : n ≤ 1000000) : (-4611686018427387904 : Int) ≤ n := by omega
theorem i62c : (2 : Int) ^ 62 = 4611686018427387904 := by simp only [Int.reducePow]
theorem i62d {n : Nat} (hn : n ≤ 1000000) : (n : Int) < 2 ^ 62 := by rw [i62c]; exact i62a hn
theorem i62e {n : Nat} (hn : n ≤ 1000000) : -(2 ^ 62) ≤ (n : Int) := by rw [i62c]; exact i62b hn
theorem rng1_a {j : Int} {m : M} {l : Lo} {S S1 : Sto} (h : m l S = some (.int j, S1)) (e : -(2 ^ 62) ≤ j ∧ j < 2 ^ 62) : mRng1 m l S = some (⟨rangeD 0 j.toNat, fun _ => True⟩, S1) := by
  unfold mRng1
  simp only [h, Option.bind_some]
  rw [if_pos e]
theorem rng1_of {m : M} {l : Lo} {S S1 : Sto} {n : Nat} (h : m l S = some (.int (n : Nat), S1)) (hn : n ≤ 1000000) : mRng1 m l S = some (⟨rangeD 0 n, fun _ => True⟩, S1) := by
  have := rng1_a h ⟨i62e hn, i62d hn⟩
  rw [Int.toNat_natCast] at this
  exact this
/-! ### the store -/
theorem last_get {S : Sto} {c : Cell} : (S ++ [c])[S.length]? = some c := by
  rw [List.getElem?_append_right (Nat.le_refl _), Nat.sub_self]
  rfl
theorem last_get' {S T : Sto} {c : Cell} : (S ++ c :: T)[S.length]? = some c := by
  rw [List.getElem?_append_right (Nat.le_refl _), Nat.sub_self]
  rfl
theorem last_set {S : Sto} {c d : Cell} : (S ++ [c]).set S.length d = S ++ [d] := by
  rw [List.set_append_right _ _ (Nat.le_refl _), Nat.sub_self]
  rfl
theorem old_get {S T : Sto} {r : Nat} {c : Cell} (h : S[r]? = some c) : (S ++ T)[r]? = some c := by
  rw [List.getElem?_append_left (List.getElem?_eq_some_iff.mp h).1]
  exact h
theorem set_get {S : Sto} {r : Nat} {c d : Cell} (h : S[r]? = some c) : (S.set r d)[r]? = some d := by
  rw [List.getElem?_set_self (List.getElem?_eq_some_iff.mp h).1]
theorem set_same {S : Sto} {r : Nat} {c : Cell} (h : S[r]? = some c) : S.set r c = S := by
  obtain ⟨h1, h2⟩ := List.getElem?_eq_some_iff.mp h
  rw [← h2]
  exact List.set_getElem_self h1
theorem refLtL_ints {n : Nat} : ∀ ns : List Int, refLtL n (ns.map D.int) = true
  | [] => by simp [refLtL]
  | i :: ns => by simp [refLtL, refLt, refLtL_ints ns]
theorem fin_set {S : Sto} {d : D} {r : Nat} {c : Cell} (h : refLt S.length d = true) : fin S (d, S.set r c) = (d, S.set r c) := by
  unfold fin
  dsimp only
  by_cases e : (S.set r c).take S.length = S
  · rw [if_pos e, if_pos h]
    rw [show S.set r c = (S.set r c).take S.length from by rw [List.take_of_length_le (by simp)], e]
  · rw [if_neg e]
theorem fin_ref {S T : Sto} {r : Nat} {xs : List D} (h : (S ++ T)[r]? = some (.lst xs)) (hr : refLtL S.length xs = true) : ∃ r' T', fin S (.ref r, S ++ T) = (.ref r', S ++ T') ∧ (S ++ T')[r']? = some (.lst xs) := by
  unfold fin
  dsimp only
  rw [if_pos List.take_left]
  by_cases e : r < S.length
  · rw [if_pos (by simp [refLt, e])]
    refine ⟨r, [], by rw [List.append_nil], ?_⟩
    rw [List.append_nil, ← h, List.getElem?_append_left e]
  · rw [if_neg (by simp [refLt, e])]
    simp only [h]
    rw [if_pos (show cellLt S.length (.lst xs) = true from hr)]
    exact ⟨S.length, [.lst xs], rfl, last_get⟩
theorem run_nx {prog : Nat → Option Fb} {i n j k : Nat} {ms : GF → MS} {ds : List D} {S S1 : Sto} {l : Lo} (hp : prog i = some (mkFb n j ms)) (hn : ds.length = n) (h : ms (run prog k) (ds.map some ++ List.replicate (j - n) none) S = some (.nx l, S1)) : run prog (k + 1) i ds S = some (fin S (.non, S1)) := by
  rw [run_at hp]
  unfold mkFb
  rw [if_pos hn, h]
  rfl
/-! ### ints in a list -/
theorem allS_ints {n : Nat} {S : Sto} : ∀ vs : List Int, allS (snap (n + 1) S) (vs.map D.int) = some (vs.map PyData.int)
  | [] => rfl
  | v :: vs => by
    show (snap (n + 1) S (.int v)).bind _ = _
    rw [snap_int, Option.bind_some, allS_ints vs]
    rfl
theorem snap_lst {n : Nat} {S : Sto} {r : Nat} {xs : List D} {ps : List PyData} (h : S[r]? = some (.lst xs)) (hp : allS (snap n S) xs = some ps) : snap (n + 1) S (.ref r) = some (.list ps) := by
  show (match S[r]? with
    | some (.lst xs) => (allS (snap n S) xs).bind fun r => some (PyData.list r)
    | _ => none) = _
  rw [h]
  simp only [hp, Option.bind_some]
theorem any_ints (i : Int) : ∀ vs : List Int, ((vs.map PyData.int).any fun z => PyData.eqv z (.int i)) = decide (i ∈ vs)
  | [] => by simp
  | v :: vs => by
    simp only [List.map_cons, List.any_cons, any_ints i vs, eqv_int]
    by_cases h : v = i
    · subst h; simp
    · have h' : ¬i = v := fun e => h e.symm
      simp [h, h']
theorem fNin_ints {S : Sto} {r : Nat} {i : Int} {vs : List Int} (h : S[r]? = some (.lst (vs.map D.int))) : fNin (.d (.int i)) (.d (.ref r)) S = some (.bl (!decide (i ∈ vs)), S) := by
  show ((snap 190 S (.int i)).bind fun p => (snap 190 S (.ref r)).bind fun q => (itemsP q).bind fun qs => some (D.bl (!(qs.any fun z => PyData.eqv z p)), S)) = _
  rw [snap_int, snap_lst h (allS_ints vs)]
  simp only [Option.bind_some, itemsP, any_ints]
end Zi
set_option maxRecDepth 100000
/-! what a computation ends with: rules that go backwards -/
namespace Zi
open PySem L2
def wp {α : Type} (o : Option (α × Sto)) (Q : α → Sto → Prop) : Prop := ∃ a S', o = some (a, S') ∧ Q a S'
def wl (o : Option Lo) (Q : Lo → Prop) : Prop := ∃ l, o = some l ∧ Q l
section
variable {α : Type} {o : Option (α × Sto)} {Q Q' : α → Sto → Prop}
theorem wp_eq {a : α} {S' : Sto} (h : o = some (a, S')) (q : Q a S') : wp o Q := ⟨a, S', h, q⟩
theorem wp.imp (h : wp o Q) (i : ∀ a S, Q a S → Q' a S) : wp o Q' := let ⟨a, S, e, q⟩ := h; ⟨a, S, e, i a S q⟩
theorem wp.get {a : α} {S' : Sto} (h : wp o fun b S => b = a ∧ S = S') : o = some (a, S') := by
  obtain ⟨b, S, e, rfl, rfl⟩ := h
  exact e
theorem wp_some {a : α} {S : Sto} (q : Q a S) : wp (some (a, S)) Q := ⟨a, S, rfl, q⟩
end
section
variable {l : Lo} {S : Sto} {Q : D → Sto → Prop} {QA : List D → Sto → Prop} {QO : O → Sto → Prop} {QT : Bool → Sto → Prop} {QS : Fl → Sto → Prop} {a b c : M} {ma mb : MA} {oa ob : MO} {ta tb : MT} {sa sb : MS}
/-! ### expressions -/
theorem wp_var {i : Nat} {d : D} (h : l[i]? = some (some d)) (q : Q d S) : wp (mVar i l S) Q := ⟨d, S, by unfold mVar; rw [h], q⟩
theorem wp_c {d : D} (q : Q d S) : wp (mC d l S) Q := ⟨d, S, rfl, q⟩
theorem wp_op {f : OpF} (h : wp (a l S) fun x S1 => wp (b l S1) fun y S2 => wp (f x y S2) Q) : wp (mOp f a b l S) Q := by
  obtain ⟨x, S1, e1, y, S2, e2, z, S3, e3, q⟩ := h
  exact ⟨z, S3, by unfold mOp; simp only [e1, Option.bind_some, e2, e3], q⟩
theorem wp_opO {f : OpG} (h : wp (oa l S) fun x S1 => wp (ob l S1) fun y S2 => wp (f x y S2) Q) : wp (mOpO f oa ob l S) Q := by
  obtain ⟨x, S1, e1, y, S2, e2, z, S3, e3, q⟩ := h
  exact ⟨z, S3, by unfold mOpO; simp only [e1, Option.bind_some, e2, e3], q⟩
theorem wp_oD (h : wp (a l S) fun x S1 => QO (.d x) S1) : wp (oD a l S) QO := by
  obtain ⟨x, S1, e1, q⟩ := h
  exact ⟨_, S1, by unfold oD; simp only [e1, Option.bind_some], q⟩
theorem wp_oN (h : wp (ma l S) fun x S1 => QO (.n x) S1) : wp (oN ma l S) QO := by
  obtain ⟨x, S1, e1, q⟩ := h
  exact ⟨_, S1, by unfold oN; simp only [e1, Option.bind_some], q⟩
/-- what stands as a value: a list just made is taken into the store -/
def valO (K : D → Sto → Prop) : O → Sto → Prop
  | .d d, S => K d S
  | .n ds, S => K (.ref S.length) (S ++ [.lst ds])
theorem valO_d {d : D} (q : Q d S) : valO Q (.d d) S := q
theorem valO_n {ds : List D} (q : Q (.ref S.length) (S ++ [.lst ds])) : valO Q (.n ds) S := q
theorem wp_oS (h : wp (oa l S) (valO Q)) : wp (oS oa l S) Q := by
  obtain ⟨x, S1, e1, q⟩ := h
  cases x with
  | d d => exact ⟨_, _, by unfold oS; simp only [e1, Option.bind_some], q⟩
  | n ds => exact ⟨_, _, by unfold oS; simp only [e1, Option.bind_some], q⟩
theorem wp_alloc (h : wp (ma l S) fun xs S1 => Q (.ref S1.length) (S1 ++ [.lst xs])) : wp (mAlloc ma l S) Q := by
  obtain ⟨x, S1, e1, q⟩ := h
  exact ⟨_, _, by unfold mAlloc; simp only [e1, Option.bind_some], q⟩
theorem wp_nil (q : QA [] S) : wp (mNil l S) QA := ⟨_, _, rfl, q⟩
theorem wp_cons (h : wp (a l S) fun x S1 => wp (ma l S1) fun xs S2 => QA (x :: xs) S2) : wp (mCons a ma l S) QA := by
  obtain ⟨x, S1, e1, y, S2, e2, q⟩ := h
  exact ⟨_, S2, by unfold mCons; simp only [e1, Option.bind_some, e2], q⟩
/-- a row of no more than a thousand -/
def shrt {α : Type} (ds : List α) (P : Prop) : Prop := ds.length ≤ 1000 ∧ P
theorem shrt_of {α : Type} {ds : List α} {P : Prop} (h : ds.length ≤ 1000) (q : P) : shrt ds P := ⟨h, q⟩
theorem wp_tup (h : wp (ma l S) fun xs S1 => shrt xs (Q (.tup xs) S1)) : wp (mTup ma l S) Q := by
  obtain ⟨x, S1, e1, h1, q⟩ := h
  exact ⟨_, S1, by unfold mTup; simp only [e1, Option.bind_some]; rw [if_pos h1], q⟩
theorem wp_lst (h : wp (ma l S) fun xs S1 => shrt xs (QA xs S1)) : wp (mLst ma l S) QA := by
  obtain ⟨x, S1, e1, h1, q⟩ := h
  exact ⟨_, S1, by unfold mLst; simp only [e1, Option.bind_some]; rw [if_pos h1], q⟩
theorem wp_fn1 {f : Fn1} (h : wp (oa l S) fun x S1 => wp (f x S1) Q) : wp (mFn1 f oa l S) Q := by
  obtain ⟨x, S1, e1, z, S3, e3, q⟩ := h
  exact ⟨z, S3, by unfold mFn1; simp only [e1, Option.bind_some, e3], q⟩
theorem wp_call {F : List D → Sto → Option (D × Sto)} (h : wp (ma l S) fun xs S1 => wp (F xs S1) Q) : wp (mCall F ma l S) Q := by
  obtain ⟨x, S1, e1, z, S3, e3, q⟩ := h
  exact ⟨z, S3, by unfold mCall; simp only [e1, Option.bind_some, e3], q⟩
theorem wp_lisc (h : wp (oa l S) fun o S1 => ∃ ds, seqO S1 o = some ds ∧ QA ds S1) : wp (mLisc oa l S) QA := by
  obtain ⟨x, S1, e1, ds, e2, q⟩ := h
  exact ⟨_, _, by unfold mLisc; simp only [e1, Option.bind_some, e2], q⟩
theorem wp_catL (h : wp (oa l S) fun x S1 => wp (ob l S1) fun y S2 => ∃ xs ys, ownO S2 x = some xs ∧ ownO S2 y = some ys ∧ xs.length + ys.length ≤ 1000000 ∧ QA (xs ++ ys) S2) : wp (mCatL oa ob l S) QA := by
  obtain ⟨x, S1, e1, y, S2, e2, xs, ys, e3, e4, e5, q⟩ := h
  exact ⟨_, _, by unfold mCatL; simp only [e1, Option.bind_some, e2, e3, e4]; rw [if_pos e5], q⟩
theorem wp_neg (h : wp (a l S) fun x S1 => ∃ i, x = .int i ∧ Q (.int (-i)) S1) : wp (mNeg a l S) Q := by
  obtain ⟨x, S1, e1, i, rfl, q⟩ := h
  exact ⟨_, S1, by unfold mNeg; simp only [e1, Option.bind_some], q⟩
theorem wp_isN (h : wp (a l S) fun x S1 => Q (.bl (isNon x)) S1) : wp (mIsN a l S) Q := by
  obtain ⟨x, S1, e1, q⟩ := h
  exact ⟨_, S1, by unfold mIsN; simp only [e1, Option.bind_some], q⟩
theorem wp_notN (h : wp (a l S) fun x S1 => Q (.bl (!isNon x)) S1) : wp (mNotN a l S) Q := by
  obtain ⟨x, S1, e1, q⟩ := h
  exact ⟨_, S1, by unfold mNotN; simp only [e1, Option.bind_some], q⟩
/-- what isinstance says -/
def tyK (S : Sto) (x : O) (T : String) (K : Bool → Prop) : Prop := ∃ t, tyO S x = some t ∧ K (isTyB t T)
theorem isI_t {T t : String} {x : O} {K : Bool → Prop} (h : tyO S x = some t) (hb : isTyB t T = true) (q : K true) : tyK S x T K := ⟨t, h, by rw [hb]; exact q⟩
theorem isI_f {T t : String} {x : O} {K : Bool → Prop} (h : tyO S x = some t) (hb : isTyB t T = false) (q : K false) : tyK S x T K := ⟨t, h, by rw [hb]; exact q⟩
theorem wp_isI {T : String} (h : wp (oa l S) fun x S1 => tyK S1 x T fun b => Q (.bl b) S1) : wp (mIsI T oa l S) Q := by
  obtain ⟨x, S1, e1, t, e2, q⟩ := h
  exact ⟨_, S1, by unfold mIsI; simp only [e1, e2, Option.bind_some], q⟩
/-! ### truth -/
def isB (d : D) (K : Bool → Prop) : Prop := ∃ b, d = .bl b ∧ K b
theorem isB_bl {b : Bool} {K : Bool → Prop} (q : K b) : isB (.bl b) K := ⟨b, rfl, q⟩
theorem wp_bool (h : wp (a l S) fun x S1 => isB x fun b => QT b S1) : wp (mBool a l S) QT := by
  obtain ⟨x, S1, e1, b, rfl, q⟩ := h
  exact ⟨_, S1, by unfold mBool; simp only [e1, Option.bind_some], q⟩
def tru (d : D) (S : Sto) (K : Bool → Prop) : Prop := ∃ b, truD d S = some b ∧ K b
theorem tru_bl {b : Bool} {K : Bool → Prop} (q : K b) : tru (.bl b) S K := ⟨b, rfl, q⟩
theorem tru_int {i : Int} {K : Bool → Prop} (q : K (i != 0)) : tru (.int i) S K := ⟨_, rfl, q⟩
theorem tru_non {K : Bool → Prop} (q : K false) : tru .non S K := ⟨_, rfl, q⟩
theorem tru_tup {xs : List D} {K : Bool → Prop} (q : K (!xs.isEmpty)) : tru (.tup xs) S K := ⟨_, rfl, q⟩
theorem tru_lst {r : Nat} {xs : List D} {K : Bool → Prop} (h : S[r]? = some (.lst xs)) (q : K (!xs.isEmpty)) : tru (.ref r) S K := ⟨_, by simp only [truD, h], q⟩
theorem tru_dK {r : Nat} {xs : List (Key × D)} {K : Bool → Prop} (h : S[r]? = some (.dK xs)) (q : K (!xs.isEmpty)) : tru (.ref r) S K := ⟨_, by simp only [truD, h], q⟩
theorem wp_tru (h : wp (a l S) fun x S1 => tru x S1 fun b => QT b S1) : wp (mTru a l S) QT := by
  obtain ⟨x, S1, e1, b, e2, q⟩ := h
  exact ⟨_, S1, by unfold mTru; simp only [e1, e2, Option.bind_some], q⟩
theorem wp_notT (h : wp (ta l S) fun x S1 => QT (!x) S1) : wp (mNotT ta l S) QT := by
  obtain ⟨x, S1, e1, q⟩ := h
  exact ⟨_, S1, by unfold mNotT; simp only [e1, Option.bind_some], q⟩
/-- which way -/
def way (b : Bool) (P R : Prop) : Prop := (b = true → P) ∧ (b = false → R)
theorem way_t {P R : Prop} (q : P) : way true P R := ⟨fun _ => q, fun h => Bool.noConfusion h⟩
theorem way_f {P R : Prop} (q : R) : way false P R := ⟨(fun h => Bool.noConfusion h), fun _ => q⟩
theorem way_of {b : Bool} {P R : Prop} (p : b = true → P) (r : b = false → R) : way b P R := ⟨p, r⟩
theorem way_eq {b : Bool} {P R : Prop} (h : b = true) (q : P) : way b P R := ⟨fun _ => q, fun z => by rw [h] at z; cases z⟩
theorem way_ne {b : Bool} {P R : Prop} (h : b = false) (q : R) : way b P R := ⟨(fun z => by rw [h] at z; cases z), fun _ => q⟩
theorem way_dec {p : Prop} [Decidable p] {P R : Prop} (q : p → P) (r : ¬p → R) : way (decide p) P R := ⟨fun h => q (of_decide_eq_true h), fun h => r (of_decide_eq_false h)⟩
theorem way_not {b : Bool} {P R : Prop} (q : way b R P) : way (!b) P R := ⟨fun h => q.2 (by cases b <;> simp_all), fun h => q.1 (by cases b <;> simp_all)⟩
theorem wp_andT (h : wp (ta l S) fun x S1 => way x (wp (tb l S1) QT) (QT false S1)) : wp (mAndT ta tb l S) QT := by
  obtain ⟨x, S1, e1, q⟩ := h
  cases x with
  | true =>
    obtain ⟨y, S2, e2, q⟩ := q.1 rfl
    exact ⟨y, S2, by unfold mAndT; simp only [e1, Option.bind_some, if_true, e2], q⟩
  | false => exact ⟨false, S1, by unfold mAndT; simp only [e1, Option.bind_some, Bool.false_eq_true, if_false], q.2 rfl⟩
theorem wp_orT (h : wp (ta l S) fun x S1 => way x (QT true S1) (wp (tb l S1) QT)) : wp (mOrT ta tb l S) QT := by
  obtain ⟨x, S1, e1, q⟩ := h
  cases x with
  | false =>
    obtain ⟨y, S2, e2, q⟩ := q.2 rfl
    exact ⟨y, S2, by unfold mOrT; simp only [e1, Option.bind_some, Bool.false_eq_true, if_false, e2], q⟩
  | true => exact ⟨true, S1, by unfold mOrT; simp only [e1, Option.bind_some, if_true], q.1 rfl⟩
/-- both sides plain: no ways -/
theorem wp_andP (h : wp (ta l S) fun x S1 => wp (tb l S1) fun y S2 => S1 = S ∧ S2 = S ∧ QT (x && y) S) : wp (mAndT ta tb l S) QT := by
  obtain ⟨x, S1, e1, y, S2, e2, rfl, rfl, q⟩ := h
  refine ⟨x && y, S2, ?_, q⟩
  unfold mAndT
  cases x <;> simp [e1, e2]
theorem wp_orP (h : wp (ta l S) fun x S1 => wp (tb l S1) fun y S2 => S1 = S ∧ S2 = S ∧ QT (x || y) S) : wp (mOrT ta tb l S) QT := by
  obtain ⟨x, S1, e1, y, S2, e2, rfl, rfl, q⟩ := h
  refine ⟨x || y, S2, ?_, q⟩
  unfold mOrT
  cases x <;> simp [e1, e2]
theorem wp_and (h : wp (a l S) fun x S1 => tru x S1 fun t => way t (wp (b l S1) Q) (Q x S1)) : wp (mAnd a b l S) Q := by
  obtain ⟨x, S1, e1, t, e0, q⟩ := h
  cases t with
  | true =>
    obtain ⟨y, S2, e2, q⟩ := q.1 rfl
    exact ⟨y, S2, by unfold mAnd; simp only [e1, e0, Option.bind_some, if_true, e2], q⟩
  | false => exact ⟨x, S1, by unfold mAnd; simp only [e1, e0, Option.bind_some, Bool.false_eq_true, if_false], q.2 rfl⟩
theorem wp_or (h : wp (a l S) fun x S1 => tru x S1 fun t => way t (Q x S1) (wp (b l S1) Q)) : wp (mOr a b l S) Q := by
  obtain ⟨x, S1, e1, t, e0, q⟩ := h
  cases t with
  | false =>
    obtain ⟨y, S2, e2, q⟩ := q.2 rfl
    exact ⟨y, S2, by unfold mOr; simp only [e1, e0, Option.bind_some, Bool.false_eq_true, if_false, e2], q⟩
  | true => exact ⟨x, S1, by unfold mOr; simp only [e1, e0, Option.bind_some, if_true], q.1 rfl⟩
/-- bools, plain: no ways -/
theorem wp_andB (h : wp (a l S) fun x S1 => isB x fun p => wp (b l S1) fun y S2 => isB y fun q => S1 = S ∧ S2 = S ∧ Q (.bl (p && q)) S) : wp (mAnd a b l S) Q := by
  obtain ⟨x, S1, e1, p, rfl, y, S2, e2, q, rfl, rfl, rfl, z⟩ := h
  refine ⟨.bl (p && q), S2, ?_, z⟩
  unfold mAnd
  cases p <;> simp [e1, e2, truD]
theorem wp_orB (h : wp (a l S) fun x S1 => isB x fun p => wp (b l S1) fun y S2 => isB y fun q => S1 = S ∧ S2 = S ∧ Q (.bl (p || q)) S) : wp (mOr a b l S) Q := by
  obtain ⟨x, S1, e1, p, rfl, y, S2, e2, q, rfl, rfl, rfl, z⟩ := h
  refine ⟨.bl (p || q), S2, ?_, z⟩
  unfold mOr
  cases p <;> simp [e1, e2, truD]
theorem wp_not (h : wp (a l S) fun x S1 => tru x S1 fun t => Q (.bl (!t)) S1) : wp (mNot a l S) Q := by
  obtain ⟨x, S1, e1, t, e0, q⟩ := h
  exact ⟨_, S1, by unfold mNot; simp only [e1, e0, Option.bind_some], q⟩
theorem wp_if (h : wp (ta l S) fun x S1 => way x (wp (a l S1) Q) (wp (b l S1) Q)) : wp (mIf ta a b l S) Q := by
  obtain ⟨x, S1, e1, q⟩ := h
  cases x with
  | true =>
    obtain ⟨y, S2, e2, q⟩ := q.1 rfl
    exact ⟨y, S2, by unfold mIf; simp only [e1, Option.bind_some, if_true, e2], q⟩
  | false =>
    obtain ⟨y, S2, e2, q⟩ := q.2 rfl
    exact ⟨y, S2, by unfold mIf; simp only [e1, Option.bind_some, Bool.false_eq_true, if_false, e2], q⟩
/-! ### statements -/
def nxt (sb : MS) (Q : Fl → Sto → Prop) (f : Fl) (S : Sto) : Prop := match f with
  | .nx l => wp (sb l S) Q
  | f => Q f S
theorem nxt_nx (h : wp (sb l S) QS) : nxt sb QS (.nx l) S := h
theorem nxt_rt {d : D} (h : QS (.rt d) S) : nxt sb QS (.rt d) S := h
theorem nxt_bk (h : QS (.bk l) S) : nxt sb QS (.bk l) S := h
theorem nxt_ct (h : QS (.ct l) S) : nxt sb QS (.ct l) S := h
theorem wp_seq (h : wp (sa l S) (nxt sb QS)) : wp (mSeq sa sb l S) QS := by
  obtain ⟨f, S1, e1, q⟩ := h
  cases f with
  | nx l1 =>
    obtain ⟨g, S2, e2, q⟩ := q
    exact ⟨g, S2, by unfold mSeq; simp only [e1, Option.bind_some, e2], q⟩
  | rt d => exact ⟨_, S1, by unfold mSeq; simp only [e1, Option.bind_some], q⟩
  | bk d => exact ⟨_, S1, by unfold mSeq; simp only [e1, Option.bind_some], q⟩
  | ct d => exact ⟨_, S1, by unfold mSeq; simp only [e1, Option.bind_some], q⟩
theorem wp_skip (q : QS (.nx l) S) : wp (mSkip l S) QS := ⟨_, _, rfl, q⟩
theorem wp_break (q : QS (.bk l) S) : wp (mBreak l S) QS := ⟨_, _, rfl, q⟩
theorem wp_cont (q : QS (.ct l) S) : wp (mCont l S) QS := ⟨_, _, rfl, q⟩
theorem wp_ret (h : wp (a l S) fun x S1 => QS (.rt x) S1) : wp (mRet a l S) QS := by
  obtain ⟨x, S1, e1, q⟩ := h
  exact ⟨_, S1, by unfold mRet; simp only [e1, Option.bind_some], q⟩
theorem wp_set {i : Nat} (h : wp (a l S) fun x S1 => QS (.nx (l.set i (some x))) S1) : wp (mSet i a l S) QS := by
  obtain ⟨x, S1, e1, q⟩ := h
  exact ⟨_, S1, by unfold mSet; simp only [e1, Option.bind_some], q⟩
theorem wp_setL {i : Nat} (h : wp (ma l S) fun xs S1 => QS (.nx (l.set i (some (.ref S1.length)))) (S1 ++ [.lst xs])) : wp (mSetL i ma l S) QS := by
  obtain ⟨x, S1, e1, q⟩ := h
  exact ⟨_, _, by unfold mSetL mSet mAlloc; simp only [e1, Option.bind_some], q⟩
theorem wp_drop (h : wp (a l S) fun _ S1 => QS (.nx l) S1) : wp (mDrop a l S) QS := by
  obtain ⟨x, S1, e1, q⟩ := h
  exact ⟨_, S1, by unfold mDrop; simp only [e1, Option.bind_some], q⟩
theorem wp_ifS (h : wp (ta l S) fun x S1 => way x (wp (sa l S1) QS) (wp (sb l S1) QS)) : wp (mIfS ta sa sb l S) QS := by
  obtain ⟨x, S1, e1, q⟩ := h
  cases x with
  | true =>
    obtain ⟨y, S2, e2, q⟩ := q.1 rfl
    exact ⟨y, S2, by unfold mIfS; simp only [e1, Option.bind_some, if_true, e2], q⟩
  | false =>
    obtain ⟨y, S2, e2, q⟩ := q.2 rfl
    exact ⟨y, S2, by unfold mIfS; simp only [e1, Option.bind_some, Bool.false_eq_true, if_false, e2], q⟩
theorem wp_aug {i : Nat} {f : OpF} {d : D} (hd : l[i]? = some (some d)) (h : wp (a l S) fun x S1 => wp (f d x S1) fun r S2 => QS (.nx (l.set i (some r))) S2) : wp (mAug i f a l S) QS := by
  obtain ⟨x, S1, e1, z, S3, e3, q⟩ := h
  exact ⟨_, S3, by unfold mAug; rw [hd]; simp only [e1, Option.bind_some, e3], q⟩
theorem wp_asg {tg : MG} (h : wp (a l S) fun x S1 => wl (tg x l S1) fun l1 => QS (.nx l1) S1) : wp (mAsg tg a l S) QS := by
  obtain ⟨x, S1, e1, l1, e2, q⟩ := h
  exact ⟨_, S1, by unfold mAsg; simp only [e1, e2, Option.bind_some], q⟩
theorem wp_par {i j : Nat} {x y : D} {S1 : Sto} (h : ma l S = some ([x, y], S1)) (q : QS (.nx ((l.set i (some x)).set j (some y))) S1) : wp (mPar i j ma l S) QS :=
  ⟨_, S1, by unfold mPar; simp only [h, Option.bind_some], q⟩
/-! ### targets -/
theorem wl_n {i : Nat} {d : D} {K : Lo → Prop} (q : K (l.set i (some d))) : wl (mgN i d l S) K := ⟨_, rfl, q⟩
theorem wl_tup {n : Nat} {r : MGs} {ds : List D} {K : Lo → Prop} (hn : ds.length = n) (h : wl (r ds l S) K) : wl (mgTup n r (.tup ds) l S) K := by
  obtain ⟨l1, e, q⟩ := h
  exact ⟨l1, by unfold mgTup; simp only [seqO, Option.bind_some, if_pos hn, e], q⟩
theorem wl_nil {K : Lo → Prop} (q : K l) : wl (mgNil [] l S) K := ⟨_, rfl, q⟩
theorem wl_cons {m : MG} {r : MGs} {d : D} {ds : List D} {K : Lo → Prop} (h : wl (m d l S) fun l1 => wl (r ds l1 S) K) : wl (mgCons m r (d :: ds) l S) K := by
  obtain ⟨l1, e1, l2, e2, q⟩ := h
  exact ⟨l2, by unfold mgCons; simp only [e1, Option.bind_some, e2], q⟩
/-! ### operators -/
theorem wf_add {i j : Int} (q : Q (.int (i + j)) S) : wp (fAdd (.int i) (.int j) S) Q := ⟨_, _, rfl, q⟩
theorem wf_addT {xs ys : List D} (h : xs.length + ys.length ≤ 1000000) (q : Q (.tup (xs ++ ys)) S) : wp (fAdd (.tup xs) (.tup ys) S) Q := ⟨_, _, by simp only [fAdd]; rw [if_pos h], q⟩
theorem wf_iadd {i j : Int} (q : Q (.int (i + j)) S) : wp (fIadd (.int i) (.int j) S) Q := ⟨_, _, rfl, q⟩
theorem wf_sub {i j : Int} (q : Q (.int (i - j)) S) : wp (fSub (.int i) (.int j) S) Q := ⟨_, _, rfl, q⟩
theorem wf_mul {i j : Int} (h : mulC i j = true) (q : Q (.int (i * j)) S) : wp (fMul (.int i) (.int j) S) Q := ⟨_, _, by simp only [fMul, fI, h, if_true], q⟩
theorem wf_div {i j : Int} (h : divC i j = true) (q : Q (.int (i / j)) S) : wp (fDiv (.int i) (.int j) S) Q := ⟨_, _, by simp only [fDiv, fI, h, if_true], q⟩
theorem wf_mod {i j : Int} (h : modC i j = true) (q : Q (.int (i % j)) S) : wp (fMod (.int i) (.int j) S) Q := ⟨_, _, by simp only [fMod, fI, h, if_true], q⟩
theorem wf_pow {i j : Int} (h : powC i j = true) (q : Q (.int (i ^ j.toNat)) S) : wp (fPow (.int i) (.int j) S) Q := ⟨_, _, by simp only [fPow, fI, h, if_true], q⟩
theorem wf_lt {i j : Int} (q : Q (.bl (decide (i < j))) S) : wp (fLt (.int i) (.int j) S) Q := ⟨_, _, rfl, q⟩
theorem wf_le {i j : Int} (q : Q (.bl (decide (i ≤ j))) S) : wp (fLe (.int i) (.int j) S) Q := ⟨_, _, rfl, q⟩
theorem wf_gt {i j : Int} (q : Q (.bl (decide (j < i))) S) : wp (fGt (.int i) (.int j) S) Q := ⟨_, _, rfl, q⟩
theorem wf_ge {i j : Int} (q : Q (.bl (decide (j ≤ i))) S) : wp (fGe (.int i) (.int j) S) Q := ⟨_, _, rfl, q⟩
theorem wf_eqI {i j : Int} (q : Q (.bl (decide (i = j))) S) : wp (fEq (.d (.int i)) (.d (.int j)) S) Q := ⟨_, _, fEq_int i j, q⟩
theorem wf_neI {i j : Int} (q : Q (.bl (!decide (i = j))) S) : wp (fNe (.d (.int i)) (.d (.int j)) S) Q := ⟨_, _, fNe_int i j, q⟩
theorem wf_eqB {i j : Bool} (q : Q (.bl (decide (i = j))) S) : wp (fEq (.d (.bl i)) (.d (.bl j)) S) Q := ⟨_, _, fEq_bl i j, q⟩
theorem fNe_bl' {S : Sto} (i j : Bool) : fNe (.d (.bl i)) (.d (.bl j)) S = some (.bl (!decide (i = j)), S) := by
  show some (D.bl (!PyData.eqv (.bool i) (.bool j)), S) = _
  rw [eqv_bl]
theorem wf_neB {i j : Bool} (q : Q (.bl (!decide (i = j))) S) : wp (fNe (.d (.bl i)) (.d (.bl j)) S) Q := ⟨_, _, fNe_bl' i j, q⟩
theorem wf_ixT {ds : List D} {i : Int} {d : D} (h : atI ds i = some d) (q : Q d S) : wp (ixF (.tup ds) (.int i) S) Q := ⟨d, S, by simp only [ixF, h, Option.bind_some], q⟩
theorem wf_ixS {ns : List Int} {i n : Int} (h : atI ns i = some n) (q : Q (.int n) S) : wp (ixF (.sl ns) (.int i) S) Q := ⟨_, S, by simp only [ixF, h, Option.bind_some], q⟩
theorem wf_ixL {r : Nat} {xs : List D} {i : Int} {d : D} (hr : S[r]? = some (.lst xs)) (h : atI xs i = some d) (q : Q d S) : wp (ixF (.ref r) (.int i) S) Q := ⟨d, S, by simp only [ixF, hr, h, Option.bind_some], q⟩
theorem atI_3 {α : Type} {x y z u : α} {xs : List α} : atI (x :: y :: z :: u :: xs) 3 = some u := by rw [atI_nn (by decide)]; rfl
theorem atI_4 {α : Type} {x y z u v : α} {xs : List α} : atI (x :: y :: z :: u :: v :: xs) 4 = some v := by rw [atI_nn (by decide)]; rfl
theorem wf_lenT {xs : List D} (q : Q (.int (xs.length : Nat)) S) : wp (fLen (.d (.tup xs)) S) Q := ⟨_, _, rfl, q⟩
theorem wf_lenS {ns : List Int} (q : Q (.int (ns.length : Nat)) S) : wp (fLen (.d (.sl ns)) S) Q := ⟨_, _, by simp only [fLen, lenO, seqO, Option.bind_some, List.length_map], q⟩
theorem wf_lenN {xs : List D} (q : Q (.int (xs.length : Nat)) S) : wp (fLen (.n xs) S) Q := ⟨_, _, rfl, q⟩
theorem wf_lenL {r : Nat} {xs : List D} (hr : S[r]? = some (.lst xs)) (q : Q (.int (xs.length : Nat)) S) : wp (fLen (.d (.ref r)) S) Q := ⟨_, _, by simp only [fLen, lenO, seqO, hr, Option.bind_some], q⟩
theorem wf_int {i : Int} (q : Q (.int i) S) : wp (fInt (.d (.int i)) S) Q := ⟨_, _, rfl, q⟩
theorem wf_tupcT {xs : List D} (q : Q (.tup xs) S) : wp (fTupc (.d (.tup xs)) S) Q := ⟨_, _, rfl, q⟩
theorem wf_tupcN {xs : List D} (q : Q (.tup xs) S) : wp (fTupc (.n xs) S) Q := ⟨_, _, rfl, q⟩
theorem wf_tupcL {r : Nat} {xs : List D} (hr : S[r]? = some (.lst xs)) (q : Q (.tup xs) S) : wp (fTupc (.d (.ref r)) S) Q := ⟨_, _, by simp only [fTupc, seqO, hr, Option.bind_some], q⟩
theorem wf_allN {bs : List Bool} (q : Q (.bl (bs.all _root_.id)) S) : wp (fAll (.n (bs.map D.bl)) S) Q := ⟨_, _, by simp only [fAll, lisO, allB_map, Option.bind_some], q⟩
theorem wf_anyN {bs : List Bool} (q : Q (.bl (bs.any _root_.id)) S) : wp (fAny (.n (bs.map D.bl)) S) Q := ⟨_, _, by simp only [fAny, lisO, allB_map, Option.bind_some], q⟩
theorem wf_sumN {is : List Int} (q : Q (.int is.sum) S) : wp (fSum (.n (is.map D.int)) S) Q := ⟨_, _, by simp only [fSum, lisO, allI_map, Option.bind_some], q⟩
/-- o.append(e) -/
theorem wp_app (h : wp (a l S) fun x S1 => ∃ r ys, x = .ref r ∧ S1[r]? = some (.lst ys) ∧ wp (b l S1) fun y S2 => ∃ xs, S2[r]? = some (.lst xs) ∧ xs.length < 1000000 ∧ Q .non (S2.set r (.lst (xs ++ [y])))) : wp (mApp a b l S) Q := by
  obtain ⟨x, S1, e1, r, ys, rfl, h1, y, S2, e2, xs, h2, h3, q⟩ := h
  exact ⟨_, _, by unfold mApp; simp only [e1, Option.bind_some, h1, e2, h2, if_pos h3], q⟩
/-! ### walks -/
def loopK (J : Lo → Sto → Prop) (Q : Fl → Sto → Prop) (f : Fl) (S : Sto) : Prop := match f with
  | .nx l => J l S
  | .ct l => J l S
  | .bk l => Q (.nx l) S
  | .rt d => Q (.rt d) S
theorem loopK_nx {J : Lo → Sto → Prop} (h : J l S) : loopK J QS (.nx l) S := h
theorem loopK_ct {J : Lo → Sto → Prop} (h : J l S) : loopK J QS (.ct l) S := h
theorem loopK_bk {J : Lo → Sto → Prop} (h : QS (.nx l) S) : loopK J QS (.bk l) S := h
theorem loopK_rt {J : Lo → Sto → Prop} {d : D} (h : QS (.rt d) S) : loopK J QS (.rt d) S := h
theorem wp_for {src : MI} {tg : MG} {body : MS} (h : wp (src l S) fun s S1 => wp (forL s.ok tg body s.ds l S1) QS) : wp (mFor src tg body l S) QS := by
  obtain ⟨s, S1, e1, f, S2, e2, q⟩ := h
  exact ⟨f, S2, by unfold mFor; simp only [e1, Option.bind_some, e2], q⟩
theorem wp_src {QI : Src → Sto → Prop} (h : wp (oa l S) fun o S1 => ∃ s, srcO S1 o = some s ∧ QI s S1) : wp (mSrc oa l S) QI := by
  obtain ⟨x, S1, e1, s, e2, q⟩ := h
  exact ⟨s, S1, by unfold mSrc; simp only [e1, e2, Option.bind_some], q⟩
theorem src_tupK {xs : List D} {P : Src → Prop} (q : P ⟨xs, fun _ => True⟩) : ∃ s, srcO S (.d (.tup xs)) = some s ∧ P s := ⟨_, rfl, q⟩
theorem src_nK {xs : List D} {P : Src → Prop} (q : P ⟨xs, fun _ => True⟩) : ∃ s, srcO S (.n xs) = some s ∧ P s := ⟨_, rfl, q⟩
theorem src_slK {ns : List Int} {P : Src → Prop} (q : P ⟨ns.map D.int, fun _ => True⟩) : ∃ s, srcO S (.d (.sl ns)) = some s ∧ P s := ⟨_, rfl, q⟩
theorem src_lstK {r : Nat} {xs : List D} {P : Src → Prop} (h : S[r]? = some (.lst xs)) (q : P ⟨xs, fun S' => S'[r]? = some (.lst xs)⟩) : ∃ s, srcO S (.d (.ref r)) = some s ∧ P s := ⟨_, by simp only [srcO, h], q⟩
theorem wp_rng1 {QI : Src → Sto → Prop} (h : wp (a l S) fun x S1 => ∃ j, x = .int j ∧ (-(2 ^ 62) ≤ j ∧ j < 2 ^ 62) ∧ QI ⟨rangeD 0 j.toNat, fun _ => True⟩ S1) : wp (mRng1 a l S) QI := by
  obtain ⟨x, S1, e1, j, rfl, hj, q⟩ := h
  exact ⟨_, S1, by unfold mRng1; simp only [e1, Option.bind_some]; rw [if_pos hj], q⟩
theorem wp_rngN {QI : Src → Sto → Prop} (h : wp (a l S) fun x S1 => ∃ n : Nat, x = .int n ∧ n ≤ 1000000 ∧ QI ⟨rangeD 0 n, fun _ => True⟩ S1) : wp (mRng1 a l S) QI := by
  obtain ⟨x, S1, e1, n, rfl, hj, q⟩ := h
  refine ⟨_, S1, ?_, q⟩
  have hb : -(2 ^ 62) ≤ (n : Int) ∧ (n : Int) < 2 ^ 62 := by
    have c : (2 : Int) ^ 62 = 4611686018427387904 := by simp only [Int.reducePow]
    rw [c]; omega
  have := rng1_a (m := a) (l := l) (S := S) (S1 := S1) e1 hb
  rw [Int.toNat_natCast] at this
  exact this
theorem wp_enum {QI : Src → Sto → Prop} (h : wp (oa l S) fun o S1 => ∃ s, srcO S1 o = some s ∧ QI ⟨enumD 0 s.ds, s.ok⟩ S1) : wp (mEnum oa l S) QI := by
  obtain ⟨x, S1, e1, s, e2, q⟩ := h
  exact ⟨_, S1, by unfold mEnum; simp only [e1, e2, Option.bind_some], q⟩
/-- a walk by its invariant: what was walked -/
theorem wp_inv {α : Type} {ok : Sto → Prop} {tg : MG} {body : MS} {ds : List D} (e : α → D) (xs : List α) (I : List α → Lo → Sto → Prop) (hd : ds = xs.map e) (h0 : I [] l S) (hok : ∀ dn l S, I dn l S → ok S)
    (hs : ∀ dn x rest l S, xs = dn ++ x :: rest → I dn l S → wl (tg (e x) l S) fun l1 => wp (body l1 S) (loopK (I (dn ++ [x])) QS)) (hq : ∀ l S, I xs l S → QS (.nx l) S) : wp (forL ok tg body ds l S) QS := by
  subst hd
  have go : ∀ (ys dn : List α) (l : Lo) (S : Sto), xs = dn ++ ys → I dn l S → wp (forL ok tg body (ys.map e) l S) QS := by
    intro ys
    induction ys with
    | nil =>
      intro dn l S h1 h2
      rw [List.append_nil] at h1
      subst h1
      exact ⟨_, _, forL_nil (hok _ _ _ h2), hq _ _ h2⟩
    | cons y ys ih =>
      intro dn l S h1 h2
      obtain ⟨l1, e1, f, S1, e2, q⟩ := hs dn y ys l S h1 h2
      cases f with
      | nx l2 =>
        obtain ⟨f', S', e3, q'⟩ := ih (dn ++ [y]) l2 S1 (by rw [h1, List.append_assoc]; rfl) q
        exact ⟨f', S', (forL_nx (hok _ _ _ h2) e1 e2).trans e3, q'⟩
      | ct l2 =>
        obtain ⟨f', S', e3, q'⟩ := ih (dn ++ [y]) l2 S1 (by rw [h1, List.append_assoc]; rfl) q
        exact ⟨f', S', (forL_ct (hok _ _ _ h2) e1 e2).trans e3, q'⟩
      | bk l2 => exact ⟨_, _, forL_bk (hok _ _ _ h2) e1 e2, q⟩
      | rt d => exact ⟨_, _, forL_rt (hok _ _ _ h2) e1 e2, q⟩
  exact go xs [] l S rfl h0
/-- .. a fold -/
theorem wp_fold {α σ : Type} {ok : Sto → Prop} {tg : MG} {body : MS} {ds : List D} (e : α → D) (xs : List α) (L : σ → Option D → Lo) (T : σ → Sto) (f : σ → α → σ) (s : σ) (o : Option D) (hd : ds = xs.map e) (hl : l = L s o) (hS : S = T s) (hok : ∀ s, ok (T s))
    (hs : ∀ s o x, x ∈ xs → wl (tg (e x) (L s o) (T s)) fun l1 => wp (body l1 (T s)) fun g S' => ∃ o', (g = .nx (L (f s x) o') ∨ g = .ct (L (f s x) o')) ∧ S' = T (f s x)) (hq : ∀ o, QS (.nx (L (xs.foldl f s) o)) (T (xs.foldl f s))) : wp (forL ok tg body ds l S) QS := by
  subst hd hl hS
  induction xs generalizing s o with
  | nil => exact ⟨_, _, forL_nil (hok _), hq o⟩
  | cons x xs ih =>
    obtain ⟨l1, e1, g, S1, e2, o', hg, rfl⟩ := hs s o x (by simp)
    obtain ⟨f', S', e3, q'⟩ := ih (f s x) o' (fun s o y hy => hs s o y (List.mem_cons_of_mem _ hy)) hq
    rcases hg with rfl | rfl
    · exact ⟨f', S', (forL_nx (hok _) e1 e2).trans e3, q'⟩
    · exact ⟨f', S', (forL_ct (hok _) e1 e2).trans e3, q'⟩
/-- .. that ends at the first x of which p is so -/
theorem wp_find {α : Type} {ok : Sto → Prop} {tg : MG} {body : MS} {ds : List D} (e : α → D) (xs : List α) (L : Option D → Lo) (p : α → Bool) (g : α → D) (o : Option D) (hd : ds = xs.map e) (hl : l = L o) (hok : ok S)
    (hs : ∀ o x, x ∈ xs → wl (tg (e x) (L o) S) fun l1 => wp (body l1 S) fun f S' => S' = S ∧ if p x = true then f = .rt (g x) else ∃ o', f = .nx (L o') ∨ f = .ct (L o'))
    (hq : match xs.find? p with | some x => QS (.rt (g x)) S | none => ∀ o, QS (.nx (L o)) S) : wp (forL ok tg body ds l S) QS := by
  subst hd hl
  induction xs generalizing o with
  | nil => exact ⟨_, _, forL_nil hok, hq o⟩
  | cons x xs ih =>
    obtain ⟨l1, e1, f, S1, e2, rfl, hf⟩ := hs o x (by simp)
    cases hp : p x with
    | true =>
      rw [if_pos hp] at hf
      subst hf
      rw [List.find?_cons, hp] at hq
      exact ⟨_, _, forL_rt hok e1 e2, hq⟩
    | false =>
      rw [if_neg (by simp [hp])] at hf
      rw [List.find?_cons, hp] at hq
      obtain ⟨o', hf⟩ := hf
      obtain ⟨f', S', e3, q'⟩ := ih o' (fun o y hy => hs o y (List.mem_cons_of_mem _ hy)) hq
      rcases hf with rfl | rfl
      · exact ⟨f', S', (forL_nx hok e1 e2).trans e3, q'⟩
      · exact ⟨f', S', (forL_ct hok e1 e2).trans e3, q'⟩
/-! ### comprehensions -/
theorem wp_comp {src : MI} {vs : List Nat} {tg : MG} {c : MT} {elt : M} (h : wp (src l S) fun s S1 => s.ds.length ≤ 1000000 ∧ wp (compL s.ok tg c elt (wipeD l vs) s.ds S1) QA) : wp (mComp src vs tg c elt l S) QA := by
  obtain ⟨s, S1, e1, h1, f, S2, e2, q⟩ := h
  exact ⟨f, S2, by unfold mComp; simp only [e1, Option.bind_some]; rw [if_pos h1, e2], q⟩
theorem wp_map {α : Type} {ok : Sto → Prop} {tg : MG} {elt : M} {ds : List D} (e : α → D) (xs : List α) (g : α → D) (hd : ds = xs.map e) (hok : ok S)
    (hs : ∀ x ∈ xs, wl (tg (e x) l S) fun l1 => wp (elt l1 S) fun d S' => d = g x ∧ S' = S) (hq : QA (xs.map g) S) : wp (compL ok tg mYes elt l ds S) QA := by
  subst hd
  refine ⟨_, S, ?_, hq⟩
  clear hq
  induction xs with
  | nil => rw [List.map_nil, compL, if_pos hok]; rfl
  | cons x xs ih =>
    obtain ⟨l1, e1, d, S1, e2, rfl, rfl⟩ := hs x (by simp)
    rw [List.map_cons, compL, if_pos hok]
    simp only [e1, Option.bind_some, mYes, if_true, e2, ih fun y hy => hs y (List.mem_cons_of_mem _ hy), List.map_cons]
theorem wp_mapE {α β : Type} {ok : Sto → Prop} {tg : MG} {elt : M} {ds : List D} (e : α → D) (xs : List α) (e2 : β → D) (g : α → β) (hd : ds = xs.map e) (hok : ok S)
    (hs : ∀ x ∈ xs, wl (tg (e x) l S) fun l1 => wp (elt l1 S) fun d S' => d = e2 (g x) ∧ S' = S) (hq : QA ((xs.map g).map e2) S) : wp (compL ok tg mYes elt l ds S) QA :=
  wp_map e xs (fun x => e2 (g x)) hd hok hs (by rw [List.map_map] at hq; exact hq)
theorem wp_filter {α : Type} {ok : Sto → Prop} {tg : MG} {c : MT} {elt : M} {ds : List D} (e : α → D) (xs : List α) (p : α → Bool) (g : α → D) (hd : ds = xs.map e) (hok : ok S)
    (hs : ∀ x ∈ xs, wl (tg (e x) l S) fun l1 => wp (c l1 S) fun b S' => b = p x ∧ S' = S ∧ (p x = true → wp (elt l1 S) fun d S' => d = g x ∧ S' = S)) (hq : QA ((xs.filter p).map g) S) : wp (compL ok tg c elt l ds S) QA := by
  subst hd
  refine ⟨_, S, ?_, hq⟩
  clear hq
  induction xs with
  | nil => rw [List.map_nil, compL, if_pos hok]; rfl
  | cons x xs ih =>
    obtain ⟨l1, e1, b, S1, e2, rfl, rfl, h2⟩ := hs x (by simp)
    have ih' := ih fun y hy => hs y (List.mem_cons_of_mem _ hy)
    rw [List.map_cons, compL, if_pos hok]
    cases hp : p x with
    | true =>
      obtain ⟨d, S2, e3, rfl, rfl⟩ := h2 hp
      simp only [e1, Option.bind_some, e2, hp, if_true, e3, ih', List.filter_cons, List.map_cons]
    | false => simp only [e1, Option.bind_some, e2, hp, Bool.false_eq_true, if_false, ih', List.filter_cons]
/-- .. the store may grow -/
theorem wp_compI {α : Type} {ok : Sto → Prop} {tg : MG} {elt : M} {ds : List D} (e : α → D) (xs : List α) (I : List α → List D → Sto → Prop) (hd : ds = xs.map e) (h0 : I [] [] S) (hok : ∀ dn out S, I dn out S → ok S)
    (hs : ∀ dn x rest out S, xs = dn ++ x :: rest → I dn out S → wl (tg (e x) l S) fun l1 => wp (elt l1 S) fun d S' => I (dn ++ [x]) (out ++ [d]) S') (hq : ∀ out S, I xs out S → QA out S) : wp (compL ok tg mYes elt l ds S) QA := by
  subst hd
  have go : ∀ (ys dn : List α) (out : List D) (S : Sto), xs = dn ++ ys → I dn out S → ∃ out' S', compL ok tg mYes elt l (ys.map e) S = some (out', S') ∧ I xs (out ++ out') S' := by
    intro ys
    induction ys with
    | nil =>
      intro dn out S h1 h2
      rw [List.append_nil] at h1
      subst h1
      exact ⟨[], S, by rw [List.map_nil, compL, if_pos (hok _ _ _ h2)], by rw [List.append_nil]; exact h2⟩
    | cons y ys ih =>
      intro dn out S h1 h2
      obtain ⟨l1, e1, d, S1, e2, q⟩ := hs dn y ys out S h1 h2
      obtain ⟨o2, S2, e3, q2⟩ := ih (dn ++ [y]) (out ++ [d]) S1 (by rw [h1, List.append_assoc]; rfl) q
      refine ⟨d :: o2, S2, ?_, by rw [List.append_assoc] at q2; exact q2⟩
      rw [List.map_cons, compL, if_pos (hok _ _ _ h2)]
      simp only [e1, Option.bind_some, mYes, if_true, e2, e3]
  obtain ⟨o, S', e1, q⟩ := go xs [] [] S rfl h0
  exact ⟨o, S', e1, hq o S' q⟩
end
/-! ### more -/
section
variable {l : Lo} {S : Sto} {Q : D → Sto → Prop} {QA : List D → Sto → Prop} {QT : Bool → Sto → Prop} {QS : Fl → Sto → Prop} {QI : Src → Sto → Prop} {a b c : M} {ma : MA} {sa sb : MS} {oa ob : MO}
/-- the ways join -/
theorem way_cut {t : Bool} {A B : Option (Fl × Sto)} {K : Fl → Sto → Prop} (J : Fl → Sto → Prop) (h1 : way t (wp A J) (wp B J)) (h2 : ∀ f S, J f S → K f S) : way t (wp A K) (wp B K) :=
  ⟨fun h => (h1.1 h).imp h2, fun h => (h1.2 h).imp h2⟩
theorem wp_cut {o : Option (Fl × Sto)} {K : Fl → Sto → Prop} (J : Fl → Sto → Prop) (h1 : wp o J) (h2 : ∀ f S, J f S → K f S) : wp o K := h1.imp h2
theorem wp_rev (h : wp (a l S) fun x S1 => ∃ r xs, x = .ref r ∧ S1[r]? = some (.lst xs) ∧ Q .non (S1.set r (.lst xs.reverse))) : wp (mRevM a l S) Q := by
  obtain ⟨x, S1, e1, r, xs, rfl, h1, q⟩ := h
  exact ⟨_, _, by unfold mRevM; simp only [e1, Option.bind_some, h1], q⟩
theorem wp_pop (h : wp (a l S) fun x S1 => ∃ r xs d, x = .ref r ∧ S1[r]? = some (.lst xs) ∧ xs[xs.length - 1]? = some d ∧ Q d (S1.set r (.lst xs.dropLast))) : wp (mPop a l S) Q := by
  obtain ⟨x, S1, e1, r, xs, d, rfl, h1, h2, q⟩ := h
  exact ⟨_, _, by unfold mPop; simp only [e1, Option.bind_some, h1, h2], q⟩
theorem wp_setD (h : wp (c l S) fun v S1 => wp (a l S1) fun d S2 => wp (b l S2) fun k S3 => ∃ S4, setDF d k v S3 = some S4 ∧ QS (.nx l) S4) : wp (mSetD a b c l S) QS := by
  obtain ⟨v, S1, e1, d, S2, e2, k, S3, e3, S4, e4, q⟩ := h
  exact ⟨_, _, by unfold mSetD; simp only [e1, e2, e3, e4, Option.bind_some], q⟩
theorem wp_setI (h : wp (c l S) fun v S1 => wp (a l S1) fun d S2 => wp (b l S2) fun k S3 => ∃ S4, setF d k v S3 = some S4 ∧ QS (.nx l) S4) : wp (mSetI a b c l S) QS := by
  obtain ⟨v, S1, e1, d, S2, e2, k, S3, e3, S4, e4, q⟩ := h
  exact ⟨_, _, by unfold mSetI; simp only [e1, e2, e3, e4, Option.bind_some], q⟩
theorem wp_get2 (h : wp (a l S) fun d S1 => isDO S1 d = true ∧ wp (b l S1) fun k S2 => wp (c l S2) fun z S3 => ∃ v, gotD S3 d k = some v ∧ Q (v.getD z) S3) : wp (mGet2 a b c l S) Q := by
  obtain ⟨d, S1, e1, h1, k, S2, e2, z, S3, e3, v, e4, q⟩ := h
  exact ⟨_, _, by unfold mGet2; simp only [e1, e2, e3, e4, h1, if_true, Option.bind_some], q⟩
theorem wp_get1 (h : wp (a l S) fun d S1 => isDO S1 d = true ∧ wp (b l S1) fun k S2 => ∃ v, gotD S2 d k = some v ∧ Q (v.getD .non) S2) : wp (mGet1 a b l S) Q := by
  obtain ⟨d, S1, e1, h1, k, S2, e2, v, e4, q⟩ := h
  exact ⟨_, _, by unfold mGet1; simp only [e1, e2, e4, h1, if_true, Option.bind_some], q⟩
theorem wf_ixX {x y d : D} (h : gotD S x y = some (some d)) (q : Q d S) : wp (ixX x y S) Q := ⟨_, _, by simp only [ixX, h, Option.bind_some], q⟩
theorem wf_inD {x y : D} {o : Option D} (h : gotD S x y = some o) (q : Q (.bl o.isSome) S) : wp (fInD y x S) Q := ⟨_, _, by simp only [fInD, h, Option.bind_some], q⟩
theorem wf_ninD {x y : D} {o : Option D} (h : gotD S x y = some o) (q : Q (.bl (!o.isSome)) S) : wp (fNinD y x S) Q := ⟨_, _, by simp only [fNinD, h, Option.bind_some], q⟩
theorem wp_dnewK (q : Q (.ref S.length) (S ++ [.dK []])) : wp (mDnewK l S) Q := ⟨_, _, rfl, q⟩
theorem wp_dnewT (q : Q (.ref S.length) (S ++ [.dT []])) : wp (mDnewT l S) Q := ⟨_, _, rfl, q⟩
theorem wp_dcopy (h : wp (a l S) fun x S1 => ∃ kvs, dkO S1 x = some kvs ∧ Q (.ref S1.length) (S1 ++ [.dK kvs])) : wp (mDcopy a l S) Q := by
  obtain ⟨x, S1, e1, kvs, e2, q⟩ := h
  exact ⟨_, _, by unfold mDcopy; simp only [e1, e2, Option.bind_some], q⟩
theorem wp_lockA {i n : Nat} {cl c1 : Cell} (hi : l[i]? = some (some (.ref n))) (hc : S[n]? = some cl) (hl : lockC cl = some c1) (h : wp (ma l (S.set n c1)) fun xs S1 => ∃ c2 c3, S1[n]? = some c2 ∧ openC c2 = some c3 ∧ QA xs (S1.set n c3)) : wp (mLockA i ma l S) QA := by
  obtain ⟨xs, S1, e1, c2, c3, e2, e3, q⟩ := h
  exact ⟨_, _, by unfold mLockA; simp only [hi, hc, hl, e1, e2, e3, Option.bind_some], q⟩
theorem wp_lockS {i n : Nat} {cl c1 : Cell} (hi : l[i]? = some (some (.ref n))) (hc : S[n]? = some cl) (hl : lockC cl = some c1) (h : wp (sa l (S.set n c1)) fun f S1 => ∃ c2 c3, S1[n]? = some c2 ∧ openC c2 = some c3 ∧ QS f (S1.set n c3)) : wp (mLockS i sa l S) QS := by
  obtain ⟨xs, S1, e1, c2, c3, e2, e3, q⟩ := h
  exact ⟨_, _, by unfold mLockS; simp only [hi, hc, hl, e1, e2, e3, Option.bind_some], q⟩
theorem wp_keysK (h : wp (a l S) fun x S1 => ∃ n kvs, x = .ref n ∧ S1[n]? = some (.lk kvs) ∧ QI ⟨kvs.map fun kv => keyOfD kv.1, fun S' => S'[n]? = some (.lk kvs)⟩ S1) : wp (mKeys a l S) QI := by
  obtain ⟨x, S1, e1, n, kvs, rfl, e2, q⟩ := h
  exact ⟨_, _, by unfold mKeys; simp only [e1, e2, Option.bind_some], q⟩
theorem wp_keysT (h : wp (a l S) fun x S1 => ∃ n kvs, x = .ref n ∧ S1[n]? = some (.lkT kvs) ∧ QI ⟨kvs.map fun kv => D.tup (kv.1.map keyOfD), fun S' => S'[n]? = some (.lkT kvs)⟩ S1) : wp (mKeys a l S) QI := by
  obtain ⟨x, S1, e1, n, kvs, rfl, e2, q⟩ := h
  exact ⟨_, _, by unfold mKeys; simp only [e1, e2, Option.bind_some], q⟩
theorem wp_items (h : wp (a l S) fun x S1 => ∃ n kvs, x = .ref n ∧ S1[n]? = some (.lk kvs) ∧ QI ⟨kvs.map fun kv => D.tup [keyOfD kv.1, kv.2], fun S' => S'[n]? = some (.lk kvs)⟩ S1) : wp (mItems a l S) QI := by
  obtain ⟨x, S1, e1, n, kvs, rfl, e2, q⟩ := h
  exact ⟨_, _, by unfold mItems; simp only [e1, e2, Option.bind_some], q⟩
theorem wp_while {ta : MT} {sb : MS} (n : Nat) (I : Nat → Lo → Sto → Prop) (h0 : I n l S) (hs : ∀ m l S, I m l S → wp (ta l S) fun x S1 => way x (wp (sb l S1) (loopK (fun l S => ∃ m', m' < m ∧ I m' l S) QS)) (QS (.nx l) S1)) : wp (mWhile ta sb l S) QS := by
  have go : ∀ m l S, I m l S → ∃ f S', whileL ta sb (m + 1) l S = some (f, S') ∧ QS f S' := by
    intro m
    induction m using Nat.strongRecOn with
    | ind m ih =>
      intro l S h
      obtain ⟨x, S1, e1, q⟩ := hs m l S h
      cases x with
      | false => exact ⟨_, _, by unfold whileL; simp only [e1, Option.bind_some, Bool.false_eq_true, if_false], q.2 rfl⟩
      | true =>
        obtain ⟨f, S2, e2, q⟩ := q.1 rfl
        cases f with
        | nx l2 =>
          obtain ⟨m', hm, hI⟩ := q
          obtain ⟨f', S', e3, q'⟩ := ih m' hm l2 S2 hI
          exact ⟨f', S', by unfold whileL; simp only [e1, Option.bind_some, if_true, e2]; exact whileL_le e3 hm, q'⟩
        | ct l2 =>
          obtain ⟨m', hm, hI⟩ := q
          obtain ⟨f', S', e3, q'⟩ := ih m' hm l2 S2 hI
          exact ⟨f', S', by unfold whileL; simp only [e1, Option.bind_some, if_true, e2]; exact whileL_le e3 hm, q'⟩
        | bk l2 => exact ⟨_, _, by unfold whileL; simp only [e1, Option.bind_some, if_true, e2], q⟩
        | rt d => exact ⟨_, _, by unfold whileL; simp only [e1, Option.bind_some, if_true, e2], q⟩
  obtain ⟨f, S', e, q⟩ := go n l S h0
  exact ⟨f, S', mWhile_of e, q⟩
end
/-! ### functions -/
section
variable {prog : Nat → Option Fb} {i n j k : Nat} {ms : GF → MS} {ds : List D} {S S' : Sto} {d : D}
/-- a function that makes nothing -/
theorem run_pure (hp : prog i = some (mkFb n j ms)) (hn : ds.length = n) (hr : refLt S.length d = true) (h : wp (ms (run prog k) (ds.map some ++ List.replicate (j - n) none) S) fun f S1 => f = .rt d ∧ S1 = S) : run prog (k + 1) i ds S = some (d, S) :=
  call_pure hp hn h.get hr
/-- .. that leaves only rubbish -/
theorem run_rub (hp : prog i = some (mkFb n j ms)) (hn : ds.length = n) (hr : refLt S.length d = true) (h : wp (ms (run prog k) (ds.map some ++ List.replicate (j - n) none) S) fun f S1 => f = .rt d ∧ ∃ T, S1 = S ++ T) : run prog (k + 1) i ds S = some (d, S) := by
  obtain ⟨f, S1, e, rfl, T, rfl⟩ := h
  exact run_more hp hn e hr
theorem fin_any {S T : Sto} {r : Nat} {c : Cell} (h : (S ++ T)[r]? = some c) (hl : S.length ≤ r) (hr : cellLt S.length c = true) : fin S (.ref r, S ++ T) = (.ref S.length, S ++ [c]) := by
  unfold fin
  dsimp only
  rw [if_pos List.take_left, if_neg (by simp [refLt]; omega)]
  simp only [h]
  rw [if_pos hr]
/-- .. that hands back a list or dict of its own -/
theorem run_own {c : Cell} (hp : prog i = some (mkFb n j ms)) (hn : ds.length = n) (hr : cellLt S.length c = true) (h : wp (ms (run prog k) (ds.map some ++ List.replicate (j - n) none) S) fun f S1 => ∃ r T, f = .rt (.ref r) ∧ S1 = S ++ T ∧ S.length ≤ r ∧ (S ++ T)[r]? = some c) : run prog (k + 1) i ds S = some (.ref S.length, S ++ [c]) := by
  obtain ⟨f, S1, e, r, T, rfl, rfl, h1, h2⟩ := h
  rw [run_step hp hn e, fin_any h2 h1 hr]
/-- whatever -/
def outK (S : Sto) (Q : D → Sto → Prop) (f : Fl) (S1 : Sto) : Prop := match f with
    | .rt d => Q (fin S (d, S1)).1 (fin S (d, S1)).2
    | .nx _ => Q (fin S (.non, S1)).1 (fin S (.non, S1)).2
    | _ => False
theorem outK_rt {Q : D → Sto → Prop} (q : Q (fin S (d, S')).1 (fin S (d, S')).2) : outK S Q (.rt d) S' := q
theorem outK_nx {l : Lo} {Q : D → Sto → Prop} (q : Q (fin S (.non, S')).1 (fin S (.non, S')).2) : outK S Q (.nx l) S' := q
theorem run_wp (hp : prog i = some (mkFb n j ms)) (hn : ds.length = n) {Q : D → Sto → Prop} (h : wp (ms (run prog k) (ds.map some ++ List.replicate (j - n) none) S) (outK S Q)) : wp (run prog (k + 1) i ds S) Q := by
  obtain ⟨f, S1, e, q⟩ := h
  rw [run_at hp]
  unfold mkFb
  rw [if_pos hn, e]
  cases f with
  | rt d => exact ⟨_, _, rfl, q⟩
  | nx d => exact ⟨_, _, rfl, q⟩
  | bk d => exact q.elim
  | ct d => exact q.elim
end
end Zi
set_option maxRecDepth 100000
set_option maxHeartbeats 1000000
/-! shared functions over terms: what they give -/
namespace Zi
open PySem L2
local macro_rules | `(tactic| walk_at "ev") => `(tactic| (simp only [mSeq, mSet, mRet, mIfS, mIf, mOp, mOpO, mC, mVar, mBool, mFn1, oD, oN, oS, fLen, lenO, seqO, mSkip, fAdd, fMul, fI, fI0, fLt, fLe, fGt, fGe, fSub, fMod, fDiv, fInt, ixF, mNil, mCons, mTup, mCall, mLst, mAlloc, mIsN, mNotN, isNon, mNotT, mAndT, mOrT, mTru, truD, mAsg, mgTup, mgCons, mgNil, mgN, mLisc, mIsI, tyO, isTyB, mDrop, mAug, fIadd, mMax2, mAnd, mOr, mNot, fLtT, fTupc, mulC_r, mulC_l, divC_r, modC_r, atI_0, atI_1, atI_2, fEq_int, fNe_int, fEq_bl, mSrc, srcO, eT_v, eT_ap, eS, List.length_cons, List.length_nil, Option.bind_some, Option.map_some, List.map_cons, List.map_nil, List.cons_append, List.nil_append, List.replicate, List.getElem?_cons_zero, List.getElem?_cons_succ, List.set_cons_zero, List.set_cons_succ, if_true, decide_true, Int.reduceNeg, Int.reducePow, Int.reduceLT, Nat.reduceAdd, Nat.reduceSub, and_self, Nat.reduceLeDiff, Bool.false_eq_true, if_false, Bool.not_true, Bool.not_false, Int.reduceEq, decide_false, Bool.or_false, Bool.false_or, Bool.or_true, Bool.true_or, Bool.and_true, Bool.true_and, Bool.and_false, Bool.false_and, String.reduceEq, *]))
local macro_rules | `(tactic| walk_at "step") => `(tactic| (refine (Eq.trans (seq_set (by ((try walk_at "ev"); exact rfl))) ?_); simp only [List.set_cons_zero, List.set_cons_succ]))
section
variable {prog : Nat → Option Fb} (hp : ∀ j fb, lZl0[j]? = some fb → prog (0 + j) = some fb) {k : Nat} {S : Sto}
def Tm.isV : Tm → Bool
  | .v _ => true
  | .ap _ _ _ _ => false
include hp
theorem r_isvar (t : Tm) : run prog (k + 1) 3 [eT t] S = some (.bl t.isV, S) := call_pure (hp 3 _ rfl) rfl (by
  show c_is_variable (run prog k) [some (eT t)] S = _
  unfold c_is_variable
  cases t <;> walk_at "ev" <;> simp [Tm.isV]) (refLt_bl _)
theorem r_lisvar (t : Tm) : run prog (k + 1) 14 [eT t] S = some (.bl t.isV, S) := call_pure (hp 14 _ rfl) rfl (by
  show c__law_is_variable (run prog k) [some (eT t)] S = _
  unfold c__law_is_variable
  cases t <;> walk_at "ev" <;> simp [Tm.isV]) (refLt_bl _)
omit hp
mutual
def Tm.size : Tm → Int
  | .v _ => 1
  | .ap _ _ _ ts => 1 + sizes ts
def sizes : List Tm → Int
  | [] => 0
  | t :: ts => t.size + sizes ts
end
theorem fold_size : ∀ (ts : List Tm) (n : Int), ts.foldl (fun s t => s + t.size) n = n + sizes ts
  | [], n => by simp [sizes]
  | t :: ts, n => by simp only [List.foldl_cons, fold_size ts, sizes]; omega
include hp
theorem r_size (t : Tm) : ∀ {k : Nat}, t.hgt ≤ k → ∀ S, run prog (k + 2) 4 [eT t] S = some (.int t.size, S) := by
  induction t using Tm.ind with
  | hv i =>
    intro k hk S
    refine call_pure (hp 4 _ rfl) rfl ?_ (refLt_int _)
    show c_size (run prog (k + 1)) [some (eT (.v i)), none, none] S = _
    have h1 := r_isvar hp (k := k) (S := S) (.v i)
    simp only [Tm.isV] at h1
    unfold c_size Tm.size
    rw [seq_ifT (S1 := S) (by simp only [eT_v] at h1; walk_at "ev")]
    walk_at "ev"
  | ha a b c ts ih =>
    intro k hk S
    rw [hgt_ap] at hk
    obtain ⟨k, rfl⟩ : ∃ k', k = k' + 1 := ⟨k - 1, by omega⟩
    refine call_pure (hp 4 _ rfl) rfl ?_ (refLt_int _)
    show c_size (run prog (k + 2)) [some (eT (.ap a b c ts)), none, none] S = _
    have h1 := r_isvar hp (k := k + 1) (S := S) (.ap a b c ts)
    have h2 := fun t ht => ih t ht (k := k) (Nat.le_trans (hgts_mem ht) (by omega)) S
    clear ih
    simp only [Tm.isV] at h1
    unfold c_size
    rw [seq_ifF (S1 := S) (by clear h2; simp only [eT_ap, eS] at h1; walk_at "ev"), seq_skip]
    rw [seq_set (v := .int 1) (S1 := S) (by walk_at "ev")]
    have hs : mSrc (oD (mOp ixF (mVar 0) (mC (.int 1)))) [some (eT (.ap a b c ts)), some (.int 1), none] S = some (⟨ts.map eT, fun _ => True⟩, S) := by
      clear h1 h2
      walk_at "ev"
    obtain ⟨o, hf⟩ := forL_det (ok := fun _ => True) (tg := mgN 2) (body := mAug 1 fIadd (mCall (run prog (k + 2) 4) (mCons (mVar 2) mNil))) eT (fun (s : Int) o => [some (eT (.ap a b c ts)), some (.int s), o]) (fun _ => S) (fun s t => s + t.size) ts (fun _ => trivial) (fun _ _ _ _ => rfl) (fun s x hx => by
      have h3 := h2 x hx
      clear h1 h2 hs
      walk_at "ev") 1 none
    show mSeq _ _ [some (eT (.ap a b c ts)), some (.int 1), none] S = _
    rw [seq_nx ((for_of hs).trans hf), fold_size]
    simp only [Tm.size]
    clear h1 h2 hs hf
    walk_at "ev"

/-- the test whether it is a variable -/
theorem t_isv {l : Lo} {i : Nat} {t : Tm} (h : l[i]? = some (some (eT t))) : mTru (mCall (run prog (k + 1) 3) (mCons (mVar i) mNil)) l S = some (t.isV, S) := by
  have h1 := r_isvar hp (k := k) (S := S) t
  walk_at "ev"
theorem t_lisv {l : Lo} {i : Nat} {t : Tm} (h : l[i]? = some (some (eT t))) : mTru (mCall (run prog (k + 1) 14) (mCons (mVar i) mNil)) l S = some (t.isV, S) := by
  have h1 := r_lisvar hp (k := k) (S := S) t
  walk_at "ev"
omit hp
theorem e_args {l : Lo} {i : Nat} {a b c : Int} {ts : List Tm} (h : l[i]? = some (some (eT (.ap a b c ts)))) : mOp ixF (mVar i) (mC (.int 1)) l S = some (.tup (ts.map eT), S) := by
  walk_at "ev"
theorem src_args {l : Lo} {i : Nat} {a b c : Int} {ts : List Tm} (h : l[i]? = some (some (eT (.ap a b c ts)))) : mSrc (oD (mOp ixF (mVar i) (mC (.int 1)))) l S = some (⟨ts.map eT, fun _ => True⟩, S) := by
  walk_at "ev"
mutual
def Tm.dep : Tm → Int
  | .v _ => 0
  | .ap _ _ _ ts => if ts.isEmpty = true then 0 else deps ts + 1
def deps : List Tm → Int
  | [] => 0
  | t :: ts => max t.dep (deps ts)
def Tm.occ (x : Int) : Tm → Int
  | .v i => if i = x then 1 else 0
  | .ap _ _ _ ts => occs x ts
def occs (x : Int) : List Tm → Int
  | [] => 0
  | t :: ts => t.occ x + occs x ts
def Tm.vars : Tm → List Int → List Int
  | .v i, f => if i ∈ f then f else f ++ [i]
  | .ap _ _ _ ts, f => varsL ts f
def varsL : List Tm → List Int → List Int
  | [], f => f
  | t :: ts, f => varsL ts (t.vars f)
end
mutual
theorem dep_nn : ∀ t : Tm, 0 ≤ t.dep
  | .v _ => by simp [Tm.dep]
  | .ap _ _ _ ts => by
    have := deps_nn ts
    simp only [Tm.dep]
    split <;> omega
theorem deps_nn : ∀ ts : List Tm, 0 ≤ deps ts
  | [] => by simp [deps]
  | t :: ts => by
    have := deps_nn ts
    simp only [deps]; omega
end
theorem fold_dep : ∀ (ts : List Tm) (n : Int), 0 ≤ n → ts.foldl (fun s t => max s t.dep) n = max n (deps ts)
  | [], n, h => by simp only [List.foldl_nil, deps]; omega
  | t :: ts, n, h => by
    have h1 := dep_nn t
    simp only [List.foldl_cons, fold_dep ts (max n t.dep) (by omega), deps]; omega
theorem maxI_dep (t : Tm) (ts : List Tm) : maxI t.dep (ts.map Tm.dep) = deps (t :: ts) := by
  have h1 := dep_nn t
  have h2 := fold_dep ts t.dep h1
  unfold maxI
  rw [List.foldl_map]
  simp only [deps]
  exact h2
theorem fold_occ (x : Int) : ∀ (ts : List Tm) (n : Int), ts.foldl (fun s t => s + t.occ x) n = n + occs x ts
  | [], n => by simp [occs]
  | t :: ts, n => by simp only [List.foldl_cons, fold_occ x ts, occs]; omega
theorem sum_size : ∀ ts : List Tm, (ts.map Tm.size).sum = sizes ts
  | [] => by simp [sizes]
  | t :: ts => by simp [sizes, sum_size ts]
theorem varsL_fold : ∀ (ts : List Tm) (f : List Int), ts.foldl (fun s t => t.vars s) f = varsL ts f
  | [], f => by simp [varsL]
  | t :: ts, f => by simp only [List.foldl_cons, varsL_fold ts, varsL]
theorem orT_t {a b : MT} {l : Lo} {S S1 : Sto} (h : a l S = some (true, S1)) : mOrT a b l S = some (true, S1) := by
  unfold mOrT
  rw [h]
  rfl
theorem orT_f {a b : MT} {l : Lo} {S S1 : Sto} (h : a l S = some (false, S1)) : mOrT a b l S = b l S1 := by
  unfold mOrT
  rw [h]
  rfl
theorem andT_t {a b : MT} {l : Lo} {S S1 : Sto} (h : a l S = some (true, S1)) : mAndT a b l S = b l S1 := by
  unfold mAndT
  rw [h]
  rfl
theorem andT_f {a b : MT} {l : Lo} {S S1 : Sto} (h : a l S = some (false, S1)) : mAndT a b l S = some (false, S1) := by
  unfold mAndT
  rw [h]
  rfl
theorem notT_of {a : MT} {l : Lo} {S S1 : Sto} {b : Bool} (h : a l S = some (b, S1)) : mNotT a l S = some (!b, S1) := by
  unfold mNotT
  rw [h]
  rfl
theorem tru_call {m : M} {l : Lo} {S S1 : Sto} {b : Bool} (h : m l S = some (.bl b, S1)) : mTru m l S = some (b, S1) := by
  unfold mTru
  rw [h]
  rfl
theorem t_noargs {l : Lo} {i : Nat} {a b c : Int} {ts : List Tm} (h : l[i]? = some (some (eT (.ap a b c ts)))) : mNotT (mTru (mOp ixF (mVar i) (mC (.int 1)))) l S = some (ts.isEmpty, S) := by
  walk_at "ev"
  cases ts <;> rfl
include hp
theorem r_depth (t : Tm) : ∀ {k : Nat}, t.hgt ≤ k → ∀ S, run prog (k + 2) 5 [eT t] S = some (.int t.dep, S) := by
  induction t using Tm.ind with
  | hv i =>
    intro k hk S
    refine call_pure (hp 5 _ rfl) rfl ?_ (refLt_int _)
    show c_depth (run prog (k + 1)) [some (eT (.v i)), none, none] S = _
    have h1 := t_isv hp (k := k) (S := S) (l := [some (eT (.v i)), none, none]) (i := 0) rfl
    unfold c_depth Tm.dep
    rw [seq_ifT (S1 := S) (orT_t h1)]
    rfl
  | ha a b c ts ih =>
    intro k hk S
    rw [hgt_ap] at hk
    obtain ⟨k, rfl⟩ : ∃ k', k = k' + 1 := ⟨k - 1, by omega⟩
    refine call_pure (hp 5 _ rfl) rfl ?_ (refLt_int _)
    show c_depth (run prog (k + 2)) [some (eT (.ap a b c ts)), none, none] S = _
    have h1 := t_isv hp (k := k + 1) (S := S) (l := [some (eT (.ap a b c ts)), none, none]) (i := 0) rfl
    have h2 := fun t ht => ih t ht (k := k) (Nat.le_trans (hgts_mem ht) (by omega)) S
    have h4 := e_args (S := S) (l := [some (eT (.ap a b c ts)), none, none]) (i := 0) rfl
    clear ih
    unfold c_depth Tm.dep
    cases ts with
    | nil =>
      rw [seq_ifT (S1 := S) ((orT_f h1).trans (t_noargs (a := a) (b := b) (c := c) (ts := []) rfl))]
      rfl
    | cons t0 ts0 =>
      rw [seq_ifF (S1 := S) ((orT_f h1).trans (t_noargs (a := a) (b := b) (c := c) (ts := t0 :: ts0) rfl)), seq_skip]
      generalize hts : t0 :: ts0 = ts at *
      rw [seq_set (v := .int 0) (S1 := S) rfl]
      simp only [List.set_cons_succ, List.set_cons_zero]
      obtain ⟨o, hf⟩ := forL_det (ok := fun _ => True) (tg := mgN 2) (body := mSet 1 (mMax2 (mVar 1) (mCall (run prog (k + 2) 5) (mCons (mVar 2) mNil)))) eT (fun (s : Int) o => [some (eT (.ap a b c ts)), some (.int s), o]) (fun _ => S) (fun s t => max s t.dep) ts (fun _ => trivial) (fun _ _ _ _ => rfl) (fun s x hx => by
        have h3 := h2 x hx
        clear h1 h2 h4
        walk_at "ev") 0 none
      rw [seq_nx ((for_of (src_args rfl)).trans hf), fold_dep _ _ (by decide)]
      rw [if_neg (by subst hts; simp)]
      have := deps_nn ts
      rw [show max 0 (deps ts) = deps ts by omega]
      rfl
theorem r_occ (x : Int) (t : Tm) : ∀ {k : Nat}, t.hgt ≤ k → ∀ S, run prog (k + 2) 6 [eT t, .int x] S = some (.int (t.occ x), S) := by
  induction t using Tm.ind with
  | hv i =>
    intro k hk S
    refine call_pure (hp 6 _ rfl) rfl ?_ (refLt_int _)
    show c_occurrences (run prog (k + 1)) [some (eT (.v i)), some (.int x), none, none] S = _
    have h1 := t_isv hp (k := k) (S := S) (l := [some (eT (.v i)), some (.int x), none, none]) (i := 0) rfl
    unfold c_occurrences Tm.occ
    rw [seq_ifT (S1 := S) h1]
    clear h1
    by_cases hx : i = x
    · walk_at "ev"
    · walk_at "ev"
  | ha a b c ts ih =>
    intro k hk S
    rw [hgt_ap] at hk
    obtain ⟨k, rfl⟩ : ∃ k', k = k' + 1 := ⟨k - 1, by omega⟩
    refine call_pure (hp 6 _ rfl) rfl ?_ (refLt_int _)
    show c_occurrences (run prog (k + 2)) [some (eT (.ap a b c ts)), some (.int x), none, none] S = _
    have h1 := t_isv hp (k := k + 1) (S := S) (l := [some (eT (.ap a b c ts)), some (.int x), none, none]) (i := 0) rfl
    have h2 := fun t ht => ih t ht (k := k) (Nat.le_trans (hgts_mem ht) (by omega)) S
    clear ih
    unfold c_occurrences Tm.occ
    rw [seq_ifF (S1 := S) h1, seq_skip]
    rw [seq_set (v := .int 0) (S1 := S) rfl]
    simp only [List.set_cons_succ, List.set_cons_zero]
    obtain ⟨o, hf⟩ := forL_det (ok := fun _ => True) (tg := mgN 3) (body := mAug 2 fIadd (mCall (run prog (k + 2) 6) (mCons (mVar 3) (mCons (mVar 1) mNil)))) eT (fun (s : Int) o => [some (eT (.ap a b c ts)), some (.int x), some (.int s), o]) (fun _ => S) (fun s t => s + t.occ x) ts (fun _ => trivial) (fun _ _ _ _ => rfl) (fun s x hx => by
      have h3 := h2 x hx
      clear h1 h2
      walk_at "ev") 0 none
    rw [seq_nx ((for_of (src_args rfl)).trans hf), fold_occ, Int.zero_add]
    rfl
theorem r_lsize (t : Tm) : ∀ {k : Nat}, t.hgt ≤ k → t.Wd 1000 → ∀ S, run prog (k + 2) 17 [eT t] S = some (.int t.size, S) := by
  induction t using Tm.ind with
  | hv i =>
    intro k hk hw S
    refine call_pure (hp 17 _ rfl) rfl ?_ (refLt_int _)
    show c__law_size (run prog (k + 1)) [some (eT (.v i)), none] S = _
    have h1 := t_lisv hp (k := k) (S := S) (l := [some (eT (.v i)), none]) (i := 0) rfl
    unfold c__law_size Tm.size
    rw [seq_ifT (S1 := S) h1]
    rfl
  | ha a b c ts ih =>
    intro k hk hw S
    rw [hgt_ap] at hk
    obtain ⟨k, rfl⟩ : ∃ k', k = k' + 1 := ⟨k - 1, by omega⟩
    refine call_pure (hp 17 _ rfl) rfl ?_ (refLt_int _)
    show c__law_size (run prog (k + 2)) [some (eT (.ap a b c ts)), none] S = _
    have h1 := t_lisv hp (k := k + 1) (S := S) (l := [some (eT (.ap a b c ts)), none]) (i := 0) rfl
    cases hw with
    | ap hw1 hw2 =>
    have h2 := fun t ht => ih t ht (k := k) (Nat.le_trans (hgts_mem ht) (by omega)) (hw2 t ht) S
    clear ih
    unfold c__law_size Tm.size
    rw [seq_ifF (S1 := S) h1, seq_skip]
    have hc := (comp_of (vs := [1]) (tg := mgN 1) (c := mYes) (elt := mCall (run prog (k + 2) 17) (mCons (mVar 1) mNil)) (src_args (S := S) (l := [some (eT (.ap a b c ts)), none]) (i := 0) rfl) (by rw [List.length_map]; omega)).trans (compL_map eT (fun t => .int t.size) trivial ts (fun x hx => ⟨_, rfl, by
      have h3 := h2 x hx
      clear h1 h2
      simp only [wipeD]
      walk_at "ev"⟩))
    have e1 : (ts.map fun t => D.int t.size) = (ts.map Tm.size).map D.int := by rw [List.map_map]; rfl
    have e2 := allI_map (ts.map Tm.size)
    rw [e1] at hc
    simp only [mRet, mOp, mC, mFn1, oN, hc, Option.bind_some, fSum, lisO, e2, fAdd, sum_size]
theorem r_ldepth (t : Tm) : ∀ {k : Nat}, t.hgt ≤ k → t.Wd 1000 → ∀ S, run prog (k + 2) 18 [eT t] S = some (.int t.dep, S) := by
  induction t using Tm.ind with
  | hv i =>
    intro k hk hw S
    refine call_pure (hp 18 _ rfl) rfl ?_ (refLt_int _)
    show c__law_depth (run prog (k + 1)) [some (eT (.v i)), none] S = _
    have h1 := t_lisv hp (k := k) (S := S) (l := [some (eT (.v i)), none]) (i := 0) rfl
    unfold c__law_depth Tm.dep
    rw [seq_ifT (S1 := S) (orT_t h1)]
    rfl
  | ha a b c ts ih =>
    intro k hk hw S
    rw [hgt_ap] at hk
    obtain ⟨k, rfl⟩ : ∃ k', k = k' + 1 := ⟨k - 1, by omega⟩
    refine call_pure (hp 18 _ rfl) rfl ?_ (refLt_int _)
    show c__law_depth (run prog (k + 2)) [some (eT (.ap a b c ts)), none] S = _
    have h1 := t_lisv hp (k := k + 1) (S := S) (l := [some (eT (.ap a b c ts)), none]) (i := 0) rfl
    have h4 := e_args (S := S) (l := [some (eT (.ap a b c ts)), none]) (i := 0) rfl
    cases hw with
    | ap hw1 hw2 =>
    have h2 := fun t ht => ih t ht (k := k) (Nat.le_trans (hgts_mem ht) (by omega)) (hw2 t ht) S
    clear ih
    unfold c__law_depth Tm.dep
    cases ts with
    | nil =>
      rw [seq_ifT (S1 := S) ((orT_f h1).trans (t_noargs (a := a) (b := b) (c := c) (ts := []) rfl))]
      rfl
    | cons t0 ts0 =>
      rw [seq_ifF (S1 := S) ((orT_f h1).trans (t_noargs (a := a) (b := b) (c := c) (ts := t0 :: ts0) rfl)), seq_skip]
      have hc := (comp_of (vs := [1]) (tg := mgN 1) (c := mYes) (elt := mCall (run prog (k + 2) 18) (mCons (mVar 1) mNil)) (src_args (S := S) (l := [some (eT (.ap a b c (t0 :: ts0))), none]) (i := 0) rfl) (by rw [List.length_map]; omega)).trans (compL_map eT (fun t => .int t.dep) trivial (t0 :: ts0) (fun x hx => ⟨_, rfl, by
        have h3 := h2 x hx
        clear h1 h2 h4
        simp only [wipeD]
        walk_at "ev"⟩))
      have e1 : ((t0 :: ts0).map fun t => D.int t.dep) = ((t0 :: ts0).map Tm.dep).map D.int := by rw [List.map_map]; rfl
      have e2 := allI_map ((t0 :: ts0).map Tm.dep)
      rw [e1] at hc
      simp only [mRet, mOp, mC, mFn1, oN, hc, Option.bind_some, fMax, lisO, e2, fAdd]
      simp only [List.map_cons, maxI_dep, Option.bind_some]
      simp [Int.add_comm]
theorem r_lcount (x : Int) (t : Tm) : ∀ {k : Nat}, t.hgt ≤ k → ∀ S, run prog (k + 2) 16 [eT t, .int x] S = some (.int (t.occ x), S) := by
  induction t using Tm.ind with
  | hv i =>
    intro k hk S
    refine call_pure (hp 16 _ rfl) rfl ?_ (refLt_int _)
    show c__law_count (run prog (k + 1)) [some (eT (.v i)), some (.int x), none, none] S = _
    have h1 := t_lisv hp (k := k) (S := S) (l := [some (eT (.v i)), some (.int x), none, none]) (i := 0) rfl
    unfold c__law_count Tm.occ
    rw [seq_ifT (S1 := S) h1]
    clear h1
    by_cases hx : i = x
    · walk_at "ev"
    · walk_at "ev"
  | ha a b c ts ih =>
    intro k hk S
    rw [hgt_ap] at hk
    obtain ⟨k, rfl⟩ : ∃ k', k = k' + 1 := ⟨k - 1, by omega⟩
    refine call_pure (hp 16 _ rfl) rfl ?_ (refLt_int _)
    show c__law_count (run prog (k + 2)) [some (eT (.ap a b c ts)), some (.int x), none, none] S = _
    have h1 := t_lisv hp (k := k + 1) (S := S) (l := [some (eT (.ap a b c ts)), some (.int x), none, none]) (i := 0) rfl
    have h2 := fun t ht => ih t ht (k := k) (Nat.le_trans (hgts_mem ht) (by omega)) S
    clear ih
    unfold c__law_count Tm.occ
    rw [seq_ifF (S1 := S) h1, seq_skip]
    rw [seq_set (v := .int 0) (S1 := S) rfl]
    simp only [List.set_cons_succ, List.set_cons_zero]
    obtain ⟨o, hf⟩ := forL_det (ok := fun _ => True) (tg := mgN 3) (body := mSet 2 (mOp fAdd (mVar 2) (mCall (run prog (k + 2) 16) (mCons (mVar 3) (mCons (mVar 1) mNil))))) eT (fun (s : Int) o => [some (eT (.ap a b c ts)), some (.int x), some (.int s), o]) (fun _ => S) (fun s t => s + t.occ x) ts (fun _ => trivial) (fun _ _ _ _ => rfl) (fun s x hx => by
      have h3 := h2 x hx
      clear h1 h2
      walk_at "ev") 0 none
    rw [seq_nx ((for_of (src_args rfl)).trans hf), fold_occ, Int.zero_add]
    rfl
theorem r_lint (i : Int) : run prog (k + 1) 9 [.int i] S = some (.bl true, S) := call_pure (hp 9 _ rfl) rfl (by
  show c__law_is_integer (run prog k) [some (.int i)] S = _
  unfold c__law_is_integer
  walk_at "ev") (refLt_bl _)
theorem r_ltruth (b : Bool) : run prog (k + 1) 10 [.bl b, .bl b] S = some (.bl true, S) := call_pure (hp 10 _ rfl) rfl (by
  show c__law_is_truth (run prog k) [some (.bl b), some (.bl b)] S = _
  unfold c__law_is_truth
  walk_at "ev") (refLt_bl _)
end
end Zi
set_option maxRecDepth 100000
set_option maxHeartbeats 1000000
/-! shared functions over terms: the variables, the laws' terms -/
namespace Zi
open PySem L2
local macro_rules | `(tactic| walk_at "ev") => `(tactic| (simp only [mSeq, mSet, mRet, mIfS, mIf, mOp, mOpO, mC, mVar, mBool, mFn1, oD, oN, oS, fLen, lenO, seqO, mSkip, fAdd, fMul, fI, fI0, fLt, fLe, fGt, fGe, fSub, fMod, fDiv, fInt, ixF, mNil, mCons, mTup, mCall, mLst, mAlloc, mIsN, mNotN, isNon, mNotT, mAndT, mOrT, mTru, truD, mAsg, mgTup, mgCons, mgNil, mgN, mLisc, mIsI, tyO, isTyB, mDrop, mAug, fIadd, mMax2, mAnd, mOr, mNot, fLtT, fTupc, mApp, mulC_r, mulC_l, divC_r, modC_r, atI_0, atI_1, atI_2, fEq_int, fNe_int, fEq_bl, mSrc, srcO, eT_v, eT_ap, eS, List.length_cons, List.length_nil, Option.bind_some, Option.map_some, List.map_cons, List.map_nil, List.cons_append, List.nil_append, List.replicate, List.getElem?_cons_zero, List.getElem?_cons_succ, List.set_cons_zero, List.set_cons_succ, if_true, decide_true, Int.reduceNeg, Int.reducePow, Int.reduceLT, Nat.reduceAdd, Nat.reduceSub, and_self, Nat.reduceLeDiff, Bool.false_eq_true, if_false, Bool.not_true, Bool.not_false, Int.reduceEq, decide_false, Bool.or_false, Bool.false_or, Bool.or_true, Bool.true_or, Bool.and_true, Bool.true_and, Bool.and_false, Bool.false_and, String.reduceEq, *]))
local macro_rules | `(tactic| walk_at "step") => `(tactic| (refine (Eq.trans (seq_set (by ((try walk_at "ev"); exact rfl))) ?_); simp only [List.set_cons_zero, List.set_cons_succ]))
mutual
theorem size_pos : ∀ t : Tm, 1 ≤ t.size
  | .v _ => by simp [Tm.size]
  | .ap _ _ _ ts => by
    have := sizes_nn ts
    simp only [Tm.size]; omega
theorem sizes_nn : ∀ ts : List Tm, 0 ≤ sizes ts
  | [] => by simp [sizes]
  | t :: ts => by
    have h1 := size_pos t
    have h2 := sizes_nn ts
    simp only [sizes]; omega
theorem vars_len : ∀ (t : Tm) (f : List Int), ((t.vars f).length : Int) ≤ f.length + t.size
  | .v i, f => by
    simp only [Tm.vars, Tm.size]
    split
    · omega
    · simp
  | .ap _ _ _ ts, f => by
    have := varsL_len ts f
    simp only [Tm.vars, Tm.size]; omega
theorem varsL_len : ∀ (ts : List Tm) (f : List Int), ((varsL ts f).length : Int) ≤ f.length + sizes ts
  | [], f => by simp [varsL, sizes]
  | t :: ts, f => by
    have h1 := vars_len t f
    have h2 := varsL_len ts (t.vars f)
    simp only [varsL, sizes]; omega
end
theorem catL_of {a b : MO} {l : Lo} {S : Sto} {r : Nat} {xs ys : List D} (ha : a l S = some (.d (.ref r), S)) (hr : S[r]? = some (.lst xs)) (hb : b l S = some (.n ys, S)) (h : xs.length + ys.length ≤ 1000000) : mCatL a b l S = some (xs ++ ys, S) := by
  unfold mCatL
  simp only [ha, hb, hr, ownO, Option.bind_some]
  rw [if_pos h]
theorem varsL_app : ∀ (ts us : List Tm) (f : List Int), varsL (ts ++ us) f = varsL us (varsL ts f)
  | [], us, f => by simp [varsL]
  | t :: ts, us, f => by simp only [List.cons_append, varsL, varsL_app ts us]
theorem sizes_app : ∀ (ts us : List Tm), sizes (ts ++ us) = sizes ts + sizes us
  | [], us => by simp [sizes]
  | t :: ts, us => by simp only [List.cons_append, sizes, sizes_app ts us]; omega
section
variable {prog : Nat → Option Fb} (hp : ∀ j fb, lZl0[j]? = some fb → prog (0 + j) = some fb) {k : Nat} {S : Sto}
include hp
theorem r_collect (t : Tm) : ∀ {k : Nat}, t.hgt ≤ k → ∀ (S : Sto) (r : Nat) (f : List Int), S[r]? = some (.lst (f.map D.int)) → (f.length : Int) + t.size ≤ 1000000 → run prog (k + 2) 7 [eT t, .ref r] S = some (.non, S.set r (.lst ((t.vars f).map D.int))) := by
  induction t using Tm.ind with
  | hv i =>
    intro k hk S r f hr hf
    have h1 := t_isv hp (k := k) (S := S) (l := [some (eT (.v i)), some (.ref r), none]) (i := 0) rfl
    have h2 := fNin_ints (i := i) hr
    have e : c_collect (run prog (k + 1)) [some (eT (.v i)), some (.ref r), none] S = some (.nx [some (eT (.v i)), some (.ref r), none], S.set r (.lst (((Tm.v i).vars f).map D.int))) := by
      unfold c_collect Tm.vars
      simp only [mIfS, h1, Tm.isV, Option.bind_some, if_true]
      clear h1
      simp only [Tm.size] at hf
      have hlen : (f.map D.int).length < 1000000 := by rw [List.length_map]; omega
      by_cases hi : i ∈ f
      · rw [if_pos hi, set_same hr]
        walk_at "ev"
      · rw [if_neg hi, List.map_append]
        walk_at "ev"
    exact (run_nx (hp 7 _ rfl) rfl e).trans (by rw [fin_set (by simp [refLt])])
  | ha a b c ts ih =>
    intro k hk S r f hr hf
    rw [hgt_ap] at hk
    obtain ⟨k, rfl⟩ : ∃ k', k = k' + 1 := ⟨k - 1, by omega⟩
    have h1 := t_isv hp (k := k + 1) (S := S) (l := [some (eT (.ap a b c ts)), some (.ref r), none]) (i := 0) rfl
    obtain ⟨l', S', h3, o, h4, h5⟩ := forL_inv (ok := fun _ => True) (tg := mgN 2) (body := mDrop (mCall (run prog (k + 2) 7) (mCons (mVar 2) (mCons (mVar 1) mNil)))) eT (fun dn l S' => ∃ o, l = [some (eT (.ap a b c ts)), some (.ref r), o] ∧ S' = S.set r (.lst ((varsL dn f).map D.int))) (fun _ _ _ _ => trivial) ts (fun dn x rest l S' hall ⟨o, hl, hS⟩ => by
      subst hl hS
      have hx : x ∈ ts := by rw [hall]; simp
      have z1 := varsL_len dn f
      have z2 := sizes_nn rest
      have z3 : sizes ts = sizes dn + (x.size + sizes rest) := by rw [hall, sizes_app]; simp [sizes]
      have z4 := ih x hx (k := k) (Nat.le_trans (hgts_mem hx) (by omega)) (S.set r (.lst ((varsL dn f).map D.int))) r (varsL dn f) (set_get hr) (by simp only [Tm.size] at hf; omega)
      rw [List.set_set] at z4
      refine ⟨_, [some (eT (.ap a b c ts)), some (.ref r), some (eT x)], S.set r (.lst ((x.vars (varsL dn f)).map D.int)), rfl, ?_, some (eT x), rfl, by rw [varsL_app]; simp only [varsL]⟩
      clear ih h1 hr
      simp only [mDrop, mCall, mCons, mNil, mVar, List.set_cons_zero, List.set_cons_succ, List.getElem?_cons_zero, List.getElem?_cons_succ, Option.bind_some, z4]) ts [] [some (eT (.ap a b c ts)), some (.ref r), none] S rfl ⟨_, rfl, (set_same hr).symm⟩
    subst h4 h5
    have e : c_collect (run prog (k + 2)) [some (eT (.ap a b c ts)), some (.ref r), none] S = some (.nx [some (eT (.ap a b c ts)), some (.ref r), o], S.set r (.lst (((Tm.ap a b c ts).vars f).map D.int))) := by
      unfold c_collect Tm.vars
      simp only [mIfS, h1, Tm.isV, Option.bind_some, Bool.false_eq_true, if_false]
      exact (for_of (src_args rfl)).trans h3
    exact (run_nx (hp 7 _ rfl) rfl e).trans (by rw [fin_set (by simp [refLt])])
theorem r_variables {t : Tm} (hk : t.hgt ≤ k) (hs : t.size ≤ 1000000) (S : Sto) : run prog (k + 3) 8 [eT t] S = some (.ref S.length, S ++ [.lst ((t.vars []).map D.int)]) := by
  have h := r_collect hp t hk (S ++ [.lst []]) S.length [] last_get (by simp; omega)
  rw [last_set] at h
  refine run_list (T := []) (hp 8 _ rfl) rfl ?_ (refLtL_ints _)
  show c_variables (run prog (k + 2)) [some (eT t), none] S = _
  unfold c_variables
  rw [seq_set (v := .ref S.length) (S1 := S ++ [.lst []]) (by simp only [mAlloc, mLst, mNil]; rfl)]
  simp only [mSeq, mDrop, mCall, mCons, mNil, mVar, mRet, List.set_cons_zero, List.set_cons_succ, List.getElem?_cons_zero, List.getElem?_cons_succ, Option.bind_some, h]
theorem r_lvars (t : Tm) : ∀ {k : Nat}, t.hgt ≤ k → ∀ (S : Sto) (r : Nat) (f : List Int), S[r]? = some (.lst (f.map D.int)) → (f.length : Int) + t.size ≤ 1000000 → ∃ r' T, run prog (k + 2) 15 [eT t, .ref r] S = some (.ref r', S ++ T) ∧ (S ++ T)[r']? = some (.lst ((t.vars f).map D.int)) := by
  induction t using Tm.ind with
  | hv i =>
    intro k hk S r f hr hf
    have h1 := t_lisv hp (k := k) (S := S) (l := [some (eT (.v i)), some (.ref r), none]) (i := 0) rfl
    have h2 := fNin_ints (i := i) hr
    unfold Tm.vars
    simp only [Tm.size] at hf
    by_cases hi : i ∈ f
    · rw [if_pos hi]
      refine ⟨r, [], ?_, by rw [List.append_nil]; exact hr⟩
      rw [List.append_nil]
      refine call_pure (hp 15 _ rfl) rfl ?_ (by simp [refLt, (List.getElem?_eq_some_iff.mp hr).1])
      show c__law_variables (run prog (k + 1)) [some (eT (.v i)), some (.ref r), none] S = _
      unfold c__law_variables
      rw [seq_ifT (S1 := S) h1]
      clear h1
      walk_at "ev"
    · rw [if_neg hi]
      refine ⟨S.length, [.lst ((f ++ [i]).map D.int)], ?_, last_get⟩
      refine run_list (T := []) (hp 15 _ rfl) rfl ?_ (refLtL_ints _)
      show c__law_variables (run prog (k + 1)) [some (eT (.v i)), some (.ref r), none] S = _
      unfold c__law_variables
      rw [seq_ifT (S1 := S) h1]
      clear h1
      have hcat := catL_of (a := oD (mVar 1)) (b := oN (mLst (mCons (mVar 0) mNil))) (l := [some (.int i), some (.ref r), none]) (S := S) (ys := [.int i]) rfl hr rfl (by rw [List.length_map, List.length_singleton]; omega)
      rw [List.map_append]
      walk_at "ev"
  | ha a b c ts ih =>
    intro k hk S r f hr hf
    rw [hgt_ap] at hk
    obtain ⟨k, rfl⟩ : ∃ k', k = k' + 1 := ⟨k - 1, by omega⟩
    have h1 := t_lisv hp (k := k + 1) (S := S) (l := [some (eT (.ap a b c ts)), some (.ref r), none]) (i := 0) rfl
    obtain ⟨l', S', h3, r1, T1, o, h4, h5, h6⟩ := forL_inv (ok := fun _ => True) (tg := mgN 2) (body := mSet 1 (mCall (run prog (k + 2) 15) (mCons (mVar 2) (mCons (mVar 1) mNil)))) eT (fun dn l S' => ∃ r1 T1 o, l = [some (eT (.ap a b c ts)), some (.ref r1), o] ∧ S' = S ++ T1 ∧ S'[r1]? = some (.lst ((varsL dn f).map D.int))) (fun _ _ _ _ => trivial) ts (fun dn x rest l S' hall ⟨r1, T1, o, hl, hS, hg⟩ => by
      subst hl hS
      have hx : x ∈ ts := by rw [hall]; simp
      have z1 := varsL_len dn f
      have z2 := sizes_nn rest
      have z3 : sizes ts = sizes dn + (x.size + sizes rest) := by rw [hall, sizes_app]; simp [sizes]
      obtain ⟨r2, T2, z4, z5⟩ := ih x hx (k := k) (Nat.le_trans (hgts_mem hx) (by omega)) (S ++ T1) r1 (varsL dn f) hg (by simp only [Tm.size] at hf; omega)
      refine ⟨_, [some (eT (.ap a b c ts)), some (.ref r2), some (eT x)], S ++ T1 ++ T2, rfl, ?_, r2, T1 ++ T2, some (eT x), rfl, by rw [List.append_assoc], ?_⟩
      · clear ih h1 hr
        simp only [mSet, mCall, mCons, mNil, mVar, List.set_cons_zero, List.set_cons_succ, List.getElem?_cons_zero, List.getElem?_cons_succ, Option.bind_some, z4]
      · rw [varsL_app]
        simp only [varsL]
        exact z5) ts [] [some (eT (.ap a b c ts)), some (.ref r), none] S rfl ⟨r, [], _, rfl, (List.append_nil _).symm, hr⟩
    subst h4 h5
    obtain ⟨r2, T2, g1, g2⟩ := fin_ref h6 (refLtL_ints _)
    refine ⟨r2, T2, ?_, by unfold Tm.vars; exact g2⟩
    refine (run_step (d := .ref r1) (S1 := S ++ T1) (hp 15 _ rfl) rfl ?_).trans (by rw [g1])
    show c__law_variables (run prog (k + 2)) [some (eT (.ap a b c ts)), some (.ref r), none] S = _
    unfold c__law_variables
    rw [seq_ifF (S1 := S) h1, seq_skip, seq_nx ((for_of (src_args rfl)).trans h3)]
    rfl
/-! ### the laws' terms -/
omit hp
def fiveS : List (Int × Int × Int) := [(2, 0, 0), (2, 1, 0), (3, 0, 0), (2, 2, 0), (3, 4, 1)]
inductive Tm.Ok (P : Int → Prop) (Q : Int → Int → Int → Nat → Prop) : Tm → Prop
  | v {i : Int} : P i → Tm.Ok P Q (.v i)
  | ap {a b c : Int} {ts : List Tm} : Q a b c ts.length → (∀ t ∈ ts, Tm.Ok P Q t) → Tm.Ok P Q (.ap a b c ts)
theorem Tm.Ok.wd {P : Int → Prop} {Q : Int → Int → Int → Nat → Prop} {n : Nat} (hQ : ∀ a b c m, Q a b c m → m ≤ n) {t : Tm} (h : Tm.Ok P Q t) : t.Wd n := by
  induction h with
  | v _ => exact .v _
  | ap h1 h2 ih => exact .ap (hQ _ _ _ _ h1) ih
theorem atI_lt {α : Type} {xs : List α} {i : Int} (h0 : 0 ≤ i) (h1 : i < xs.length) : ∃ x, atI xs i = some x ∧ x ∈ xs := by
  rw [atI_nn h0, List.getElem?_eq_getElem (by omega)]
  exact ⟨_, rfl, List.getElem_mem _⟩
/-- a symbol of the laws' terms -/
def SymT (a b c : Int) : Prop := (a, b, c) ∈ fiveS
include hp
theorem r_symbol {n : Int} (hn : 0 ≤ n) (S : Sto) : ∃ a b c, SymT a b c ∧ run prog (k + 1) 11 [.int n] S = some (eS a b c, S) := by
  obtain ⟨x, h1, h2⟩ := atI_lt (xs := [eS 2 0 0, eS 2 1 0, eS 3 0 0, eS 2 2 0, eS 3 4 1]) (i := n % 5) (by omega) (by simp only [List.length_cons, List.length_nil]; omega)
  have h3 : ∃ a b c, SymT a b c ∧ x = eS a b c := by
    simp only [List.mem_cons, List.not_mem_nil, or_false] at h2
    rcases h2 with e | e | e | e | e <;> exact ⟨_, _, _, by simp [SymT, fiveS], e⟩
  obtain ⟨a, b, c, h4, rfl⟩ := h3
  refine ⟨a, b, c, h4, ?_⟩
  refine run_more (T := [.lst [eS 2 0 0, eS 2 1 0, eS 3 0 0, eS 2 2 0, eS 3 4 1]]) (hp 11 _ rfl) rfl ?_ (by simp [eS, refLt, refLtL])
  show c__law_symbol (run prog k) [some (.int n), none] S = _
  unfold c__law_symbol
  rw [seq_set (v := .ref S.length) (S1 := S ++ [.lst [eS 2 0 0, eS 2 1 0, eS 3 0 0, eS 2 2 0, eS 3 4 1]]) (by walk_at "ev")]
  have h5 := last_get (S := S) (c := .lst [eS 2 0 0, eS 2 1 0, eS 3 0 0, eS 2 2 0, eS 3 4 1])
  generalize [eS 2 0 0, eS 2 1 0, eS 3 0 0, eS 2 2 0, eS 3 4 1] = L at *
  clear h2 h4
  walk_at "ev"
omit hp
def bdT : Nat → Int
  | 0 => 1
  | d + 1 => 1 + 2 * bdT d
theorem bdT_pos : ∀ d, 1 ≤ bdT d
  | 0 => by simp [bdT]
  | d + 1 => by
    have := bdT_pos d
    simp only [bdT]; omega
/-- what the laws' terms keep: variables, symbols, arguments -/
abbrev TOk : Tm → Prop := Tm.Ok (fun i => 0 ≤ i ∧ i < 3) (fun a b c n => SymT a b c ∧ n ≤ 2)
structure TermOk (d : Nat) (t : Tm) : Prop where
  ok : TOk t
  size : t.size ≤ bdT d
  hgt : t.hgt ≤ d + 1
theorem sizes_le {B : Int} : ∀ {ts : List Tm}, (∀ t ∈ ts, t.size ≤ B) → sizes ts ≤ ts.length * B
  | [], _ => by simp [sizes]
  | t :: ts, h => by
    have h1 := h t (by simp)
    have h2 := sizes_le (B := B) (ts := ts) fun x hx => h x (List.mem_cons_of_mem _ hx)
    simp only [sizes, List.length_cons]
    rw [show ((ts.length + 1 : Nat) : Int) = ts.length + 1 by omega, Int.add_mul]
    omega
include hp
omit hp in
/-- one turn of the walk that makes the arguments -/
theorem parts_turn {G : GF} {f : MA} {l : Lo} {t : Tm} {row' : Int} {ts : List Tm} {S0 : Sto} (h5 : l[5]? = some (some (.ref S0.length))) (h7 : 7 < l.length) (hl : ts.length < 1000000)
    (hc : mCall (G 12) f l (S0 ++ [.lst (ts.map eT)]) = some (.tup [eT t, .int row'], S0 ++ [.lst (ts.map eT)])) :
    mSeq (mSet 7 (mCall (G 12) f)) (mSeq (mDrop (mApp (mVar 5) (mOp ixF (mVar 7) (mC (.int 0))))) (mSet 0 (mOp ixF (mVar 7) (mC (.int 1))))) l (S0 ++ [.lst (ts.map eT)]) =
      some (.nx ((l.set 7 (some (.tup [eT t, .int row']))).set 0 (some (.int row'))), S0 ++ [.lst ((ts ++ [t]).map eT)]) := by
  rw [seq_set hc]
  have e5 : (l.set 7 (some (.tup [eT t, .int row'])))[5]? = some (some (.ref S0.length)) := by
    rw [List.getElem?_set_ne (by decide)]
    exact h5
  have e7 : (l.set 7 (some (.tup [eT t, .int row'])))[7]? = some (some (.tup [eT t, .int row'])) := List.getElem?_set_self h7
  generalize l.set 7 (some (.tup [eT t, .int row'])) = l1 at *
  have hg := last_get (S := S0) (c := .lst (ts.map eT))
  have hlen : (ts.map eT).length < 1000000 := by rw [List.length_map]; exact hl
  rw [List.map_append]
  simp only [mSeq, mDrop, mApp, mVar, mOp, mC, ixF, mSet, e5, e7, hg, Option.bind_some, atI_0, atI_1, if_pos hlen, last_set, List.map_cons, List.map_nil]
include hp
theorem r_term (d : Nat) : ∀ {k : Nat}, d ≤ k → ∀ {row : Int}, 0 ≤ row → ∀ S, ∃ t row', TermOk d t ∧ 0 ≤ row' ∧ run prog (k + 2) 12 [.int row, .int d] S = some (.tup [eT t, .int row'], S) := by
  induction d using Nat.strongRecOn with
  | ind d IH =>
    intro k hd row hrow S
    by_cases hv : row % 5 < 2
    · refine ⟨.v (row / 5 % 3), row / 5 / 3, ⟨.v ⟨by omega, by omega⟩, by have := bdT_pos d; simp only [Tm.size]; omega, by simp [Tm.hgt]⟩, by omega, ?_⟩
      refine call_pure (hp 12 _ rfl) rfl ?_ (by simp [eT, refLt, refLtL])
      show c__law_term (run prog (k + 1)) [some (.int row), some (.int d), none, none, none, none, none, none] S = _
      unfold c__law_term
      rw [seq_set (v := .int (row % 5)) (S1 := S) (by walk_at "ev"), seq_set (v := .int (row / 5)) (S1 := S) (by walk_at "ev")]
      rw [seq_ifT (S1 := S) (by walk_at "ev")]
      walk_at "ev"
    · obtain ⟨a, b, c, hsym, hs⟩ := r_symbol hp (k := k) (n := row / 5 / 3 % 5) (by omega) S
      have parts : ∃ (many : Nat), (many ≤ 2 ∧ (d = 0 → many = 0)) ∧ (if d = 0 then (0 : Int) else row / 5 % 3) = many := by
        by_cases h0 : d = 0
        · exact ⟨0, ⟨by omega, fun _ => rfl⟩, by rw [if_pos h0]; rfl⟩
        · refine ⟨(row / 5 % 3).toNat, ⟨by omega, fun h => absurd h h0⟩, ?_⟩
          rw [if_neg h0]
          omega
      obtain ⟨many, ⟨hm, hm0⟩, hmany⟩ := parts
      -- the walk
      have walk : ∀ (row1 : Int), 0 ≤ row1 → ∃ (ts : List Tm) (row' : Int) (o6 o7 : Option D), ts.length = many ∧ (∀ t ∈ ts, TermOk (d - 1) t) ∧ 0 ≤ row' ∧ mFor (mRng1 (mVar 3)) (mgN 6) (mSeq (mSet 7 (mCall (run prog (k + 1) 12) (mCons (mVar 0) (mCons (mOp fSub (mVar 1) (mC (.int 1))) mNil)))) (mSeq (mDrop (mApp (mVar 5) (mOp ixF (mVar 7) (mC (.int 0))))) (mSet 0 (mOp ixF (mVar 7) (mC (.int 1)))))) [some (.int row1), some (.int d), some (.int (row % 5)), some (.int many), some (eS a b c), some (.ref S.length), none, none] (S ++ [.lst []]) =
          some (.nx [some (.int row'), some (.int d), some (.int (row % 5)), some (.int many), some (eS a b c), some (.ref S.length), o6, o7], S ++ [.lst (ts.map eT)]) := by
        intro row1 hrow1
        have hsrc : mRng1 (mVar 3) [some (.int row1), some (.int d), some (.int (row % 5)), some (.int many), some (eS a b c), some (.ref S.length), none, none] (S ++ [.lst []]) = some (⟨rangeD 0 many, fun _ => True⟩, S ++ [.lst []]) := by
          exact rng1_of rfl (by omega)
        obtain ⟨l', S', h1, ts, row', o6, o7, h2, h3, h4, h5, h6⟩ := forL_inv (ok := fun _ => True) (tg := mgN 6) (body := mSeq (mSet 7 (mCall (run prog (k + 1) 12) (mCons (mVar 0) (mCons (mOp fSub (mVar 1) (mC (.int 1))) mNil)))) (mSeq (mDrop (mApp (mVar 5) (mOp ixF (mVar 7) (mC (.int 0))))) (mSet 0 (mOp ixF (mVar 7) (mC (.int 1)))))) (fun k : Nat => D.int (0 + (k : Nat)))
          (fun dn l S' => ∃ (ts : List Tm) (row' : Int) (o6 o7 : Option D), ts.length = dn.length ∧ (∀ t ∈ ts, TermOk (d - 1) t) ∧ 0 ≤ row' ∧ l = [some (.int row'), some (.int d), some (.int (row % 5)), some (.int many), some (eS a b c), some (.ref S.length), o6, o7] ∧ S' = S ++ [.lst (ts.map eT)]) (fun _ _ _ _ => trivial) (List.range many)
          (fun dn x rest l S' hall ⟨ts, row', o6, o7, h2, h3, h4, h5, h6⟩ => by
            subst h5 h6
            have hlen := congrArg List.length hall
            rw [List.length_range, List.length_append, List.length_cons] at hlen
            obtain ⟨d, rfl⟩ : ∃ d', d = d' + 1 := ⟨d - 1, by
              have : d ≠ 0 := fun h => by have := hm0 h; omega
              omega⟩
            obtain ⟨k, rfl⟩ : ∃ k', k = k' + 1 := ⟨k - 1, by omega⟩
            obtain ⟨t, row2, g1, g2, g3⟩ := IH d (by omega) (k := k) (by omega) h4 (S ++ [.lst (ts.map eT)])
            refine ⟨_, _, _, rfl, parts_turn (S0 := S) (ts := ts) (t := t) (row' := row2) rfl (by simp only [mgN, List.length_set, List.length_cons, List.length_nil]; omega) (by omega) ?_, ts ++ [t], row2, some (.int (0 + (x : Nat))), some (.tup [eT t, .int row2]), by rw [List.length_append, List.length_append, h2]; rfl, ?_, g2, rfl, rfl⟩
            · have e1 : ((d + 1 : Nat) : Int) - 1 = (d : Nat) := by omega
              simp only [mCall, mCons, mNil, mVar, mOp, mC, fSub, fI0, mgN, List.set_cons_zero, List.set_cons_succ, List.getElem?_cons_zero, List.getElem?_cons_succ, Option.bind_some, e1, g3]
            · intro t' ht'
              rcases List.mem_append.mp ht' with z | z
              · exact h3 t' z
              · rw [List.mem_singleton] at z
                subst z
                exact g1) (List.range many) [] [some (.int row1), some (.int d), some (.int (row % 5)), some (.int many), some (eS a b c), some (.ref S.length), none, none] (S ++ [.lst []]) rfl ⟨[], row1, none, none, rfl, (fun _ h => by cases h), hrow1, rfl, rfl⟩
        subst h5 h6
        refine ⟨ts, row', o6, o7, by rw [h2, List.length_range], h3, h4, ?_⟩
        rw [for_of hsrc]
        exact h1
      obtain ⟨ts, row', o6, o7, h2, h3, h4, h5⟩ := walk (row / 5 / 3 / 5) (by omega)
      refine ⟨.ap a b c ts, row', ⟨.ap ⟨hsym, by omega⟩ fun t ht => (h3 t ht).ok, ?_, ?_⟩, h4, ?_⟩
      · cases d with
        | zero =>
          have : ts = [] := List.length_eq_zero_iff.mp (by have := hm0 rfl; omega)
          subst this
          simp [Tm.size, sizes, bdT]
        | succ d =>
          have z1 := sizes_le (B := bdT d) (ts := ts) fun t ht => (h3 t ht).size
          have z2 := bdT_pos d
          simp only [Tm.size, bdT]
          have z3 : (ts.length : Int) * bdT d ≤ 2 * bdT d := Int.mul_le_mul_of_nonneg_right (by omega) (by omega)
          omega
      · rw [hgt_ap]
        cases d with
        | zero =>
          have : ts = [] := List.length_eq_zero_iff.mp (by have := hm0 rfl; omega)
          subst this
          simp [hgts]
        | succ d =>
          have := hgts_le (ts := ts) (n := d + 1) fun t ht => (h3 t ht).hgt
          omega
      · refine run_more (T := [.lst (ts.map eT)]) (hp 12 _ rfl) rfl ?_ (by rw [refLt_tup, refLtL_cons, refLt_eT, refLtL_cons, refLt_int, refLtL_nil]; rfl)
        show c__law_term (run prog (k + 1)) [some (.int row), some (.int d), none, none, none, none, none, none] S = _
        unfold c__law_term
        rw [seq_set (v := .int (row % 5)) (S1 := S) (by clear walk hs; walk_at "ev"), seq_set (v := .int (row / 5)) (S1 := S) (by clear walk hs; walk_at "ev")]
        rw [seq_ifF (S1 := S) (by clear walk hs; walk_at "ev"), seq_skip]
        rw [seq_set (v := .int (row / 5 % 3)) (S1 := S) (by clear walk hs; walk_at "ev"), seq_set (v := .int (row / 5 / 3)) (S1 := S) (by clear walk hs; walk_at "ev")]
        rw [seq_ifset (b := decide ((d : Int) = 0)) (v := .int 0) (cur := .int (row / 5 % 3)) (by clear walk hs hmany h5; walk_at "ev") (fun _ => by rfl) rfl]
        have e1 : (if decide ((d : Int) = 0) = true then D.int 0 else D.int (row / 5 % 3)) = .int many := by
          rw [← hmany]
          by_cases h0 : d = 0
          · simp [h0]
          · have : ¬(d : Int) = 0 := by omega
            simp [h0, this]
        rw [e1]
        rw [seq_set (v := eS a b c) (S1 := S) (by clear walk hmany h5; walk_at "ev"), seq_set (v := .int (row / 5 / 3 / 5)) (S1 := S) (by clear walk hs hmany h5; walk_at "ev")]
        rw [seq_set (v := .ref S.length) (S1 := S ++ [.lst []]) (by rfl)]
        simp only [List.set_cons_zero, List.set_cons_succ]
        rw [seq_nx h5]
        have hg := last_get (S := S) (c := .lst (ts.map eT))
        clear walk hs hmany h5 e1 hsym h2 h3 h4
        walk_at "ev"
omit hp in
/-- the walk that makes the arguments -/
theorem parts_walk {G : GF} {f : MA} {d many : Nat} {x1 x2 x3 x4 : Option D} {row1 : Int} {S : Sto} (hm : many ≤ 1000) (hrow1 : 0 ≤ row1)
    (hc : ∀ (row : Int) (S : Sto) (o6 o7 : Option D) (r : Nat), 0 ≤ row → ∃ t row', TermOk d t ∧ 0 ≤ row' ∧ mCall (G 12) f [some (.int row), x1, x2, x3, x4, some (.ref r), o6, o7] S = some (.tup [eT t, .int row'], S)) :
    ∃ (ts : List Tm) (row' : Int) (o6 o7 : Option D), ts.length = many ∧ (∀ t ∈ ts, TermOk d t) ∧ 0 ≤ row' ∧ forL (fun _ => True) (mgN 6) (mSeq (mSet 7 (mCall (G 12) f)) (mSeq (mDrop (mApp (mVar 5) (mOp ixF (mVar 7) (mC (.int 0))))) (mSet 0 (mOp ixF (mVar 7) (mC (.int 1)))))) (rangeD 0 many) [some (.int row1), x1, x2, x3, x4, some (.ref S.length), none, none] (S ++ [.lst []]) =
          some (.nx [some (.int row'), x1, x2, x3, x4, some (.ref S.length), o6, o7], S ++ [.lst (ts.map eT)]) := by
  obtain ⟨l', S', h1, ts, row', o6, o7, h2, h3, h4, h5, h6⟩ := forL_inv (ok := fun _ => True) (tg := mgN 6) (body := mSeq (mSet 7 (mCall (G 12) f)) (mSeq (mDrop (mApp (mVar 5) (mOp ixF (mVar 7) (mC (.int 0))))) (mSet 0 (mOp ixF (mVar 7) (mC (.int 1)))))) (fun k : Nat => D.int (0 + (k : Nat)))
    (fun dn l S' => ∃ (ts : List Tm) (row' : Int) (o6 o7 : Option D), ts.length = dn.length ∧ (∀ t ∈ ts, TermOk d t) ∧ 0 ≤ row' ∧ l = [some (.int row'), x1, x2, x3, x4, some (.ref S.length), o6, o7] ∧ S' = S ++ [.lst (ts.map eT)]) (fun _ _ _ _ => trivial) (List.range many)
    (fun dn x rest l S' hall ⟨ts, row', o6, o7, h2, h3, h4, h5, h6⟩ => by
      subst h5 h6
      have hlen := congrArg List.length hall
      rw [List.length_range, List.length_append, List.length_cons] at hlen
      obtain ⟨t, row2, g1, g2, g3⟩ := hc row' (S ++ [.lst (ts.map eT)]) (some (.int (0 + (x : Nat)))) o7 S.length h4
      refine ⟨_, _, _, rfl, parts_turn (S0 := S) (ts := ts) (t := t) (row' := row2) rfl (by simp only [mgN, List.length_set, List.length_cons, List.length_nil]; omega) (by omega) g3, ts ++ [t], row2, some (.int (0 + (x : Nat))), some (.tup [eT t, .int row2]), by rw [List.length_append, List.length_append, h2]; rfl, ?_, g2, rfl, rfl⟩
      intro t' ht'
      rcases List.mem_append.mp ht' with z | z
      · exact h3 t' z
      · rw [List.mem_singleton] at z
        subst z
        exact g1) (List.range many) [] [some (.int row1), x1, x2, x3, x4, some (.ref S.length), none, none] (S ++ [.lst []]) rfl ⟨[], row1, none, none, rfl, (fun _ h => by cases h), hrow1, rfl, rfl⟩
  subst h5 h6
  exact ⟨ts, row', o6, o7, by rw [h2, List.length_range], h3, h4, h1⟩
omit hp
def sixA : List (Int × Int × Int) := [(1, 0, 0), (1, 1, 0), (4, 0, 0), (1, 2, 0), (5, 2, 0), (0, 0, 0)]
def SymA (a b c : Int) : Prop := (a, b, c) ∈ sixA
structure AtomOk (d : Nat) (t : Tm) : Prop where
  ok : Tm.Ok (fun i => 0 ≤ i ∧ i < 3) (fun a b c n => (SymT a b c ∨ SymA a b c) ∧ n ≤ 2) t
  size : t.size ≤ bdT (d + 1)
  hgt : t.hgt ≤ d + 2
  is : ∃ a b c ts, t = .ap a b c ts ∧ SymA a b c ∧ ts.length ≤ 2 ∧ ∀ x ∈ ts, TermOk d x
theorem Tm.Ok.imp {P P' : Int → Prop} {Q Q' : Int → Int → Int → Nat → Prop} (h1 : ∀ i, P i → P' i) (h2 : ∀ a b c n, Q a b c n → Q' a b c n) {t : Tm} (h : Tm.Ok P Q t) : Tm.Ok P' Q' t := by
  induction h with
  | v hp => exact .v (h1 _ hp)
  | ap hq _ ih => exact .ap (h2 _ _ _ _ hq) ih
include hp
theorem r_atom (d : Nat) {k : Nat} (hd : d ≤ k) {row : Int} (hrow : 0 ≤ row) (S : Sto) : ∃ t row', AtomOk d t ∧ 0 ≤ row' ∧ run prog (k + 3) 13 [.int row, .int d] S = some (.tup [eT t, .int row'], S) := by
  obtain ⟨x, g1, g2⟩ := atI_lt (xs := [eS 1 0 0, eS 1 1 0, eS 4 0 0, eS 1 2 0, eS 5 2 0, eS 0 0 0]) (i := row % 6) (by omega) (by simp only [List.length_cons, List.length_nil]; omega)
  have h3 : ∃ a b c, SymA a b c ∧ x = eS a b c := by
    simp only [List.mem_cons, List.not_mem_nil, or_false] at g2
    rcases g2 with e | e | e | e | e | e <;> exact ⟨_, _, _, by simp [SymA, sixA], e⟩
  obtain ⟨a, b, c, hsym, rfl⟩ := h3
  obtain ⟨many, hmany⟩ : ∃ many : Nat, row / 6 % 3 = many := ⟨(row / 6 % 3).toNat, by omega⟩
  obtain ⟨ts, row', o6, o7, h2, h3, h4, h5⟩ := parts_walk (G := run prog (k + 2)) (f := mCons (mVar 0) (mCons (mVar 1) mNil)) (d := d) (many := many) (x1 := some (.int d)) (x2 := some (.ref S.length)) (x3 := some (eS a b c)) (x4 := some (.int many)) (row1 := row / 6 / 3) (S := S ++ [.lst [eS 1 0 0, eS 1 1 0, eS 4 0 0, eS 1 2 0, eS 5 2 0, eS 0 0 0]]) (by omega) (by omega) (fun row S' o6 o7 r hr => by
    obtain ⟨t, row2, z1, z2, z3⟩ := r_term hp d hd hr S'
    refine ⟨t, row2, z1, z2, ?_⟩
    simp only [mCall, mCons, mNil, mVar, List.getElem?_cons_zero, List.getElem?_cons_succ, Option.bind_some, z3])
  have hs := sizes_le (B := bdT d) (ts := ts) fun t ht => (h3 t ht).size
  have hb := bdT_pos d
  have hs3 : (ts.length : Int) * bdT d ≤ 2 * bdT d := Int.mul_le_mul_of_nonneg_right (by omega) (by omega)
  have hh := hgts_le (ts := ts) (n := d + 1) fun t ht => (h3 t ht).hgt
  refine ⟨.ap a b c ts, row', ⟨.ap ⟨.inr hsym, by omega⟩ fun t ht => (h3 t ht).ok.imp (fun _ h => h) (fun _ _ _ _ h => ⟨.inl h.1, h.2⟩), by simp only [Tm.size, bdT]; omega, by rw [hgt_ap]; omega, a, b, c, ts, rfl, hsym, by omega, h3⟩, h4, ?_⟩
  refine run_more (T := [.lst [eS 1 0 0, eS 1 1 0, eS 4 0 0, eS 1 2 0, eS 5 2 0, eS 0 0 0], .lst (ts.map eT)]) (hp 13 _ rfl) rfl ?_ (by rw [refLt_tup, refLtL_cons, refLt_eT, refLtL_cons, refLt_int, refLtL_nil]; rfl)
  show c__law_atom (run prog (k + 2)) [some (.int row), some (.int d), none, none, none, none, none, none] S = _
  unfold c__law_atom
  rw [seq_set (v := .ref S.length) (S1 := S ++ [.lst [eS 1 0 0, eS 1 1 0, eS 4 0 0, eS 1 2 0, eS 5 2 0, eS 0 0 0]]) (by clear h5 g1; walk_at "ev")]
  have g3 := last_get (S := S) (c := .lst [eS 1 0 0, eS 1 1 0, eS 4 0 0, eS 1 2 0, eS 5 2 0, eS 0 0 0])
  clear g2
  rw [show S ++ [Cell.lst [eS 1 0 0, eS 1 1 0, eS 4 0 0, eS 1 2 0, eS 5 2 0, eS 0 0 0], .lst (ts.map eT)] = (S ++ [.lst [eS 1 0 0, eS 1 1 0, eS 4 0 0, eS 1 2 0, eS 5 2 0, eS 0 0 0]]) ++ [.lst (ts.map eT)] by rw [List.append_assoc]; rfl]
  generalize hL : [eS 1 0 0, eS 1 1 0, eS 4 0 0, eS 1 2 0, eS 5 2 0, eS 0 0 0] = L at *
  generalize hS1 : S ++ [.lst L] = S1 at *
  have hsym1 : eS a b c = eS a b c := rfl
  rw [seq_set (v := eS a b c) (S1 := S1) (by
    generalize eS a b c = sy at *
    clear h5 hs hs3 hh hmany
    walk_at "ev")]
  rw [seq_set (v := .int (row / 6)) (S1 := S1) (by clear h5 g1 hmany; walk_at "ev"), seq_set (v := .int many) (S1 := S1) (by clear h5 g1; walk_at "ev"), seq_set (v := .int (row / 6 / 3)) (S1 := S1) (by clear h5 g1 hmany; walk_at "ev")]
  rw [seq_set (v := .ref S1.length) (S1 := S1 ++ [.lst []]) (by rfl)]
  simp only [List.set_cons_zero, List.set_cons_succ]
  rw [seq_nx ((for_of (rng1_of (n := many) rfl (by omega))).trans h5)]
  have hg := last_get (S := S1) (c := .lst (ts.map eT))
  clear h5 g1 hmany hs hs3 hh hL hS1 h2 h3 h4 hsym hsym1 g3
  walk_at "ev"
end
end Zi
set_option maxRecDepth 100000
set_option maxHeartbeats 1000000
/-! shared functions over terms: atoms and individuals -/
namespace Zi
open PySem L2
local macro_rules | `(tactic| walk_at "ev") => `(tactic| (simp only [mSeq, mSet, mRet, mIfS, mIf, mOp, mOpO, mC, mVar, mBool, mFn1, oD, oN, oS, fLen, lenO, seqO, mSkip, fAdd, fMul, fI, fI0, fLt, fLe, fGt, fGe, fSub, fMod, fDiv, fInt, ixF, mNil, mCons, mTup, mCall, mLst, mAlloc, mIsN, mNotN, isNon, mNotT, mAndT, mOrT, mTru, truD, mAsg, mgTup, mgCons, mgNil, mgN, mLisc, mIsI, tyO, isTyB, mDrop, mAug, fIadd, mMax2, mAnd, mOr, mNot, fLtT, fTupc, mApp, mulC_r, mulC_l, divC_r, modC_r, atI_0, atI_1, atI_2, fEq_int, fNe_int, fEq_bl, mSrc, srcO, eT_v, eT_ap, eS, List.length_cons, List.length_nil, Option.bind_some, Option.map_some, List.map_cons, List.map_nil, List.cons_append, List.nil_append, List.replicate, List.getElem?_cons_zero, List.getElem?_cons_succ, List.set_cons_zero, List.set_cons_succ, if_true, decide_true, Int.reduceNeg, Int.reducePow, Int.reduceLT, Nat.reduceAdd, Nat.reduceSub, and_self, Nat.reduceLeDiff, Bool.false_eq_true, if_false, Bool.not_true, Bool.not_false, Int.reduceEq, decide_false, Bool.or_false, Bool.false_or, Bool.or_true, Bool.true_or, Bool.and_true, Bool.true_and, Bool.and_false, Bool.false_and, String.reduceEq, *]))
local macro_rules | `(tactic| walk_at "step") => `(tactic| (refine (Eq.trans (seq_set (by ((try walk_at "ev"); exact rfl))) ?_); simp only [List.set_cons_zero, List.set_cons_succ]))

theorem any_ints' (i : Int) (vs : List Int) {n : Nat} {S : Sto} : (allS (snap (n + 1) S) (vs.map D.int)).bind (fun r => some ((PyData.tuple r))) = some (.tuple (vs.map PyData.int)) := by
  rw [allS_ints]
  rfl
theorem fIn_tup {S : Sto} (i : Int) (vs : List Int) : fIn (.d (.int i)) (.d (.tup (vs.map D.int))) S = some (.bl (decide (i ∈ vs)), S) := by
  show ((snap 190 S (.int i)).bind fun p => (snap 190 S (.tup (vs.map D.int))).bind fun q => (itemsP q).bind fun qs => some (D.bl (qs.any fun z => PyData.eqv z p), S)) = _
  rw [snap_int, snap_tup, any_ints' i vs]
  simp only [Option.bind_some, itemsP, any_ints]
theorem fNin_tup {S : Sto} (i : Int) (vs : List Int) : fNin (.d (.int i)) (.d (.tup (vs.map D.int))) S = some (.bl (!decide (i ∈ vs)), S) := by
  show ((snap 190 S (.int i)).bind fun p => (snap 190 S (.tup (vs.map D.int))).bind fun q => (itemsP q).bind fun qs => some (D.bl (!(qs.any fun z => PyData.eqv z p)), S)) = _
  rw [snap_int, snap_tup, any_ints' i vs]
  simp only [Option.bind_some, itemsP, any_ints]
theorem forL_all {α : Type} {ok : Sto → Prop} {tg : MG} {body : MS} {S : Sto} (e : α → D) (p : α → Bool) (L : Option D → Lo) (hok : ok S) (htg : ∀ o x, tg (e x) (L o) S = some (L (some (e x)))) : ∀ (xs : List α)
    (_ : ∀ x ∈ xs, body (L (some (e x))) S = if p x = true then some (.nx (L (some (e x))), S) else some (.rt (.bl false), S)) (o : Option D), ∃ o', forL ok tg body (xs.map e) (L o) S = if xs.all p = true then some (.nx (L o'), S) else some (.rt (.bl false), S)
  | [], _, o => ⟨o, by rw [List.map_nil, forL_nil hok]; rfl⟩
  | x :: xs, hb, o => by
    obtain ⟨o', ih⟩ := forL_all e p L hok htg xs (fun y hy => hb y (List.mem_cons_of_mem _ hy)) (some (e x))
    have h := hb x (by simp)
    refine ⟨o', ?_⟩
    rw [List.map_cons, List.all_cons]
    cases hp : p x with
    | true =>
      rw [hp, if_pos rfl] at h
      rw [forL_nx hok (htg o x) h, ih, Bool.true_and]
    | false =>
      rw [hp, if_neg (by simp)] at h
      rw [forL_rt hok (htg o x) h, Bool.false_and, if_neg (by simp)]
theorem for_all_ret {α : Type} {src : MI} {tg : MG} {body : MS} {S : Sto} {ok : Sto → Prop} (xs : List α) (e : α → D) (p : α → Bool) (L : Option D → Lo) (o : Option D) (hs : src (L o) S = some (⟨xs.map e, ok⟩, S)) (hok : ok S) (htg : ∀ o x, tg (e x) (L o) S = some (L (some (e x))))
    (hb : ∀ x ∈ xs, body (L (some (e x))) S = if p x = true then some (.nx (L (some (e x))), S) else some (.rt (.bl false), S)) : mSeq (mFor src tg body) (mRet (mC (.bl true))) (L o) S = some (.rt (.bl (xs.all p)), S) := by
  obtain ⟨o', h⟩ := forL_all e p L hok htg xs hb o
  cases ha : xs.all p with
  | true =>
    rw [ha, if_pos rfl] at h
    rw [seq_nx ((for_of hs).trans h)]
    rfl
  | false =>
    rw [ha, if_neg (by simp)] at h
    rw [seq_rt ((for_of hs).trans h)]
theorem if_not {m : M} {l : Lo} {S : Sto} {b : Bool} (h : m l S = some (.bl b, S)) : mIfS (mNotT (mTru m)) (mRet (mC (.bl false))) mSkip l S = if b = true then some (.nx l, S) else some (.rt (.bl false), S) := by
  cases b <;> walk_at "ev"
theorem if_not2 {m m' : M} {l : Lo} {S : Sto} {b : Bool} (h : m l S = some (.bl b, S)) {t : MT} (ht : t l S = some (!b, S)) : mIfS t (mRet (mC (.bl false))) mSkip l S = if b = true then some (.nx l, S) else some (.rt (.bl false), S) := by
  cases b <;> walk_at "ev"
theorem all_bools {S : Sto} (bs : List Bool) : fAll (.n (bs.map D.bl)) S = some (.bl (bs.all _root_.id), S) := by
  have h : ∀ bs : List Bool, allB (bs.map D.bl) = some bs := fun bs => by
    induction bs with
    | nil => rfl
    | cons x xs ih => simp only [List.map_cons, allB, ih, Option.bind_some]
  unfold fAll
  simp only [lisO, h, Option.bind_some]
/-- the symbol's kind -/
theorem e_kind {l : Lo} {S : Sto} {i : Nat} {a b c : Int} {ts : List Tm} (h : l[i]? = some (some (eT (.ap a b c ts)))) : mOp ixF (mOp ixF (mVar i) (mC (.int 0))) (mC (.int 0)) l S = some (.int a, S) := by
  walk_at "ev"
mutual
def Tm.ind' : Tm → Bool
  | .v _ => true
  | .ap a _ _ ts => decide (a = 2 ∨ a = 3) && inds ts
def inds : List Tm → Bool
  | [] => true
  | t :: ts => t.ind' && inds ts
end
theorem inds_all : ∀ ts, inds ts = ts.all Tm.ind'
  | [] => by simp [inds]
  | t :: ts => by simp [inds, inds_all ts]
def Tm.isA : Tm → Bool
  | .v _ => false
  | .ap a _ _ _ => !decide (a = 2 ∨ a = 3)
def Tm.atomic : Tm → Bool
  | .v _ => false
  | .ap a _ _ ts => !decide (a = 2 ∨ a = 3) && inds ts
/-- kinds of symbols: 0 to 5; short lists -/
abbrev KOk : Tm → Prop := Tm.Ok (fun _ => True) (fun a _ _ n => (0 ≤ a ∧ a < 6) ∧ n ≤ 1000)
section
variable {prog : Nat → Option Fb} (hp : ∀ j fb, lZl0[j]? = some fb → prog (0 + j) = some fb) {k : Nat} {S : Sto}
include hp
theorem r_isatom {t : Tm} (ht : KOk t) : run prog (k + 2) 19 [eT t] S = some (.bl t.isA, S) := by
  refine call_pure (hp 19 _ rfl) rfl ?_ (refLt_bl _)
  show c_is_atom (run prog (k + 1)) [some (eT t)] S = _
  have h1 := r_isvar hp (k := k) (S := S) t
  unfold c_is_atom
  cases ht with
  | v _ =>
    simp only [eT_v, Tm.isV, Tm.isA] at h1 ⊢
    walk_at "ev"
  | @ap a b c ts hk hts =>
    have h2 := fIn_tup (S := S) a [0, 1, 4, 5]
    simp only [List.map_cons, List.map_nil] at h2
    have h3 : decide (a ∈ [(0 : Int), 1, 4, 5]) = !decide (a = 2 ∨ a = 3) := by
      rw [Bool.eq_iff_iff]
      simp
      omega
    simp only [eT_ap, eS, Tm.isV, Tm.isA] at h1 ⊢
    rw [← h3]
    clear h3
    walk_at "ev"
theorem r_lisatom {t : Tm} : run prog (k + 2) 22 [eT t] S = some (.bl t.isA, S) := by
  refine call_pure (hp 22 _ rfl) rfl ?_ (refLt_bl _)
  show c__law_is_atom (run prog (k + 1)) [some (eT t)] S = _
  have h1 := r_lisvar hp (k := k) (S := S) t
  unfold c__law_is_atom
  cases t with
  | v _ =>
    simp only [eT_v, Tm.isV, Tm.isA] at h1 ⊢
    walk_at "ev"
  | ap a b c ts =>
    simp only [eT_ap, eS, Tm.isV, Tm.isA] at h1 ⊢
    walk_at "ev"
    by_cases h2 : a = 2 <;> by_cases h3 : a = 3 <;> simp [h2, h3]
theorem r_ind (t : Tm) : ∀ {k : Nat}, t.hgt ≤ k → ∀ S, run prog (k + 2) 20 [eT t] S = some (.bl t.ind', S) := by
  induction t using Tm.ind with
  | hv i =>
    intro k hk S
    refine call_pure (hp 20 _ rfl) rfl ?_ (refLt_bl _)
    show c_is_individual (run prog (k + 1)) [some (eT (.v i)), none] S = _
    unfold c_is_individual Tm.ind'
    rw [seq_ifT (S1 := S) (t_isv hp (t := .v i) rfl)]
    rfl
  | ha a b c ts ih =>
    intro k hk S
    rw [hgt_ap] at hk
    obtain ⟨k, rfl⟩ : ∃ k', k = k' + 1 := ⟨k - 1, by omega⟩
    refine call_pure (hp 20 _ rfl) rfl ?_ (refLt_bl _)
    show c_is_individual (run prog (k + 2)) [some (eT (.ap a b c ts)), none] S = _
    have h2 := fun t ht => ih t ht (k := k) (Nat.le_trans (hgts_mem ht) (by omega)) S
    clear ih
    unfold c_is_individual Tm.ind'
    rw [seq_ifF (S1 := S) (t_isv hp (t := .ap a b c ts) rfl), seq_skip]
    have h3 := fNin_tup (S := S) a [2, 3]
    have h4 := e_kind (S := S) (l := [some (eT (.ap a b c ts)), none]) (i := 0) rfl
    simp only [List.map_cons, List.map_nil] at h3
    have h5 : decide (a ∈ [(2 : Int), 3]) = decide (a = 2 ∨ a = 3) := by simp
    rw [h5] at h3
    have h6 : (mBool (mOpO fNin (oD (mOp ixF (mOp ixF (mVar 0) (mC (.int 0))) (mC (.int 0)))) (oD (mTup (mCons (mC (.int 2)) (mCons (mC (.int 3)) mNil)))))) [some (eT (.ap a b c ts)), none] S = some (!decide (a = 2 ∨ a = 3), S) := by
      simp only [mBool, mOpO, oD, h4, Option.bind_some, mTup, mCons, mNil, mC, List.length_cons, List.length_nil]
      rw [if_pos (by decide)]
      simp only [Option.bind_some, h3]
    cases hd : decide (a = 2 ∨ a = 3) with
    | false =>
      rw [hd] at h6
      rw [seq_ifT h6]
      rfl
    | true =>
      rw [hd] at h6
      rw [seq_ifF h6, seq_skip, Bool.true_and, inds_all]
      exact for_all_ret ts eT Tm.ind' (fun o => [some (eT (.ap a b c ts)), o]) none (src_args rfl) trivial (fun _ _ => rfl) (fun x hx => if_not (by
        have h7 := h2 x hx
        simp only [mCall, mCons, mNil, mVar, List.getElem?_cons_zero, List.getElem?_cons_succ, Option.bind_some, h7]))
theorem r_lind (t : Tm) : ∀ {k : Nat}, t.hgt ≤ k → t.Wd 1000 → ∀ S, run prog (k + 2) 23 [eT t] S = some (.bl t.ind', S) := by
  induction t using Tm.ind with
  | hv i =>
    intro k hk hw S
    refine call_pure (hp 23 _ rfl) rfl ?_ (refLt_bl _)
    show c__law_is_individual (run prog (k + 1)) [some (eT (.v i)), none] S = _
    unfold c__law_is_individual Tm.ind'
    rw [seq_ifT (S1 := S) (t_lisv hp (t := .v i) rfl)]
    rfl
  | ha a b c ts ih =>
    intro k hk hw S
    rw [hgt_ap] at hk
    obtain ⟨k, rfl⟩ : ∃ k', k = k' + 1 := ⟨k - 1, by omega⟩
    refine call_pure (hp 23 _ rfl) rfl ?_ (refLt_bl _)
    show c__law_is_individual (run prog (k + 2)) [some (eT (.ap a b c ts)), none] S = _
    cases hw with
    | ap hw1 hw2 =>
    have h2 := fun t ht => ih t ht (k := k) (Nat.le_trans (hgts_mem ht) (by omega)) (hw2 t ht) S
    clear ih
    unfold c__law_is_individual Tm.ind'
    rw [seq_ifF (S1 := S) (t_lisv hp (t := .ap a b c ts) rfl), seq_skip]
    have h4 := e_kind (S := S) (l := [some (eT (.ap a b c ts)), none]) (i := 0) rfl
    have h6 : (mAndT (mBool (mOpO fNe (oD (mOp ixF (mOp ixF (mVar 0) (mC (.int 0))) (mC (.int 0)))) (oD (mC (.int 2))))) (mBool (mOpO fNe (oD (mOp ixF (mOp ixF (mVar 0) (mC (.int 0))) (mC (.int 0)))) (oD (mC (.int 3)))))) [some (eT (.ap a b c ts)), none] S = some (!decide (a = 2 ∨ a = 3), S) := by
      simp only [mAndT, mBool, mOpO, oD, h4, Option.bind_some, mC, fNe_int]
      by_cases z2 : a = 2 <;> by_cases z3 : a = 3 <;> simp [z2, z3]
    have hc := (comp_of (vs := [1]) (tg := mgN 1) (c := mYes) (elt := mCall (run prog (k + 2) 23) (mCons (mVar 1) mNil)) (src_args (S := S) (l := [some (eT (.ap a b c ts)), none]) (i := 0) rfl) (by rw [List.length_map]; omega)).trans (compL_map eT (fun t => .bl t.ind') trivial ts (fun x hx => ⟨_, rfl, by
      have h3 := h2 x hx
      simp only [wipeD, mCall, mCons, mNil, mVar, List.set_cons_succ, List.set_cons_zero, List.getElem?_cons_zero, List.getElem?_cons_succ, Option.bind_some, h3]⟩))
    have e1 : (ts.map fun t => D.bl t.ind') = (ts.map Tm.ind').map D.bl := by rw [List.map_map]; rfl
    rw [e1] at hc
    cases hd : decide (a = 2 ∨ a = 3) with
    | false =>
      rw [hd] at h6
      rw [seq_ifT h6]
      rfl
    | true =>
      rw [hd] at h6
      rw [seq_ifF h6, seq_skip, Bool.true_and, inds_all]
      simp only [mRet, mFn1, oN, hc, Option.bind_some, all_bools, List.all_map]
      rfl
theorem r_atomic {t : Tm} (ht : KOk t) (hk : t.hgt ≤ k) : run prog (k + 3) 21 [eT t] S = some (.bl t.atomic, S) := by
  refine call_pure (hp 21 _ rfl) rfl ?_ (refLt_bl _)
  show c_is_atomic (run prog (k + 2)) [some (eT t), none] S = _
  have h1 : mNotT (mTru (mCall (run prog (k + 2) 19) (mCons (mVar 0) mNil))) [some (eT t), none] S = some (!t.isA, S) := by
    have := r_isatom hp (k := k) (S := S) ht
    walk_at "ev"
  unfold c_is_atomic
  cases t with
  | v _ =>
    rw [seq_ifT h1]
    rfl
  | ap a b c ts =>
    simp only [Tm.atomic]
    simp only [Tm.isA] at h1
    cases hd : decide (a = 2 ∨ a = 3) with
    | true =>
      rw [hd] at h1
      rw [seq_ifT h1]
      rfl
    | false =>
      rw [hd] at h1
      rw [seq_ifF h1, seq_skip, inds_all, Bool.not_false, Bool.true_and]
      rw [hgt_ap] at hk
      exact for_all_ret ts eT Tm.ind' (fun o => [some (eT (.ap a b c ts)), o]) none (src_args rfl) trivial (fun _ _ => rfl) (fun x hx => if_not (by
        have h7 := r_ind hp x (k := k) (Nat.le_trans (hgts_mem hx) (by omega)) S
        simp only [mCall, mCons, mNil, mVar, List.getElem?_cons_zero, List.getElem?_cons_succ, Option.bind_some, h7]))
theorem r_latomic {t : Tm} (hw : t.Wd 1000) (hk : t.hgt ≤ k) : run prog (k + 3) 24 [eT t] S = some (.bl t.atomic, S) := by
  refine call_pure (hp 24 _ rfl) rfl ?_ (refLt_bl _)
  show c__law_is_atomic (run prog (k + 2)) [some (eT t), none] S = _
  unfold c__law_is_atomic
  cases hw with
  | v i =>
    rw [seq_ifT (S1 := S) (orT_t (t_lisv hp (t := .v i) rfl))]
    rfl
  | @ap a b c ts hw1 hw2 =>
    simp only [Tm.atomic]
    rw [hgt_ap] at hk
    have h4 := e_kind (S := S) (l := [some (eT (.ap a b c ts)), none]) (i := 0) rfl
    have h6 : (mOrT (mBool (mOpO fEq (oD (mOp ixF (mOp ixF (mVar 0) (mC (.int 0))) (mC (.int 0)))) (oD (mC (.int 2))))) (mBool (mOpO fEq (oD (mOp ixF (mOp ixF (mVar 0) (mC (.int 0))) (mC (.int 0)))) (oD (mC (.int 3)))))) [some (eT (.ap a b c ts)), none] S = some (decide (a = 2 ∨ a = 3), S) := by
      simp only [mOrT, mBool, mOpO, oD, h4, Option.bind_some, mC, fEq_int]
      by_cases z2 : a = 2 <;> by_cases z3 : a = 3 <;> simp [z2, z3]
    have h6' := (orT_f (b := (mOrT (mBool (mOpO fEq (oD (mOp ixF (mOp ixF (mVar 0) (mC (.int 0))) (mC (.int 0)))) (oD (mC (.int 2))))) (mBool (mOpO fEq (oD (mOp ixF (mOp ixF (mVar 0) (mC (.int 0))) (mC (.int 0)))) (oD (mC (.int 3))))))) (t_lisv hp (k := k + 1) (S := S) (l := [some (eT (.ap a b c ts)), none]) (i := 0) (t := .ap a b c ts) rfl)).trans h6
    have hc := (comp_of (vs := [1]) (tg := mgN 1) (c := mYes) (elt := mCall (run prog (k + 2) 23) (mCons (mVar 1) mNil)) (src_args (S := S) (l := [some (eT (.ap a b c ts)), none]) (i := 0) rfl) (by rw [List.length_map]; omega)).trans (compL_map eT (fun t => .bl t.ind') trivial ts (fun x hx => ⟨_, rfl, by
      have h3 := r_lind hp x (k := k) (Nat.le_trans (hgts_mem hx) (by omega)) (hw2 x hx) S
      simp only [wipeD, mCall, mCons, mNil, mVar, List.set_cons_succ, List.set_cons_zero, List.getElem?_cons_zero, List.getElem?_cons_succ, Option.bind_some, h3]⟩))
    have e1 : (ts.map fun t => D.bl t.ind') = (ts.map Tm.ind').map D.bl := by rw [List.map_map]; rfl
    rw [e1] at hc
    cases hd : decide (a = 2 ∨ a = 3) with
    | true =>
      rw [hd] at h6'
      rw [seq_ifT h6']
      rfl
    | false =>
      rw [hd] at h6'
      rw [seq_ifF h6', seq_skip, inds_all, Bool.not_false, Bool.true_and]
      simp only [mRet, mFn1, oN, hc, Option.bind_some, all_bools, List.all_map]
      rfl
end
end Zi
set_option maxRecDepth 100000
set_option maxHeartbeats 1000000
/-! shared functions over terms: sameness, places -/
namespace Zi
open PySem L2
local macro_rules | `(tactic| walk_at "ev") => `(tactic| (simp only [mSeq, mSet, mRet, mIfS, mIf, mOp, mOpO, mC, mVar, mBool, mFn1, oD, oN, oS, fLen, lenO, seqO, mSkip, fAdd, fMul, fI, fI0, fLt, fLe, fGt, fGe, fSub, fMod, fDiv, fInt, ixF, mNil, mCons, mTup, mCall, mLst, mAlloc, mIsN, mNotN, isNon, mNotT, mAndT, mOrT, mTru, truD, mAsg, mgTup, mgCons, mgNil, mgN, mLisc, mIsI, tyO, isTyB, mDrop, mAug, fIadd, mMax2, mAnd, mOr, mNot, fLtT, fTupc, mApp, mulC_r, mulC_l, divC_r, modC_r, atI_0, atI_1, atI_2, fEq_int, fNe_int, fEq_bl, mSrc, srcO, eT_v, eT_ap, eS, List.length_cons, List.length_nil, Option.bind_some, Option.map_some, List.map_cons, List.map_nil, List.cons_append, List.nil_append, List.replicate, List.getElem?_cons_zero, List.getElem?_cons_succ, List.set_cons_zero, List.set_cons_succ, if_true, decide_true, Int.reduceNeg, Int.reducePow, Int.reduceLT, Nat.reduceAdd, Nat.reduceSub, and_self, Nat.reduceLeDiff, Bool.false_eq_true, if_false, Bool.not_true, Bool.not_false, Int.reduceEq, decide_false, Bool.or_false, Bool.false_or, Bool.or_true, Bool.true_or, Bool.and_true, Bool.true_and, Bool.and_false, Bool.false_and, String.reduceEq, *]))
local macro_rules | `(tactic| walk_at "step") => `(tactic| (refine (Eq.trans (seq_set (by ((try walk_at "ev"); exact rfl))) ?_); simp only [List.set_cons_zero, List.set_cons_succ]))

theorem allS_map {α : Type} {f : D → Option PyData} (e : α → D) (g : α → PyData) : ∀ (xs : List α), (∀ x ∈ xs, f (e x) = some (g x)) → allS f (xs.map e) = some (xs.map g)
  | [], _ => rfl
  | x :: xs, h => by
    show (f (e x)).bind _ = _
    rw [h x (by simp), Option.bind_some, allS_map e g xs fun y hy => h y (List.mem_cons_of_mem _ hy)]
    rfl
mutual
def pT : Tm → PyData
  | .v i => .int i
  | .ap a b c ts => .tuple [.tuple [.int a, .int b, .int c], .tuple (pTs ts)]
def pTs : List Tm → List PyData
  | [] => []
  | t :: ts => pT t :: pTs ts
end
theorem pTs_map : ∀ ts, pTs ts = ts.map pT
  | [] => by simp [pTs]
  | t :: ts => by simp [pTs, pTs_map ts]
theorem snap_eT {S : Sto} (t : Tm) : ∀ {n : Nat}, 2 * t.hgt + 1 ≤ n → snap n S (eT t) = some (pT t) := by
  induction t using Tm.ind with
  | hv i =>
    intro n hn
    obtain ⟨n, rfl⟩ : ∃ n', n = n' + 1 := ⟨n - 1, by omega⟩
    simp only [eT_v, pT, snap_int]
  | ha a b c ts ih =>
    intro n hn
    rw [hgt_ap] at hn
    obtain ⟨n, rfl⟩ : ∃ n', n = n' + 3 := ⟨n - 3, by omega⟩
    have h := allS_map (f := snap (n + 1) S) eT pT ts fun t ht => ih t ht (by have := hgts_mem ht; omega)
    simp only [eT_ap, eS, pT, pTs_map, snap_tup, allS, snap_int, h, Option.bind_some]
/-- the same term -/
def teq (t u : Tm) : Bool := PyData.eqv (pT t) (pT u)
theorem teqs_iff {ts : List Tm} (h : ∀ t ∈ ts, ∀ u, teq t u = true ↔ t = u) : ∀ us, PyData.eqvAll (pTs ts) (pTs us) = true ↔ ts = us := by
  induction ts with
  | nil =>
    intro us
    cases us with
    | nil => simp [pTs, PyData.eqvAll]
    | cons u us => simp [pTs, PyData.eqvAll]
  | cons t ts ih =>
    intro us
    cases us with
    | nil => simp [pTs, PyData.eqvAll]
    | cons u us =>
      have h1 := h t (by simp) u
      have h2 := ih (fun x hx => h x (List.mem_cons_of_mem _ hx)) us
      unfold teq at h1
      simp only [pTs, PyData.eqvAll, Bool.and_eq_true, h1, h2, List.cons.injEq]
theorem teq_iff (t : Tm) : ∀ u, teq t u = true ↔ t = u := by
  induction t using Tm.ind with
  | hv i =>
    intro u
    cases u with
    | v j => simp [teq, pT, eqv_int]
    | ap a b c us => simp [teq, pT, PyData.eqv]
  | ha a b c ts ih =>
    intro u
    cases u with
    | v j => simp [teq, pT, PyData.eqv]
    | ap a' b' c' us =>
      have h := teqs_iff ih us
      unfold teq
      simp only [pT, PyData.eqv, PyData.eqvAll, Bool.and_eq_true, beq_iff_eq, h, Bool.and_true, Tm.ap.injEq]
      constructor
      · rintro ⟨⟨h1, h2, h3⟩, h4⟩
        exact ⟨h1, h2, h3, h4⟩
      · rintro ⟨h1, h2, h3, h4⟩
        exact ⟨⟨h1, h2, h3⟩, h4⟩
theorem teq_self (t : Tm) : teq t t = true := (teq_iff t t).mpr rfl
theorem fEq_tm {S : Sto} {t u : Tm} (h1 : t.hgt ≤ 94) (h2 : u.hgt ≤ 94) : fEq (.d (eT t)) (.d (eT u)) S = some (.bl (teq t u), S) := by
  show ((snap 190 S (eT t)).bind fun p => (snap 190 S (eT u)).bind fun q => some (D.bl (PyData.eqv p q), S)) = _
  rw [snap_eT t (by omega), snap_eT u (by omega)]
  rfl
theorem fNe_tm {S : Sto} {t u : Tm} (h1 : t.hgt ≤ 94) (h2 : u.hgt ≤ 94) : fNe (.d (eT t)) (.d (eT u)) S = some (.bl (!teq t u), S) := by
  show ((snap 190 S (eT t)).bind fun p => (snap 190 S (eT u)).bind fun q => some (D.bl (!PyData.eqv p q), S)) = _
  rw [snap_eT t (by omega), snap_eT u (by omega)]
  rfl
theorem fNe_bl {S : Sto} (i j : Bool) : fNe (.d (.bl i)) (.d (.bl j)) S = some (.bl (!decide (i = j)), S) := by
  show some (D.bl (!PyData.eqv (.bool i) (.bool j)), S) = _
  rw [eqv_bl]
/-- a tuple of ints -/
abbrev eP (p : List Int) : D := .tup (p.map D.int)
theorem eqvAll_ints : ∀ p q : List Int, PyData.eqvAll (p.map PyData.int) (q.map PyData.int) = decide (p = q)
  | [], [] => by simp [PyData.eqvAll]
  | [], y :: ys => by simp [PyData.eqvAll]
  | x :: xs, [] => by simp [PyData.eqvAll]
  | x :: xs, y :: ys => by
    simp only [List.map_cons, PyData.eqvAll, eqv_int, eqvAll_ints xs ys, ← Bool.decide_and, List.cons.injEq]
theorem snap_eP {S : Sto} {n : Nat} (p : List Int) : snap (n + 2) S (eP p) = some (.tuple (p.map PyData.int)) := by
  rw [snap_tup, allS_ints]
  rfl
theorem fEq_eP {S : Sto} (p q : List Int) : fEq (.d (eP p)) (.d (eP q)) S = some (.bl (decide (p = q)), S) := by
  show ((snap 190 S (eP p)).bind fun x => (snap 190 S (eP q)).bind fun y => some (D.bl (PyData.eqv x y), S)) = _
  rw [snap_eP, snap_eP]
  simp only [Option.bind_some, PyData.eqv, eqvAll_ints]
/-! ### places -/
mutual
def plc : Tm → List (List Int × Tm)
  | .v i => [([], .v i)]
  | .ap a b c ts => ([], .ap a b c ts) :: plcs 0 ts
def plcs (k : Int) : List Tm → List (List Int × Tm)
  | [] => []
  | t :: ts => (plc t).map (fun p => (k :: p.1, p.2)) ++ plcs (k + 1) ts
end
theorem plcs_app : ∀ (ts us : List Tm) (k : Int), plcs k (ts ++ us) = plcs k ts ++ plcs (k + ts.length) us
  | [], us, k => by simp [plcs]
  | t :: ts, us, k => by
    simp only [List.cons_append, plcs, plcs_app ts us, List.append_assoc, List.length_cons]
    rw [show k + 1 + (ts.length : Int) = k + ((ts.length + 1 : Nat) : Int) by omega]
mutual
theorem plc_len : ∀ t : Tm, ((plc t).length : Int) = t.size
  | .v i => by simp [plc, Tm.size]
  | .ap a b c ts => by
    have := plcs_len ts 0
    simp only [plc, Tm.size, List.length_cons]; omega
theorem plcs_len : ∀ (ts : List Tm) (k : Int), ((plcs k ts).length : Int) = sizes ts
  | [], k => by simp [plcs, sizes]
  | t :: ts, k => by
    have h1 := plc_len t
    have h2 := plcs_len ts (k + 1)
    simp only [plcs, sizes, List.length_append, List.length_map]; omega
theorem plc_path : ∀ (t : Tm) (p : List Int × Tm), p ∈ plc t → p.1.length + p.2.hgt ≤ t.hgt
  | .v i, p, h => by
    simp only [plc, List.mem_singleton] at h
    subst h
    simp [Tm.hgt]
  | .ap a b c ts, p, h => by
    simp only [plc, List.mem_cons] at h
    rw [hgt_ap]
    rcases h with h | h
    · subst h; simp [Tm.hgt]
    · exact plcs_path ts 0 p h
theorem plcs_path : ∀ (ts : List Tm) (k : Int) (p : List Int × Tm), p ∈ plcs k ts → p.1.length + p.2.hgt ≤ hgts ts + 1
  | [], k, p, h => by simp [plcs] at h
  | t :: ts, k, p, h => by
    simp only [plcs, List.mem_append, List.mem_map] at h
    simp only [hgts]
    rcases h with ⟨q, h1, h2⟩ | h
    · have := plc_path t q h1
      subst h2
      simp only [List.length_cons]
      omega
    · have := plcs_path ts (k + 1) p h
      omega
end
/-- the term at a place -/
def atP : Tm → List Int → Option Tm
  | t, [] => some t
  | .v _, _ :: _ => none
  | .ap _ _ _ ts, s :: p => if 0 ≤ s then (ts[s.toNat]?).bind fun u => atP u p else none
def ePl (p : List Int × Tm) : D := .tup [eP p.1, eT p.2]
def eO : Option Tm → D
  | some t => eT t
  | none => .non
mutual
theorem plc_at : ∀ (t : Tm) (p : List Int × Tm), p ∈ plc t → atP t p.1 = some p.2
  | .v i, p, h => by
    simp only [plc, List.mem_singleton] at h
    subst h
    simp [atP]
  | .ap a b c ts, p, h => by
    simp only [plc, List.mem_cons] at h
    rcases h with h | h
    · subst h; simp [atP]
    · obtain ⟨j, u, q, h1, h2, h3⟩ := plcs_at ts 0 p h
      rw [h2]
      unfold atP
      rw [if_pos (by omega), show ((0 : Int) + (j : Nat)).toNat = j by omega, h1]
      exact h3
theorem plcs_at : ∀ (ts : List Tm) (k : Int) (p : List Int × Tm), p ∈ plcs k ts → ∃ (j : Nat) (u : Tm) (q : List Int), ts[j]? = some u ∧ p.1 = (k + j) :: q ∧ atP u q = some p.2
  | [], k, p, h => by simp [plcs] at h
  | t :: ts, k, p, h => by
    simp only [plcs, List.mem_append, List.mem_map] at h
    rcases h with ⟨q, h1, h2⟩ | h
    · have := plc_at t q h1
      subst h2
      exact ⟨0, t, q.1, rfl, by simp, this⟩
    · obtain ⟨j, u, q, h1, h2, h3⟩ := plcs_at ts (k + 1) p h
      exact ⟨j + 1, u, q, h1, by rw [h2, show k + 1 + (j : Int) = k + ((j + 1 : Nat) : Int) by omega], h3⟩
end
mutual
theorem find_plc : ∀ (t : Tm) (p : List Int), ((plc t).find? fun q => decide (q.1 = p)).map (·.2) = atP t p
  | .v i, [] => by simp [plc, atP]
  | .v i, s :: p => by simp [plc, atP]
  | .ap a b c ts, [] => by simp [plc, atP]
  | .ap a b c ts, s :: p => by
    have h := find_plcs ts 0 s p
    simp only [plc, List.find?_cons, atP]
    rw [show (decide ([] = s :: p)) = false by simp]
    simp only [h, Int.sub_zero]
theorem find_plcs : ∀ (ts : List Tm) (k s : Int) (p : List Int), ((plcs k ts).find? fun q => decide (q.1 = s :: p)).map (·.2) = if 0 ≤ s - k then (ts[(s - k).toNat]?).bind fun u => atP u p else none
  | [], k, s, p => by simp [plcs]
  | t :: ts, k, s, p => by
    have h1 := find_plc t p
    have h2 := find_plcs ts (k + 1) s p
    simp only [plcs, List.find?_append, List.find?_map]
    by_cases hk : s = k
    · subst hk
      have e : ((fun q : List Int × Tm => decide (q.1 = s :: p)) ∘ fun q : List Int × Tm => (s :: q.1, q.2)) = fun q : List Int × Tm => decide (q.1 = p) := by
        funext q
        simp
      rw [e, if_pos (by omega), show (s - s).toNat = 0 by omega]
      simp only [List.getElem?_cons_zero, Option.bind_some, ← h1]
      cases hf : (plc t).find? fun q => decide (q.1 = p) with
      | some q => simp
      | none =>
        have : ((plcs (s + 1) ts).find? fun q => decide (q.1 = s :: p)).map (·.2) = none := by
          rw [h2, if_neg (by omega)]
        simpa using this
    · have e : ((fun q : List Int × Tm => decide (q.1 = s :: p)) ∘ fun q : List Int × Tm => (k :: q.1, q.2)) = fun q : List Int × Tm => false := by
        funext q
        have : ¬k = s := fun z => hk z.symm
        simp [this]
      rw [e]
      have e2 : (plc t).find? (fun _ => false) = none := by simp
      rw [e2]
      simp only [Option.map_none, Option.none_or, h2]
      by_cases hlt : 0 ≤ s - k
      · rw [if_pos (by omega), if_pos hlt, show (s - k).toNat = (s - (k + 1)).toNat + 1 by omega, List.getElem?_cons_succ]
      · rw [if_neg (by omega), if_neg hlt]
end
theorem mid_get {S T : Sto} {c : Cell} : (S ++ c :: T)[S.length]? = some c := last_get'
theorem mid_set {S T : Sto} {c d : Cell} : (S ++ c :: T).set S.length d = S ++ d :: T := by
  rw [List.set_append_right _ _ (Nat.le_refl _), Nat.sub_self]
  rfl
theorem mid_get2 {S T : Sto} {c : Cell} {j : Nat} : (S ++ c :: T)[S.length + 1 + j]? = T[j]? := by
  rw [List.getElem?_append_right (by omega), show S.length + 1 + j - S.length = j + 1 by omega]
  rfl
theorem enumD_map {α : Type} (e : α → D) : ∀ (xs : List α) (k : Nat), enumD k (xs.map e) = (xs.zipIdx k).map fun p => .tup [.int (p.2 : Nat), e p.1]
  | [], k => rfl
  | x :: xs, k => by
    simp only [List.map_cons, enumD, enumD_map e xs, List.zipIdx_cons]
theorem len_of {m : M} {l : Lo} {S S1 : Sto} {xs : List D} (h : m l S = some (.tup xs, S1)) : mFn1 fLen (oD m) l S = some (.int (xs.length : Nat), S1) := by
  simp only [mFn1, oD, h, Option.bind_some, fLen, lenO, seqO]
/-- found.append(((k,) + place, inner)) -/
theorem app_turn {l : Lo} {S T : Sto} {fd : List (List Int × Tm)} {k : Int} {q : List Int × Tm} {x : M} (hf : l[1]? = some (some (.ref S.length))) (hlen : fd.length < 1000000)
    (hx : x l (S ++ .lst (fd.map ePl) :: T) = some (ePl (k :: q.1, q.2), S ++ .lst (fd.map ePl) :: T)) :
    mDrop (mApp (mVar 1) x) l (S ++ .lst (fd.map ePl) :: T) = some (.nx l, S ++ .lst ((fd ++ [(k :: q.1, q.2)]).map ePl) :: T) := by
  have h1 := mid_get (S := S) (T := T) (c := .lst (fd.map ePl))
  have h2 : (fd.map ePl).length < 1000000 := by rw [List.length_map]; exact hlen
  have h3 := mid_set (S := S) (T := T) (c := .lst (fd.map ePl)) (d := .lst (fd.map ePl ++ [ePl (k :: q.1, q.2)]))
  rw [List.map_append]
  simp only [mDrop, mApp, mVar, hf, h1, hx, Option.bind_some, if_pos h2, h3, List.map_cons, List.map_nil]
theorem refLt_ePl {n : Nat} : ∀ ps : List (List Int × Tm), refLtL n (ps.map ePl) = true
  | [] => by simp [refLtL]
  | p :: ps => by simp [refLtL, ePl, refLt, refLtL_ints, refLt_eT, refLt_ePl ps]
section
variable {prog : Nat → Option Fb} (hp : ∀ j fb, lZl0[j]? = some fb → prog (0 + j) = some fb) {k : Nat} {S : Sto}
include hp
theorem r_places (t : Tm) : ∀ {k : Nat}, t.hgt ≤ k → t.hgt ≤ 1000 → t.size ≤ 100000 → ∀ S, run prog (k + 2) 25 [eT t] S = some (.ref S.length, S ++ [.lst ((plc t).map ePl)]) := by
  induction t using Tm.ind with
  | hv i =>
    intro k hk hh hz S
    refine run_list (T := []) (hp 25 _ rfl) rfl ?_ (refLt_ePl _)
    show c_places (run prog (k + 1)) [some (eT (.v i)), none, none, none, none, none] S = _
    unfold c_places
    rw [seq_set (v := .ref S.length) (S1 := S ++ [.lst [ePl ([], .v i)]]) (by simp only [ePl, eP]; walk_at "ev")]
    simp only [List.set_cons_succ, List.set_cons_zero]
    have h1 := t_isv hp (k := k) (S := S ++ [.lst [ePl ([], .v i)]]) (l := [some (eT (.v i)), some (.ref S.length), none, none, none, none]) (i := 0) (t := .v i) rfl
    rw [seq_ifF (notT_of h1), seq_skip]
    simp only [plc]
    rfl
  | ha a b c ts ih =>
    intro k hk hh hz S
    rw [hgt_ap] at hk hh
    obtain ⟨k, rfl⟩ : ∃ k', k = k' + 1 := ⟨k - 1, by omega⟩
    simp only [Tm.size] at hz
    generalize ht0 : Tm.ap a b c ts = t0
    -- the walk
    have src : ∀ l S, l[0]? = some (some (eT t0)) → mEnum (oD (mOp ixF (mVar 0) (mC (.int 1)))) l S = some (⟨(ts.zipIdx 0).map fun p => .tup [.int (p.2 : Nat), eT p.1], fun _ => True⟩, S) := fun l S h => by
      subst ht0
      have z := e_args (S := S) h
      simp only [mEnum, oD, z, Option.bind_some, srcO, enumD_map]
    obtain ⟨l', S', h1, T, o2, o3, o4, o5, h2, h3⟩ := forL_inv (ok := fun _ => True) (tg := (mgTup 2 (mgCons (mgN 2) (mgCons (mgN 3) mgNil)))) (body := (mFor (mSrc (oD (mCall (run prog ((k+2)) 25) (mCons (mVar 3) mNil)))) (mgTup 2 (mgCons (mgN 4) (mgCons (mgN 5) mgNil))) (mDrop (mApp (mVar 1) (mTup (mCons (mOp fAdd (mTup (mCons (mVar 2) mNil)) (mVar 4)) (mCons (mVar 5) mNil))))))) (fun p : Tm × Nat => .tup [.int (p.2 : Nat), eT p.1])
      (fun dn l S' => ∃ T o2 o3 o4 o5, l = [some (eT t0), some (.ref S.length), o2, o3, o4, o5] ∧ S' = S ++ .lst ((([], t0) :: plcs 0 (dn.map (·.1))).map ePl) :: T) (fun _ _ _ _ => trivial) (ts.zipIdx 0)
      (fun dn x rest l S' hall ⟨T, o2, o3, o4, o5, h2, h3⟩ => by
        subst h2 h3
        obtain ⟨u, j⟩ := x
        have hj : j = dn.length ∧ ts[j]? = some u := by
          have z := congrArg (fun L => L[dn.length]?) hall
          simp only [List.getElem?_zipIdx, List.getElem?_append_right (Nat.le_refl _), Nat.sub_self, List.getElem?_cons_zero, Nat.zero_add] at z
          cases hx : ts[dn.length]? with
          | none => rw [hx] at z; cases z
          | some y =>
            rw [hx] at z
            simp only [Option.map_some, Option.some.injEq, Prod.mk.injEq] at z
            obtain ⟨z1, z2⟩ := z
            subst z1 z2
            exact ⟨rfl, hx⟩
        obtain ⟨hj1, hj2⟩ := hj
        have hu : u ∈ ts := List.mem_of_getElem? hj2
        have hts : ts = dn.map (·.1) ++ u :: rest.map (·.1) := by
          have z := congrArg (fun L => L.map Prod.fst) hall
          simp only [List.zipIdx_map_fst, List.map_append, List.map_cons] at z
          exact z
        have hsz : sizes ts = sizes (dn.map (·.1)) + (u.size + sizes (rest.map (·.1))) := by rw [hts, sizes_app]; simp [sizes]
        have hs1 := sizes_nn (rest.map (·.1))
        have hs2 := sizes_nn (dn.map (·.1))
        have hl1 := plcs_len (dn.map (·.1)) 0
        have hl2 := plc_len u
        have hhu := hgts_mem hu
        have z := ih u hu (k := k) (by omega) (by omega) (by omega) (S ++ .lst ((([], t0) :: plcs 0 (dn.map (·.1))).map ePl) :: T)
        have hin : ∀ f : List (List Int × Tm), (S ++ .lst (f.map ePl) :: (T ++ [.lst ((plc u).map ePl)]))[(S ++ Cell.lst ((([], t0) :: plcs 0 (dn.map (·.1))).map ePl) :: T).length]? = some (.lst ((plc u).map ePl)) := fun f => by
          rw [show (S ++ Cell.lst ((([], t0) :: plcs 0 (dn.map (·.1))).map ePl) :: T).length = S.length + 1 + T.length by simp; omega, mid_get2]
          exact last_get
        generalize hR : (S ++ Cell.lst ((([], t0) :: plcs 0 (dn.map (·.1))).map ePl) :: T).length = R at *
        obtain ⟨l2, S2, g1, o4', o5', g2, g3⟩ := forL_inv (ok := fun S' => S'[R]? = some (.lst ((plc u).map ePl))) (tg := (mgTup 2 (mgCons (mgN 4) (mgCons (mgN 5) mgNil)))) (body := (mDrop (mApp (mVar 1) (mTup (mCons (mOp fAdd (mTup (mCons (mVar 2) mNil)) (mVar 4)) (mCons (mVar 5) mNil)))))) ePl
          (fun dq l S' => ∃ o4 o5, l = [some (eT t0), some (.ref S.length), some (.int (j : Nat)), some (eT u), o4, o5] ∧ S' = S ++ .lst ((([], t0) :: plcs 0 (dn.map (·.1)) ++ dq.map (fun p => (((j : Nat) : Int) :: p.1, p.2))).map ePl) :: (T ++ [.lst ((plc u).map ePl)])) (fun dq l S' ⟨_, _, _, g⟩ => by rw [g]; exact hin _) (plc u)
          (fun dq x rest' l S' hall' ⟨o4, o5, g2, g3⟩ => by
            subst g2 g3
            have hlq := congrArg List.length hall'
            rw [List.length_append, List.length_cons] at hlq
            have hpx := plc_path u x (by rw [hall']; simp)
            refine ⟨_, _, _, rfl, app_turn (S := S) (fd := ([], t0) :: plcs 0 (dn.map (·.1)) ++ dq.map (fun p => (((j : Nat) : Int) :: p.1, p.2))) (k := (j : Nat)) (q := x) rfl ?_ ?_, some (eP x.1), some (eT x.2), rfl, ?_⟩
            · simp only [List.length_append, List.length_cons, List.length_map]; omega
            · have hle : 1 + (x.1.map D.int).length ≤ 1000000 := by rw [List.length_map]; omega
              simp only [mTup, mCons, mNil, mOp, mVar, List.set_cons_succ, List.set_cons_zero, List.getElem?_cons_zero, List.getElem?_cons_succ, Option.bind_some, List.length_cons, List.length_nil]
              rw [if_pos (by decide)]
              simp only [Option.bind_some, fAdd, List.length_cons, List.length_nil]
              rw [if_pos (by rw [List.length_map]; omega)]
              simp only [Option.bind_some, List.length_cons, List.length_nil]
              rw [if_pos (by decide)]
              rfl
            · simp only [List.map_append, List.map_cons, List.map_nil, List.append_assoc, List.cons_append]) (plc u) [] [some (eT t0), some (.ref S.length), some (.int (j : Nat)), some (eT u), o4, o5] (S ++ .lst ((([], t0) :: plcs 0 (dn.map (·.1))).map ePl) :: (T ++ [.lst ((plc u).map ePl)])) rfl ⟨o4, o5, rfl, by simp⟩
        subst g2 g3
        refine ⟨_, [some (eT t0), some (.ref S.length), some (.int (j : Nat)), some (eT u), o4', o5'], S ++ .lst ((([], t0) :: plcs 0 (dn.map (·.1)) ++ (plc u).map (fun p => (((j : Nat) : Int) :: p.1, p.2))).map ePl) :: (T ++ [.lst ((plc u).map ePl)]), rfl, ?_, T ++ [.lst ((plc u).map ePl)], some (.int (j : Nat)), some (eT u), o4', o5', rfl, ?_⟩
        · refine (for_of (s := ⟨(plc u).map ePl, fun S' => S'[R]? = some (.lst ((plc u).map ePl))⟩) (S1 := S ++ .lst ((([], t0) :: plcs 0 (dn.map (·.1))).map ePl) :: (T ++ [.lst ((plc u).map ePl)])) ?_).trans ?_
          · have y := hin (([], t0) :: plcs 0 (dn.map (·.1)))
            have z' : run prog (k + 2) 25 [eT u] (S ++ .lst ((([], t0) :: plcs 0 (dn.map (·.1))).map ePl) :: T) = some (.ref R, S ++ .lst ((([], t0) :: plcs 0 (dn.map (·.1))).map ePl) :: (T ++ [.lst ((plc u).map ePl)])) := by
              rw [z, List.append_assoc]; rfl
            simp only [mSrc, oD, mCall, mCons, mNil, mVar, List.set_cons_succ, List.set_cons_zero, List.getElem?_cons_zero, List.getElem?_cons_succ, Option.bind_some, z', srcO, y]
          · exact g1
        · have e : plcs 0 ((dn ++ [(u, j)]).map (·.1)) = plcs 0 (dn.map (·.1)) ++ (plc u).map (fun p => (((j : Nat) : Int) :: p.1, p.2)) := by
            rw [List.map_append, plcs_app, List.length_map, ← hj1]
            simp [plcs]
          rw [e]
          rfl) (ts.zipIdx 0) [] [some (eT t0), some (.ref S.length), none, none, none, none] (S ++ [.lst ([([], t0)].map ePl)]) rfl ⟨[], none, none, none, none, rfl, by simp [plcs]⟩
    subst h2
    refine run_list (T := T) (hp 25 _ rfl) rfl ?_ (refLt_ePl _)
    show c_places (run prog (k + 2)) [some (eT t0), none, none, none, none, none] S = _
    unfold c_places
    rw [seq_set (v := .ref S.length) (S1 := S ++ [.lst [ePl ([], t0)]]) (by simp only [ePl, eP]; clear h1 h3 ih src; walk_at "ev")]
    simp only [List.set_cons_succ, List.set_cons_zero]
    have h4 := t_isv hp (k := k + 1) (S := S ++ [.lst [ePl ([], t0)]]) (l := [some (eT t0), some (.ref S.length), none, none, none, none]) (i := 0) (t := t0) rfl
    have h5 : t0.isV = false := by subst ht0; rfl
    rw [h5] at h4
    rw [seq_ifT (notT_of h4)]
    refine (seq_nx ((for_of (src _ _ rfl)).trans h1)).trans ?_
    rw [h3]
    have h6 : ((ts.zipIdx 0).map (·.1)) = ts := List.zipIdx_map_fst 0 ts
    rw [h6]
    subst ht0
    simp only [plc]
    rfl
theorem r_lplaces (t : Tm) : ∀ {k : Nat}, t.hgt ≤ k → t.hgt ≤ 1000 → t.size ≤ 100000 → ∀ S, run prog (k + 2) 27 [eT t] S = some (.ref S.length, S ++ [.lst ((plc t).map ePl)]) := by
  induction t using Tm.ind with
  | hv i =>
    intro k hk hh hz S
    refine run_list (T := []) (hp 27 _ rfl) rfl ?_ (refLt_ePl _)
    show c__law_places (run prog (k + 1)) [some (eT (.v i)), none, none, none] S = _
    unfold c__law_places
    rw [seq_set (v := .ref S.length) (S1 := S ++ [.lst [ePl ([], .v i)]]) (by simp only [ePl, eP]; walk_at "ev")]
    simp only [List.set_cons_succ, List.set_cons_zero]
    have h1 := t_lisv hp (k := k) (S := S ++ [.lst [ePl ([], .v i)]]) (l := [some (eT (.v i)), some (.ref S.length), none, none]) (i := 0) (t := .v i) rfl
    rw [seq_ifF (notT_of h1), seq_skip]
    simp only [plc]
    rfl
  | ha a b c ts ih =>
    intro k hk hh hz S
    rw [hgt_ap] at hk hh
    obtain ⟨k, rfl⟩ : ∃ k', k = k' + 1 := ⟨k - 1, by omega⟩
    simp only [Tm.size] at hz
    have hlen1 : (ts.length : Int) ≤ sizes ts := by
      clear ih hk hh hz
      induction ts with
      | nil => simp [sizes]
      | cons t ts ih =>
        have := size_pos t
        simp only [sizes, List.length_cons]; omega
    generalize ht0 : Tm.ap a b c ts = t0
    have args : ∀ l S, l[0]? = some (some (eT t0)) → mOp ixF (mVar 0) (mC (.int 1)) l S = some (.tup (ts.map eT), S) := fun l S h => by
      subst ht0
      exact e_args h
    have src : ∀ l S, l[0]? = some (some (eT t0)) → (mRng1 (mFn1 fLen (oD (mOp ixF (mVar 0) (mC (.int 1)))))) l S = some (⟨(List.range ts.length).map fun j : Nat => D.int (0 + (j : Nat)), fun _ => True⟩, S) := fun l S h => by
      refine rng1_of (n := ts.length) ?_ (by omega)
      have z := args l S h
      simp only [mFn1, oD, z, Option.bind_some, fLen, lenO, seqO, List.length_map]
    obtain ⟨l', S', h1, T, o2, o3, h2, h3⟩ := forL_inv (ok := fun _ => True) (tg := (mgN 2)) (body := (mFor (mSrc (oD (mCall (run prog ((k+2)) 27) (mCons (mOp ixF (mOp ixF (mVar 0) (mC (.int 1))) (mVar 2)) mNil)))) (mgN 3) (mDrop (mApp (mVar 1) (mTup (mCons (mOp fAdd (mTup (mCons (mVar 2) mNil)) (mOp ixF (mVar 3) (mC (.int 0)))) (mCons (mOp ixF (mVar 3) (mC (.int 1))) mNil))))))) (fun j : Nat => D.int (0 + (j : Nat)))
      (fun dn l S' => ∃ T o2 o3, l = [some (eT t0), some (.ref S.length), o2, o3] ∧ S' = S ++ .lst ((([], t0) :: plcs 0 (ts.take dn.length)).map ePl) :: T) (fun _ _ _ _ => trivial) (List.range ts.length)
      (fun dn x rest l S' hall ⟨T, o2, o3, h2, h3⟩ => by
        subst h2 h3
        have hx : x = dn.length ∧ x < ts.length := by
          have z := congrArg (fun L => L[dn.length]?) hall
          simp only [List.getElem?_append_right (Nat.le_refl _), Nat.sub_self, List.getElem?_cons_zero] at z
          obtain ⟨z1, z2⟩ := List.getElem?_eq_some_iff.mp z
          rw [List.getElem_range] at z2
          rw [List.length_range] at z1
          omega
        obtain ⟨hx1, hx2⟩ := hx
        have hj2 : ts[x]? = some ts[x] := List.getElem?_eq_getElem hx2
        generalize ts[x] = u at hj2
        have hu : u ∈ ts := List.mem_of_getElem? hj2
        have htk : ts.take (x + 1) = ts.take x ++ [u] := by rw [List.take_succ, hj2]; rfl
        have hsz : sizes (ts.take x) + u.size ≤ sizes ts := by
          have z : ts = ts.take (x + 1) ++ ts.drop (x + 1) := (List.take_append_drop _ _).symm
          have z2 := sizes_nn (ts.drop (x + 1))
          rw [z, sizes_app, htk, sizes_app]
          simp only [sizes]
          rw [List.take_append_of_le_length (by simp; omega)]
          have z3 : (ts.take x ++ [u]).take x = ts.take x := by rw [List.take_append_of_le_length (by simp; omega), List.take_take, Nat.min_self]
          rw [z3]
          omega
        have hs2 := sizes_nn (ts.take x)
        have hl1 := plcs_len (ts.take x) 0
        have hl2 := plc_len u
        have hhu := hgts_mem hu
        rw [← hx1]
        have z := ih u hu (k := k) (by omega) (by omega) (by omega) (S ++ .lst ((([], t0) :: plcs 0 (ts.take x)).map ePl) :: T)
        have hin : ∀ f : List (List Int × Tm), (S ++ .lst (f.map ePl) :: (T ++ [.lst ((plc u).map ePl)]))[(S ++ Cell.lst ((([], t0) :: plcs 0 (ts.take x)).map ePl) :: T).length]? = some (.lst ((plc u).map ePl)) := fun f => by
          rw [show (S ++ Cell.lst ((([], t0) :: plcs 0 (ts.take x)).map ePl) :: T).length = S.length + 1 + T.length by simp; omega, mid_get2]
          exact last_get
        generalize hR : (S ++ Cell.lst ((([], t0) :: plcs 0 (ts.take x)).map ePl) :: T).length = R at *
        obtain ⟨l2, S2, g1, o3', g2, g3⟩ := forL_inv (ok := fun S' => S'[R]? = some (.lst ((plc u).map ePl))) (tg := (mgN 3)) (body := (mDrop (mApp (mVar 1) (mTup (mCons (mOp fAdd (mTup (mCons (mVar 2) mNil)) (mOp ixF (mVar 3) (mC (.int 0)))) (mCons (mOp ixF (mVar 3) (mC (.int 1))) mNil)))))) ePl
          (fun dq l S' => ∃ o3, l = [some (eT t0), some (.ref S.length), some (.int (0 + (x : Nat))), o3] ∧ S' = S ++ .lst ((([], t0) :: plcs 0 (ts.take x) ++ dq.map (fun p => ((0 + ((x : Nat) : Int)) :: p.1, p.2))).map ePl) :: (T ++ [.lst ((plc u).map ePl)])) (fun dq l S' ⟨_, _, g⟩ => by rw [g]; exact hin _) (plc u)
          (fun dq y rest' l S' hall' ⟨o3, g2, g3⟩ => by
            subst g2 g3
            have hlq := congrArg List.length hall'
            rw [List.length_append, List.length_cons] at hlq
            have hpx := plc_path u y (by rw [hall']; simp)
            refine ⟨_, _, _, rfl, app_turn (S := S) (fd := ([], t0) :: plcs 0 (ts.take x) ++ dq.map (fun p => ((0 + ((x : Nat) : Int)) :: p.1, p.2))) (k := 0 + (x : Nat)) (q := y) rfl ?_ ?_, some (ePl y), rfl, ?_⟩
            · simp only [List.length_append, List.length_cons, List.length_map]; omega
            · have hle : 1 + (y.1.map D.int).length ≤ 1000000 := by rw [List.length_map]; omega
              simp only [mTup, mCons, mNil, mOp, mVar, mC, List.set_cons_succ, List.set_cons_zero, List.getElem?_cons_zero, List.getElem?_cons_succ, Option.bind_some, List.length_cons, List.length_nil]
              rw [if_pos (by decide)]
              simp only [Option.bind_some, ePl, ixF, atI_0, atI_1, fAdd, List.length_cons, List.length_nil]
              rw [if_pos (by rw [List.length_map]; omega)]
              simp only [Option.bind_some, List.length_cons, List.length_nil]
              rw [if_pos (by decide)]
              rfl
            · simp only [List.map_append, List.map_cons, List.map_nil, List.append_assoc, List.cons_append]) (plc u) [] [some (eT t0), some (.ref S.length), some (.int (0 + (x : Nat))), o3] (S ++ .lst ((([], t0) :: plcs 0 (ts.take x)).map ePl) :: (T ++ [.lst ((plc u).map ePl)])) rfl ⟨o3, rfl, by simp⟩
        subst g2 g3
        refine ⟨_, [some (eT t0), some (.ref S.length), some (.int (0 + (x : Nat))), o3'], S ++ .lst ((([], t0) :: plcs 0 (ts.take x) ++ (plc u).map (fun p => ((0 + ((x : Nat) : Int)) :: p.1, p.2))).map ePl) :: (T ++ [.lst ((plc u).map ePl)]), rfl, ?_, T ++ [.lst ((plc u).map ePl)], some (.int (0 + (x : Nat))), o3', rfl, ?_⟩
        · refine (for_of (s := ⟨(plc u).map ePl, fun S' => S'[R]? = some (.lst ((plc u).map ePl))⟩) (S1 := S ++ .lst ((([], t0) :: plcs 0 (ts.take x)).map ePl) :: (T ++ [.lst ((plc u).map ePl)])) ?_).trans ?_
          · have y := hin (([], t0) :: plcs 0 (ts.take x))
            have z' : run prog (k + 2) 27 [eT u] (S ++ .lst ((([], t0) :: plcs 0 (ts.take x)).map ePl) :: T) = some (.ref R, S ++ .lst ((([], t0) :: plcs 0 (ts.take x)).map ePl) :: (T ++ [.lst ((plc u).map ePl)])) := by
              rw [z, List.append_assoc]; rfl
            have y0 : atI (ts.map eT) (0 + (x : Nat)) = some (eT u) := by
              rw [atI_nn (by omega), show (0 + ((x : Nat) : Int)).toNat = x by omega, List.getElem?_map, hj2]
              rfl
            have y1 : mOp ixF (mOp ixF (mVar 0) (mC (.int 1))) (mVar 2) [some (eT t0), some (.ref S.length), some (.int (0 + (x : Nat))), o3] (S ++ .lst ((([], t0) :: plcs 0 (ts.take x)).map ePl) :: T) = some (eT u, S ++ .lst ((([], t0) :: plcs 0 (ts.take x)).map ePl) :: T) := by
              have w := args [some (eT t0), some (.ref S.length), some (.int (0 + (x : Nat))), o3] (S ++ .lst ((([], t0) :: plcs 0 (ts.take x)).map ePl) :: T) rfl
              show ((mOp ixF (mVar 0) (mC (.int 1)) _ _).bind _) = _
              rw [w]
              simp only [Option.bind_some, mVar, List.getElem?_cons_zero, List.getElem?_cons_succ, ixF, y0]
            have y1' : mOp ixF (mOp ixF (mVar 0) (mC (.int 1))) (mVar 2) ([some (eT t0), some (.ref S.length), o2, o3].set 2 (some (.int (0 + (x : Nat))))) (S ++ .lst ((([], t0) :: plcs 0 (ts.take x)).map ePl) :: T) = some (eT u, S ++ .lst ((([], t0) :: plcs 0 (ts.take x)).map ePl) :: T) := y1
            simp only [mSrc, oD, mCall, mCons, mNil, y1', Option.bind_some, z', srcO, y]
          · exact g1
        · have e : plcs 0 (ts.take (dn ++ [x]).length) = plcs 0 (ts.take x) ++ (plc u).map (fun p => ((0 + ((x : Nat) : Int)) :: p.1, p.2)) := by
            rw [List.length_append, List.length_singleton, ← hx1, htk, plcs_app, List.length_take, Nat.min_eq_left (by omega)]
            simp [plcs]
          rw [e]
          rfl) (List.range ts.length) [] [some (eT t0), some (.ref S.length), none, none] (S ++ [.lst ([([], t0)].map ePl)]) rfl ⟨[], none, none, rfl, by simp [plcs]⟩
    subst h2
    refine run_list (T := T) (hp 27 _ rfl) rfl ?_ (refLt_ePl _)
    show c__law_places (run prog (k + 2)) [some (eT t0), none, none, none] S = _
    unfold c__law_places
    rw [seq_set (v := .ref S.length) (S1 := S ++ [.lst [ePl ([], t0)]]) (by simp only [ePl, eP]; clear h1 h3 ih src args; walk_at "ev")]
    simp only [List.set_cons_succ, List.set_cons_zero]
    have h4 := t_lisv hp (k := k + 1) (S := S ++ [.lst [ePl ([], t0)]]) (l := [some (eT t0), some (.ref S.length), none, none]) (i := 0) (t := t0) rfl
    have h5 : t0.isV = false := by subst ht0; rfl
    rw [h5] at h4
    rw [seq_ifT (notT_of h4)]
    refine (seq_nx ((for_of (src _ _ rfl)).trans h1)).trans ?_
    rw [h3, List.length_range, List.take_length]
    subst ht0
    simp only [plc]
    rfl
theorem at_loop (p : List Int) : ∀ (t : Tm) (x0 x1 o : Option D), ∃ o', forL (fun _ => True) (mgN 3) (mSeq (mIfS (mOrT (mTru (mCall (run prog ((k+1)) 3) (mCons (mVar 2) mNil))) (mOrT (mBool (mOp fLt (mVar 3) (mC (.int 0)))) (mBool (mOp fGe (mVar 3) (mFn1 fLen (oD (mOp ixF (mVar 2) (mC (.int 1))))))))) (mRet (mC .non)) mSkip)
    (mSet 2 (mOp ixF (mOp ixF (mVar 2) (mC (.int 1))) (mVar 3)))) (p.map D.int) [x0, x1, some (eT t), o] S = match atP t p with
    | some u => some (.nx [x0, x1, some (eT u), o'], S)
    | none => some (.rt .non, S) := by
  induction p with
  | nil =>
    intro t x0 x1 o
    refine ⟨o, ?_⟩
    rw [List.map_nil, forL_nil trivial]
    simp [atP]
  | cons s p ih =>
    intro t x0 x1 o
    have hb := t_isv hp (k := k) (S := S) (l := [x0, x1, some (eT t), some (.int s)]) (i := 2) (t := t) rfl
    cases t with
    | v i =>
      refine ⟨none, ?_⟩
      rw [List.map_cons, forL_rt (r := .non) (S1 := S) trivial rfl (seq_rt (by
        show mIfS _ _ _ [x0, x1, some (eT (.v i)), some (.int s)] S = _
        unfold mIfS
        rw [orT_t hb]
        rfl))]
      simp [atP]
    | ap a b c ts =>
      have hl : mBool (mOp fGe (mVar 3) (mFn1 fLen (oD (mOp ixF (mVar 2) (mC (.int 1)))))) [x0, x1, some (eT (.ap a b c ts)), some (.int s)] S = some (decide ((ts.length : Int) ≤ s), S) := by
        have z := e_args (S := S) (l := [x0, x1, some (eT (.ap a b c ts)), some (.int s)]) (i := 2) rfl
        have z1 := len_of z
        rw [List.length_map] at z1
        show (((mVar 3 _ S).bind fun p => (mFn1 fLen (oD (mOp ixF (mVar 2) (mC (.int 1)))) _ p.2).bind _).bind _) = _
        simp only [mVar, List.getElem?_cons_zero, List.getElem?_cons_succ, Option.bind_some, fGe, fI0, z1]
      have hs : mBool (mOp fLt (mVar 3) (mC (.int 0))) [x0, x1, some (eT (.ap a b c ts)), some (.int s)] S = some (decide (s < 0), S) := by walk_at "ev"
      have htest : (mOrT (mTru (mCall (run prog ((k+1)) 3) (mCons (mVar 2) mNil))) (mOrT (mBool (mOp fLt (mVar 3) (mC (.int 0)))) (mBool (mOp fGe (mVar 3) (mFn1 fLen (oD (mOp ixF (mVar 2) (mC (.int 1))))))))) [x0, x1, some (eT (.ap a b c ts)), some (.int s)] S = some (decide (s < 0) || decide ((ts.length : Int) ≤ s), S) := by
        refine (orT_f hb).trans ?_
        by_cases h0 : s < 0
        · rw [decide_eq_true h0] at hs ⊢
          rw [orT_t hs]
          rfl
        · rw [decide_eq_false h0] at hs ⊢
          rw [orT_f hs, hl]
          rfl
      by_cases hbad : s < 0 ∨ (ts.length : Int) ≤ s
      · refine ⟨none, ?_⟩
        have e1 : (decide (s < 0) || decide ((ts.length : Int) ≤ s)) = true := by rw [Bool.or_eq_true, decide_eq_true_eq, decide_eq_true_eq]; exact hbad
        rw [List.map_cons, forL_rt (r := .non) (S1 := S) trivial rfl (seq_rt (by
          show mIfS _ _ _ [x0, x1, some (eT (.ap a b c ts)), some (.int s)] S = _
          unfold mIfS
          rw [htest, e1]
          rfl))]
        have e2 : atP (.ap a b c ts) (s :: p) = none := by
          unfold atP
          by_cases h0 : 0 ≤ s
          · rw [if_pos h0, List.getElem?_eq_none (by omega)]
            rfl
          · rw [if_neg h0]
        rw [e2]
      · have e1 : (decide (s < 0) || decide ((ts.length : Int) ≤ s)) = false := by rw [Bool.or_eq_false_iff, decide_eq_false_iff_not, decide_eq_false_iff_not]; omega
        have hin : s.toNat < ts.length := by omega
        have hg : ts[s.toNat]? = some ts[s.toNat] := List.getElem?_eq_getElem hin
        generalize ts[s.toNat] = u at hg
        obtain ⟨o', h⟩ := ih u x0 x1 (some (.int s))
        refine ⟨o', ?_⟩
        rw [List.map_cons, forL_nx (l2 := [x0, x1, some (eT u), some (.int s)]) (S1 := S) trivial rfl ?_]
        · rw [h]
          have e2 : atP (.ap a b c ts) (s :: p) = atP u p := by
            show (if 0 ≤ s then (ts[s.toNat]?).bind fun u => atP u p else none) = _
            rw [if_pos (by omega), hg]
            rfl
          rw [e2]
        · show mSeq _ _ [x0, x1, some (eT (.ap a b c ts)), some (.int s)] S = _
          rw [seq_ifF (by rw [htest, e1]), seq_skip]
          have z := e_args (S := S) (l := [x0, x1, some (eT (.ap a b c ts)), some (.int s)]) (i := 2) rfl
          have hz : atI (ts.map eT) s = some (eT u) := by
            rw [atI_nn (by omega), List.getElem?_map, hg]
            rfl
          unfold mSet
          have z2 : mOp ixF (mOp ixF (mVar 2) (mC (.int 1))) (mVar 3) [x0, x1, some (eT (.ap a b c ts)), some (.int s)] S = some (eT u, S) := by
            show ((mOp ixF (mVar 2) (mC (.int 1)) _ _).bind _) = _
            rw [z]
            simp only [Option.bind_some, mVar, List.getElem?_cons_zero, List.getElem?_cons_succ, ixF, hz]
          rw [z2]
          rfl
theorem r_at (t : Tm) (p : List Int) : run prog (k + 2) 26 [eT t, eP p] S = some (eO (atP t p), S) := by
  refine call_pure (hp 26 _ rfl) rfl ?_ (by cases atP t p <;> simp [eO, refLt_eT, refLt])
  show c_at (run prog (k + 1)) [some (eT t), some (eP p), none, none] S = _
  unfold c_at
  rw [seq_set (v := eT t) (S1 := S) rfl]
  have hs : mSrc (oD (mVar 1)) [some (eT t), some (eP p), some (eT t), none] S = some (⟨p.map D.int, fun _ => True⟩, S) := rfl
  obtain ⟨o', h⟩ := at_loop hp (k := k) (S := S) p t (some (eT t)) (some (eP p)) none
  show mSeq _ _ [some (eT t), some (eP p), some (eT t), none] S = _
  cases ha : atP t p with
  | some u =>
    rw [ha] at h
    rw [seq_nx ((for_of hs).trans h)]
    rfl
  | none =>
    rw [ha] at h
    rw [seq_rt ((for_of hs).trans h)]
    rfl
omit hp in
theorem app_of {o x : M} {l : Lo} {S : Sto} {r : Nat} {xs : List D} {d : D} (ho : o l S = some (.ref r, S)) (hr : S[r]? = some (.lst xs)) (hx : x l S = some (d, S)) (hlen : xs.length < 1000000) : mDrop (mApp o x) l S = some (.nx l, S.set r (.lst (xs ++ [d]))) := by
  simp only [mDrop, mApp, ho, hr, hx, Option.bind_some, if_pos hlen]
theorem r_steps {row : Int} (hrow : 0 ≤ row) (S : Sto) : ∃ p : List Int, p.length ≤ 4 ∧ (∀ s ∈ p, 0 ≤ s ∧ s < 4) ∧ run prog (k + 1) 28 [.int row] S = some (eP p, S) := by
  obtain ⟨many, hmany⟩ : ∃ many : Nat, row % 5 = many := ⟨(row % 5).toNat, by omega⟩
  obtain ⟨l', S', h1, row', ps, o, h2, h3, h4, h5, h6⟩ := forL_inv (ok := fun _ => True) (tg := mgN 2) (body := (mSeq (mSet 0 (mOp fDiv (mVar 0) (mC (.int 5))))
    (mDrop (mApp (mVar 1) (mOp fMod (mFn1 fInt (oD (mVar 0))) (mC (.int 4))))))) (fun j : Nat => D.int (0 + (j : Nat)))
    (fun dn l S' => ∃ (row' : Int) (ps : List Int) (o : Option D), 0 ≤ row' ∧ ps.length = dn.length ∧ (∀ s ∈ ps, 0 ≤ s ∧ s < 4) ∧ l = [some (.int row'), some (.ref S.length), o] ∧ S' = S ++ [.lst (ps.map D.int)]) (fun _ _ _ _ => trivial) (List.range many)
    (fun dn x rest l S' hall ⟨row', ps, o, h2, h3, h4, h5, h6⟩ => by
      subst h5 h6
      have hlen := congrArg List.length hall
      rw [List.length_range, List.length_append, List.length_cons] at hlen
      refine ⟨_, _, S ++ [.lst ((ps ++ [row' / 5 % 4]).map D.int)], rfl, ?_, row' / 5, ps ++ [row' / 5 % 4], some (.int (0 + (x : Nat))), by omega, by rw [List.length_append, List.length_append, h3]; rfl, ?_, rfl, rfl⟩
      · rw [seq_set (v := .int (row' / 5)) (S1 := S ++ [.lst (ps.map D.int)]) (by clear hmany hall hlen h3; walk_at "ev")]
        have z := app_of (o := mVar 1) (x := mOp fMod (mFn1 fInt (oD (mVar 0))) (mC (.int 4))) (l := [some (.int (row' / 5)), some (.ref S.length), some (.int (0 + (x : Nat)))]) (S := S ++ [.lst (ps.map D.int)]) (d := .int (row' / 5 % 4)) rfl last_get (by clear hmany hall hlen h3; walk_at "ev") (by rw [List.length_map]; omega)
        rw [last_set] at z
        rw [List.map_append]
        exact z
      · intro s hs
        rcases List.mem_append.mp hs with hs | hs
        · exact h4 s hs
        · rw [List.mem_singleton] at hs
          omega) (List.range many) [] [some (.int row), some (.ref S.length), none] (S ++ [.lst []]) rfl ⟨row, [], none, hrow, rfl, (fun _ h => by cases h), rfl, rfl⟩
  rw [List.length_range] at h3
  subst h5 h6
  refine ⟨ps, by omega, h4, ?_⟩
  refine run_more (T := [.lst (ps.map D.int)]) (hp 28 _ rfl) rfl ?_ (by rw [refLt_tup, refLtL_ints])
  show c__law_steps (run prog k) [some (.int row), none, none] S = _
  unfold c__law_steps
  rw [seq_set (v := .ref S.length) (S1 := S ++ [.lst []]) rfl]
  have hs : mRng1 (mOp fMod (mFn1 fInt (oD (mVar 0))) (mC (.int 5))) [some (.int row), some (.ref S.length), none] (S ++ [.lst []]) = some (⟨rangeD 0 many, fun _ => True⟩, S ++ [.lst []]) := rng1_of (by
    rw [← hmany]
    clear hmany h1 h3
    walk_at "ev") (by omega)
  refine (seq_nx ((for_of hs).trans h1)).trans ?_
  have hg := last_get (S := S) (c := .lst (ps.map D.int))
  clear h1 hs hmany h3
  walk_at "ev"
def pPl (q : List Int × Tm) : PyData := .tuple [.tuple (q.1.map PyData.int), pT q.2]
omit hp in
theorem snap_ePl {S : Sto} {n : Nat} {q : List Int × Tm} (h : 2 * q.2.hgt + 1 ≤ n) (h2 : 2 ≤ n) : snap (n + 1) S (ePl q) = some (pPl q) := by
  obtain ⟨n, rfl⟩ : ∃ n', n = n' + 2 := ⟨n - 2, by omega⟩
  unfold ePl pPl
  rw [snap_tup]
  simp only [allS, snap_eP, snap_eT q.2 h, Option.bind_some]
omit hp in
/-- two lists of places of one term -/
theorem fNe_plc {S : Sto} {t : Tm} {a b : Nat} (ht : t.hgt ≤ 90) (ha : S[a]? = some (.lst ((plc t).map ePl))) (hb : S[b]? = some (.lst ((plc t).map ePl))) : fNe (.d (.ref a)) (.d (.ref b)) S = some (.bl false, S) := by
  have h := allS_map (f := snap 189 S) ePl pPl (plc t) fun q hq => snap_ePl (by have := plc_path t q hq; omega) (by omega)
  exact fNe_same (snap_lst ha h) (snap_lst hb h)
omit hp in
theorem fNe_eO {S : Sto} {x : Option Tm} (hx : ∀ t, x = some t → t.hgt ≤ 90) : fNe (.d (eO x)) (.d (eO x)) S = some (.bl false, S) := by
  cases x with
  | none => exact fNe_same (p := .none) rfl rfl
  | some t =>
    show fNe (.d (eT t)) (.d (eT t)) S = _
    have := hx t rfl
    rw [fNe_tm (by omega) (by omega), teq_self]
    rfl
omit hp in
theorem atP_hgt : ∀ (p : List Int) (t u : Tm), atP t p = some u → u.hgt ≤ t.hgt
  | [], t, u, h => by
    unfold atP at h
    cases h
    omega
  | s :: p, .v i, u, h => by simp [atP] at h
  | s :: p, .ap a b c ts, u, h => by
    unfold atP at h
    split at h
    · obtain ⟨x, h1, h2⟩ := bind2 h
      have := hgts_mem (List.mem_of_getElem? h1)
      have := atP_hgt p x u h2
      rw [hgt_ap]
      omega
    · cases h
end
end Zi
set_option maxRecDepth 100000
set_option maxHeartbeats 1000000
/-! shared functions over terms: a term put at a place -/
namespace Zi
open PySem L2
local macro_rules | `(tactic| walk_at "ev") => `(tactic| (simp only [mSeq, mSet, mRet, mIfS, mIf, mOp, mOpO, mC, mVar, mBool, mFn1, oD, oN, oS, fLen, lenO, seqO, mSkip, fAdd, fMul, fI, fI0, fLt, fLe, fGt, fGe, fSub, fMod, fDiv, fInt, ixF, mNil, mCons, mTup, mCall, mLst, mAlloc, mIsN, mNotN, isNon, mNotT, mAndT, mOrT, mTru, truD, mAsg, mgTup, mgCons, mgNil, mgN, mLisc, mIsI, tyO, isTyB, mDrop, mAug, fIadd, mMax2, mAnd, mOr, mNot, fLtT, fTupc, mApp, mulC_r, mulC_l, divC_r, modC_r, atI_0, atI_1, atI_2, fEq_int, fNe_int, fEq_bl, mSrc, srcO, eT_v, eT_ap, eS, List.length_cons, List.length_nil, Option.bind_some, Option.map_some, List.map_cons, List.map_nil, List.cons_append, List.nil_append, List.replicate, List.getElem?_cons_zero, List.getElem?_cons_succ, List.set_cons_zero, List.set_cons_succ, if_true, decide_true, Int.reduceNeg, Int.reducePow, Int.reduceLT, Nat.reduceAdd, Nat.reduceSub, and_self, Nat.reduceLeDiff, Bool.false_eq_true, if_false, Bool.not_true, Bool.not_false, Int.reduceEq, decide_false, Bool.or_false, Bool.false_or, Bool.or_true, Bool.true_or, Bool.and_true, Bool.true_and, Bool.and_false, Bool.false_and, String.reduceEq, *]))
local macro_rules | `(tactic| walk_at "step") => `(tactic| (refine (Eq.trans (seq_set (by ((try walk_at "ev"); exact rfl))) ?_); simp only [List.set_cons_zero, List.set_cons_succ]))

def putP : Tm → List Int → Tm → Tm
  | _, [], n => n
  | .v i, _ :: _, _ => .v i
  | .ap a b c ts, s :: p, n => match ts[s.toNat]? with
    | some u => .ap a b c (ts.set s.toNat (putP u p n))
    | none => .ap a b c ts
theorem atP_cons {a b c : Int} {ts : List Tm} {s : Int} {p : List Int} {u : Tm} (hs : 0 ≤ s) (h : ts[s.toNat]? = some u) : atP (.ap a b c ts) (s :: p) = atP u p := by
  show (if 0 ≤ s then (ts[s.toNat]?).bind fun u => atP u p else none) = _
  rw [if_pos hs, h]
  rfl
theorem atP_bad {a b c : Int} {ts : List Tm} {s : Int} {p : List Int} (h : ts[s.toNat]? = none) : atP (.ap a b c ts) (s :: p) = none := by
  show (if 0 ≤ s then (ts[s.toNat]?).bind fun u => atP u p else none) = _
  split
  · rw [h]; rfl
  · rfl
theorem putP_cons {a b c : Int} {ts : List Tm} {s : Int} {p : List Int} {n u : Tm} (h : ts[s.toNat]? = some u) : putP (.ap a b c ts) (s :: p) n = .ap a b c (ts.set s.toNat (putP u p n)) := by
  show (match ts[s.toNat]? with
    | some u => Tm.ap a b c (ts.set s.toNat (putP u p n))
    | none => .ap a b c ts) = _
  rw [h]
theorem cases_at {t : Tm} {s : Int} {p : List Int} {x : Tm} (h : atP t (s :: p) = some x) : ∃ a b c ts u, t = .ap a b c ts ∧ 0 ≤ s ∧ ts[s.toNat]? = some u ∧ atP u p = some x := by
  cases t with
  | v i => simp [atP] at h
  | ap a b c ts =>
    have h' : (if 0 ≤ s then (ts[s.toNat]?).bind fun u => atP u p else none) = some x := h
    split at h'
    · rename_i hs
      obtain ⟨u, h1, h2⟩ := bind2 h'
      exact ⟨a, b, c, ts, u, rfl, hs, h1, h2⟩
    · cases h'
theorem at_putP (n : Tm) : ∀ (p : List Int) (t x : Tm), atP t p = some x → atP (putP t p n) p = some n
  | [], t, x, h => by simp [putP, atP]
  | s :: p, t, x, h => by
    obtain ⟨a, b, c, ts, u, rfl, hs, h1, h2⟩ := cases_at h
    rw [putP_cons h1]
    have hlt := (List.getElem?_eq_some_iff.mp h1).1
    rw [atP_cons hs (List.getElem?_set_self hlt)]
    exact at_putP n p u x h2
/-- beside the place all is as it was -/
theorem at_beside (n : Tm) : ∀ (p q : List Int) (t x : Tm), atP t p = some x → (∀ s ∈ q, 0 ≤ s) → ¬q.take p.length = p → ¬p.take q.length = q → atP (putP t p n) q = atP t q
  | [], q, t, x, h, hq, h1, h2 => absurd (by simp) h1
  | s :: p, [], t, x, h, hq, h1, h2 => absurd (by simp) h2
  | s :: p, r :: q, t, x, h, hq, h1, h2 => by
    obtain ⟨a, b, c, ts, u, rfl, hs, g1, g2⟩ := cases_at h
    have hr : 0 ≤ r := hq r (by simp)
    rw [putP_cons g1]
    have hlt := (List.getElem?_eq_some_iff.mp g1).1
    by_cases e : r = s
    · subst e
      rw [atP_cons hs (List.getElem?_set_self hlt), atP_cons hs g1]
      exact at_beside n p q u x g2 (fun y hy => hq y (List.mem_cons_of_mem _ hy)) (fun z => h1 (by simp [z])) (fun z => h2 (by simp [z]))
    · have hne : ¬s.toNat = r.toNat := by omega
      cases hx : ts[r.toNat]? with
      | none => rw [atP_bad hx, atP_bad (by rw [List.getElem?_set_ne hne]; exact hx)]
      | some w => rw [atP_cons hr hx, atP_cons hr (by rw [List.getElem?_set_ne hne]; exact hx)]
theorem putP_hgt (n : Tm) : ∀ (p : List Int) (t : Tm), (putP t p n).hgt ≤ t.hgt + n.hgt
  | [], t => by simp only [putP]; omega
  | s :: p, .v i => by simp only [putP]; omega
  | s :: p, .ap a b c ts => by
    cases h : ts[s.toNat]? with
    | none =>
      show Tm.hgt (match ts[s.toNat]? with
        | some u => Tm.ap a b c (ts.set s.toNat (putP u p n))
        | none => .ap a b c ts) ≤ _
      rw [h]
      simp only []
      omega
    | some u =>
      rw [putP_cons h, hgt_ap, hgt_ap]
      have h2 := putP_hgt n p u
      have h3 := hgts_mem (List.mem_of_getElem? h)
      have := hgts_le (ts := ts.set s.toNat (putP u p n)) (n := hgts ts + n.hgt) fun y hy => by
        rcases List.mem_or_eq_of_mem_set hy with z | z
        · have := hgts_mem z; omega
        · subst z; omega
      omega
/-! slices -/
theorem cut_take {α : Type} (xs : List α) (n : Nat) : cutD xs none (some (n : Int)) = xs.take n := by
  unfold cutD
  rw [HT.sIx_nat, HT.sIx_none, List.drop_zero, Nat.sub_zero]
  by_cases h : n ≤ xs.length
  · rw [Nat.min_eq_left h]
  · rw [Nat.min_eq_right (by omega), List.take_of_length_le (Nat.le_refl _), List.take_of_length_le (by omega)]
theorem cut_drop {α : Type} (xs : List α) (n : Nat) : cutD xs (some (n : Int)) none = xs.drop n := by
  unfold cutD
  rw [HT.sIx_nat, HT.sIx_none]
  by_cases h : n ≤ xs.length
  · rw [Nat.min_eq_left h, List.take_of_length_le (by rw [List.length_drop]; omega)]
  · rw [Nat.min_eq_right (by omega), List.drop_of_length_le (Nat.le_refl _), List.drop_of_length_le (by omega)]
    simp
theorem cut_tail {α : Type} (x : α) (xs : List α) : cutD (x :: xs) (some 1) none = xs := cut_drop (x :: xs) 1
theorem sizes_len : ∀ ts : List Tm, (ts.length : Int) ≤ sizes ts
  | [] => by simp [sizes]
  | t :: ts => by
    have h1 := size_pos t
    have h2 := sizes_len ts
    simp only [sizes, List.length_cons]; omega
section
variable {prog : Nat → Option Fb} (hp : ∀ j fb, lZl0[j]? = some fb → prog (0 + j) = some fb) {k : Nat} {S : Sto}
include hp
theorem r_putin (n : Tm) : ∀ (p : List Int) {k : Nat} (t x : Tm), p.length ≤ k → atP t p = some x → ∀ S, run prog (k + 1) 29 [eT t, eP p, eT n] S = some (eT (putP t p n), S)
  | [], k, t, x, hk, ha, S => by
    refine call_pure (hp 29 _ rfl) rfl ?_ (refLt_eT _)
    show c_put_inside (run prog k) [some (eT t), some (eP []), some (eT n), none, none] S = _
    unfold c_put_inside
    simp only [putP]
    generalize eT t = dt
    generalize eT n = dn
    rw [seq_ifT (S1 := S) (by simp only [eP, List.map_nil]; walk_at "ev"; rfl)]
    rfl
  | s :: p, k, t, x, hk, ha, S => by
    obtain ⟨a, b, c, ts, u, rfl, hs, h1, h2⟩ := cases_at ha
    rw [List.length_cons] at hk
    obtain ⟨k, rfl⟩ : ∃ k', k = k' + 1 := ⟨k - 1, by omega⟩
    have hlt := (List.getElem?_eq_some_iff.mp h1).1
    have ih := r_putin n p (k := k) u x (by omega) h2 (S ++ [.lst (ts.map eT)])
    rw [putP_cons h1]
    refine run_more (T := [.lst ((ts.set s.toNat (putP u p n)).map eT)]) (hp 29 _ rfl) rfl ?_ (refLt_eT _)
    show c_put_inside (run prog (k + 1)) [some (eT (.ap a b c ts)), some (eP (s :: p)), some (eT n), none, none] S = _
    unfold c_put_inside
    generalize eT n = dn at *
    rw [seq_ifF (S1 := S) (by simp only [eP, List.map_cons]; clear ih; walk_at "ev"; rfl), seq_skip]
    rw [seq_set (v := .int s) (S1 := S) (by simp only [eP, List.map_cons]; clear ih; walk_at "ev")]
    have hl := e_args (S := S) (l := [some (eT (.ap a b c ts)), some (eP (s :: p)), some dn, some (.int s), none]) (i := 0) rfl
    rw [seq_set (v := .ref S.length) (S1 := S ++ [.lst (ts.map eT)]) (by
      simp only [List.set_cons_zero, List.set_cons_succ, mAlloc, mLisc, oD, hl, Option.bind_some, seqO])]
    simp only [List.set_cons_zero, List.set_cons_succ]
    have hg := last_get (S := S) (c := .lst (ts.map eT))
    have hat : atI (ts.map eT) s = some (eT u) := by
      rw [atI_nn hs, List.getElem?_map, h1]
      rfl
    have hcut : cutD (D.int s :: p.map D.int) (some 1) none = p.map D.int := cut_tail _ _
    have hcall : mCall (run prog (k + 1) 29) (mCons (mOp ixF (mVar 4) (mVar 3)) (mCons (oS (mSl (mVar 1) (mSoI (mC (.int 1))) mNoI)) (mCons (mVar 2) mNil))) [some (eT (.ap a b c ts)), some (eP (s :: p)), some dn, some (.int s), some (.ref S.length)] (S ++ [.lst (ts.map eT)]) = some (eT (putP u p n), S ++ [.lst (ts.map eT)]) := by
      simp only [mCall, mCons, mNil, mOp, mVar, oS, mSl, mSoI, mNoI, mC, eP, List.map_cons, List.getElem?_cons_zero, List.getElem?_cons_succ, Option.bind_some, ixF, hg, hat, slF, hcut]
      exact ih
    have hix : ixN (ts.map eT).length s = some s.toNat := by
      unfold ixN
      rw [if_pos hs, if_pos (by rw [List.length_map]; omega)]
    have hset : (ts.map eT).set s.toNat (eT (putP u p n)) = (ts.set s.toNat (putP u p n)).map eT := by rw [List.map_set]
    rw [seq_nx (a := mSetI _ _ _) (l1 := [some (eT (.ap a b c ts)), some (eP (s :: p)), some dn, some (.int s), some (.ref S.length)]) (S1 := S ++ [.lst ((ts.set s.toNat (putP u p n)).map eT)]) (by
      unfold mSetI
      rw [hcall]
      simp only [Option.bind_some, mVar, List.getElem?_cons_zero, List.getElem?_cons_succ, setF, hg, hix, hset, last_set])]
    have hg2 := last_get (S := S) (c := .lst ((ts.set s.toNat (putP u p n)).map eT))
    clear hcall ih hl hset hix hcut hat hg
    generalize ts.set s.toNat (putP u p n) = us at *
    walk_at "ev"
theorem r_putat {n t : Tm} {p : List Int} (hk : p.length ≤ k) : run prog (k + 3) 30 [eT t, eP p, eT n] S = some (eT (match atP t p with | some _ => putP t p n | none => t), S) := by
  have z := r_at hp (k := k) (S := S) t p
  refine call_pure (hp 30 _ rfl) rfl ?_ (refLt_eT _)
  show c_put_at (run prog (k + 2)) [some (eT t), some (eP p), some (eT n)] S = _
  unfold c_put_at
  cases ha : atP t p with
  | none =>
    rw [ha] at z
    simp only [eO] at z
    generalize eT t = dt at *
    generalize eT n = dn at *
    rw [seq_ifT (S1 := S) (by walk_at "ev")]
    rfl
  | some x =>
    rw [ha] at z
    simp only [eO] at z
    have z4 : isNon (eT x) = false := by cases x <;> simp [eT, isNon]
    have y := r_putin hp n p (k := k + 1) t x (by omega) ha S
    generalize eT t = dt at *
    generalize eT n = dn at *
    generalize eT x = dx at *
    simp only []
    generalize eT (putP t p n) = dp at *
    rw [seq_ifF (S1 := S) (by clear y; simp only [mBool, mIsN, mCall, mCons, mNil, mVar, List.getElem?_cons_zero, List.getElem?_cons_succ, Option.bind_some, z, z4]), seq_skip]
    clear z
    simp only [mRet, mCall, mCons, mNil, mVar, List.getElem?_cons_zero, List.getElem?_cons_succ, Option.bind_some, y]
end
end Zi
set_option maxRecDepth 100000
set_option maxHeartbeats 1000000
/-! shared functions over literals and clauses -/
namespace Zi
open PySem L2
local macro_rules | `(tactic| walk_at "ev") => `(tactic| (simp only [mSeq, mSet, mRet, mIfS, mIf, mOp, mOpO, mC, mVar, mBool, mFn1, oD, oN, oS, fLen, lenO, seqO, mSkip, fAdd, fMul, fI, fI0, fLt, fLe, fGt, fGe, fSub, fMod, fDiv, fInt, ixF, mNil, mCons, mTup, mCall, mLst, mAlloc, mIsN, mNotN, isNon, mNotT, mAndT, mOrT, mTru, truD, mAsg, mgTup, mgCons, mgNil, mgN, mLisc, mIsI, tyO, isTyB, mDrop, mAug, fIadd, mMax2, mAnd, mOr, mNot, fLtT, fTupc, mApp, mulC_r, mulC_l, divC_r, modC_r, atI_0, atI_1, atI_2, fEq_int, fNe_int, fEq_bl, mSrc, srcO, eT_v, eT_ap, eS, List.length_cons, List.length_nil, Option.bind_some, Option.map_some, List.map_cons, List.map_nil, List.cons_append, List.nil_append, List.replicate, List.getElem?_cons_zero, List.getElem?_cons_succ, List.set_cons_zero, List.set_cons_succ, if_true, decide_true, Int.reduceNeg, Int.reducePow, Int.reduceLT, Nat.reduceAdd, Nat.reduceSub, and_self, Nat.reduceLeDiff, Bool.false_eq_true, if_false, Bool.not_true, Bool.not_false, Int.reduceEq, decide_false, Bool.or_false, Bool.false_or, Bool.or_true, Bool.true_or, Bool.and_true, Bool.true_and, Bool.and_false, Bool.false_and, String.reduceEq, *]))
local macro_rules | `(tactic| walk_at "step") => `(tactic| (refine (Eq.trans (seq_set (by ((try walk_at "ev"); exact rfl))) ?_); simp only [List.set_cons_zero, List.set_cons_succ]))

structure Lit where
  pos : Bool
  l : Tm
  r : Tm
def eL (x : Lit) : D := .tup [.bl x.pos, eT x.l, eT x.r]
theorem refLt_eL {n : Nat} (x : Lit) : refLt n (eL x) = true := by simp [eL, refLt, refLtL, refLt_eT]
theorem refLtL_eL {n : Nat} : ∀ xs : List Lit, refLtL n (xs.map eL) = true
  | [] => by simp [refLtL]
  | x :: xs => by simp [refLtL, refLt_eL, refLtL_eL xs]
def tTruth : Tm := .ap 0 0 0 []
/-- what the laws' literals keep -/
structure LitB (H : Nat) (B : Int) (x : Lit) : Prop where
  kl : KOk x.l
  kr : KOk x.r
  hl : x.l.hgt ≤ H
  hr : x.r.hgt ≤ H
  sl : x.l.size ≤ B
  sr : x.r.size ≤ B
def sameS (x y : Lit) : Bool := (teq x.l y.l && teq x.r y.r) || (teq x.l y.r && teq x.r y.l)
def good (x : Lit) : Bool := (x.l.ind' && x.r.ind') || (x.l.atomic && teq x.r tTruth)
theorem kok_term {d : Nat} {t : Tm} (h : TermOk d t) : KOk t := h.ok.imp (fun _ _ => trivial) (fun a b c n z => by
  have z1 := z.1
  simp only [SymT, fiveS, List.mem_cons, Prod.mk.injEq, List.not_mem_nil, or_false] at z1
  omega)
theorem kok_atom {d : Nat} {t : Tm} (h : AtomOk d t) : KOk t := h.ok.imp (fun _ _ => trivial) (fun a b c n z => by
  have z1 := z.1
  simp only [SymT, SymA, fiveS, sixA, List.mem_cons, Prod.mk.injEq, List.not_mem_nil, or_false] at z1
  omega)
theorem KOk.wd {t : Tm} (h : KOk t) : t.Wd 1000 := Tm.Ok.wd (fun a b c m z => z.2) h
theorem e_l0 {l : Lo} {S : Sto} {i : Nat} {x : Lit} (h : l[i]? = some (some (eL x))) : mOp ixF (mVar i) (mC (.int 0)) l S = some (.bl x.pos, S) := by
  simp only [eL] at h
  generalize eT x.l = a at *
  generalize eT x.r = b at *
  walk_at "ev"
theorem e_l1 {l : Lo} {S : Sto} {i : Nat} {x : Lit} (h : l[i]? = some (some (eL x))) : mOp ixF (mVar i) (mC (.int 1)) l S = some (eT x.l, S) := by
  simp only [eL] at h
  generalize eT x.l = a at *
  generalize eT x.r = b at *
  walk_at "ev"
theorem e_l2 {l : Lo} {S : Sto} {i : Nat} {x : Lit} (h : l[i]? = some (some (eL x))) : mOp ixF (mVar i) (mC (.int 2)) l S = some (eT x.r, S) := by
  simp only [eL] at h
  generalize eT x.l = a at *
  generalize eT x.r = b at *
  walk_at "ev"
theorem eqO_tm {a b : M} {l : Lo} {S : Sto} {t u : Tm} (ha : a l S = some (eT t, S)) (hb : b l S = some (eT u, S)) (h1 : t.hgt ≤ 94) (h2 : u.hgt ≤ 94) : mOpO fEq (oD a) (oD b) l S = some (.bl (teq t u), S) := by
  simp only [mOpO, oD, ha, hb, Option.bind_some, fEq_tm h1 h2]
theorem neO_tm {a b : M} {l : Lo} {S : Sto} {t u : Tm} (ha : a l S = some (eT t, S)) (hb : b l S = some (eT u, S)) (h1 : t.hgt ≤ 94) (h2 : u.hgt ≤ 94) : mOpO fNe (oD a) (oD b) l S = some (.bl (!teq t u), S) := by
  simp only [mOpO, oD, ha, hb, Option.bind_some, fNe_tm h1 h2]
theorem snap_truth {S : Sto} {n : Nat} : snap (n + 3) S k_TRUTH = some (pT tTruth) := by
  simp only [k_TRUTH, tTruth, snap, allS, Option.bind_some, pT, pTs]
theorem fEq_truth {S : Sto} {t : Tm} (h1 : t.hgt ≤ 94) : fEq (.d (eT t)) (.d k_TRUTH) S = some (.bl (teq t tTruth), S) := by
  unfold fEq fDat
  have z1 : snapO S (.d (eT t)) = some (pT t) := snap_eT t (n := 190) (by omega)
  have z2 : snapO S (.d k_TRUTH) = some (pT tTruth) := snap_truth (S := S) (n := 187)
  simp only [z1, z2, Option.bind_some, teq]
theorem eqO_truth {a : M} {l : Lo} {S : Sto} {t : Tm} (ha : a l S = some (eT t, S)) (h1 : t.hgt ≤ 94) : mOpO fEq (oD a) (oD (mC k_TRUTH)) l S = some (.bl (teq t tTruth), S) := by
  simp only [mOpO, oD, ha, mC, Option.bind_some, fEq_truth h1]
theorem bool_of {m : M} {l : Lo} {S : Sto} {b : Bool} (h : m l S = some (.bl b, S)) : mBool m l S = some (b, S) := by
  simp only [mBool, h, Option.bind_some]
theorem and_of {a b : M} {l : Lo} {S : Sto} {x y : Bool} (ha : a l S = some (.bl x, S)) (hb : b l S = some (.bl y, S)) : mAnd a b l S = some (.bl (x && y), S) := by
  cases x <;> simp [mAnd, ha, hb, truD]
theorem andT_of {a b : MT} {l : Lo} {S : Sto} {x y : Bool} (ha : a l S = some (x, S)) (hb : b l S = some (y, S)) : mAndT a b l S = some (x && y, S) := by
  cases x <;> simp [mAndT, ha, hb]
theorem orT_of {a b : MT} {l : Lo} {S : Sto} {x y : Bool} (ha : a l S = some (x, S)) (hb : b l S = some (y, S)) : mOrT a b l S = some (x || y, S) := by
  cases x <;> simp [mOrT, ha, hb]
theorem call1 {F : List D → Sto → Option (D × Sto)} {a : M} {l : Lo} {S : Sto} {d v : D} (ha : a l S = some (d, S)) (h : F [d] S = some (v, S)) : mCall F (mCons a mNil) l S = some (v, S) := by
  simp only [mCall, mCons, mNil, ha, Option.bind_some, h]
theorem call2 {F : List D → Sto → Option (D × Sto)} {a b : M} {l : Lo} {S : Sto} {d e v : D} (ha : a l S = some (d, S)) (hb : b l S = some (e, S)) (h : F [d, e] S = some (v, S)) : mCall F (mCons a (mCons b mNil)) l S = some (v, S) := by
  simp only [mCall, mCons, mNil, ha, hb, Option.bind_some, h]
theorem call3 {F : List D → Sto → Option (D × Sto)} {a b c : M} {l : Lo} {S : Sto} {d e f v : D} (ha : a l S = some (d, S)) (hb : b l S = some (e, S)) (hc : c l S = some (f, S)) (h : F [d, e, f] S = some (v, S)) : mCall F (mCons a (mCons b (mCons c mNil))) l S = some (v, S) := by
  simp only [mCall, mCons, mNil, ha, hb, hc, Option.bind_some, h]
theorem tup2 {a b : M} {l : Lo} {S : Sto} {d e : D} (ha : a l S = some (d, S)) (hb : b l S = some (e, S)) : mTup (mCons a (mCons b mNil)) l S = some (.tup [d, e], S) := by
  simp only [mTup, mCons, mNil, ha, hb, Option.bind_some]
  rw [if_pos (by simp)]
theorem tup3 {a b c : M} {l : Lo} {S : Sto} {d e f : D} (ha : a l S = some (d, S)) (hb : b l S = some (e, S)) (hc : c l S = some (f, S)) : mTup (mCons a (mCons b (mCons c mNil))) l S = some (.tup [d, e, f], S) := by
  simp only [mTup, mCons, mNil, ha, hb, hc, Option.bind_some]
  rw [if_pos (by simp)]
theorem var_of {l : Lo} {S : Sto} {i : Nat} {d : D} (h : l[i]? = some (some d)) : mVar i l S = some (d, S) := by
  simp only [mVar, h]
theorem ret_of {m : M} {l : Lo} {S S1 : Sto} {d : D} (h : m l S = some (d, S1)) : mRet m l S = some (.rt d, S1) := by
  simp only [mRet, h, Option.bind_some]
theorem if_ret {t : MT} {d : D} {b : Bool} {c : MS} {l : Lo} {S : Sto} {r : Option (Fl × Sto)} (ht : t l S = some (b, S)) (h1 : b = true → some (.rt d, S) = r) (h2 : b = false → c l S = r) : mSeq (mIfS t (mRet (mC d)) mSkip) c l S = r := by
  cases b with
  | true =>
    rw [seq_ifT ht]
    exact h1 rfl
  | false =>
    rw [seq_ifF ht, seq_skip]
    exact h2 rfl
section
variable {prog : Nat → Option Fb} (hp : ∀ j fb, lZl0[j]? = some fb → prog (0 + j) = some fb) {k : Nat} {S : Sto}
include hp
theorem r_side0 (x : Lit) : run prog (k + 1) 31 [eL x, .int 0] S = some (eT x.l, S) := by
  refine call_pure (hp 31 _ rfl) rfl ?_ (refLt_eT _)
  show c_side (run prog k) [some (eL x), some (.int 0)] S = _
  unfold c_side eL
  generalize eT x.l = a
  generalize eT x.r = b
  walk_at "ev"
  simp only [Int.add_zero, atI_1, Option.bind_some]
theorem r_side1 (x : Lit) : run prog (k + 1) 31 [eL x, .int 1] S = some (eT x.r, S) := by
  refine call_pure (hp 31 _ rfl) rfl ?_ (refLt_eT _)
  show c_side (run prog k) [some (eL x), some (.int 1)] S = _
  unfold c_side eL
  generalize eT x.l = a
  generalize eT x.r = b
  walk_at "ev"
  simp only [Int.reduceAdd, atI_2, Option.bind_some]
theorem r_with0 (x : Lit) (n : Tm) : run prog (k + 1) 32 [eL x, .int 0, eT n] S = some (eL ⟨x.pos, n, x.r⟩, S) := by
  refine call_pure (hp 32 _ rfl) rfl ?_ (refLt_eL _)
  show c_with_side (run prog k) [some (eL x), some (.int 0), some (eT n)] S = _
  unfold c_with_side
  rw [seq_ifT (S1 := S) (by walk_at "ev")]
  exact seq_rt (ret_of (tup3 (e_l0 (x := x) rfl) (var_of rfl) (e_l2 (x := x) rfl)))
theorem r_with1 (x : Lit) (n : Tm) : run prog (k + 1) 32 [eL x, .int 1, eT n] S = some (eL ⟨x.pos, x.l, n⟩, S) := by
  refine call_pure (hp 32 _ rfl) rfl ?_ (refLt_eL _)
  show c_with_side (run prog k) [some (eL x), some (.int 1), some (eT n)] S = _
  unfold c_with_side
  rw [seq_ifF (S1 := S) (by walk_at "ev"), seq_skip]
  exact ret_of (tup3 (e_l0 (x := x) rfl) (e_l1 (x := x) rfl) (var_of rfl))
theorem r_same_sides {x y : Lit} {H : Nat} {B : Int} (hH : H ≤ 94) (hx : LitB H B x) (hy : LitB H B y) : run prog (k + 1) 33 [eL x, eL y] S = some (.bl (sameS x y), S) := by
  have := hx.hl; have := hx.hr; have := hy.hl; have := hy.hr
  refine call_pure (hp 33 _ rfl) rfl ?_ (refLt_bl _)
  show c_same_sides (run prog k) [some (eL x), some (eL y)] S = _
  unfold c_same_sides
  refine if_ret (andT_of (bool_of (eqO_tm (e_l1 (x := x) rfl) (e_l1 (x := y) rfl) (by omega) (by omega))) (bool_of (eqO_tm (e_l2 (x := x) rfl) (e_l2 (x := y) rfl) (by omega) (by omega)))) (fun h => ?_) fun h => ?_
  · simp only [sameS, h, Bool.true_or]
  · simp only [sameS, h, Bool.false_or]
    exact ret_of (and_of (eqO_tm (e_l1 (x := x) rfl) (e_l2 (x := y) rfl) (by omega) (by omega)) (eqO_tm (e_l2 (x := x) rfl) (e_l1 (x := y) rfl) (by omega) (by omega)))
theorem r_same {x y : Lit} {H : Nat} {B : Int} (hH : H ≤ 94) (hx : LitB H B x) (hy : LitB H B y) : run prog (k + 2) 34 [eL x, eL y] S = some (.bl (decide (x.pos = y.pos) && sameS x y), S) := by
  refine call_pure (hp 34 _ rfl) rfl ?_ (refLt_bl _)
  show c_same (run prog (k + 1)) [some (eL x), some (eL y)] S = _
  unfold c_same
  refine ret_of (and_of ?_ (call2 (var_of rfl) (var_of rfl) (r_same_sides hp hH hx hy)))
  have z1 := e_l0 (S := S) (x := x) (l := [some (eL x), some (eL y)]) (i := 0) rfl
  have z2 := e_l0 (S := S) (x := y) (l := [some (eL x), some (eL y)]) (i := 1) rfl
  simp only [mOpO, oD, z1, z2, Option.bind_some, fEq_bl]
theorem r_lsame {x y : Lit} {H : Nat} {B : Int} (hH : H ≤ 94) (hx : LitB H B x) (hy : LitB H B y) : run prog (k + 1) 39 [eL x, eL y] S = some (.bl (decide (x.pos = y.pos) && sameS x y), S) := by
  have := hx.hl; have := hx.hr; have := hy.hl; have := hy.hr
  refine call_pure (hp 39 _ rfl) rfl ?_ (refLt_bl _)
  show c__law_same (run prog k) [some (eL x), some (eL y)] S = _
  unfold c__law_same
  have z1 := e_l0 (S := S) (x := x) (l := [some (eL x), some (eL y)]) (i := 0) rfl
  have z2 := e_l0 (S := S) (x := y) (l := [some (eL x), some (eL y)]) (i := 1) rfl
  refine if_ret (b := !decide (x.pos = y.pos)) (by simp only [mBool, mOpO, oD, z1, z2, Option.bind_some, fNe_bl]) (fun h => ?_) fun h => ?_
  · have h' : decide (x.pos = y.pos) = false := by simpa using h
    rw [h']
    rfl
  · have h' : decide (x.pos = y.pos) = true := by simpa using h
    rw [h', Bool.true_and]
    refine if_ret (andT_of (bool_of (eqO_tm (e_l1 (x := x) rfl) (e_l1 (x := y) rfl) (by omega) (by omega))) (bool_of (eqO_tm (e_l2 (x := x) rfl) (e_l2 (x := y) rfl) (by omega) (by omega)))) (fun h => ?_) fun h => ?_
    · simp only [sameS, h, Bool.true_or]
    · simp only [sameS, h, Bool.false_or]
      exact ret_of (and_of (eqO_tm (e_l1 (x := x) rfl) (e_l2 (x := y) rfl) (by omega) (by omega)) (eqO_tm (e_l2 (x := x) rfl) (e_l1 (x := y) rfl) (by omega) (by omega)))
theorem r_wfl {x : Lit} {B : Int} {H : Nat} (hx : LitB H B x) (hkH : H ≤ k) (hk : H ≤ 94) : run prog (k + 4) 35 [eL x] S = some (.bl (good x), S) := by
  have h1 := hx.hl; have h2 := hx.hr
  refine call_pure (hp 35 _ rfl) rfl ?_ (refLt_bl _)
  show c_is_well_formed_literal (run prog (k + 3)) [some (eL x)] S = _
  unfold c_is_well_formed_literal
  refine if_ret (andT_of (tru_call (call1 (e_l1 (x := x) rfl) (r_ind hp x.l (k := k + 1) (by omega) S))) (tru_call (call1 (e_l2 (x := x) rfl) (r_ind hp x.r (k := k + 1) (by omega) S)))) (fun h => ?_) fun h => ?_
  · simp only [good, h, Bool.true_or]
  · simp only [good, h, Bool.false_or]
    exact ret_of (and_of (call1 (e_l1 (x := x) rfl) (r_atomic hp hx.kl (by omega))) (eqO_truth (e_l2 (x := x) rfl) (by omega)))
theorem r_wf {xs : List Lit} {B : Int} {H : Nat} (hx : ∀ x ∈ xs, LitB H B x) (hkH : H ≤ k) (hk : H ≤ 94) : run prog (k + 5) 36 [.tup (xs.map eL)] S = some (.bl (xs.all good), S) := by
  refine call_pure (hp 36 _ rfl) rfl ?_ (refLt_bl _)
  show c_is_well_formed (run prog (k + 4)) [some (.tup (xs.map eL)), none] S = _
  unfold c_is_well_formed
  exact for_all_ret xs eL good (fun o => [some (.tup (xs.map eL)), o]) none (ok := fun _ => True) rfl trivial (fun _ _ => rfl) (fun x h => if_not (call1 (var_of rfl) (r_wfl hp (hx x h) hkH hk)))
theorem r_literal {d : Nat} (hd : d ≤ k) {row : Int} (hrow : 0 ≤ row) (S : Sto) : ∃ x row', LitB (d + 2) (bdT (d + 1)) x ∧ 0 ≤ row' ∧ run prog (k + 4) 37 [.int row, .int d] S = some (.tup [eL x, .int row'], S) := by
  obtain ⟨t0, w0, f0, g0, h0⟩ := r_atom hp d hd (show 0 ≤ row / 6 by omega) S
  obtain ⟨t1, w1, f1, g1, h1⟩ := r_term hp d (k := k + 1) (by omega) (show 0 ≤ row / 6 by omega) S
  obtain ⟨t2, w2, f2, g2, h2⟩ := r_term hp d (k := k + 1) (by omega) g1 S
  have hb := bdT_pos d
  have e1 : ∀ l : Lo, l[0]? = some (some (.int row)) → mOpO fEq (oD (mOp fMod (mFn1 fInt (oD (mVar 0))) (mC (.int 2)))) (oD (mC (.int 0))) l S = some (.bl (decide (row % 2 = 0)), S) := fun l h => by
    clear h0 h1 h2
    walk_at "ev"
  have b1 := f1.size
  have b2 := f2.size
  have hh1 := f1.hgt
  have hh2 := f2.hgt
  by_cases hk : row / 2 % 3 = 0
  · refine ⟨⟨decide (row % 2 = 0), t0, tTruth⟩, w0, ⟨kok_atom f0, .ap (by simp) (by simp), f0.hgt, by simp [tTruth, Tm.hgt, hgts], f0.size, by simp only [tTruth, Tm.size, sizes, bdT]; omega⟩, g0, ?_⟩
    refine call_pure (hp 37 _ rfl) rfl ?_ (by rw [refLt_tup, refLtL_cons, refLt_eL, refLtL_cons, refLt_int, refLtL_nil]; rfl)
    show c__law_literal (run prog (k + 3)) [some (.int row), some (.int d), none, none, none, none, none] S = _
    unfold c__law_literal
    rw [seq_set (e1 _ rfl)]
    rw [seq_set (v := .int (row / 2 % 3)) (S1 := S) (by clear h0 h1 h2 e1 hk; walk_at "ev"), seq_set (v := .int (row / 6)) (S1 := S) (by clear h0 h1 h2 e1 hk; walk_at "ev")]
    rw [seq_ifT (S1 := S) (by clear h0 h1 h2 e1; walk_at "ev"), seq_seq]
    rw [seq_set (v := .tup [eT t0, .int w0]) (S1 := S) (call2 (var_of rfl) (var_of rfl) h0)]
    simp only [List.set_cons_zero, List.set_cons_succ]
    clear h0 h1 h2 e1
    simp only [eL, tTruth, eT_ap, List.map_nil]
    generalize eT t0 = dt
    exact seq_rt (by walk_at "ev")
  · refine ⟨⟨decide (row % 2 = 0), t1, t2⟩, w2, ⟨kok_term f1, kok_term f2, show t1.hgt ≤ d + 2 by omega, show t2.hgt ≤ d + 2 by omega, show t1.size ≤ bdT (d + 1) by simp only [bdT]; omega, show t2.size ≤ bdT (d + 1) by simp only [bdT]; omega⟩, g2, ?_⟩
    refine call_pure (hp 37 _ rfl) rfl ?_ (by rw [refLt_tup, refLtL_cons, refLt_eL, refLtL_cons, refLt_int, refLtL_nil]; rfl)
    show c__law_literal (run prog (k + 3)) [some (.int row), some (.int d), none, none, none, none, none] S = _
    unfold c__law_literal
    rw [seq_set (e1 _ rfl)]
    rw [seq_set (v := .int (row / 2 % 3)) (S1 := S) (by clear h0 h1 h2 e1 hk; walk_at "ev"), seq_set (v := .int (row / 6)) (S1 := S) (by clear h0 h1 h2 e1 hk; walk_at "ev")]
    rw [seq_ifF (S1 := S) (by clear h0 h1 h2 e1; walk_at "ev"), seq_skip]
    rw [seq_set (v := .tup [eT t1, .int w1]) (S1 := S) (call2 (var_of rfl) (var_of rfl) h1)]
    simp only [List.set_cons_zero, List.set_cons_succ]
    rw [seq_set (v := .tup [eT t2, .int w2]) (S1 := S) (call2 (by
      clear h0 h1 h2 e1
      generalize eT t1 = dt
      walk_at "ev") (var_of rfl) h2)]
    simp only [List.set_cons_zero, List.set_cons_succ]
    clear h0 h1 h2 e1
    simp only [eL]
    generalize eT t1 = dt
    generalize eT t2 = du
    walk_at "ev"
theorem r_clause {d m : Nat} (hd : d ≤ k) (hm : m ≤ 100) {row : Int} (hrow : 0 ≤ row) (S : Sto) : ∃ xs : List Lit, xs.length ≤ 2 * m ∧ (∀ x ∈ xs, LitB (d + 2) (bdT (d + 1)) x) ∧ run prog (k + 5) 38 [.int row, .int m, .int d] S = some (.tup (xs.map eL), S) := by
  obtain ⟨many, hmany⟩ : ∃ many : Nat, row % ((m : Int) + 1) = many := ⟨(row % ((m : Int) + 1)).toNat, by have := Int.emod_nonneg row (show (m : Int) + 1 ≠ 0 by omega); omega⟩
  have hle : many ≤ m := by have := Int.emod_lt_of_pos row (show (0 : Int) < (m : Int) + 1 by omega); omega
  obtain ⟨l', S', h1, xs, row', o5, o6, h2, h3, h4, h5, h6, h7⟩ := forL_inv (ok := fun _ => True) (tg := mgN 5) (body := (mSeq (mSet 6 (mCall (run prog ((k+4)) 37) (mCons (mVar 0) (mCons (mVar 2) mNil))))
    (mSeq (mDrop (mApp (mVar 4) (mOp ixF (mVar 6) (mC (.int 0)))))
    (mSeq (mSet 0 (mOp ixF (mVar 6) (mC (.int 1))))
    (mIfS (mBool (mOpO fEq (oD (mOp fMod (mOp fDiv (mVar 0) (mC (.int 3))) (mC (.int 4)))) (oD (mC (.int 1))))) (mDrop (mApp (mVar 4) (mOp ixF (mVar 4) (mOp fMod (mFn1 fInt (oD (mVar 0))) (mFn1 fLen (oD (mVar 4))))))) mSkip))))) (fun j : Nat => D.int (0 + (j : Nat)))
    (fun dn l S' => ∃ (xs : List Lit) (row' : Int) (o5 o6 : Option D), 0 ≤ row' ∧ dn.length ≤ xs.length ∧ xs.length ≤ 2 * dn.length ∧ (∀ x ∈ xs, LitB (d + 2) (bdT (d + 1)) x) ∧ l = [some (.int row'), some (.int m), some (.int d), some (.int many), some (.ref S.length), o5, o6] ∧ S' = S ++ [.lst (xs.map eL)]) (fun _ _ _ _ => trivial) (List.range many)
    (fun dn j rest l S' hall ⟨xs, row', o5, o6, h2, h3, h4, h5, h6, h7⟩ => by
      subst h6 h7
      have hlen := congrArg List.length hall
      rw [List.length_range, List.length_append, List.length_cons] at hlen
      obtain ⟨x, row2, g1, g2, g3⟩ := r_literal hp (k := k) hd h2 (S ++ [.lst (xs.map eL)])
      have ho1 : ∀ y ∈ xs ++ [x], LitB (d + 2) (bdT (d + 1)) y := fun y hy => by
        rcases List.mem_append.mp hy with z | z
        · exact h5 y z
        · rw [List.mem_singleton] at z; subst z; exact g1
      have a1 := app_of (o := mVar 4) (x := mOp ixF (mVar 6) (mC (.int 0))) (l := [some (.int row'), some (.int m), some (.int d), some (.int many), some (.ref S.length), some (.int (0 + (j : Nat))), some (.tup [eL x, .int row2])]) (S := S ++ [.lst (xs.map eL)]) (d := eL x) rfl last_get (by
        simp only [mOp, mVar, mC, List.getElem?_cons_zero, List.getElem?_cons_succ, Option.bind_some, ixF, atI_0]) (by rw [List.length_map]; omega)
      rw [last_set, show xs.map eL ++ [eL x] = (xs ++ [x]).map eL by rw [List.map_append]; rfl] at a1
      have head : ∀ c : MS, mSeq (mSet 6 (mCall (run prog (k + 4) 37) (mCons (mVar 0) (mCons (mVar 2) mNil)))) (mSeq (mDrop (mApp (mVar 4) (mOp ixF (mVar 6) (mC (.int 0))))) (mSeq (mSet 0 (mOp ixF (mVar 6) (mC (.int 1)))) c)) [some (.int row'), some (.int m), some (.int d), some (.int many), some (.ref S.length), some (.int (0 + (j : Nat))), o6] (S ++ [.lst (xs.map eL)]) = c [some (.int row2), some (.int m), some (.int d), some (.int many), some (.ref S.length), some (.int (0 + (j : Nat))), some (.tup [eL x, .int row2])] (S ++ [.lst ((xs ++ [x]).map eL)]) := fun c => by
        rw [seq_set (call2 (var_of rfl) (var_of rfl) g3)]
        simp only [List.set_cons_zero, List.set_cons_succ]
        rw [seq_nx a1]
        rw [seq_set (v := .int row2) (S1 := S ++ [.lst ((xs ++ [x]).map eL)]) (by simp only [mOp, mVar, mC, List.getElem?_cons_zero, List.getElem?_cons_succ, Option.bind_some, ixF, atI_1])]
        simp only [List.set_cons_zero, List.set_cons_succ]
      have hg := last_get (S := S) (c := .lst ((xs ++ [x]).map eL))
      have hlx : (xs ++ [x]).length = xs.length + 1 := by simp
      generalize hxs : xs ++ [x] = ys at *
      have tst : (mBool (mOpO fEq (oD (mOp fMod (mOp fDiv (mVar 0) (mC (.int 3))) (mC (.int 4)))) (oD (mC (.int 1))))) [some (.int row2), some (.int m), some (.int d), some (.int many), some (.ref S.length), some (.int (0 + (j : Nat))), some (.tup [eL x, .int row2])] (S ++ [.lst (ys.map eL)]) = some (decide (row2 / 3 % 4 = 1), S ++ [.lst (ys.map eL)]) := by
        clear hmany hall hlen a1 head g3 hg hrow hle h2 h3 h4 hlx
        generalize eL x = dx
        generalize (0 : Int) + (j : Nat) = jj
        walk_at "ev"
      by_cases hr : row2 / 3 % 4 = 1
      · have hpos : 0 < ((ys.length : Nat) : Int) := by omega
        have e1 := Int.emod_nonneg row2 (show ((ys.length : Nat) : Int) ≠ 0 by omega)
        have e2 := Int.emod_lt_of_pos row2 hpos
        obtain ⟨y, z1, z2⟩ := atI_lt (xs := ys.map eL) e1 (by rw [List.length_map]; exact e2)
        obtain ⟨q, z3, rfl⟩ := List.mem_map.mp z2
        have hmod : modC row2 ((ys.length : Nat) : Int) = true := modC_r hpos
        have a2 := app_of (o := mVar 4) (x := mOp ixF (mVar 4) (mOp fMod (mFn1 fInt (oD (mVar 0))) (mFn1 fLen (oD (mVar 4))))) (l := [some (.int row2), some (.int m), some (.int d), some (.int many), some (.ref S.length), some (.int (0 + (j : Nat))), some (.tup [eL x, .int row2])]) (S := S ++ [.lst (ys.map eL)]) (d := eL q) rfl hg (by
          simp only [mOp, mVar, mFn1, oD, List.getElem?_cons_zero, List.getElem?_cons_succ, Option.bind_some, fInt, fLen, lenO, seqO, hg, List.length_map, fMod, fI]
          rw [if_pos hmod]
          simp only [Option.bind_some, ixF, hg, z1]) (by rw [List.length_map]; omega)
        rw [last_set, show ys.map eL ++ [eL q] = (ys ++ [q]).map eL by rw [List.map_append]; rfl] at a2
        refine ⟨_, [some (.int row2), some (.int m), some (.int d), some (.int many), some (.ref S.length), some (.int (0 + (j : Nat))), some (.tup [eL x, .int row2])], S ++ [.lst ((ys ++ [q]).map eL)], rfl, (head _).trans ?_, ys ++ [q], row2, _, _, g2, by simp only [List.length_append, List.length_singleton]; omega, by simp only [List.length_append, List.length_singleton]; omega, ?_, rfl, rfl⟩
        · rw [decide_eq_true hr] at tst
          unfold mIfS
          rw [tst]
          exact a2
        · intro y hy
          rcases List.mem_append.mp hy with z | z
          · exact ho1 y z
          · rw [List.mem_singleton] at z; subst z; exact ho1 _ z3
      · refine ⟨_, [some (.int row2), some (.int m), some (.int d), some (.int many), some (.ref S.length), some (.int (0 + (j : Nat))), some (.tup [eL x, .int row2])], S ++ [.lst (ys.map eL)], rfl, (head _).trans ?_, ys, row2, _, _, g2, by simp only [List.length_append, List.length_singleton]; omega, by simp only [List.length_append, List.length_singleton]; omega, ho1, rfl, rfl⟩
        rw [decide_eq_false hr] at tst
        unfold mIfS
        rw [tst]
        rfl) (List.range many) [] [some (.int (row / ((m : Int) + 1))), some (.int m), some (.int d), some (.int many), some (.ref S.length), none, none] (S ++ [.lst []]) rfl ⟨[], _, none, none, Int.ediv_nonneg hrow (by omega), by simp, by simp, (fun _ h => by cases h), rfl, rfl⟩
  rw [List.length_range] at h4
  subst h6 h7
  refine ⟨xs, by omega, h5, ?_⟩
  refine run_more (T := [.lst (xs.map eL)]) (hp 38 _ rfl) rfl ?_ (by rw [refLt_tup]; exact refLtL_eL _)
  show c__law_clause (run prog (k + 4)) [some (.int row), some (.int m), some (.int d), none, none, none, none] S = _
  unfold c__law_clause
  have hmod : modC row ((m : Int) + 1) = true := modC_r (by omega)
  have hdiv : divC row ((m : Int) + 1) = true := by
    refine divC_r ⟨by omega, ?_⟩
    have : (m : Int) + 1 ≤ 1000 := by omega
    exact Int.lt_of_le_of_lt this (by decide)
  rw [seq_set (v := .int many) (S1 := S) (by
    rw [← hmany]
    simp only [mOp, mVar, mC, mFn1, oD, List.getElem?_cons_zero, List.getElem?_cons_succ, Option.bind_some, fInt, fAdd, fMod, fI]
    rw [if_pos hmod])]
  rw [seq_set (v := .int (row / ((m : Int) + 1))) (S1 := S) (by
    simp only [mOp, mVar, mC, List.set_cons_zero, List.set_cons_succ, List.getElem?_cons_zero, List.getElem?_cons_succ, Option.bind_some, fAdd, fDiv, fI]
    rw [if_pos hdiv])]
  rw [seq_set (v := .ref S.length) (S1 := S ++ [.lst []]) (by rfl)]
  simp only [List.set_cons_zero, List.set_cons_succ]
  refine (seq_nx ((for_of (rng1_of (n := many) rfl (by omega))).trans h1)).trans ?_
  have hg := last_get (S := S) (c := .lst (xs.map eL))
  simp only [mRet, mFn1, oD, mVar, List.getElem?_cons_zero, List.getElem?_cons_succ, Option.bind_some, fTupc, seqO, hg]
end
end Zi
set_option maxRecDepth 100000
/-! shared functions: what they compute -/
namespace Zi
open PySem L2
/-- 1000 0 term, 1 substitution, 2 part -/
noncomputable def c_put (G : GF) : MS := (mSeq (mIfS (mTru (mCall (G 3) (mCons (mVar 0) mNil))) (mRet (mGet2 (mVar 1) (mVar 0) (mVar 0))) mSkip)
    (mRet (mTup (mCons (mOp ixF (mVar 0) (mC (.int 0))) (mCons (mFn1 fTupc (oN (mComp (mSrc (oD (mOp ixF (mVar 0) (mC (.int 1))))) [2] (mgN 2) mYes (mCall (G 1000) (mCons (mVar 2) (mCons (mVar 1) mNil)))))) mNil)))))
/-- 1001 0 literal, 1 substitution -/
def c_put_literal (G : GF) : MS := (mRet (mTup (mCons (mOp ixF (mVar 0) (mC (.int 0))) (mCons (mCall (G 1000) (mCons (mOp ixF (mVar 0) (mC (.int 1))) (mCons (mVar 1) mNil))) (mCons (mCall (G 1000) (mCons (mOp ixF (mVar 0) (mC (.int 2))) (mCons (mVar 1) mNil))) mNil)))))
/-- 1002 0 clause, 1 substitution, 2 literal -/
noncomputable def c_put_clause (G : GF) : MS := (mRet (mFn1 fTupc (oN (mComp (mSrc (oD (mVar 0))) [2] (mgN 2) mYes (mCall (G 1001) (mCons (mVar 2) (mCons (mVar 1) mNil)))))))
/-- 1003 0 _law_row, 1 _law_deep, 2 _law_told, 3 _law_variable, 4 _law_found -/
noncomputable def c__law_substitution (G : GF) : MS := (mSeq (mSet 2 (mAlloc (mLst mNil)))
    (mSeq (mFor (mRng1 (mC (.int 3))) (mgN 3) (mSeq (mIfS (mBool (mOpO fNe (oD (mOp fMod (mFn1 fInt (oD (mVar 0))) (mC (.int 4)))) (oD (mC (.int 3))))) (mSeq (mSet 4 (mCall (G 12) (mCons (mOp fDiv (mVar 0) (mC (.int 4))) (mCons (mVar 1) mNil))))
    (mSeq (mDrop (mApp (mVar 2) (mTup (mCons (mVar 3) (mCons (mOp ixF (mVar 4) (mC (.int 0))) mNil)))))
    (mSet 0 (mOp ixF (mVar 4) (mC (.int 1)))))) mSkip)
    (mSet 0 (mOp fDiv (mVar 0) (mC (.int 4))))))
    (mRet (mVar 2))))
/-- 1004 0 _law_told, 1 _law_made, 2 _law_pair -/
noncomputable def c__law_dict (G : GF) : MS := (mSeq (mSet 1 (mDnewK))
    (mSeq (mFor (mSrc (oD (mVar 0))) (mgN 2) (mSetD (mVar 1) (mOp ixF (mVar 2) (mC (.int 0))) (mOp ixF (mVar 2) (mC (.int 1)))))
    (mRet (mVar 1))))
/-- 1005 0 _law_term_here, 1 _law_told, 2 _law_pair, 3 _law_part -/
noncomputable def c__law_put (G : GF) : MS := (mSeq (mIfS (mTru (mCall (G 14) (mCons (mVar 0) mNil))) (mSeq (mFor (mSrc (oD (mVar 1))) (mgN 2) (mIfS (mBool (mOpO fEq (oD (mOp ixF (mVar 2) (mC (.int 0)))) (oD (mVar 0)))) (mRet (mOp ixF (mVar 2) (mC (.int 1)))) mSkip))
    (mRet (mVar 0))) mSkip)
    (mRet (mTup (mCons (mOp ixF (mVar 0) (mC (.int 0))) (mCons (mFn1 fTupc (oN (mComp (mSrc (oD (mOp ixF (mVar 0) (mC (.int 1))))) [3] (mgN 3) mYes (mCall (G 1005) (mCons (mVar 3) (mCons (mVar 1) mNil)))))) mNil)))))
/-- 1006 0 _law_clause_here, 1 _law_told, 2 _law_one -/
noncomputable def c__law_put_clause (G : GF) : MS := (mRet (mFn1 fTupc (oN (mComp (mSrc (oD (mVar 0))) [2] (mgN 2) mYes (mTup (mCons (mOp ixF (mVar 2) (mC (.int 0))) (mCons (mCall (G 1005) (mCons (mOp ixF (mVar 2) (mC (.int 1))) (mCons (mVar 1) mNil))) (mCons (mCall (G 1005) (mCons (mOp ixF (mVar 2) (mC (.int 2))) (mCons (mVar 1) mNil))) mNil))))))))
/-- 1007 0 _law_told, 1 _law_key -/
noncomputable def c__law_pairs (G : GF) : MS := (mRet (mAlloc (mLockA 0 (mComp (mKeys (mVar 0)) [1] (mgN 1) mYes (mTup (mCons (mVar 1) (mCons (mOp ixX (mVar 0) (mVar 1)) mNil)))))))
noncomputable def lZl1 : List Fb := [mkFb 2 3 c_put,
  mkFb 2 2 c_put_literal,
  mkFb 2 3 c_put_clause,
  mkFb 2 5 c__law_substitution,
  mkFb 1 3 c__law_dict,
  mkFb 2 4 c__law_put,
  mkFb 2 3 c__law_put_clause,
  mkFb 1 2 c__law_pairs]
end Zi
set_option maxRecDepth 100000
set_option maxHeartbeats 1000000
/-! shared functions over terms: substitutions -/
namespace Zi
open PySem L2
local macro_rules | `(tactic| walk_at "ev") => `(tactic| (simp only [mSeq, mSet, mRet, mIfS, mIf, mOp, mOpO, mC, mVar, mBool, mFn1, oD, oN, oS, fLen, lenO, seqO, mSkip, fAdd, fMul, fI, fI0, fLt, fLe, fGt, fGe, fSub, fMod, fDiv, fInt, ixF, mNil, mCons, mTup, mCall, mLst, mAlloc, mIsN, mNotN, isNon, mNotT, mAndT, mOrT, mTru, truD, mAsg, mgTup, mgCons, mgNil, mgN, mLisc, mIsI, tyO, isTyB, mDrop, mAug, fIadd, mMax2, mAnd, mOr, mNot, fLtT, fTupc, mApp, mulC_r, mulC_l, divC_r, modC_r, atI_0, atI_1, atI_2, fEq_int, fNe_int, fEq_bl, mSrc, srcO, eT_v, eT_ap, eS, List.length_cons, List.length_nil, Option.bind_some, Option.map_some, List.map_cons, List.map_nil, List.cons_append, List.nil_append, List.replicate, List.getElem?_cons_zero, List.getElem?_cons_succ, List.set_cons_zero, List.set_cons_succ, if_true, decide_true, Int.reduceNeg, Int.reducePow, Int.reduceLT, Nat.reduceAdd, Nat.reduceSub, and_self, Nat.reduceLeDiff, Bool.false_eq_true, if_false, Bool.not_true, Bool.not_false, Int.reduceEq, decide_false, Bool.or_false, Bool.false_or, Bool.or_true, Bool.true_or, Bool.and_true, Bool.true_and, Bool.and_false, Bool.false_and, String.reduceEq, *]))
local macro_rules | `(tactic| walk_at "step") => `(tactic| (refine (Eq.trans (seq_set (by ((try walk_at "ev"); exact rfl))) ?_); simp only [List.set_cons_zero, List.set_cons_succ]))

/-- a substitution's pairs, as a dict's -/
def eSub (s : List (Int × Tm)) : List (Key × D) := s.map fun p => (Sum.inl p.1, eT p.2)
def subOf (s : List (Int × Tm)) (i : Int) : Option Tm := (s.find? fun p => decide (p.1 = i)).map (·.2)
theorem valD_sub (i : Int) : ∀ s : List (Int × Tm), valD (eSub s) (.inl i) = (subOf s i).map eT
  | [] => rfl
  | (j, t) :: s => by
    have ih := valD_sub i s
    by_cases h : j = i
    · simp [eSub, valD, subOf, List.find?_cons, h]
    · simp only [eSub, valD, subOf, List.map_cons, List.find?_cons] at ih ⊢
      have h1 : decide ((Sum.inl j : Key) = Sum.inl i) = false := by simp [h]
      have h2 : decide (j = i) = false := by simp [h]
      simp only [h1, h2]
      exact ih
mutual
def Tm.put (s : List (Int × Tm)) : Tm → Tm
  | .v i => (subOf s i).getD (.v i)
  | .ap a b c ts => .ap a b c (puts s ts)
def puts (s : List (Int × Tm)) : List Tm → List Tm
  | [] => []
  | t :: ts => t.put s :: puts s ts
end
theorem puts_map (s : List (Int × Tm)) : ∀ ts, puts s ts = ts.map (Tm.put s)
  | [] => by simp [puts]
  | t :: ts => by simp [puts, puts_map s ts]
theorem put_ap (s : List (Int × Tm)) (a b c : Int) (ts : List Tm) : (Tm.ap a b c ts).put s = .ap a b c (ts.map (Tm.put s)) := by simp [Tm.put, puts_map]
section
variable {prog : Nat → Option Fb} (hp : ∀ j fb, lZl0[j]? = some fb → prog (0 + j) = some fb) (hp1 : ∀ j fb, lZl1[j]? = some fb → prog (1000 + j) = some fb) {k : Nat} {S : Sto}
include hp hp1
theorem r_put {s : List (Int × Tm)} {r : Nat} (t : Tm) : ∀ {k : Nat}, t.hgt ≤ k → t.Wd 1000 → ∀ S, S[r]? = some (.dK (eSub s)) → run prog (k + 2) 1000 [eT t, .ref r] S = some (eT (t.put s), S) := by
  induction t using Tm.ind with
  | hv i =>
    intro k hk hw S hr
    refine call_pure (hp1 0 _ rfl) rfl ?_ (refLt_eT _)
    show c_put (run prog (k + 1)) [some (eT (.v i)), some (.ref r), none] S = _
    unfold c_put
    rw [seq_ifT (S1 := S) (t_isv hp (t := .v i) rfl)]
    refine seq_rt (ret_of ?_)
    have h1 := valD_sub i s
    simp only [mGet2, mVar, List.getElem?_cons_zero, List.getElem?_cons_succ, Option.bind_some, isDO, gotD, dkO, hr, eT_v, keyD, h1, Option.isSome_some, Bool.true_or, if_true]
    simp only [Tm.put]
    cases subOf s i <;> simp [eT_v]
  | ha a b c ts ih =>
    intro k hk hw S hr
    rw [hgt_ap] at hk
    obtain ⟨k, rfl⟩ : ∃ k', k = k' + 1 := ⟨k - 1, by omega⟩
    refine call_pure (hp1 0 _ rfl) rfl ?_ (refLt_eT _)
    show c_put (run prog (k + 2)) [some (eT (.ap a b c ts)), some (.ref r), none] S = _
    cases hw with
    | ap hw1 hw2 =>
    have h2 := fun t ht => ih t ht (k := k) (Nat.le_trans (hgts_mem ht) (by omega)) (hw2 t ht) S hr
    clear ih
    unfold c_put
    rw [seq_ifF (S1 := S) (t_isv hp (t := .ap a b c ts) rfl), seq_skip, put_ap]
    have hc := (comp_of (vs := [2]) (tg := mgN 2) (c := mYes) (elt := mCall (run prog (k + 2) 1000) (mCons (mVar 2) (mCons (mVar 1) mNil))) (src_args (S := S) (l := [some (eT (.ap a b c ts)), some (.ref r), none]) (i := 0) rfl) (by rw [List.length_map]; omega)).trans (compL_map eT (fun t => eT (t.put s)) trivial ts (fun x hx => ⟨_, rfl, call2 (var_of rfl) (var_of rfl) (h2 x hx)⟩))
    have e1 : (ts.map fun t => eT (t.put s)) = (ts.map (Tm.put s)).map eT := by rw [List.map_map]; rfl
    rw [e1] at hc
    simp only [eT_ap, eS] at hc
    clear e1 h2 hw1 hw2 hk hr
    walk_at "ev"
theorem r_putlit {s : List (Int × Tm)} {r : Nat} {x : Lit} (h1 : x.l.hgt ≤ k) (h2 : x.r.hgt ≤ k) (w1 : x.l.Wd 1000) (w2 : x.r.Wd 1000) (hr : S[r]? = some (.dK (eSub s))) : run prog (k + 3) 1001 [eL x, .ref r] S = some (eL ⟨x.pos, x.l.put s, x.r.put s⟩, S) := by
  refine call_pure (hp1 1 _ rfl) rfl ?_ (refLt_eL _)
  show c_put_literal (run prog (k + 2)) [some (eL x), some (.ref r)] S = _
  unfold c_put_literal
  exact ret_of (tup3 (e_l0 (x := x) rfl) (call2 (e_l1 (x := x) rfl) (var_of rfl) (r_put hp hp1 x.l h1 w1 S hr)) (call2 (e_l2 (x := x) rfl) (var_of rfl) (r_put hp hp1 x.r h2 w2 S hr)))
def putL (s : List (Int × Tm)) (x : Lit) : Lit := ⟨x.pos, x.l.put s, x.r.put s⟩
theorem r_putcl {s : List (Int × Tm)} {r : Nat} {xs : List Lit} (hn : xs.length ≤ 1000) (hx : ∀ x ∈ xs, x.l.hgt ≤ k ∧ x.r.hgt ≤ k ∧ x.l.Wd 1000 ∧ x.r.Wd 1000) (hr : S[r]? = some (.dK (eSub s))) : run prog (k + 4) 1002 [.tup (xs.map eL), .ref r] S = some (.tup ((xs.map (putL s)).map eL), S) := by
  refine call_pure (hp1 2 _ rfl) rfl ?_ (by rw [refLt_tup, refLtL_eL])
  show c_put_clause (run prog (k + 3)) [some (.tup (xs.map eL)), some (.ref r), none] S = _
  unfold c_put_clause
  have hs : mSrc (oD (mVar 0)) [some (.tup (xs.map eL)), some (.ref r), none] S = some (⟨xs.map eL, fun _ => True⟩, S) := rfl
  have hc := (comp_of (vs := [2]) (tg := mgN 2) (c := mYes) (elt := mCall (run prog (k + 3) 1001) (mCons (mVar 2) (mCons (mVar 1) mNil))) hs (by rw [List.length_map]; omega)).trans (compL_map eL (fun x => eL (putL s x)) trivial xs (fun x h => ⟨_, rfl, call2 (var_of rfl) (var_of rfl) (r_putlit hp hp1 (hx x h).1 (hx x h).2.1 (hx x h).2.2.1 (hx x h).2.2.2 hr)⟩))
  have e1 : (xs.map fun x => eL (putL s x)) = (xs.map (putL s)).map eL := by rw [List.map_map]; rfl
  rw [e1] at hc
  simp only [mRet, mFn1, oN, hc, Option.bind_some, fTupc, seqO]
def ePr (p : Int × Tm) : D := .tup [.int p.1, eT p.2]
omit hp hp1 in
theorem sub_loop {ok : Sto → Prop} (hok : ok S) (G : GF) (i : Int) (x1 x3 : Option D) : ∀ (s : List (Int × Tm)) (o : Option D), ∃ o', forL ok (mgN 2) (mIfS (mBool (mOpO fEq (oD (mOp ixF (mVar 2) (mC (.int 0)))) (oD (mVar 0)))) (mRet (mOp ixF (mVar 2) (mC (.int 1)))) mSkip) (s.map ePr) [some (.int i), x1, o, x3] S =
    match subOf s i with
    | some u => some (.rt (eT u), S)
    | none => some (.nx [some (.int i), x1, o', x3], S)
  | [], o => ⟨o, by rw [List.map_nil, forL_nil hok]; rfl⟩
  | q :: s, o => by
    obtain ⟨o', ih⟩ := sub_loop hok G i x1 x3 s (some (ePr q))
    refine ⟨o', ?_⟩
    have ht : mBool (mOpO fEq (oD (mOp ixF (mVar 2) (mC (.int 0)))) (oD (mVar 0))) [some (.int i), x1, some (ePr q), x3] S = some (decide (q.1 = i), S) := by
      simp only [ePr]
      walk_at "ev"
    by_cases h : q.1 = i
    · rw [decide_eq_true h] at ht
      rw [List.map_cons, forL_rt (r := eT q.2) (S1 := S) hok rfl (by
        show mIfS _ _ _ [some (.int i), x1, some (ePr q), x3] S = _
        unfold mIfS
        rw [ht]
        rfl)]
      simp [subOf, List.find?_cons, h]
    · rw [decide_eq_false h] at ht
      rw [List.map_cons, forL_nx (l2 := [some (.int i), x1, some (ePr q), x3]) (S1 := S) hok rfl (by
        show mIfS _ _ _ [some (.int i), x1, some (ePr q), x3] S = _
        unfold mIfS
        rw [ht]
        rfl), ih]
      simp [subOf, List.find?_cons, h]
theorem r_lput {s : List (Int × Tm)} {r : Nat} (t : Tm) : ∀ {k : Nat}, t.hgt ≤ k → t.Wd 1000 → ∀ S, S[r]? = some (.lst (s.map ePr)) → run prog (k + 2) 1005 [eT t, .ref r] S = some (eT (t.put s), S) := by
  induction t using Tm.ind with
  | hv i =>
    intro k hk hw S hr
    refine call_pure (hp1 5 _ rfl) rfl ?_ (refLt_eT _)
    show c__law_put (run prog (k + 1)) [some (eT (.v i)), some (.ref r), none, none] S = _
    unfold c__law_put
    rw [seq_ifT (S1 := S) (t_lisv hp (t := .v i) rfl), seq_seq]
    have hs : mSrc (oD (mVar 1)) [some (.int i), some (.ref r), none, none] S = some (⟨s.map ePr, fun S' => S'[r]? = some (.lst (s.map ePr))⟩, S) := by
      simp only [mSrc, oD, mVar, List.getElem?_cons_zero, List.getElem?_cons_succ, Option.bind_some, srcO, hr]
    obtain ⟨o', h⟩ := sub_loop (ok := fun S' => S'[r]? = some (.lst (s.map ePr))) hr (run prog (k + 1)) i (some (.ref r)) none s none
    simp only [eT_v, Tm.put]
    cases ha : subOf s i with
    | some u =>
      rw [ha] at h
      rw [seq_rt ((for_of hs).trans h)]
      rfl
    | none =>
      rw [ha] at h
      rw [seq_nx ((for_of hs).trans h)]
      simp only [Option.getD_none, eT_v]
      rfl
  | ha a b c ts ih =>
    intro k hk hw S hr
    rw [hgt_ap] at hk
    obtain ⟨k, rfl⟩ : ∃ k', k = k' + 1 := ⟨k - 1, by omega⟩
    refine call_pure (hp1 5 _ rfl) rfl ?_ (refLt_eT _)
    show c__law_put (run prog (k + 2)) [some (eT (.ap a b c ts)), some (.ref r), none, none] S = _
    cases hw with
    | ap hw1 hw2 =>
    have h2 := fun t ht => ih t ht (k := k) (Nat.le_trans (hgts_mem ht) (by omega)) (hw2 t ht) S hr
    clear ih
    unfold c__law_put
    rw [seq_ifF (S1 := S) (t_lisv hp (t := .ap a b c ts) rfl), seq_skip, put_ap]
    have hc := (comp_of (vs := [3]) (tg := mgN 3) (c := mYes) (elt := mCall (run prog (k + 2) 1005) (mCons (mVar 3) (mCons (mVar 1) mNil))) (src_args (S := S) (l := [some (eT (.ap a b c ts)), some (.ref r), none, none]) (i := 0) rfl) (by rw [List.length_map]; omega)).trans (compL_map eT (fun t => eT (t.put s)) trivial ts (fun x hx => ⟨_, rfl, call2 (var_of rfl) (var_of rfl) (h2 x hx)⟩))
    have e1 : (ts.map fun t => eT (t.put s)) = (ts.map (Tm.put s)).map eT := by rw [List.map_map]; rfl
    rw [e1] at hc
    simp only [eT_ap, eS] at hc
    clear e1 h2 hw1 hw2 hk hr
    walk_at "ev"
theorem r_lputcl {s : List (Int × Tm)} {r : Nat} {xs : List Lit} (hn : xs.length ≤ 1000) (hx : ∀ x ∈ xs, x.l.hgt ≤ k ∧ x.r.hgt ≤ k ∧ x.l.Wd 1000 ∧ x.r.Wd 1000) (hr : S[r]? = some (.lst (s.map ePr))) : run prog (k + 3) 1006 [.tup (xs.map eL), .ref r] S = some (.tup ((xs.map (putL s)).map eL), S) := by
  refine call_pure (hp1 6 _ rfl) rfl ?_ (by rw [refLt_tup, refLtL_eL])
  show c__law_put_clause (run prog (k + 2)) [some (.tup (xs.map eL)), some (.ref r), none] S = _
  unfold c__law_put_clause
  have hs : mSrc (oD (mVar 0)) [some (.tup (xs.map eL)), some (.ref r), none] S = some (⟨xs.map eL, fun _ => True⟩, S) := rfl
  have hc := (comp_of (vs := [2]) (tg := mgN 2) (c := mYes) (elt := (mTup (mCons (mOp ixF (mVar 2) (mC (.int 0))) (mCons (mCall (run prog ((k+2)) 1005) (mCons (mOp ixF (mVar 2) (mC (.int 1))) (mCons (mVar 1) mNil))) (mCons (mCall (run prog ((k+2)) 1005) (mCons (mOp ixF (mVar 2) (mC (.int 2))) (mCons (mVar 1) mNil))) mNil))))) hs (by rw [List.length_map]; omega)).trans (compL_map eL (fun x => eL (putL s x)) trivial xs (fun x h => ⟨_, rfl, tup3 (e_l0 (x := x) rfl) (call2 (e_l1 (x := x) rfl) (var_of rfl) (r_lput hp hp1 x.l (hx x h).1 (hx x h).2.2.1 S hr)) (call2 (e_l2 (x := x) rfl) (var_of rfl) (r_lput hp hp1 x.r (hx x h).2.1 (hx x h).2.2.2 S hr))⟩))
  have e1 : (xs.map fun x => eL (putL s x)) = (xs.map (putL s)).map eL := by rw [List.map_map]; rfl
  rw [e1] at hc
  simp only [mRet, mFn1, oN, hc, Option.bind_some, fTupc, seqO]
omit hp hp1 in
theorem fin_cell {S T : Sto} {c : Cell} (hr : cellLt S.length c = true) : fin S (.ref S.length, S ++ c :: T) = (.ref S.length, S ++ [c]) := by
  unfold fin
  dsimp only
  rw [if_pos List.take_left, if_neg (by simp [refLt])]
  have e : (S ++ c :: T)[S.length]? = some c := last_get'
  simp only [e]
  rw [if_pos hr]
omit hp hp1 in
theorem refLt_eSub {n : Nat} : ∀ s : List (Int × Tm), refLtL n ((eSub s).map (·.2)) = true
  | [] => by simp [eSub, refLtL]
  | p :: s => by
    have := refLt_eSub (n := n) s
    show (refLt n (eT p.2) && refLtL n ((eSub s).map (·.2))) = true
    rw [refLt_eT, this]
    rfl
omit hp hp1 in
theorem putD_new {s : List (Int × Tm)} {i : Int} {t : Tm} (h : ∀ p ∈ s, p.1 ≠ i) : putD (eSub s) (.inl i) (eT t) = eSub (s ++ [(i, t)]) := by
  unfold putD
  rw [if_neg]
  · simp [eSub]
  · intro z
    rw [List.any_eq_true] at z
    obtain ⟨q, hq, e⟩ := z
    obtain ⟨p, hp, rfl⟩ := List.mem_map.mp hq
    simp only [decide_eq_true_eq, Sum.inl.injEq] at e
    exact h p hp e
omit hp in
theorem r_ldict {s : List (Int × Tm)} {r : Nat} (hd : (s.map (·.1)).Nodup) (hn : s.length ≤ 1000) (hr : S[r]? = some (.lst (s.map ePr))) : run prog (k + 1) 1004 [.ref r] S = some (.ref S.length, S ++ [.dK (eSub s)]) := by
  obtain ⟨l', S', h1, o, h2, h3⟩ := forL_inv (ok := fun S' => S'[r]? = some (.lst (s.map ePr))) (tg := mgN 2) (body := (mSetD (mVar 1) (mOp ixF (mVar 2) (mC (.int 0))) (mOp ixF (mVar 2) (mC (.int 1))))) ePr
    (fun dn l S' => ∃ o, l = [some (.ref r), some (.ref S.length), o] ∧ S' = S ++ [.dK (eSub dn)]) (fun _ _ _ ⟨_, _, g⟩ => by rw [g]; exact old_get hr) s
    (fun dn q rest l S' hall ⟨o, h2, h3⟩ => by
      subst h2 h3
      have hlen := congrArg List.length hall
      rw [List.length_append, List.length_cons] at hlen
      have hne : ∀ p ∈ dn, p.1 ≠ q.1 := fun p hp e => by
        rw [hall, List.map_append, List.map_cons, List.nodup_append] at hd
        exact hd.2.2 p.1 (List.mem_map_of_mem hp) q.1 (by simp) e
      refine ⟨_, _, S ++ [.dK (eSub (dn ++ [q]))], rfl, ?_, some (ePr q), rfl, rfl⟩
      have hg := last_get (S := S) (c := .dK (eSub dn))
      have hp2 := putD_new (t := q.2) hne
      have hle : (eSub dn).length < 1000000 := by unfold eSub; rw [List.length_map]; omega
      have hs := last_set (S := S) (c := .dK (eSub dn)) (d := .dK (eSub (dn ++ [q])))
      simp only [mSetD, mOp, mVar, mC, ePr, List.set_cons_zero, List.set_cons_succ, List.getElem?_cons_zero, List.getElem?_cons_succ, Option.bind_some, ixF, atI_0, atI_1, setDF, hg, keyD, if_pos hle, hp2, hs]) s [] [some (.ref r), some (.ref S.length), none] (S ++ [.dK []]) rfl ⟨none, rfl, rfl⟩
  subst h2 h3
  refine (run_step (hp1 4 _ rfl) rfl (d := .ref S.length) (S1 := S ++ [.dK (eSub s)]) ?_).trans (by rw [fin_cell (S := S) (T := []) (c := .dK (eSub s)) (refLt_eSub s)])
  show c__law_dict (run prog k) [some (.ref r), none, none] S = _
  unfold c__law_dict
  rw [seq_set (v := .ref S.length) (S1 := S ++ [.dK []]) rfl]
  simp only [List.set_cons_succ, List.set_cons_zero]
  have hs : mSrc (oD (mVar 0)) [some (.ref r), some (.ref S.length), none] (S ++ [.dK []]) = some (⟨s.map ePr, fun S' => S'[r]? = some (.lst (s.map ePr))⟩, S ++ [.dK []]) := by
    have := old_get (T := [.dK []]) hr
    simp only [mSrc, oD, mVar, List.getElem?_cons_zero, List.getElem?_cons_succ, Option.bind_some, srcO, this]
  rw [seq_nx ((for_of hs).trans h1)]
  rfl
omit hp hp1 in
theorem subOf_mem : ∀ {s : List (Int × Tm)} {p : Int × Tm}, (s.map (·.1)).Nodup → p ∈ s → subOf s p.1 = some p.2
  | q :: s, p, hd, h => by
    rw [List.map_cons, List.nodup_cons] at hd
    rcases List.mem_cons.mp h with e | e
    · subst e; simp [subOf, List.find?_cons]
    · have hne : ¬q.1 = p.1 := fun z => hd.1 (by rw [z]; exact List.mem_map_of_mem e)
      have ih := subOf_mem hd.2 e
      simp only [subOf, List.find?_cons, decide_eq_false hne] at ih ⊢
      exact ih
omit hp in
theorem r_lpairs {s : List (Int × Tm)} {r : Nat} (hd : (s.map (·.1)).Nodup) (hn : s.length ≤ 1000) (hr : S[r]? = some (.dK (eSub s))) : run prog (k + 1) 1007 [.ref r] S = some (.ref S.length, S ++ [.lst (s.map ePr)]) := by
  refine run_list (T := []) (hp1 7 _ rfl) rfl ?_ ?_
  · show c__law_pairs (run prog k) [some (.ref r), none] S = _
    unfold c__law_pairs
    have hl : (S.set r (.lk (eSub s)))[r]? = some (.lk (eSub s)) := set_get hr
    have hs : mKeys (mVar 0) [some (.ref r), none] (S.set r (.lk (eSub s))) = some (⟨s.map fun p => D.int p.1, fun S' => S'[r]? = some (.lk (eSub s))⟩, S.set r (.lk (eSub s))) := by
      simp only [mKeys, mVar, List.getElem?_cons_zero, Option.bind_some, hl]
      rw [show ((eSub s).map fun kv => keyOfD kv.1) = s.map fun p => D.int p.1 by unfold eSub; rw [List.map_map]; rfl]
    have hc := (comp_of (vs := [1]) (tg := mgN 1) (c := mYes) (elt := mTup (mCons (mVar 1) (mCons (mOp ixX (mVar 0) (mVar 1)) mNil))) hs (by rw [List.length_map]; omega)).trans (compL_map (fun p : Int × Tm => D.int p.1) ePr hl s (fun p h => ⟨_, rfl, tup2 (var_of rfl) (by
      have z := valD_sub p.1 s
      rw [subOf_mem hd h] at z
      simp only [wipeD, mOp, mVar, List.set_cons_zero, List.set_cons_succ, List.getElem?_cons_zero, List.getElem?_cons_succ, Option.bind_some, ixX, gotD, dkO, hl, keyD, z, Option.map_some])⟩))
    have hb : (S.set r (.lk (eSub s))).set r (.dK (eSub s)) = S := by rw [List.set_set, set_same hr]
    simp only [mRet, mAlloc, mLockA, List.getElem?_cons_zero, hr, hc, Option.bind_some, hl, hb, lockC, openC]
  · induction s with
    | nil => simp [refLtL]
    | cons q s ih => 
      have : ∀ s : List (Int × Tm), refLtL S.length (s.map ePr) = true := fun s => by
        induction s with
        | nil => simp [refLtL]
        | cons q s ih => simp [refLtL, ePr, refLt, refLt_eT, ih]
      exact this _
theorem r_lsub {d : Nat} (hd : d ≤ k) {row : Int} (hrow : 0 ≤ row) (S : Sto) : ∃ s : List (Int × Tm), (s.map (·.1)).Nodup ∧ s.length ≤ 3 ∧ (∀ p ∈ s, TermOk d p.2) ∧ run prog (k + 3) 1003 [.int row, .int d] S = some (.ref S.length, S ++ [.lst (s.map ePr)]) := by
  obtain ⟨l', S', h1, s, row', o3, o4, h2, h3, h4, h5, h6, h7⟩ := forL_inv (ok := fun _ => True) (tg := mgN 3) (body := (mSeq (mIfS (mBool (mOpO fNe (oD (mOp fMod (mFn1 fInt (oD (mVar 0))) (mC (.int 4)))) (oD (mC (.int 3))))) (mSeq (mSet 4 (mCall (run prog ((k+2)) 12) (mCons (mOp fDiv (mVar 0) (mC (.int 4))) (mCons (mVar 1) mNil))))
    (mSeq (mDrop (mApp (mVar 2) (mTup (mCons (mVar 3) (mCons (mOp ixF (mVar 4) (mC (.int 0))) mNil)))))
    (mSet 0 (mOp ixF (mVar 4) (mC (.int 1)))))) mSkip)
    (mSet 0 (mOp fDiv (mVar 0) (mC (.int 4)))))) (fun j : Nat => D.int (0 + (j : Nat)))
    (fun dn l S' => ∃ (s : List (Int × Tm)) (row' : Int) (o3 o4 : Option D), 0 ≤ row' ∧ (∀ p ∈ s, (0 ≤ p.1 ∧ p.1 < dn.length) ∧ TermOk d p.2) ∧ (s.map (·.1)).Nodup ∧ s.length ≤ dn.length ∧ l = [some (.int row'), some (.int d), some (.ref S.length), o3, o4] ∧ S' = S ++ [.lst (s.map ePr)]) (fun _ _ _ _ => trivial) (List.range 3)
    (fun dn x rest l S' hall ⟨s, row', o3, o4, h2, h3, h4, h5, h6, h7⟩ => by
      subst h6 h7
      have hx : x = dn.length ∧ x < 3 := by
        have z := congrArg (fun L => L[dn.length]?) hall
        simp only [List.getElem?_append_right (Nat.le_refl _), Nat.sub_self, List.getElem?_cons_zero] at z
        obtain ⟨z1, z2⟩ := List.getElem?_eq_some_iff.mp z
        rw [List.getElem_range] at z2
        rw [List.length_range] at z1
        omega
      obtain ⟨hx1, hx2⟩ := hx
      obtain ⟨t, w, g1, g2, g3⟩ := r_term hp d hd (show 0 ≤ row' / 4 by omega) (S ++ [.lst (s.map ePr)])
      have hlen : (s.map ePr).length < 1000000 := by rw [List.length_map]; omega
      have tst : ∀ o4 : Option D, (mBool (mOpO fNe (oD (mOp fMod (mFn1 fInt (oD (mVar 0))) (mC (.int 4)))) (oD (mC (.int 3))))) [some (.int row'), some (.int d), some (.ref S.length), some (.int (0 + (x : Nat))), o4] (S ++ [.lst (s.map ePr)]) = some (!decide (row' % 4 = 3), S ++ [.lst (s.map ePr)]) := fun o4 => by
        clear g3 hall h3 h4 h5 hx1
        generalize (0 : Int) + (x : Nat) = jj
        walk_at "ev"
      by_cases hr : row' % 4 = 3
      · refine ⟨_, [some (.int (row' / 4)), some (.int d), some (.ref S.length), some (.int (0 + (x : Nat))), o4], S ++ [.lst (s.map ePr)], rfl, ?_, s, row' / 4, _, _, by omega, fun p hp => ⟨by have := (h3 p hp).1; rw [List.length_append, List.length_singleton]; omega, (h3 p hp).2⟩, h4, by rw [List.length_append, List.length_singleton]; omega, rfl, rfl⟩
        have z := tst o4
        rw [decide_eq_true hr] at z
        refine (seq_ifF z).trans ?_
        rw [seq_skip]
        clear z tst g3
        generalize (0 : Int) + (x : Nat) = jj
        walk_at "ev"
      · refine ⟨_, [some (.int (w / 4)), some (.int d), some (.ref S.length), some (.int (0 + (x : Nat))), some (.tup [eT t, .int w])], S ++ [.lst ((s ++ [((0 : Int) + (x : Nat), t)]).map ePr)], rfl, ?_, s ++ [((0 : Int) + (x : Nat), t)], w / 4, _, _, by omega, ?_, ?_, by simp only [List.length_append, List.length_singleton]; omega, rfl, rfl⟩
        · have z := tst o4
          rw [decide_eq_false hr] at z
          refine (seq_ifT z).trans ?_
          rw [seq_seq]
          have hcall : mCall (run prog (k + 2) 12) (mCons (mOp fDiv (mVar 0) (mC (.int 4))) (mCons (mVar 1) mNil)) [some (.int row'), some (.int d), some (.ref S.length), some (.int (0 + (x : Nat))), o4] (S ++ [.lst (s.map ePr)]) = some (.tup [eT t, .int w], S ++ [.lst (s.map ePr)]) := call2 (d := .int (row' / 4)) (e := .int d) (by clear z tst g3; generalize (0 : Int) + (x : Nat) = jj; walk_at "ev") (var_of rfl) g3
          rw [seq_set hcall, seq_seq]
          simp only [List.set_cons_zero, List.set_cons_succ]
          have a1 := app_of (o := mVar 2) (x := mTup (mCons (mVar 3) (mCons (mOp ixF (mVar 4) (mC (.int 0))) mNil))) (l := [some (.int row'), some (.int d), some (.ref S.length), some (.int (0 + (x : Nat))), some (.tup [eT t, .int w])]) (S := S ++ [.lst (s.map ePr)]) (d := ePr (0 + (x : Nat), t)) rfl last_get (tup2 (var_of rfl) (by simp only [mOp, mVar, mC, List.getElem?_cons_zero, List.getElem?_cons_succ, Option.bind_some, ixF, atI_0])) hlen
          rw [last_set, show s.map ePr ++ [ePr (0 + (x : Nat), t)] = (s ++ [(0 + ((x : Nat) : Int), t)]).map ePr by rw [List.map_append]; rfl] at a1
          rw [seq_nx a1]
          generalize S ++ [Cell.lst ((s ++ [(0 + ((x : Nat) : Int), t)]).map ePr)] = S2
          rw [seq_set (v := .int w) (S1 := S2) (by simp only [mOp, mVar, mC, List.getElem?_cons_zero, List.getElem?_cons_succ, Option.bind_some, ixF, atI_1])]
          simp only [List.set_cons_zero, List.set_cons_succ]
          clear z tst g3 a1
          generalize eT t = dt
          generalize (0 : Int) + (x : Nat) = jj
          walk_at "ev"
        · intro p hp
          rcases List.mem_append.mp hp with e | e
          · exact ⟨by have := (h3 p e).1; rw [List.length_append, List.length_singleton]; omega, (h3 p e).2⟩
          · rw [List.mem_singleton] at e
            subst e
            exact ⟨by rw [List.length_append, List.length_singleton]; simp only []; omega, g1⟩
        · rw [List.map_append, List.nodup_append]
          refine ⟨h4, by simp, fun a ha b hb e => ?_⟩
          obtain ⟨p, hp, rfl⟩ := List.mem_map.mp ha
          have := (h3 p hp).1
          simp only [List.map_cons, List.map_nil, List.mem_singleton] at hb
          omega) (List.range 3) [] [some (.int row), some (.int d), some (.ref S.length), none, none] (S ++ [.lst []]) rfl ⟨[], row, none, none, hrow, (fun _ h => by cases h), by simp, by simp, rfl, rfl⟩
  rw [List.length_range] at h5
  subst h6 h7
  refine ⟨s, h4, h5, fun p hp => (h3 p hp).2, ?_⟩
  refine run_list (T := []) (hp1 3 _ rfl) rfl ?_ (by
    have : ∀ s : List (Int × Tm), refLtL S.length (s.map ePr) = true := fun s => by
      induction s with
      | nil => simp [refLtL]
      | cons q s ih => simp [refLtL, ePr, refLt, refLt_eT, ih]
    exact this _)
  show c__law_substitution (run prog (k + 2)) [some (.int row), some (.int d), none, none, none] S = _
  unfold c__law_substitution
  rw [seq_set (v := .ref S.length) (S1 := S ++ [.lst []]) rfl]
  simp only [List.set_cons_succ, List.set_cons_zero]
  have hs : mRng1 (mC (.int 3)) [some (.int row), some (.int d), some (.ref S.length), none, none] (S ++ [.lst []]) = some (⟨rangeD 0 3, fun _ => True⟩, S ++ [.lst []]) := rng1_of (n := 3) rfl (by omega)
  refine (seq_nx ((for_of hs).trans h1)).trans ?_
  rfl
end
/-! every variable raised -/
mutual
def Tm.shift (n : Int) : Tm → Tm
  | .v i => .v (i + n)
  | .ap a b c ts => .ap a b c (shiftsT n ts)
def shiftsT (n : Int) : List Tm → List Tm
  | [] => []
  | t :: ts => t.shift n :: shiftsT n ts
end
theorem shiftsT_map (n : Int) : ∀ ts, shiftsT n ts = ts.map (Tm.shift n)
  | [] => by simp [shiftsT]
  | t :: ts => by simp [shiftsT, shiftsT_map n ts]
theorem shiftT_ap (n a b c : Int) (ts : List Tm) : (Tm.ap a b c ts).shift n = .ap a b c (ts.map (Tm.shift n)) := by simp [Tm.shift, shiftsT_map]
mutual
theorem shiftT_hgt (n : Int) : ∀ t : Tm, (t.shift n).hgt = t.hgt
  | .v i => by simp [Tm.shift, Tm.hgt]
  | .ap a b c ts => by simp [Tm.shift, Tm.hgt, shiftsT_hgt n ts]
theorem shiftsT_hgt (n : Int) : ∀ ts : List Tm, hgts (shiftsT n ts) = hgts ts
  | [] => by simp [shiftsT]
  | t :: ts => by simp [shiftsT, hgts, shiftT_hgt n t, shiftsT_hgt n ts]
end
end Zi
set_option maxRecDepth 100000
set_option maxHeartbeats 1000000
/-! rules that go backwards, for terms and literals -/
namespace Zi
open PySem L2
section
variable {S : Sto} {Q : D → Sto → Prop} {a b c : Int} {ts : List Tm} {t u : Tm} {x y : Lit}
theorem wf_ixA0 (q : Q (eS a b c) S) : wp (ixF (eT (.ap a b c ts)) (.int 0) S) Q := by
  rw [eT_ap]
  exact wf_ixT atI_0 q
theorem wf_ixA1 (q : Q (.tup (ts.map eT)) S) : wp (ixF (eT (.ap a b c ts)) (.int 1) S) Q := by
  rw [eT_ap]
  exact wf_ixT atI_1 q
theorem wf_ixS0 (q : Q (.int a) S) : wp (ixF (eS a b c) (.int 0) S) Q := wf_ixT atI_0 q
theorem wf_ixS1 (q : Q (.int b) S) : wp (ixF (eS a b c) (.int 1) S) Q := wf_ixT atI_1 q
theorem wf_ixS2 (q : Q (.int c) S) : wp (ixF (eS a b c) (.int 2) S) Q := wf_ixT atI_2 q
theorem wf_ixL0 (q : Q (.bl x.pos) S) : wp (ixF (eL x) (.int 0) S) Q := wf_ixT atI_0 q
theorem wf_ixL1 (q : Q (eT x.l) S) : wp (ixF (eL x) (.int 1) S) Q := wf_ixT atI_1 q
theorem wf_ixL2 (q : Q (eT x.r) S) : wp (ixF (eL x) (.int 2) S) Q := wf_ixT atI_2 q
theorem wf_eqT (h1 : t.hgt ≤ 94) (h2 : u.hgt ≤ 94) (q : Q (.bl (teq t u)) S) : wp (fEq (.d (eT t)) (.d (eT u)) S) Q := wp_eq (fEq_tm h1 h2) q
theorem wf_neT (h1 : t.hgt ≤ 94) (h2 : u.hgt ≤ 94) (q : Q (.bl (!teq t u)) S) : wp (fNe (.d (eT t)) (.d (eT u)) S) Q := wp_eq (fNe_tm h1 h2) q
theorem isI_vi {K : Bool → Prop} (q : K t.isV) : tyK S (.d (eT t)) "int" K := by
  cases t with
  | v i => exact ⟨"int", by simp [eT, tyO], q⟩
  | ap a b c ts => exact ⟨"tuple", by simp [eT, tyO], q⟩
theorem isI_vb {K : Bool → Prop} (q : K false) : tyK S (.d (eT t)) "bool" K := by
  cases t with
  | v i => exact ⟨"int", by simp [eT, tyO], q⟩
  | ap a b c ts => exact ⟨"tuple", by simp [eT, tyO], q⟩
theorem isI_vt {K : Bool → Prop} (q : K (!t.isV)) : tyK S (.d (eT t)) "tuple" K := by
  cases t with
  | v i => exact ⟨"int", by simp [eT, tyO], q⟩
  | ap a b c ts => exact ⟨"tuple", by simp [eT, tyO], q⟩
/-- literals as data -/
def pL (x : Lit) : PyData := .tuple [.bool x.pos, pT x.l, pT x.r]
theorem snap_eL {n : Nat} (h1 : 2 * x.l.hgt + 2 ≤ n) (h2 : 2 * x.r.hgt + 2 ≤ n) : snap n S (eL x) = some (pL x) := by
  obtain ⟨n, rfl⟩ : ∃ m, n = m + 2 := ⟨n - 2, by omega⟩
  show (allS (snap (n + 1) S) [.bl x.pos, eT x.l, eT x.r]).bind _ = _
  simp only [allS, snap_bl, snap_eT x.l (n := n + 1) (by omega), snap_eT x.r (n := n + 1) (by omega), Option.bind_some, pL]
def leq (x y : Lit) : Bool := decide (x.pos = y.pos) && (teq x.l y.l && teq x.r y.r)
theorem leq_pL : PyData.eqv (pL x) (pL y) = leq x y := by
  simp only [pL, leq, PyData.eqv, PyData.eqvAll, teq, Bool.and_true]
  congr 1
theorem leq_iff {x y : Lit} : leq x y = true ↔ x = y := by
  cases x; cases y
  simp [leq, teq_iff]
theorem leq_self {x : Lit} : leq x x = true := leq_iff.mpr rfl
def lits (xs : List Lit) : D := .tup (xs.map eL)
def pLs (xs : List Lit) : PyData := .tuple (xs.map pL)
/-- no literal is deep -/
def low (n : Nat) (xs : List Lit) : Prop := ∀ x ∈ xs, x.l.hgt ≤ n ∧ x.r.hgt ≤ n
theorem snap_eLs {n m : Nat} {xs : List Lit} (h : low m xs) (hm : 2 * m + 3 ≤ n) : snap n S (.tup (xs.map eL)) = some (pLs xs) := by
  obtain ⟨n, rfl⟩ : ∃ k, n = k + 1 := ⟨n - 1, by omega⟩
  show (allS (snap n S) (xs.map eL)).bind _ = _
  rw [allS_map eL pL xs fun x hx => snap_eL (by have := (h x hx).1; omega) (by have := (h x hx).2; omega)]
  rfl
theorem eqvAll_pL : ∀ xs ys : List Lit, PyData.eqvAll (xs.map pL) (ys.map pL) = true ↔ xs = ys
  | [], [] => by simp [PyData.eqvAll]
  | [], _ :: _ => by simp [PyData.eqvAll]
  | _ :: _, [] => by simp [PyData.eqvAll]
  | x :: xs, y :: ys => by
    simp only [List.map_cons, PyData.eqvAll, Bool.and_eq_true, eqvAll_pL xs ys, leq_pL, leq_iff, List.cons.injEq]
def lseq (xs ys : List Lit) : Bool := PyData.eqv (pLs xs) (pLs ys)
theorem lseq_iff {xs ys : List Lit} : lseq xs ys = true ↔ xs = ys := by
  simp only [lseq, pLs, PyData.eqv]
  exact eqvAll_pL xs ys
theorem lseq_self {xs : List Lit} : lseq xs xs = true := lseq_iff.mpr rfl
theorem lseq_dec {xs ys : List Lit} [Decidable (xs = ys)] : lseq xs ys = decide (xs = ys) := by
  rw [Bool.eq_iff_iff, lseq_iff, decide_eq_true_eq]
theorem wf_eqLs {xs ys : List Lit} (h1 : low 90 xs) (h2 : low 90 ys) (q : Q (.bl (lseq xs ys)) S) : wp (fEq (.d (.tup (xs.map eL))) (.d (.tup (ys.map eL))) S) Q :=
  wp_eq (a := .bl (lseq xs ys)) (by
    show ((snap 190 S (.tup (xs.map eL))).bind fun p => (snap 190 S (.tup (ys.map eL))).bind fun q => some (D.bl (PyData.eqv p q), S)) = _
    rw [snap_eLs h1 (by omega), snap_eLs h2 (by omega)]
    rfl) q
theorem wf_neLs {xs ys : List Lit} (h1 : low 90 xs) (h2 : low 90 ys) (q : Q (.bl (!lseq xs ys)) S) : wp (fNe (.d (.tup (xs.map eL))) (.d (.tup (ys.map eL))) S) Q :=
  wp_eq (a := .bl (!lseq xs ys)) (by
    show ((snap 190 S (.tup (xs.map eL))).bind fun p => (snap 190 S (.tup (ys.map eL))).bind fun q => some (D.bl (!PyData.eqv p q), S)) = _
    rw [snap_eLs h1 (by omega), snap_eLs h2 (by omega)]
    rfl) q
theorem wf_neL (h1 : x.l.hgt ≤ 90) (h2 : x.r.hgt ≤ 90) (h3 : y.l.hgt ≤ 90) (h4 : y.r.hgt ≤ 90) (q : Q (.bl (!leq x y)) S) : wp (fNe (.d (eL x)) (.d (eL y)) S) Q :=
  wp_eq (a := .bl (!leq x y)) (by
    show ((snap 190 S (eL x)).bind fun p => (snap 190 S (eL y)).bind fun q => some (D.bl (!PyData.eqv p q), S)) = _
    rw [snap_eL (by omega) (by omega), snap_eL (by omega) (by omega)]
    simp only [Option.bind_some, leq_pL]) q
theorem wf_eqL (h1 : x.l.hgt ≤ 90) (h2 : x.r.hgt ≤ 90) (h3 : y.l.hgt ≤ 90) (h4 : y.r.hgt ≤ 90) (q : Q (.bl (leq x y)) S) : wp (fEq (.d (eL x)) (.d (eL y)) S) Q :=
  wp_eq (a := .bl (leq x y)) (by
    show ((snap 190 S (eL x)).bind fun p => (snap 190 S (eL y)).bind fun q => some (D.bl (PyData.eqv p q), S)) = _
    rw [snap_eL (by omega) (by omega), snap_eL (by omega) (by omega)]
    simp only [Option.bind_some, leq_pL]) q
end
end Zi
set_option maxRecDepth 100000
/-! shared functions: what they compute -/
namespace Zi
open PySem L2
/-- 2000 0 clause, 1 found, 2 literal -/
noncomputable def c_clause_variables (G : GF) : MS := (mSeq (mSet 1 (mAlloc (mLst mNil)))
    (mSeq (mFor (mSrc (oD (mVar 0))) (mgN 2) (mSeq (mDrop (mCall (G 7) (mCons (mOp ixF (mVar 2) (mC (.int 1))) (mCons (mVar 1) mNil))))
    (mDrop (mCall (G 7) (mCons (mOp ixF (mVar 2) (mC (.int 2))) (mCons (mVar 1) mNil))))))
    (mRet (mVar 1))))
/-- 2001 0 weights, 1 symbol -/
def c_symbol_weight (G : GF) : MS := (mRet (mGet2 (mVar 0) (mVar 1) (mC (.int 1))))
/-- 2002 0 weights, 1 term, 2 total, 3 part -/
noncomputable def c_term_weight (G : GF) : MS := (mSeq (mIfS (mTru (mCall (G 3) (mCons (mVar 1) mNil))) (mRet (mC (.int 1))) mSkip)
    (mSeq (mSet 2 (mCall (G 2001) (mCons (mVar 0) (mCons (mOp ixF (mVar 1) (mC (.int 0))) mNil))))
    (mSeq (mFor (mSrc (oD (mOp ixF (mVar 1) (mC (.int 1))))) (mgN 3) (mSet 2 (mOp fAdd (mVar 2) (mCall (G 2002) (mCons (mVar 0) (mCons (mVar 3) mNil))))))
    (mRet (mVar 2)))))
/-- 2003 0 _law_row, 1 _law_symbols, 2 _law_weights_here, 3 _law_symbol_here -/
noncomputable def c__law_weights (G : GF) : MS := (mSeq (mSet 1 (mAlloc (mLst (mCons (mTup (mCons (mC (.int 2)) (mCons (mC (.int 0)) (mCons (mC (.int 0)) mNil)))) (mCons (mTup (mCons (mC (.int 2)) (mCons (mC (.int 1)) (mCons (mC (.int 0)) mNil)))) (mCons (mTup (mCons (mC (.int 3)) (mCons (mC (.int 0)) (mCons (mC (.int 0)) mNil)))) (mCons (mTup (mCons (mC (.int 2)) (mCons (mC (.int 2)) (mCons (mC (.int 0)) mNil)))) (mCons (mTup (mCons (mC (.int 1)) (mCons (mC (.int 0)) (mCons (mC (.int 0)) mNil)))) (mCons (mTup (mCons (mC (.int 1)) (mCons (mC (.int 1)) (mCons (mC (.int 0)) mNil)))) mNil)))))))))
    (mSeq (mSet 2 (mDnewT))
    (mSeq (mFor (mSrc (oD (mVar 1))) (mgN 3) (mSeq (mIfS (mBool (mOpO fEq (oD (mOp fMod (mFn1 fInt (oD (mVar 0))) (mC (.int 3)))) (oD (mC (.int 1))))) (mSetD (mVar 2) (mVar 3) (mOp fAdd (mC (.int 1)) (mOp fMod (mOp fDiv (mVar 0) (mC (.int 3))) (mC (.int 4))))) mSkip)
    (mSeq (mIfS (mBool (mOpO fEq (oD (mOp fMod (mFn1 fInt (oD (mVar 0))) (mC (.int 3)))) (oD (mC (.int 2))))) (mSetD (mVar 2) (mVar 3) (mOp fAdd (mC (.int 1)) (mOp fMod (mOp fDiv (mVar 0) (mC (.int 3))) (mC (.int 2))))) mSkip)
    (mSet 0 (mOp fDiv (mVar 0) (mC (.int 12)))))))
    (mRet (mVar 2)))))
/-- 2004 0 _law_weights_here, 1 _law_term_here, 2 _law_total, 3 _law_part -/
noncomputable def c__law_weigh (G : GF) : MS := (mSeq (mIfS (mTru (mCall (G 14) (mCons (mVar 1) mNil))) (mRet (mC (.int 1))) mSkip)
    (mSeq (mSet 2 (mGet2 (mVar 0) (mOp ixF (mVar 1) (mC (.int 0))) (mC (.int 1))))
    (mSeq (mFor (mSrc (oD (mOp ixF (mVar 1) (mC (.int 1))))) (mgN 3) (mSet 2 (mOp fAdd (mVar 2) (mCall (G 2004) (mCons (mVar 0) (mCons (mVar 3) mNil))))))
    (mRet (mVar 2)))))
/-- 2005 0 term -/
def c_head (G : GF) : MS := (mRet (mTup (mCons (mOp ixF (mVar 0) (mC (.int 0))) (mCons (oS (mSl (mOp ixF (mVar 0) (mC (.int 1))) mNoI (mSoI (mNeg (mC (.int 1)))))) mNil))))
/-- 2006 0 first, 1 second, 2 variable -/
noncomputable def c_has_all_variables (G : GF) : MS := (mSeq (mFor (mSrc (oD (mCall (G 8) (mCons (mVar 1) mNil)))) (mgN 2) (mIfS (mBool (mOp fGt (mCall (G 6) (mCons (mVar 1) (mCons (mVar 2) mNil))) (mCall (G 6) (mCons (mVar 0) (mCons (mVar 2) mNil))))) (mRet (mC (.bl false))) mSkip))
    (mRet (mC (.bl true))))
/-- 2007 0 weights, 1 first, 2 second, 3 ours, 4 theirs -/
def c_greater (G : GF) : MS := (mSeq (mIfS (mOrT (mTru (mCall (G 3) (mCons (mVar 1) mNil))) (mNotT (mTru (mCall (G 2006) (mCons (mVar 1) (mCons (mVar 2) mNil)))))) (mRet (mC (.bl false))) mSkip)
    (mSeq (mSet 3 (mCall (G 2002) (mCons (mVar 0) (mCons (mVar 1) mNil))))
    (mSeq (mSet 4 (mCall (G 2002) (mCons (mVar 0) (mCons (mVar 2) mNil))))
    (mSeq (mIfS (mBool (mOpO fNe (oD (mVar 3)) (oD (mVar 4)))) (mRet (mOp fGt (mVar 3) (mVar 4))) mSkip)
    (mSeq (mIfS (mTru (mCall (G 3) (mCons (mVar 2) mNil))) (mRet (mC (.bl false))) mSkip)
    (mRet (mCall (G 2008) (mCons (mVar 0) (mCons (mVar 1) (mCons (mVar 2) mNil))))))))))
/-- 2008 0 weights, 1 first, 2 second, 3 one, 4 other -/
def c_greater_of_equal_weight (G : GF) : MS := (mSeq (mIfS (mNotT (mTru (mOp ixF (mVar 1) (mC (.int 1))))) (mRet (mAnd (mNot (mOp ixF (mVar 2) (mC (.int 1)))) (mCall (G 1) (mCons (mOp ixF (mVar 2) (mC (.int 0))) (mCons (mOp ixF (mVar 1) (mC (.int 0))) mNil))))) mSkip)
    (mSeq (mIfS (mNotT (mTru (mOp ixF (mVar 2) (mC (.int 1))))) (mRet (mC (.bl true))) mSkip)
    (mSeq (mSet 3 (mCall (G 2005) (mCons (mVar 1) mNil)))
    (mSeq (mSet 4 (mCall (G 2005) (mCons (mVar 2) mNil)))
    (mSeq (mIfS (mBool (mOpO fNe (oD (mVar 3)) (oD (mVar 4)))) (mRet (mCall (G 2007) (mCons (mVar 0) (mCons (mVar 3) (mCons (mVar 4) mNil))))) mSkip)
    (mRet (mCall (G 2007) (mCons (mVar 0) (mCons (mOp ixF (mOp ixF (mVar 1) (mC (.int 1))) (mNeg (mC (.int 1)))) (mCons (mOp ixF (mOp ixF (mVar 2) (mC (.int 1))) (mNeg (mC (.int 1)))) mNil))))))))))
/-- 2009 0 weights, 1 first, 2 second -/
def c_compare (G : GF) : MS := (mSeq (mIfS (mBool (mOpO fEq (oD (mVar 1)) (oD (mVar 2)))) (mRet (mC (.str (Str.ofString "same")))) mSkip)
    (mSeq (mIfS (mTru (mCall (G 2007) (mCons (mVar 0) (mCons (mVar 1) (mCons (mVar 2) mNil))))) (mRet (mC (.str (Str.ofString "greater")))) mSkip)
    (mSeq (mIfS (mTru (mCall (G 2007) (mCons (mVar 0) (mCons (mVar 2) (mCons (mVar 1) mNil))))) (mRet (mC (.str (Str.ofString "less")))) mSkip)
    (mRet (mC .non)))))
/-- 2010 0 _law_weights_here, 1 _law_first, 2 _law_second_here, 3 _law_variable, 4 _law_ours, 5 _law_theirs, 6 _law_one, 7 _law_other -/
noncomputable def c__law_greater (G : GF) : MS := (mSeq (mIfS (mTru (mCall (G 14) (mCons (mVar 1) mNil))) (mRet (mC (.bl false))) mSkip)
    (mSeq (mFor (mSrc (oD (mCall (G 15) (mCons (mVar 2) (mCons (mAlloc (mLst mNil)) mNil))))) (mgN 3) (mIfS (mBool (mOp fGt (mCall (G 16) (mCons (mVar 2) (mCons (mVar 3) mNil))) (mCall (G 16) (mCons (mVar 1) (mCons (mVar 3) mNil))))) (mRet (mC (.bl false))) mSkip))
    (mSeq (mSet 4 (mCall (G 2004) (mCons (mVar 0) (mCons (mVar 1) mNil))))
    (mSeq (mSet 5 (mCall (G 2004) (mCons (mVar 0) (mCons (mVar 2) mNil))))
    (mSeq (mIfS (mOrT (mBool (mOpO fNe (oD (mVar 4)) (oD (mVar 5)))) (mTru (mCall (G 14) (mCons (mVar 2) mNil)))) (mRet (mOp fGt (mVar 4) (mVar 5))) mSkip)
    (mSeq (mIfS (mOrT (mNotT (mTru (mOp ixF (mVar 1) (mC (.int 1))))) (mNotT (mTru (mOp ixF (mVar 2) (mC (.int 1)))))) (mSeq (mIfS (mTru (mOp ixF (mVar 1) (mC (.int 1)))) (mRet (mC (.bl true))) mSkip)
    (mRet (mAnd (mNot (mOp ixF (mVar 2) (mC (.int 1)))) (mOp fLtT (mOp ixF (mVar 2) (mC (.int 0))) (mOp ixF (mVar 1) (mC (.int 0))))))) mSkip)
    (mSeq (mSet 6 (mTup (mCons (mOp ixF (mVar 1) (mC (.int 0))) (mCons (oS (mSl (mOp ixF (mVar 1) (mC (.int 1))) mNoI (mSoI (mNeg (mC (.int 1)))))) mNil))))
    (mSeq (mSet 7 (mTup (mCons (mOp ixF (mVar 2) (mC (.int 0))) (mCons (oS (mSl (mOp ixF (mVar 2) (mC (.int 1))) mNoI (mSoI (mNeg (mC (.int 1)))))) mNil))))
    (mSeq (mIfS (mBool (mOpO fEq (oD (mVar 6)) (oD (mVar 7)))) (mRet (mCall (G 2010) (mCons (mVar 0) (mCons (mOp ixF (mOp ixF (mVar 1) (mC (.int 1))) (mNeg (mC (.int 1)))) (mCons (mOp ixF (mOp ixF (mVar 2) (mC (.int 1))) (mNeg (mC (.int 1)))) mNil))))) mSkip)
    (mRet (mCall (G 2010) (mCons (mVar 0) (mCons (mVar 6) (mCons (mVar 7) mNil))))))))))))))
/-- 2011 0 _law_first, 1 _law_row, 2 _law_kind, 3 _law_parts -/
def c__law_second (G : GF) : MS := (mSeq (mSet 2 (mOp fMod (mFn1 fInt (oD (mVar 1))) (mC (.int 6))))
    (mSeq (mSet 1 (mOp fDiv (mVar 1) (mC (.int 6))))
    (mSeq (mIfS (mOrT (mBool (mOpO fEq (oD (mVar 2)) (oD (mC (.int 0))))) (mOrT (mTru (mCall (G 14) (mCons (mVar 0) mNil))) (mNotT (mTru (mOp ixF (mVar 0) (mC (.int 1))))))) (mRet (mOp ixF (mCall (G 12) (mCons (mVar 1) (mCons (mC (.int 2)) mNil))) (mC (.int 0)))) mSkip)
    (mSeq (mSet 3 (mAlloc (mLisc (oD (mOp ixF (mVar 0) (mC (.int 1)))))))
    (mSeq (mIfS (mBool (mOpO fEq (oD (mVar 2)) (oD (mC (.int 1))))) (mDrop (mRevM (mVar 3))) (mIfS (mBool (mOpO fEq (oD (mVar 2)) (oD (mC (.int 2))))) (mSetI (mVar 3) (mOp fMod (mFn1 fInt (oD (mVar 1))) (mFn1 fLen (oD (mVar 3)))) (mOp ixF (mCall (G 12) (mCons (mOp fDiv (mVar 1) (mC (.int 2))) (mCons (mC (.int 1)) mNil))) (mC (.int 0)))) (mIfS (mBool (mOpO fEq (oD (mVar 2)) (oD (mC (.int 3))))) (mRet (mTup (mCons (mCall (G 11) (mCons (mOp fMod (mFn1 fInt (oD (mVar 1))) (mC (.int 5))) mNil)) (mCons (mOp ixF (mVar 0) (mC (.int 1))) mNil)))) (mIfS (mBool (mOpO fEq (oD (mVar 2)) (oD (mC (.int 4))))) (mSet 3 (oS (mSl (mVar 3) mNoI (mSoI (mNeg (mC (.int 1))))))) (mRet (mTup (mCons (mTup (mCons (mC (.int 2)) (mCons (mC (.int 0)) (mCons (mC (.int 0)) mNil)))) (mCons (mTup (mCons (mVar 0) mNil)) mNil))))))))
    (mRet (mTup (mCons (mOp ixF (mVar 0) (mC (.int 0))) (mCons (mFn1 fTupc (oD (mVar 3))) mNil)))))))))
/-- 2012 0 _law_row, 1 _law_deep, 2 _law_many, 3 _law_symbol_here, 4 _law_parts, 5 _law_k, 6 _law_found -/
noncomputable def c__law_ground (G : GF) : MS := (mSeq (mSet 2 (mOp fMod (mFn1 fInt (oD (mVar 0))) (mC (.int 3))))
    (mSeq (mSet 0 (mOp fDiv (mVar 0) (mC (.int 3))))
    (mSeq (mIfS (mBool (mOpO fEq (oD (mVar 1)) (oD (mC (.int 0))))) (mSet 2 (mC (.int 0))) mSkip)
    (mSeq (mSet 3 (mCall (G 11) (mCons (mOp fMod (mFn1 fInt (oD (mVar 0))) (mC (.int 5))) mNil)))
    (mSeq (mSet 0 (mOp fDiv (mVar 0) (mC (.int 5))))
    (mSeq (mSet 4 (mAlloc (mLst mNil)))
    (mSeq (mFor (mRng1 (mVar 2)) (mgN 5) (mSeq (mSet 6 (mCall (G 2012) (mCons (mVar 0) (mCons (mOp fSub (mVar 1) (mC (.int 1))) mNil))))
    (mSeq (mDrop (mApp (mVar 4) (mOp ixF (mVar 6) (mC (.int 0)))))
    (mSet 0 (mOp ixF (mVar 6) (mC (.int 1)))))))
    (mRet (mTup (mCons (mTup (mCons (mVar 3) (mCons (mFn1 fTupc (oD (mVar 4))) mNil))) (mCons (mVar 0) mNil)))))))))))
/-- 2013 0 _law_row, 1 _law_deep, 2 _law_symbols, 3 _law_symbol_here, 4 _law_many, 5 _law_parts, 6 _law_k, 7 _law_found -/
noncomputable def c__law_ground_atom (G : GF) : MS := (mSeq (mSet 2 (mAlloc (mLst (mCons (mTup (mCons (mC (.int 1)) (mCons (mC (.int 0)) (mCons (mC (.int 0)) mNil)))) (mCons (mTup (mCons (mC (.int 1)) (mCons (mC (.int 1)) (mCons (mC (.int 0)) mNil)))) (mCons (mTup (mCons (mC (.int 4)) (mCons (mC (.int 0)) (mCons (mC (.int 0)) mNil)))) (mCons (mTup (mCons (mC (.int 1)) (mCons (mC (.int 2)) (mCons (mC (.int 0)) mNil)))) mNil)))))))
    (mSeq (mSet 3 (mOp ixF (mVar 2) (mOp fMod (mFn1 fInt (oD (mVar 0))) (mC (.int 4)))))
    (mSeq (mSet 0 (mOp fDiv (mVar 0) (mC (.int 4))))
    (mSeq (mSet 4 (mOp fMod (mFn1 fInt (oD (mVar 0))) (mC (.int 2))))
    (mSeq (mSet 0 (mOp fDiv (mVar 0) (mC (.int 2))))
    (mSeq (mSet 5 (mAlloc (mLst mNil)))
    (mSeq (mFor (mRng1 (mVar 4)) (mgN 6) (mSeq (mSet 7 (mCall (G 2012) (mCons (mVar 0) (mCons (mVar 1) mNil))))
    (mSeq (mDrop (mApp (mVar 5) (mOp ixF (mVar 7) (mC (.int 0)))))
    (mSet 0 (mOp ixF (mVar 7) (mC (.int 1)))))))
    (mRet (mTup (mCons (mTup (mCons (mVar 3) (mCons (mFn1 fTupc (oD (mVar 5))) mNil))) (mCons (mVar 0) mNil)))))))))))
/-- 2014 0 _law_term -/
def c__law_is_variable_2 (G : GF) : MS := (mRet (mIsI "int" (oD (mVar 0))))
/-- 2015 0 found, 1 variable, 2 term, 3 step, 4 new, 5 key, 6 old -/
noncomputable def c_bind (G : GF) : MS := (mSeq (mSet 3 (mDisp1 (mVar 1) (mVar 2)))
    (mSeq (mSet 4 (mDnewK))
    (mSeq (mLockS 0 (mFor (mItems (mVar 0)) (mgTup 2 (mgCons (mgN 5) (mgCons (mgN 6) mgNil))) (mSetD (mVar 4) (mVar 5) (mCall (G 1000) (mCons (mVar 6) (mCons (mVar 3) mNil))))))
    (mSeq (mSetD (mVar 4) (mVar 1) (mVar 2))
    (mRet (mVar 4))))))
/-- 2016 0 pattern, 1 term, 2 found, 3 one, 4 other -/
noncomputable def c_extends (G : GF) : MS := (mSeq (mIfS (mTru (mCall (G 3) (mCons (mVar 0) mNil))) (mSeq (mIfS (mBool (mOp fInD (mVar 0) (mVar 2))) (mRet (mOpO fEq (oD (mOp ixX (mVar 2) (mVar 0))) (oD (mVar 1)))) mSkip)
    (mSeq (mSetD (mVar 2) (mVar 0) (mVar 1))
    (mRet (mC (.bl true))))) mSkip)
    (mSeq (mIfS (mOrT (mTru (mCall (G 3) (mCons (mVar 1) mNil))) (mOrT (mBool (mOpO fNe (oD (mOp ixF (mVar 0) (mC (.int 0)))) (oD (mOp ixF (mVar 1) (mC (.int 0)))))) (mBool (mOpO fNe (oD (mFn1 fLen (oD (mOp ixF (mVar 0) (mC (.int 1)))))) (oD (mFn1 fLen (oD (mOp ixF (mVar 1) (mC (.int 1)))))))))) (mRet (mC (.bl false))) mSkip)
    (mSeq (mFor (mZip (oD (mOp ixF (mVar 0) (mC (.int 1)))) (oD (mOp ixF (mVar 1) (mC (.int 1))))) (mgTup 2 (mgCons (mgN 3) (mgCons (mgN 4) mgNil))) (mIfS (mNotT (mTru (mCall (G 2016) (mCons (mVar 3) (mCons (mVar 4) (mCons (mVar 2) mNil)))))) (mRet (mC (.bl false))) mSkip))
    (mRet (mC (.bl true))))))
/-- 2017 0 pattern, 1 term, 2 told, 3 found -/
def c_match (G : GF) : MS := (mSeq (mSet 3 (mDcopy (mVar 2)))
    (mSeq (mIfS (mTru (mCall (G 2016) (mCons (mVar 0) (mCons (mVar 1) (mCons (mVar 3) mNil))))) (mRet (mVar 3)) mSkip)
    (mRet (mC .non))))
noncomputable def lZl2 : List Fb := [mkFb 1 3 c_clause_variables,
  mkFb 2 2 c_symbol_weight,
  mkFb 2 4 c_term_weight,
  mkFb 1 4 c__law_weights,
  mkFb 2 4 c__law_weigh,
  mkFb 1 1 c_head,
  mkFb 2 3 c_has_all_variables,
  mkFb 3 5 c_greater,
  mkFb 3 5 c_greater_of_equal_weight,
  mkFb 3 3 c_compare,
  mkFb 3 8 c__law_greater,
  mkFb 2 4 c__law_second,
  mkFb 2 7 c__law_ground,
  mkFb 2 8 c__law_ground_atom,
  mkFb 1 1 c__law_is_variable_2,
  mkFb 3 7 c_bind,
  mkFb 3 5 c_extends,
  mkFb 3 4 c_match]
end Zi
set_option maxRecDepth 100000
set_option maxHeartbeats 1000000
/-! which variables a term has; clauses' variables -/
namespace Zi
open PySem L2
local macro_rules | `(tactic| walk_at "dec") => `(tactic| first | decide | omega | assumption)
local macro_rules | `(tactic| walk_at "g1") => `(tactic| first
  | ((with_reducible apply wp_var); (focus (exact rfl)))
  | with_reducible refine wp_c ?_
  | with_reducible refine wp_op ?_
  | with_reducible refine wp_oD ?_
  | with_reducible refine wp_cons ?_
  | with_reducible refine wp_nil ?_
  | ((with_reducible refine nxt_nx ?_); (try dsimp only [List.set_cons_zero, List.set_cons_succ]))
  | with_reducible refine wp_seq ?_
  | with_reducible refine wp_set ?_
  | with_reducible refine wp_ret ?_
  | with_reducible refine nxt_rt ?_
  | with_reducible refine wp_call ?_
  | with_reducible refine wp_opO ?_
  | with_reducible refine wp_bool ?_
  | with_reducible refine isB_bl ?_
  | with_reducible refine wp_ifS ?_
  | with_reducible refine way_t ?_
  | with_reducible refine way_f ?_
  | with_reducible refine way_not ?_
  | ((with_reducible apply wf_ixT); (focus (first | exact atI_0 | exact atI_1 | exact atI_2 | exact atI_3 | exact atI_4 | exact atI_5 | exact atI_6 | exact atI_7 | exact atI_8 | exact atI_9 | assumption)))
  | with_reducible refine wp_fn1 ?_
  | with_reducible refine wf_int ?_
  | with_reducible refine wf_add ?_
  | with_reducible refine wf_sub ?_
  | ((with_reducible refine wf_mod ?_ ?_); (focus (exact modC_r (by walk_at "dec"))))
  | ((with_reducible refine wf_div ?_ ?_); (focus (exact divC_r (by walk_at "dec"))))
  | ((with_reducible refine wf_mul ?_ ?_); (focus (exact mulC_r (by walk_at "dec"))))
  | ((with_reducible refine wf_mul ?_ ?_); (focus (exact mulC_l (by walk_at "dec"))))
  | with_reducible refine wf_eqI ?_
  | with_reducible refine wf_neI ?_
  | ((with_reducible refine wf_pow ?_ ?_); (focus (decide)))
  | with_reducible refine wf_lt ?_
  | with_reducible refine wf_le ?_
  | with_reducible refine wf_gt ?_
  | with_reducible refine wf_ge ?_
  | with_reducible refine wf_eqB ?_
  | with_reducible refine wf_neB ?_
  | with_reducible refine wp_tup ?_
  | ((with_reducible refine shrt_of ?_ ?_); (focus (exact Nat.le_of_ble_eq_true (by exact rfl))))
  | with_reducible refine wp_tru ?_
  | with_reducible refine tru_bl ?_
  | with_reducible refine tru_int ?_
  | with_reducible refine tru_non ?_
  | with_reducible refine tru_tup ?_
  | ((with_reducible apply tru_lst); (focus (first | assumption | exact last_get)))
  | with_reducible refine wp_notT ?_
  | with_reducible refine wp_andT ?_
  | with_reducible refine wp_orT ?_
  | with_reducible refine wp_and ?_
  | with_reducible refine wp_or ?_
  | with_reducible refine wp_not ?_
  | with_reducible refine wp_if ?_
  | with_reducible refine wp_skip ?_
  | with_reducible refine wp_drop ?_
  | with_reducible refine wp_break ?_
  | with_reducible refine wp_cont ?_
  | with_reducible refine nxt_bk ?_
  | with_reducible refine nxt_ct ?_
  | with_reducible refine wp_alloc ?_
  | with_reducible refine wp_lst ?_
  | with_reducible refine wp_oN ?_
  | with_reducible refine wp_oS ?_
  | with_reducible refine valO_d ?_
  | with_reducible refine valO_n ?_
  | with_reducible refine wp_setL ?_
  | with_reducible refine wf_lenT ?_
  | with_reducible refine wf_lenN ?_
  | with_reducible refine wf_lenS ?_
  | ((with_reducible apply wf_lenL); (focus (first | assumption | exact last_get)))
  | with_reducible refine wf_tupcT ?_
  | with_reducible refine wf_tupcN ?_
  | ((with_reducible apply wf_tupcL); (focus (first | assumption | exact last_get)))
  | with_reducible refine wp_for ?_
  | with_reducible refine wp_src ?_
  | with_reducible refine src_tupK ?_
  | with_reducible refine src_nK ?_
  | with_reducible refine src_slK ?_
  | ((with_reducible apply src_lstK); (focus (first | assumption | exact last_get)))
  | with_reducible refine wp_asg ?_
  | with_reducible refine wl_n ?_
  | ((with_reducible refine wl_tup ?_ ?_); (focus (exact rfl)))
  | with_reducible refine wl_cons ?_
  | with_reducible refine wl_nil ?_
  | ((with_reducible apply wp_aug); (focus (exact rfl)))
  | with_reducible refine wf_iadd ?_
  | with_reducible refine wp_isN ?_
  | with_reducible refine wp_notN ?_
  | with_reducible refine wp_isI ?_
  | ((with_reducible apply isI_t); (focus (exact rfl)); (focus (decide)))
  | ((with_reducible apply isI_f); (focus (exact rfl)); (focus (decide)))
  | with_reducible refine loopK_nx ?_
  | with_reducible refine loopK_ct ?_
  | with_reducible refine loopK_bk ?_
  | with_reducible refine loopK_rt ?_
  | with_reducible refine wp_enum ?_
  | with_reducible refine wp_lisc ?_
  | with_reducible refine wp_comp ?_
  | with_reducible refine wp_neg ?_
  | with_reducible refine wp_dnewK ?_
  | with_reducible refine wp_dnewT ?_
  | with_reducible refine wp_get2 ?_
  | with_reducible refine wp_get1 ?_
  | with_reducible refine wp_setD ?_
  | with_reducible refine wp_app ?_
  | with_reducible refine wp_rev ?_
  | with_reducible refine wp_dcopy ?_
  | with_reducible exact ⟨rfl, rfl⟩)
local macro_rules | `(tactic| walk_at "g2") => `(tactic| first
  | walk_at "g1"
  | with_reducible refine wf_ixA0 ?_
  | with_reducible refine wf_ixA1 ?_
  | with_reducible refine wf_ixS0 ?_
  | with_reducible refine wf_ixS1 ?_
  | with_reducible refine wf_ixS2 ?_
  | with_reducible refine wf_ixL0 ?_
  | with_reducible refine wf_ixL1 ?_
  | with_reducible refine wf_ixL2 ?_
  | ((with_reducible refine wf_eqT ?_ ?_ ?_); (focus (walk_at "dec")); (focus (walk_at "dec")))
  | ((with_reducible refine wf_neT ?_ ?_ ?_); (focus (walk_at "dec")); (focus (walk_at "dec")))
  | ((with_reducible refine wf_eqLs ?_ ?_ ?_); (focus (assumption)); (focus (assumption)))
  | ((with_reducible refine wf_neLs ?_ ?_ ?_); (focus (assumption)); (focus (assumption)))
  | ((with_reducible refine wf_eqL ?_ ?_ ?_ ?_ ?_); (focus (walk_at "dec")); (focus (walk_at "dec")); (focus (walk_at "dec")); (focus (walk_at "dec")))
  | ((with_reducible refine wf_neL ?_ ?_ ?_ ?_ ?_); (focus (walk_at "dec")); (focus (walk_at "dec")); (focus (walk_at "dec")); (focus (walk_at "dec")))
  | with_reducible refine way_eq lseq_self ?_
  | with_reducible refine way_eq leq_self ?_
  | with_reducible refine way_eq (teq_self _) ?_
  | with_reducible refine isI_vi ?_
  | with_reducible refine isI_vb ?_
  | with_reducible refine isI_vt ?_
  | ((with_reducible refine wp_eq (r_isvar ?_ _) ?_); (focus (assumption)))
  | ((with_reducible refine wp_eq (r_lisvar ?_ _) ?_); (focus (assumption)))
  | ((with_reducible refine wp_eq (r_lint ?_ _) ?_); (focus (assumption)))
  | ((with_reducible refine wp_eq (run_cell ?_ _ _ ?_ _) ?_); (focus (exact rfl)); (focus (walk_at "dec"))))
local macro_rules | `(tactic| walk_at "go2") => `(tactic| repeat' (walk_at "g2"))
local macro_rules | `(tactic| walk_at "go") => `(tactic| repeat' (walk_at "g1"))
local macro_rules | `(tactic| walk_at "g3") => `(tactic| first
  | with_reducible refine wp_andP ?_
  | with_reducible refine wp_orP ?_
  | with_reducible refine wp_andB ?_
  | with_reducible refine wp_orB ?_
  | with_reducible refine ⟨rfl, rfl, ?_⟩
  | walk_at "g2")
local macro_rules | `(tactic| walk_at "go3") => `(tactic| repeat' (walk_at "g3"))

mutual
def Tm.has (x : Int) : Tm → Prop
  | .v i => i = x
  | .ap _ _ _ ts => hasL x ts
def hasL (x : Int) : List Tm → Prop
  | [] => False
  | t :: ts => t.has x ∨ hasL x ts
end
theorem hasL_iff {x : Int} : ∀ ts : List Tm, hasL x ts ↔ ∃ t ∈ ts, t.has x
  | [] => by simp [hasL]
  | t :: ts => by simp [hasL, hasL_iff ts]
mutual
theorem mem_vars {x : Int} : ∀ (t : Tm) (f : List Int), x ∈ t.vars f ↔ x ∈ f ∨ t.has x
  | .v i, f => by
    simp only [Tm.vars, Tm.has]
    split
    · rename_i h
      constructor
      · exact .inl
      · rintro (z | z)
        · exact z
        · subst z; exact h
    · simp [eq_comm]
  | .ap _ _ _ ts, f => by
    simp only [Tm.vars, Tm.has]
    exact mem_varsL ts f
theorem mem_varsL {x : Int} : ∀ (ts : List Tm) (f : List Int), x ∈ varsL ts f ↔ x ∈ f ∨ hasL x ts
  | [], f => by simp [varsL, hasL]
  | t :: ts, f => by
    simp only [varsL, hasL]
    rw [mem_varsL ts, mem_vars t, or_assoc]
end
mutual
theorem vars_nodup : ∀ (t : Tm) (f : List Int), f.Nodup → (t.vars f).Nodup
  | .v i, f, h => by
    simp only [Tm.vars]
    split
    · exact h
    · rename_i hi
      rw [List.nodup_append]
      refine ⟨h, by simp, fun a ha b hb => ?_⟩
      rw [List.mem_singleton] at hb
      subst hb
      exact fun z => hi (z ▸ ha)
  | .ap _ _ _ ts, f, h => by
    simp only [Tm.vars]
    exact varsL_nodup ts f h
theorem varsL_nodup : ∀ (ts : List Tm) (f : List Int), f.Nodup → (varsL ts f).Nodup
  | [], f, h => by simpa [varsL] using h
  | t :: ts, f, h => by
    simp only [varsL]
    exact varsL_nodup ts _ (vars_nodup t f h)
/-- the variables where each is replaced by another -/
theorem vars_ren {s : List (Int × Tm)} {h : Int → Int} : ∀ (t : Tm) (f : List Int), (∀ i, t.has i → subOf s i = some (.v (h i))) → (∀ i j, (i ∈ f ∨ t.has i) → (j ∈ f ∨ t.has j) → h i = h j → i = j) → (t.put s).vars (f.map h) = (t.vars f).map h
  | .v i, f, h1, h2 => by
    simp only [Tm.put, h1 i (by simp [Tm.has]), Option.getD_some, Tm.vars]
    by_cases hi : i ∈ f
    · rw [if_pos hi, if_pos (List.mem_map_of_mem hi)]
    · rw [if_neg hi, if_neg, List.map_append]
      · rfl
      · intro z
        obtain ⟨j, hj, e⟩ := List.mem_map.mp z
        exact hi (h2 j i (.inl hj) (.inr (by simp [Tm.has])) e ▸ hj)
  | .ap a b c ts, f, h1, h2 => by
    rw [Tm.put]
    simp only [Tm.vars]
    exact varsL_ren ts f (by simpa [Tm.has] using h1) (by simpa [Tm.has] using h2)
theorem varsL_ren {s : List (Int × Tm)} {h : Int → Int} : ∀ (ts : List Tm) (f : List Int), (∀ i, hasL i ts → subOf s i = some (.v (h i))) → (∀ i j, (i ∈ f ∨ hasL i ts) → (j ∈ f ∨ hasL j ts) → h i = h j → i = j) → varsL (puts s ts) (f.map h) = (varsL ts f).map h
  | [], f, _, _ => by simp [varsL, puts]
  | t :: ts, f, h1, h2 => by
    simp only [varsL, puts]
    rw [vars_ren t f (fun i hi => h1 i (by simp [hasL, hi])) (fun i j hi hj e => h2 i j (by simp only [hasL]; rcases hi with z | z <;> simp [z]) (by simp only [hasL]; rcases hj with z | z <;> simp [z]) e)]
    exact varsL_ren ts _ (fun i hi => h1 i (by simp [hasL, hi])) (fun i j hi hj e => h2 i j (by
      simp only [hasL]
      rcases hi with z | z
      · rcases (mem_vars t f).mp z with z | z <;> simp [z]
      · simp [z]) (by
      simp only [hasL]
      rcases hj with z | z
      · rcases (mem_vars t f).mp z with z | z <;> simp [z]
      · simp [z]) e)
theorem size_ren {s : List (Int × Tm)} : ∀ (t : Tm), (∀ p ∈ s, ∃ j, p.2 = .v j) → (t.put s).size = t.size ∧ (t.put s).hgt = t.hgt
  | .v i, h => by
    simp only [Tm.put, subOf]
    cases e : s.find? fun p => decide (p.1 = i) with
    | none => simp
    | some p =>
      obtain ⟨j, hj⟩ := h p (List.mem_of_find?_eq_some e)
      simp [hj, Tm.size, Tm.hgt]
  | .ap a b c ts, h => by
    have := sizes_ren ts h
    rw [Tm.put]
    simp only [Tm.size, Tm.hgt, this.1, this.2, and_self]
theorem sizes_ren {s : List (Int × Tm)} : ∀ (ts : List Tm), (∀ p ∈ s, ∃ j, p.2 = .v j) → sizes (puts s ts) = sizes ts ∧ hgts (puts s ts) = hgts ts
  | [], h => by simp [puts]
  | t :: ts, h => by
    have h1 := size_ren t h
    have h2 := sizes_ren ts h
    simp only [puts, sizes, hgts, h1.1, h1.2, h2.1, h2.2, and_self]
end
theorem Tm.Wd.put {n : Nat} {s : List (Int × Tm)} (hs : ∀ p ∈ s, p.2.Wd n) {t : Tm} (h : t.Wd n) : (t.put s).Wd n := by
  induction h with
  | v i =>
    simp only [Tm.put, subOf]
    cases e : s.find? fun p => decide (p.1 = i) with
    | none => exact .v i
    | some p => exact hs p (List.mem_of_find?_eq_some e)
  | ap h1 h2 ih =>
    rw [put_ap]
    refine .ap (by rw [List.length_map]; exact h1) fun t ht => ?_
    obtain ⟨u, hu, rfl⟩ := List.mem_map.mp ht
    exact ih u hu
theorem put_hgt {m : Nat} {s : List (Int × Tm)} (hs : ∀ p ∈ s, p.2.hgt ≤ m) (t : Tm) : (t.put s).hgt ≤ t.hgt + m := by
  induction t using Tm.ind with
  | hv i =>
    simp only [Tm.put, subOf]
    cases h : s.find? fun p => decide (p.1 = i) with
    | none => simp [Tm.hgt]
    | some p =>
      have := hs p (List.mem_of_find?_eq_some h)
      simp only [Option.map_some, Option.getD_some]; omega
  | ha a b c ts ih =>
    rw [put_ap, hgt_ap, hgt_ap]
    have := hgts_le (ts := ts.map (Tm.put s)) (n := hgts ts + m) fun t ht => by
      obtain ⟨u, hu, rfl⟩ := List.mem_map.mp ht
      have h1 := ih u hu
      have h2 := hgts_mem hu
      omega
    omega
/-- where the substitution says of each variable that it stays -/
theorem put_id {s : List (Int × Tm)} (t : Tm) (h : ∀ i, t.has i → subOf s i = none ∨ subOf s i = some (.v i)) : t.put s = t := by
  induction t using Tm.ind with
  | hv i =>
    rcases h i (by simp [Tm.has]) with e | e <;> simp [Tm.put, e]
  | ha a b c ts ih =>
    rw [put_ap]
    congr 1
    rw [List.map_congr_left (g := id) (fun t ht => ih t ht fun i hi => h i (by simp only [Tm.has]; exact (hasL_iff ts).mpr ⟨t, ht, hi⟩)), List.map_id]
theorem put_nil (t : Tm) : t.put [] = t := put_id t fun _ _ => .inl rfl
/-- a literal of modest size -/
structure LitW (x : Lit) : Prop where
  hl : x.l.hgt ≤ 20
  hr : x.r.hgt ≤ 20
  sl : x.l.size ≤ 5000
  sr : x.r.size ≤ 5000
  wl : x.l.Wd 1000
  wr : x.r.Wd 1000
theorem LitW.of {H : Nat} {B : Int} {x : Lit} (h : LitB H B x) (h1 : H ≤ 20) (h2 : B ≤ 5000) : LitW x := ⟨Nat.le_trans h.hl h1, Nat.le_trans h.hr h1, Int.le_trans h.sl h2, Int.le_trans h.sr h2, h.kl.wd, h.kr.wd⟩
theorem LitW.low {xs : List Lit} (h : ∀ x ∈ xs, LitW x) {n : Nat} (hn : 20 ≤ n) : low n xs := fun x hx => ⟨Nat.le_trans (h x hx).hl hn, Nat.le_trans (h x hx).hr hn⟩
def cvs (xs : List Lit) (f : List Int) : List Int := xs.foldl (fun s x => x.r.vars (x.l.vars s)) f
theorem cvs_app (xs ys : List Lit) (f : List Int) : cvs (xs ++ ys) f = cvs ys (cvs xs f) := by simp [cvs]
theorem cvs_len : ∀ (xs : List Lit) (f : List Int), (∀ x ∈ xs, LitW x) → ((cvs xs f).length : Int) ≤ f.length + 10000 * xs.length
  | [], f, _ => by simp [cvs]
  | x :: xs, f, h => by
    have h1 := cvs_len xs (x.r.vars (x.l.vars f)) fun y hy => h y (List.mem_cons_of_mem _ hy)
    have h2 := vars_len x.l f
    have h3 := vars_len x.r (x.l.vars f)
    have h4 := (h x (by simp)).sl
    have h5 := (h x (by simp)).sr
    have e : cvs (x :: xs) f = cvs xs (x.r.vars (x.l.vars f)) := rfl
    rw [e, List.length_cons]
    omega
theorem cvs_lenB {B : Int} (hB : 0 ≤ B) : ∀ (xs : List Lit) (f : List Int), (∀ x ∈ xs, x.l.size ≤ B ∧ x.r.size ≤ B) → ((cvs xs f).length : Int) ≤ f.length + 2 * B * xs.length
  | [], f, _ => by simp [cvs]
  | x :: xs, f, h => by
    have h1 := cvs_lenB hB xs (x.r.vars (x.l.vars f)) fun y hy => h y (List.mem_cons_of_mem _ hy)
    have h2 := vars_len x.l f
    have h3 := vars_len x.r (x.l.vars f)
    have h4 := h x (by simp)
    have e : cvs (x :: xs) f = cvs xs (x.r.vars (x.l.vars f)) := rfl
    rw [e, List.length_cons, show ((xs.length + 1 : Nat) : Int) = xs.length + 1 by omega, Int.mul_add]
    omega
theorem mem_cvs {i : Int} : ∀ (xs : List Lit) (f : List Int), i ∈ cvs xs f ↔ i ∈ f ∨ ∃ x ∈ xs, x.l.has i ∨ x.r.has i
  | [], f => by simp [cvs]
  | x :: xs, f => by
    have e : cvs (x :: xs) f = cvs xs (x.r.vars (x.l.vars f)) := rfl
    rw [e, mem_cvs xs, mem_vars, mem_vars]
    simp only [List.mem_cons, exists_eq_or_imp]
    constructor
    · rintro (((h | h) | h) | h)
      · exact .inl ‹_›
      · exact .inr (.inl (.inl ‹_›))
      · exact .inr (.inl (.inr ‹_›))
      · exact .inr (.inr ‹_›)
    · rintro (h | (h | h) | h)
      · exact .inl (.inl (.inl h))
      · exact .inl (.inl (.inr h))
      · exact .inl (.inr h)
      · exact .inr h
theorem cvs_nodup : ∀ (xs : List Lit) (f : List Int), f.Nodup → (cvs xs f).Nodup
  | [], f, h => by simpa [cvs] using h
  | x :: xs, f, h => cvs_nodup xs _ (vars_nodup _ _ (vars_nodup _ _ h))
theorem cvs_ren {s : List (Int × Tm)} {h : Int → Int} : ∀ (xs : List Lit) (f : List Int), (∀ x ∈ xs, ∀ i, x.l.has i ∨ x.r.has i → subOf s i = some (.v (h i))) → (∀ i j, (i ∈ cvs xs f) → (j ∈ cvs xs f) → h i = h j → i = j) → cvs (xs.map (putL s)) (f.map h) = (cvs xs f).map h
  | [], f, _, _ => by simp [cvs]
  | x :: xs, f, h1, h2 => by
    have e : ∀ g, cvs (x :: xs) g = cvs xs (x.r.vars (x.l.vars g)) := fun _ => rfl
    have e2 : ∀ g, cvs ((x :: xs).map (putL s)) g = cvs (xs.map (putL s)) ((x.r.put s).vars ((x.l.put s).vars g)) := fun _ => rfl
    rw [e] at h2
    have up : ∀ i, i ∈ x.r.vars (x.l.vars f) → i ∈ cvs xs (x.r.vars (x.l.vars f)) := fun i hi => (mem_cvs xs _).mpr (.inl hi)
    have up1 : ∀ i, i ∈ x.l.vars f → i ∈ x.r.vars (x.l.vars f) := fun i hi => (mem_vars _ _).mpr (.inl hi)
    rw [e2, e, vars_ren x.l f (fun i hi => h1 x (by simp) i (.inl hi)) (fun i j hi hj => h2 i j (up i (up1 i ((mem_vars _ _).mpr hi))) (up j (up1 j ((mem_vars _ _).mpr hj))))]
    rw [vars_ren x.r _ (fun i hi => h1 x (by simp) i (.inr hi)) (fun i j hi hj => h2 i j (up i ((mem_vars _ _).mpr hi)) (up j ((mem_vars _ _).mpr hj)))]
    exact cvs_ren xs _ (fun y hy => h1 y (List.mem_cons_of_mem _ hy)) h2
section
variable {prog : Nat → Option Fb} (hp : ∀ j fb, lZl0[j]? = some fb → prog (0 + j) = some fb) (hp1 : ∀ j fb, lZl1[j]? = some fb → prog (1000 + j) = some fb) (hp2 : ∀ j fb, lZl2[j]? = some fb → prog (2000 + j) = some fb) {k : Nat} {S : Sto}
include hp hp2
theorem r_clvars {xs : List Lit} (hn : xs.length ≤ 50) (h : ∀ x ∈ xs, LitW x) : run prog (k + 23) 2000 [.tup (xs.map eL)] S = some (.ref S.length, S ++ [.lst ((cvs xs []).map D.int)]) := by
  refine run_own (hp2 0 _ rfl) rfl (show cellLt S.length (.lst _) = true from refLtL_ints _) ?_
  show wp (c_clause_variables (run prog (k + 22)) [some (.tup (xs.map eL)), none, none] S) _
  unfold c_clause_variables
  walk_at "go2"
  refine wp_inv eL xs (fun dn l S' => ∃ o, l = [some (.tup (xs.map eL)), some (.ref S.length), o] ∧ S' = S ++ [.lst ((cvs dn []).map D.int)]) rfl ⟨_, rfl, rfl⟩ (fun _ _ _ _ => trivial) ?_ ?_
  · rintro dn x rest l S' hall ⟨o, rfl, rfl⟩
    have hx := h x (by rw [hall]; simp)
    have z1 := cvs_len dn [] fun y hy => h y (by rw [hall]; simp [hy])
    have hlen := congrArg List.length hall
    rw [List.length_append, List.length_cons] at hlen
    have z2 := vars_len x.l (cvs dn [])
    have b1 := hx.sl
    have b2 := hx.sr
    simp only [List.length_nil, Int.natCast_zero, Int.zero_add] at z1
    walk_at "go2"
    refine wp_eq (r_collect hp x.l (k := k + 20) (Nat.le_trans hx.hl (by omega)) _ S.length (cvs dn []) last_get (by omega)) ?_
    rw [last_set]
    walk_at "go2"
    refine wp_eq (r_collect hp x.r (k := k + 20) (Nat.le_trans hx.hr (by omega)) _ S.length _ last_get (by omega)) ?_
    rw [last_set]
    walk_at "go2"
    exact ⟨_, rfl, by rw [cvs_app]; rfl⟩
  · rintro l S' ⟨o, rfl, rfl⟩
    walk_at "go2"
    exact ⟨S.length, [.lst ((cvs xs []).map D.int)], rfl, rfl, Nat.le_refl _, last_get⟩
omit hp hp2
end
/-! ### renumbering -/
def rn (f : List Int) : List (Int × Tm) := f.zipIdx.map fun p => (p.1, .v (p.2 : Nat))
theorem rn_keys (f : List Int) : (rn f).map (·.1) = f := by
  unfold rn
  rw [List.map_map]
  exact List.zipIdx_map_fst 0 f
theorem rn_len (f : List Int) : (rn f).length = f.length := by simp [rn]
def ixOf (f : List Int) (i : Int) : Int := (f.idxOf i : Nat)
theorem subOf_rn {f : List Int} {i : Int} (hi : i ∈ f) : subOf (rn f) i = some (.v (ixOf f i)) := by
  have go : ∀ (f : List Int) (n : Nat), i ∈ f → (((f.zipIdx n).map fun p => (p.1, Tm.v (p.2 : Nat))).find? fun p => decide (p.1 = i)).map (·.2) = some (.v ((n + f.idxOf i : Nat) : Int)) := by
    intro f
    induction f with
    | nil => intro n h; cases h
    | cons a f ih =>
      intro n h
      rw [List.zipIdx_cons, List.map_cons, List.find?_cons]
      by_cases e : a = i
      · subst e
        simp
      · have hi' : i ∈ f := by
          rcases List.mem_cons.mp h with z | z
          · exact absurd z.symm e
          · exact z
        have := ih (n + 1) hi'
        simp only [decide_eq_false e]
        rw [this, show (a :: f).idxOf i = f.idxOf i + 1 by rw [List.idxOf_cons, show (a == i) = false by simp [e]]; rfl, Nat.add_assoc, Nat.add_comm 1]
  have := go f 0 hi
  rw [Nat.zero_add] at this
  exact this
theorem ixOf_inj {f : List Int} {i j : Int} (hi : i ∈ f) (hj : j ∈ f) (h : ixOf f i = ixOf f j) : i = j := by
  unfold ixOf at h
  have e : f.idxOf i = f.idxOf j := by omega
  have h1 := List.getElem_idxOf (List.idxOf_lt_length_of_mem hi)
  have h2 := List.getElem_idxOf (List.idxOf_lt_length_of_mem hj)
  rw [← h1, ← h2]
  simp only [e]
theorem map_ixOf {f : List Int} (h : f.Nodup) : f.map (ixOf f) = (List.range f.length).map fun k : Nat => (k : Int) := by
  refine List.ext_getElem (by simp) fun n h1 h2 => ?_
  rw [List.getElem_map, List.getElem_map, List.getElem_range]
  unfold ixOf
  rw [List.length_map] at h1
  rw [h.idxOf_getElem n h1]
theorem rn_v (f : List Int) : ∀ p ∈ rn f, ∃ j, p.2 = .v j := fun p hp => by
  obtain ⟨q, _, rfl⟩ := List.mem_map.mp hp
  exact ⟨_, rfl⟩
/-- the numbers in a row -/
def uTo (n : Nat) : List Int := (List.range n).map fun k : Nat => (k : Int)
theorem uTo_nodup (n : Nat) : (uTo n).Nodup := by
  unfold uTo List.Nodup
  rw [List.pairwise_map]
  exact List.nodup_range.imp fun h e => h (by omega)
theorem rn_upTo (n : Nat) : rn (uTo n) = (uTo n).map fun i => (i, Tm.v i) := by
  unfold rn uTo
  refine List.ext_getElem (by simp) fun k h1 h2 => ?_
  simp
theorem putL_id {s : List (Int × Tm)} {x : Lit} (h : ∀ i, x.l.has i ∨ x.r.has i → subOf s i = none ∨ subOf s i = some (.v i)) : putL s x = x := by
  cases x
  simp only [putL]
  rw [put_id _ fun i hi => h i (.inl hi), put_id _ fun i hi => h i (.inr hi)]
theorem LitW.ren {s : List (Int × Tm)} (hs : ∀ p ∈ s, ∃ j, p.2 = .v j) {x : Lit} (h : LitW x) : LitW (putL s x) := by
  have hw : ∀ p ∈ s, p.2.Wd 1000 := fun p hp => by obtain ⟨j, e⟩ := hs p hp; rw [e]; exact .v j
  have e1 := size_ren x.l hs
  have e2 := size_ren x.r hs
  exact ⟨by show (x.l.put s).hgt ≤ 20; rw [e1.2]; exact h.hl, by show (x.r.put s).hgt ≤ 20; rw [e2.2]; exact h.hr, by show (x.l.put s).size ≤ 5000; rw [e1.1]; exact h.sl, by show (x.r.put s).size ≤ 5000; rw [e2.1]; exact h.sr, h.wl.put hw, h.wr.put hw⟩
/-- clauses that were renumbered stay -/
theorem renum_again {xs : List Lit} : cvs (xs.map (putL (rn (cvs xs [])))) [] = uTo (cvs xs []).length ∧ (xs.map (putL (rn (cvs xs [])))).map (putL (rn (uTo (cvs xs []).length))) = xs.map (putL (rn (cvs xs []))) := by
  have hn : (cvs xs []).Nodup := cvs_nodup xs [] List.nodup_nil
  have hin : ∀ x ∈ xs, ∀ i, x.l.has i ∨ x.r.has i → i ∈ cvs xs [] := fun x hx i hi => (mem_cvs xs []).mpr (.inr ⟨x, hx, hi⟩)
  have h1 := cvs_ren (s := rn (cvs xs [])) (h := ixOf (cvs xs [])) xs [] (fun x hx i hi => subOf_rn (hin x hx i hi)) (fun i j hi hj e => ixOf_inj hi hj e)
  rw [List.map_nil, map_ixOf hn] at h1
  refine ⟨h1, ?_⟩
  rw [List.map_congr_left (g := id) fun y hy => ?_, List.map_id]
  refine putL_id fun i hi => .inr ?_
  have hm : i ∈ uTo (cvs xs []).length := by
    rw [show uTo (cvs xs []).length = cvs (xs.map (putL (rn (cvs xs [])))) [] from h1.symm]
    exact (mem_cvs _ _).mpr (.inr ⟨y, hy, hi⟩)
  rw [rn_upTo]
  obtain ⟨p, hp, e⟩ : ∃ p ∈ (uTo (cvs xs []).length).map (fun i => (i, Tm.v i)), p = (i, Tm.v i) := ⟨_, List.mem_map_of_mem hm, rfl⟩
  have := subOf_mem (s := (uTo (cvs xs []).length).map fun i => (i, Tm.v i)) (by rw [List.map_map, show (uTo (cvs xs []).length).map ((fun x : Int × Tm => x.1) ∘ fun i => (i, Tm.v i)) = uTo (cvs xs []).length from List.map_id _]; exact uTo_nodup _) hp
  rw [e] at this
  exact this
section
variable {S : Sto} {Q : D → Sto → Prop}
theorem setD_new {r : Nat} {s : List (Int × Tm)} {i : Int} {t : Tm} (hr : S[r]? = some (.dK (eSub s))) (h : ∀ p ∈ s, p.1 ≠ i) (hl : s.length < 1000000) : setDF (.ref r) (.int i) (eT t) S = some (S.set r (.dK (eSub (s ++ [(i, t)])))) := by
  have hl' : (eSub s).length < 1000000 := by unfold eSub; rw [List.length_map]; exact hl
  simp only [setDF, hr, keyD, Option.bind_some, if_pos hl', putD_new h]
theorem wf_inI {r : Nat} {i : Int} {vs : List Int} (h : S[r]? = some (.lst (vs.map D.int))) (q : Q (.bl (decide (i ∈ vs))) S) : wp (fIn (.d (.int i)) (.d (.ref r)) S) Q := by
  refine wp_eq ?_ q
  show ((snap 190 S (.int i)).bind fun p => (snap 190 S (.ref r)).bind fun q => (itemsP q).bind fun qs => some (D.bl (qs.any fun z => PyData.eqv z p), S)) = _
  rw [snap_int, snap_lst h (allS_ints vs)]
  simp only [Option.bind_some, itemsP, any_ints]
theorem wf_ninI {r : Nat} {i : Int} {vs : List Int} (h : S[r]? = some (.lst (vs.map D.int))) (q : Q (.bl (!decide (i ∈ vs))) S) : wp (fNin (.d (.int i)) (.d (.ref r)) S) Q := wp_eq (fNin_ints h) q
theorem isI_lst {r : Nat} {xs : List D} {K : Bool → Prop} (h : S[r]? = some (.lst xs)) (q : K true) : tyK S (.d (.ref r)) "list" K := ⟨"list", by simp only [tyO, h], q⟩
theorem isI_dK {r : Nat} {xs : List (Key × D)} {K : Bool → Prop} (h : S[r]? = some (.dK xs)) (q : K true) : tyK S (.d (.ref r)) "dict" K := ⟨"dict", by simp only [tyO, h], q⟩
theorem snapO_ints {r : Nat} {vs : List Int} (h : S[r]? = some (.lst (vs.map D.int))) : snapO S (.d (.ref r)) = some (.list (vs.map PyData.int)) := snap_lst h (allS_ints vs)
theorem gotD_sub {r : Nat} {s : List (Int × Tm)} {i : Int} (h : S[r]? = some (.dK (eSub s))) : gotD S (.ref r) (.int i) = some ((subOf s i).map eT) := by
  simp only [gotD, dkO, h, keyD, Option.bind_some, valD_sub]
def pPr (p : Int × Tm) : PyData := .tuple [.int p.1, pT p.2]
theorem snap_ePr {n : Nat} {p : Int × Tm} (h : 2 * p.2.hgt + 2 ≤ n) : snap n S (ePr p) = some (pPr p) := by
  obtain ⟨n, rfl⟩ : ∃ m, n = m + 2 := ⟨n - 2, by omega⟩
  show (allS (snap (n + 1) S) [.int p.1, eT p.2]).bind _ = _
  simp only [allS, snap_int, snap_eT p.2 (n := n + 1) (by omega), Option.bind_some, pPr]
theorem snapO_prs {s : List (Int × Tm)} {r : Nat} (hr : S[r]? = some (.lst (s.map ePr))) (h : ∀ p ∈ s, p.2.hgt ≤ 90) : snapO S (.d (.ref r)) = some (.list (s.map pPr)) :=
  snap_lst (n := 189) hr (allS_map ePr pPr s fun p hp => snap_ePr (n := 189) (by have := h p hp; omega))
theorem snapO_prsN {s : List (Int × Tm)} (h : ∀ p ∈ s, p.2.hgt ≤ 90) : snapO S (.n (s.map ePr)) = some (.list (s.map pPr)) := by
  show (allS (snap 189 S) (s.map ePr)).bind _ = _
  rw [allS_map ePr pPr s fun p hp => snap_ePr (by have := h p hp; omega)]
  rfl
end
section
variable {prog : Nat → Option Fb} (hp : ∀ j fb, lZl0[j]? = some fb → prog (0 + j) = some fb) (hp1 : ∀ j fb, lZl1[j]? = some fb → prog (1000 + j) = some fb) (hp2 : ∀ j fb, lZl2[j]? = some fb → prog (2000 + j) = some fb) {k : Nat} {S : Sto}
end
end Zi
set_option maxRecDepth 100000
/-! what is walked, backwards: reversed of a list -/
namespace Zi
open PySem PySem.Spec PyProof.Rows L2
section
variable {g : Wr} {ρ : List Addr} {S : Sto} {H : Hp}
def isLst : O → Bool
  | .n _ => true
  | .d (.ref _) => true
  | .d (.sl _) => true
  | _ => false
theorem seq_lstO (sm : Sim g ρ S H) {o : O} {v : V} {H₀ : Hp} {s : Src} (r : OR g ρ H H₀ o v) (h : srcO S o = some s) (hb : isLst o = true) : s.ok S ∧ ∃ a, v = .ref a ∧
    (∀ ρ' S' H', Ext ρ H ρ' H' → Sim g ρ' S' H' → s.ok S' → ∃ vs, SqL g.K H' a vs ∧ RDs g ρ' H' s.ds vs) := by
  cases r with
  | n h1 h2 h3 h4 =>
    cases h
    exact ⟨trivial, _, rfl, fun ρ' S' H' x _ _ => ⟨_, SqL.of (x.fr _ _ h2 h1).1, x.rds sm h4⟩⟩
  | d r =>
    cases r with
    | sl h1 =>
      cases h
      exact ⟨trivial, _, rfl, fun ρ' S' H' x _ _ => ⟨_, ((x.sub sm).scr _ _ h1).sq, RDs.ints⟩⟩
    | @ref k a e =>
      simp only [srcO] at h
      split at h
      · rename_i xs ec
        cases h
        refine ⟨ec, a, rfl, fun ρ' S' H' x s' ok => ?_⟩
        obtain ⟨o, h1, h2⟩ := s'.cell k a _ (x.pre _ _ e) ok
        cases h2 with
        | lst h2 => exact ⟨_, SqL.of h1, h2⟩
      · cases h
    | _ => cases hb
theorem src_rev {a : Addr} {s : Src} {n : Nat} (hn : n = s.ds.length) (hq : ∀ ρ' S' H', Ext ρ H ρ' H' → Sim g ρ' S' H' → s.ok S' → ∃ vs, SqL g.K H' a vs ∧ RDs g ρ' H' s.ds vs) : SrcR g ρ H ⟨s.ds.reverse, s.ok⟩ (Itv g.K a n) where
  go := fun i d ρ' S' H' hd x sm ok => by
    obtain ⟨vs, h1, h2⟩ := hq ρ' S' H' x sm ok
    have hd' : s.ds.reverse[i]? = some d := hd
    have hi : i < s.ds.length := by
      have := (List.getElem?_eq_some_iff.mp hd').1
      rwa [List.length_reverse] at this
    rw [List.getElem?_reverse hi] at hd'
    obtain ⟨v, h3, h4⟩ := h2.get hd'
    refine ⟨⟨by omega, vs, v, h1, by rw [hn]; exact h3⟩, fun y H2 hy => ?_⟩
    obtain ⟨e, hy⟩ := hy
    subst e
    have e1 := hy vs h1
    rw [hn] at e1
    have e2 := e1.symm.trans h3
    cases e2
    exact ⟨Ext.refl, sm, h4⟩
  stop := fun ρ' S' H' x sm ok => by
    show n ≤ s.ds.reverse.length
    rw [List.length_reverse]
    omega
end
def mRevd (m : MO) : MI := fun l S => (m l S).bind fun p => (srcO p.2 p.1).bind fun s => if isLst p.1 = true then some (⟨s.ds.reverse, s.ok⟩, p.2) else none
section
variable {X : Cx} {tg e : Expr} {pos p : Pos}
theorem i_revd {m : MO} (h : SndO X e m) (hm : X.mg "reversed" = none) (hg : Gl X "reversed" := by rfl) (hs : starEach [e] X.env = [(false, eval e X.env)] := by rfl) (hs1 : starEach (e :: []) X.env = (false, eval e X.env) :: starEach [] X.env := by rfl) :
    SndI X tg (.Call (.Name "reversed" p) [e] [] pos) (mRevd m) := pi_imp (pi_reversed hg hm (pa_cons h pa_nil hs1) hs) fun σ H R h => by
  obtain ⟨ρ, l, S, s, S', hs, hl, hm, q⟩ := h
  obtain ⟨⟨o, S1⟩, e1, hm⟩ := bind2 hm
  obtain ⟨s1, e2, hm⟩ := bind2 hm
  split at hm
  · rename_i hb
    cases hm
    refine ⟨ρ, l, S, o, _, hs, hl, e1, fun ρ1 v H1 x1 sm r1 => ?_⟩
    obtain ⟨ok, a, ev, hq⟩ := seq_lstO sm r1 e2 hb
    subst ev
    obtain ⟨vs, h1, h2⟩ := hq ρ1 S1 H1 Ext.refl sm ok
    exact ⟨a, vs, rfl, h1, q ρ1 H1 _ x1 sm (src_rev h2.length.symm hq)⟩
  · cases hm
end
end Zi
set_option maxRecDepth 100000
/-! shared functions: what they compute -/
namespace Zi
open PySem L2
/-- 3000 0 _law_script, 1 _law_count, 2 _law_rows_here, 3 _law_k, 4 _law_cell -/
noncomputable def c__law_rows (G : GF) : MS := (mSeq (mSet 2 (mAlloc (mLst mNil)))
    (mSeq (mFor (mRng1 (mVar 1)) (mgN 3) (mSeq (mSet 4 (mC (.int 0)))
    (mSeq (mIfS (mBool (mOp fGt (mFn1 fLen (oD (mVar 0))) (mC (.int 0)))) (mSet 4 (mFn1 fInt (oD (mOp ixF (mVar 0) (mOp fMod (mFn1 fInt (oD (mVar 3))) (mFn1 fLen (oD (mVar 0)))))))) mSkip)
    (mSeq (mIfS (mBool (mOp fLt (mVar 4) (mC (.int 0)))) (mSet 4 (mOp fSub (mC (.int 1)) (mOp fMul (mC (.int 2)) (mVar 4)))) mSkip)
    (mSeq (mIfS (mOrT (mBool (mOp fGe (mVar 3) (mFn1 fLen (oD (mVar 0))))) (mBool (mOp fLt (mVar 4) (mC (.int 1000000000))))) (mSeq (mSet 4 (mOp fMod (mFn1 fInt (oD (mOp fMul (mOp fAdd (mOp fAdd (mVar 4) (mOp fMul (mC (.int 977)) (mVar 3))) (mC (.int 5))) (mC (.int 69621))))) (mC (.int 2147483647))))
    (mSet 4 (mOp fMod (mFn1 fInt (oD (mOp fMul (mOp fAdd (mOp fAdd (mVar 4) (mOp fMul (mC (.int 31)) (mVar 3))) (mC (.int 11))) (mC (.int 1099511628211))))) (mC (.int 18446744073709551557))))) mSkip)
    (mDrop (mApp (mVar 2) (mVar 4))))))))
    (mRet (mVar 2))))
/-- 3001 0 _law_state_here, 1 _law_many, 2 _law_digit_here -/
def c__law_digit (G : GF) : MS := (mSeq (mIfS (mBool (mOp fLt (mOp ixF (mVar 0) (mC (.int 0))) (mVar 1))) (mSeq (mSetI (mVar 0) (mC (.int 2)) (mOp fAdd (mOp ixF (mVar 0) (mC (.int 2))) (mC (.int 1))))
    (mSetI (mVar 0) (mC (.int 0)) (mOp fAdd (mOp ixF (mVar 0) (mC (.int 0))) (mOp ixF (mOp ixF (mVar 0) (mC (.int 1))) (mOp fMod (mFn1 fInt (oD (mOp ixF (mVar 0) (mC (.int 2))))) (mFn1 fLen (oD (mOp ixF (mVar 0) (mC (.int 1)))))))))) mSkip)
    (mSeq (mSet 2 (mOp fMod (mFn1 fInt (oD (mOp ixF (mVar 0) (mC (.int 0))))) (mVar 1)))
    (mSeq (mSetI (mVar 0) (mC (.int 0)) (mOp fDiv (mOp ixF (mVar 0) (mC (.int 0))) (mVar 1)))
    (mRet (mVar 2)))))
/-- 3002 0 _law_script, 1 _law_rows_here -/
def c__law_state (G : GF) : MS := (mSeq (mSet 1 (mCall (G 3000) (mCons (mVar 0) (mCons (mC (.int 64)) mNil))))
    (mRet (mAlloc (mLst (mCons (mOp ixF (mVar 1) (mC (.int 0))) (mCons (mVar 1) (mCons (mC (.int 0)) mNil)))))))
noncomputable def lZl3 : List Fb := [mkFb 2 5 c__law_rows,
  mkFb 2 3 c__law_digit,
  mkFb 1 2 c__law_state]
end Zi
set_option maxRecDepth 100000
set_option maxHeartbeats 1000000
/-! more rules: reversed, texts, plain trees; the drawn digits -/
namespace Zi
open PySem L2
local macro_rules | `(tactic| walk_at "dec") => `(tactic| first | decide | omega | assumption)
local macro_rules | `(tactic| walk_at "g1") => `(tactic| first
  | ((with_reducible apply wp_var); (focus (exact rfl)))
  | with_reducible refine wp_c ?_
  | with_reducible refine wp_op ?_
  | with_reducible refine wp_oD ?_
  | with_reducible refine wp_cons ?_
  | with_reducible refine wp_nil ?_
  | ((with_reducible refine nxt_nx ?_); (try dsimp only [List.set_cons_zero, List.set_cons_succ]))
  | with_reducible refine wp_seq ?_
  | with_reducible refine wp_set ?_
  | with_reducible refine wp_ret ?_
  | with_reducible refine nxt_rt ?_
  | with_reducible refine wp_call ?_
  | with_reducible refine wp_opO ?_
  | with_reducible refine wp_bool ?_
  | with_reducible refine isB_bl ?_
  | with_reducible refine wp_ifS ?_
  | with_reducible refine way_t ?_
  | with_reducible refine way_f ?_
  | with_reducible refine way_not ?_
  | ((with_reducible apply wf_ixT); (focus (first | exact atI_0 | exact atI_1 | exact atI_2 | exact atI_3 | exact atI_4 | exact atI_5 | exact atI_6 | exact atI_7 | exact atI_8 | exact atI_9 | assumption)))
  | with_reducible refine wp_fn1 ?_
  | with_reducible refine wf_int ?_
  | with_reducible refine wf_add ?_
  | with_reducible refine wf_sub ?_
  | ((with_reducible refine wf_mod ?_ ?_); (focus (exact modC_r (by walk_at "dec"))))
  | ((with_reducible refine wf_div ?_ ?_); (focus (exact divC_r (by walk_at "dec"))))
  | ((with_reducible refine wf_mul ?_ ?_); (focus (exact mulC_r (by walk_at "dec"))))
  | ((with_reducible refine wf_mul ?_ ?_); (focus (exact mulC_l (by walk_at "dec"))))
  | with_reducible refine wf_eqI ?_
  | with_reducible refine wf_neI ?_
  | ((with_reducible refine wf_pow ?_ ?_); (focus (decide)))
  | with_reducible refine wf_lt ?_
  | with_reducible refine wf_le ?_
  | with_reducible refine wf_gt ?_
  | with_reducible refine wf_ge ?_
  | with_reducible refine wf_eqB ?_
  | with_reducible refine wf_neB ?_
  | with_reducible refine wp_tup ?_
  | ((with_reducible refine shrt_of ?_ ?_); (focus (exact Nat.le_of_ble_eq_true (by exact rfl))))
  | with_reducible refine wp_tru ?_
  | with_reducible refine tru_bl ?_
  | with_reducible refine tru_int ?_
  | with_reducible refine tru_non ?_
  | with_reducible refine tru_tup ?_
  | ((with_reducible apply tru_lst); (focus (first | assumption | exact last_get)))
  | with_reducible refine wp_notT ?_
  | with_reducible refine wp_andT ?_
  | with_reducible refine wp_orT ?_
  | with_reducible refine wp_and ?_
  | with_reducible refine wp_or ?_
  | with_reducible refine wp_not ?_
  | with_reducible refine wp_if ?_
  | with_reducible refine wp_skip ?_
  | with_reducible refine wp_drop ?_
  | with_reducible refine wp_break ?_
  | with_reducible refine wp_cont ?_
  | with_reducible refine nxt_bk ?_
  | with_reducible refine nxt_ct ?_
  | with_reducible refine wp_alloc ?_
  | with_reducible refine wp_lst ?_
  | with_reducible refine wp_oN ?_
  | with_reducible refine wp_oS ?_
  | with_reducible refine valO_d ?_
  | with_reducible refine valO_n ?_
  | with_reducible refine wp_setL ?_
  | with_reducible refine wf_lenT ?_
  | with_reducible refine wf_lenN ?_
  | with_reducible refine wf_lenS ?_
  | ((with_reducible apply wf_lenL); (focus (first | assumption | exact last_get)))
  | with_reducible refine wf_tupcT ?_
  | with_reducible refine wf_tupcN ?_
  | ((with_reducible apply wf_tupcL); (focus (first | assumption | exact last_get)))
  | with_reducible refine wp_for ?_
  | with_reducible refine wp_src ?_
  | with_reducible refine src_tupK ?_
  | with_reducible refine src_nK ?_
  | with_reducible refine src_slK ?_
  | ((with_reducible apply src_lstK); (focus (first | assumption | exact last_get)))
  | with_reducible refine wp_asg ?_
  | with_reducible refine wl_n ?_
  | ((with_reducible refine wl_tup ?_ ?_); (focus (exact rfl)))
  | with_reducible refine wl_cons ?_
  | with_reducible refine wl_nil ?_
  | ((with_reducible apply wp_aug); (focus (exact rfl)))
  | with_reducible refine wf_iadd ?_
  | with_reducible refine wp_isN ?_
  | with_reducible refine wp_notN ?_
  | with_reducible refine wp_isI ?_
  | ((with_reducible apply isI_t); (focus (exact rfl)); (focus (decide)))
  | ((with_reducible apply isI_f); (focus (exact rfl)); (focus (decide)))
  | with_reducible refine loopK_nx ?_
  | with_reducible refine loopK_ct ?_
  | with_reducible refine loopK_bk ?_
  | with_reducible refine loopK_rt ?_
  | with_reducible refine wp_enum ?_
  | with_reducible refine wp_lisc ?_
  | with_reducible refine wp_comp ?_
  | with_reducible refine wp_neg ?_
  | with_reducible refine wp_dnewK ?_
  | with_reducible refine wp_dnewT ?_
  | with_reducible refine wp_get2 ?_
  | with_reducible refine wp_get1 ?_
  | with_reducible refine wp_setD ?_
  | with_reducible refine wp_app ?_
  | with_reducible refine wp_rev ?_
  | with_reducible refine wp_dcopy ?_
  | with_reducible exact ⟨rfl, rfl⟩)
local macro_rules | `(tactic| walk_at "g2") => `(tactic| first
  | walk_at "g1"
  | with_reducible refine wf_ixA0 ?_
  | with_reducible refine wf_ixA1 ?_
  | with_reducible refine wf_ixS0 ?_
  | with_reducible refine wf_ixS1 ?_
  | with_reducible refine wf_ixS2 ?_
  | with_reducible refine wf_ixL0 ?_
  | with_reducible refine wf_ixL1 ?_
  | with_reducible refine wf_ixL2 ?_
  | ((with_reducible refine wf_eqT ?_ ?_ ?_); (focus (walk_at "dec")); (focus (walk_at "dec")))
  | ((with_reducible refine wf_neT ?_ ?_ ?_); (focus (walk_at "dec")); (focus (walk_at "dec")))
  | ((with_reducible refine wf_eqLs ?_ ?_ ?_); (focus (assumption)); (focus (assumption)))
  | ((with_reducible refine wf_neLs ?_ ?_ ?_); (focus (assumption)); (focus (assumption)))
  | ((with_reducible refine wf_eqL ?_ ?_ ?_ ?_ ?_); (focus (walk_at "dec")); (focus (walk_at "dec")); (focus (walk_at "dec")); (focus (walk_at "dec")))
  | ((with_reducible refine wf_neL ?_ ?_ ?_ ?_ ?_); (focus (walk_at "dec")); (focus (walk_at "dec")); (focus (walk_at "dec")); (focus (walk_at "dec")))
  | with_reducible refine way_eq lseq_self ?_
  | with_reducible refine way_eq leq_self ?_
  | with_reducible refine way_eq (teq_self _) ?_
  | with_reducible refine isI_vi ?_
  | with_reducible refine isI_vb ?_
  | with_reducible refine isI_vt ?_
  | ((with_reducible refine wp_eq (r_isvar ?_ _) ?_); (focus (assumption)))
  | ((with_reducible refine wp_eq (r_lisvar ?_ _) ?_); (focus (assumption)))
  | ((with_reducible refine wp_eq (r_lint ?_ _) ?_); (focus (assumption)))
  | ((with_reducible refine wp_eq (run_cell ?_ _ _ ?_ _) ?_); (focus (exact rfl)); (focus (walk_at "dec"))))
local macro_rules | `(tactic| walk_at "go2") => `(tactic| repeat' (walk_at "g2"))
local macro_rules | `(tactic| walk_at "go") => `(tactic| repeat' (walk_at "g1"))
local macro_rules | `(tactic| walk_at "g3") => `(tactic| first
  | with_reducible refine wp_andP ?_
  | with_reducible refine wp_orP ?_
  | with_reducible refine wp_andB ?_
  | with_reducible refine wp_orB ?_
  | with_reducible refine ⟨rfl, rfl, ?_⟩
  | walk_at "g2")
local macro_rules | `(tactic| walk_at "go3") => `(tactic| repeat' (walk_at "g3"))

section
variable {l : Lo} {S : Sto} {Q : D → Sto → Prop} {QA : List D → Sto → Prop} {QT : Bool → Sto → Prop} {QS : Fl → Sto → Prop} {QI : Src → Sto → Prop} {a b c : M} {ma : MA} {sa sb : MS} {oa ob : MO}
theorem wp_revd (h : wp (oa l S) fun o S1 => isLst o = true ∧ ∃ s, srcO S1 o = some s ∧ QI ⟨s.ds.reverse, s.ok⟩ S1) : wp (mRevd oa l S) QI := by
  obtain ⟨x, S1, e1, hb, s, e2, q⟩ := h
  exact ⟨_, S1, by unfold mRevd; simp only [e1, e2, Option.bind_some, hb, if_true], q⟩
theorem wp_findI {α : Type} {ok : Sto → Prop} {tg : MG} {body : MS} {ds : List D} (e : α → D) (xs : List α) (I : Lo → Prop) (p : α → Bool) (g : α → D) (hd : ds = xs.map e) (hl : I l) (hok : ok S)
    (hs : ∀ l x, x ∈ xs → I l → wl (tg (e x) l S) fun l1 => wp (body l1 S) fun f S' => S' = S ∧ if p x = true then f = .rt (g x) else ∃ l2, (f = .nx l2 ∨ f = .ct l2) ∧ I l2)
    (hq : match xs.find? p with | some x => QS (.rt (g x)) S | none => ∀ l, I l → QS (.nx l) S) : wp (forL ok tg body ds l S) QS := by
  subst hd
  induction xs generalizing l with
  | nil => exact ⟨_, _, forL_nil hok, hq l hl⟩
  | cons x xs ih =>
    obtain ⟨l1, e1, f, S1, e2, rfl, hf⟩ := hs l x (by simp) hl
    cases hp : p x with
    | true =>
      rw [if_pos hp] at hf
      subst hf
      rw [List.find?_cons, hp] at hq
      exact ⟨_, _, forL_rt hok e1 e2, hq⟩
    | false =>
      rw [if_neg (by simp [hp])] at hf
      rw [List.find?_cons, hp] at hq
      obtain ⟨l2, hf, hI⟩ := hf
      obtain ⟨f', S', e3, q'⟩ := ih hI (fun l y hy => hs l y (List.mem_cons_of_mem _ hy)) hq
      rcases hf with rfl | rfl
      · exact ⟨f', S', (forL_nx hok e1 e2).trans e3, q'⟩
      · exact ⟨f', S', (forL_ct hok e1 e2).trans e3, q'⟩
theorem wp_ins (h : wp (a l S) fun x S1 => ∃ r ys, x = .ref r ∧ S1[r]? = some (.lst ys) ∧ wp (b l S1) fun y S2 => wp (c l S2) fun z S3 => ∃ (i : Int) (xs : List D), y = .int i ∧ S3[r]? = some (.lst xs) ∧ (xs.length < 1000000 ∧ 0 ≤ i ∧ i < 2 ^ 63) ∧ Q .non (S3.set r (.lst (xs.take i.toNat ++ [z] ++ xs.drop i.toNat)))) : wp (mIns a b c l S) Q := by
  obtain ⟨x, S1, e1, r, ys, rfl, h1, y, S2, e2, z, S3, e3, i, xs, rfl, h3, h4, q⟩ := h
  exact ⟨_, _, by unfold mIns; simp only [e1, Option.bind_some, h1, e2, e3, ownO, h3, if_pos h4], q⟩
/-! ### texts -/
def stS (x : Str) : Bool := PyData.canLay0 (.str x)
theorem eqv_str (x y : Str) : PyData.eqv (.str x) (.str y) = decide (x = y) := by
  simp only [PyData.eqv]
  exact Bool.eq_iff_iff.mpr (by simp)
theorem snap_str {n : Nat} {x : Str} (h : stS x = true) : snap (n + 1) S (.str x) = some (.str x) := by
  show (if PyData.canLay0 (.str x) = true then some (PyData.str x) else none) = _
  rw [if_pos (show PyData.canLay0 (.str x) = true from h)]
theorem wf_eqStr {x y : Str} (hx : stS x = true) (hy : stS y = true) (q : Q (.bl (decide (x = y))) S) : wp (fEq (.d (.str x)) (.d (.str y)) S) Q :=
  wp_eq (a := .bl (decide (x = y))) (by
    show ((snap 190 S (.str x)).bind fun p => (snap 190 S (.str y)).bind fun q => some (D.bl (PyData.eqv p q), S)) = _
    rw [snap_str hx, snap_str hy]
    simp only [Option.bind_some, eqv_str]) q
theorem wf_neStr {x y : Str} (hx : stS x = true) (hy : stS y = true) (q : Q (.bl (!decide (x = y))) S) : wp (fNe (.d (.str x)) (.d (.str y)) S) Q :=
  wp_eq (a := .bl (!decide (x = y))) (by
    show ((snap 190 S (.str x)).bind fun p => (snap 190 S (.str y)).bind fun q => some (D.bl (!PyData.eqv p q), S)) = _
    rw [snap_str hx, snap_str hy]
    simp only [Option.bind_some, eqv_str]) q
end
/-! ### plain trees: no places of the store -/
inductive Pu : Nat → D → Prop
  | non {n : Nat} : Pu (n + 1) .non
  | bl {n : Nat} (b : Bool) : Pu (n + 1) (.bl b)
  | int {n : Nat} (i : Int) : Pu (n + 1) (.int i)
  | str {n : Nat} {x : Str} (h : stS x = true) : Pu (n + 1) (.str x)
  | tup {n : Nat} {xs : List D} (h : ∀ x ∈ xs, Pu n x) : Pu (n + 1) (.tup xs)
theorem Pu.mono {n m : Nat} {d : D} (h : Pu n d) (hm : n ≤ m) : Pu m d := by
  induction h generalizing m with
  | non => obtain ⟨m, rfl⟩ : ∃ j, m = j + 1 := ⟨m - 1, by omega⟩; exact .non
  | bl b => obtain ⟨m, rfl⟩ : ∃ j, m = j + 1 := ⟨m - 1, by omega⟩; exact .bl b
  | int i => obtain ⟨m, rfl⟩ : ∃ j, m = j + 1 := ⟨m - 1, by omega⟩; exact .int i
  | str h => obtain ⟨m, rfl⟩ : ∃ j, m = j + 1 := ⟨m - 1, by omega⟩; exact .str h
  | tup h ih => obtain ⟨m, rfl⟩ : ∃ j, m = j + 1 := ⟨m - 1, by omega⟩; exact .tup fun x hx => ih x hx (by omega)
theorem allS_ex {f : D → Option PyData} : ∀ (xs : List D), (∀ x ∈ xs, ∃ p, f x = some p) → ∃ ps, allS f xs = some ps
  | [], _ => ⟨[], rfl⟩
  | x :: xs, h => by
    obtain ⟨p, hp⟩ := h x (by simp)
    obtain ⟨ps, hps⟩ := allS_ex xs fun y hy => h y (List.mem_cons_of_mem _ hy)
    exact ⟨p :: ps, by simp only [allS, hp, hps, Option.bind_some]⟩
theorem Pu.snap {S : Sto} {n : Nat} {d : D} (h : Pu n d) : ∃ p, Zi.snap n S d = some p := by
  induction h with
  | non => exact ⟨_, rfl⟩
  | bl b => exact ⟨_, rfl⟩
  | int i => exact ⟨_, rfl⟩
  | str h => exact ⟨_, snap_str h⟩
  | tup h ih =>
    obtain ⟨ps, hps⟩ := allS_ex _ ih
    exact ⟨.tuple ps, by rw [snap_tup, hps]; rfl⟩
theorem refLtL_all {n : Nat} : ∀ (xs : List D), (∀ x ∈ xs, refLt n x = true) → refLtL n xs = true
  | [], _ => refLtL_nil
  | x :: xs, h => by rw [refLtL_cons, h x (by simp), refLtL_all xs fun y hy => h y (List.mem_cons_of_mem _ hy)]; rfl
theorem Pu.lt {m n : Nat} {d : D} (h : Pu n d) : refLt m d = true := by
  induction h with
  | non => exact refLt_non
  | bl b => exact refLt_bl b
  | int i => exact refLt_int i
  | str h => exact refLt_str _
  | tup h ih => rw [refLt_tup]; exact refLtL_all _ ih
theorem Pu.nil {n : Nat} : ∀ x ∈ ([] : List D), Pu n x := fun _ h => by cases h
theorem Pu.cons {n : Nat} {d : D} {ds : List D} (h : Pu n d) (hs : ∀ x ∈ ds, Pu n x) : ∀ x ∈ d :: ds, Pu n x := fun x hx => by
  rcases List.mem_cons.mp hx with rfl | hx
  · exact h
  · exact hs x hx
section
variable {S : Sto} {Q : D → Sto → Prop}
theorem wf_eqPu {d : D} (h : Pu 190 d) (q : Q (.bl true) S) : wp (fEq (.d d) (.d d) S) Q := by
  obtain ⟨p, hp⟩ := h.snap (S := S)
  exact wp_eq (fEq_same (p := p) hp hp) q
theorem wf_nePu {d : D} (h : Pu 190 d) (q : Q (.bl false) S) : wp (fNe (.d d) (.d d) S) Q := by
  obtain ⟨p, hp⟩ := h.snap (S := S)
  exact wp_eq (fNe_same (p := p) hp hp) q
end
/-! ### the drawn digits -/
/-- at r stands a state of digits -/
def DSt (r : Nat) (S : Sto) : Prop := ∃ (rr : Nat) (a c : Int) (rows : List Int), rr ≠ r ∧ S[r]? = some (.lst [.int a, .ref rr, .int c]) ∧ S[rr]? = some (.lst (rows.map D.int)) ∧ 0 < rows.length ∧ (∀ x ∈ rows, 0 ≤ x) ∧ 0 ≤ a ∧ 0 ≤ c
/-- only the state at r was changed, and it still is one -/
def DTo (r : Nat) (S S' : Sto) : Prop := DSt r S' ∧ ∃ c, S' = S.set r c
theorem DTo.refl {r : Nat} {S : Sto} (h : DSt r S) : DTo r S S := ⟨h, by
  obtain ⟨rr, a, c, rows, h0, h1, h2⟩ := h
  exact ⟨_, (set_same h1).symm⟩⟩
theorem DTo.trans {r : Nat} {S S1 S2 : Sto} (h : DTo r S S1) (h' : DTo r S1 S2) : DTo r S S2 := ⟨h'.1, by
  obtain ⟨_, c, rfl⟩ := h
  obtain ⟨_, c', rfl⟩ := h'
  exact ⟨c', by rw [List.set_set]⟩⟩
theorem DTo.len {r : Nat} {S S1 : Sto} (h : DTo r S S1) : S1.length = S.length := by
  obtain ⟨_, c, rfl⟩ := h
  simp
theorem DSt.app {r : Nat} {S T : Sto} (h : DSt r S) : DSt r (S ++ T) := by
  obtain ⟨rr, a, c, rows, h0, h1, h2, h3⟩ := h
  exact ⟨rr, a, c, rows, h0, old_get h1, old_get h2, h3⟩
theorem DSt.lt {r : Nat} {S : Sto} (h : DSt r S) : r < S.length := by
  obtain ⟨rr, a, c, rows, h0, h1, h2, h3⟩ := h
  exact (List.getElem?_eq_some_iff.mp h1).1
theorem DTo.get {r j : Nat} {S S' : Sto} (h : DTo r S S') (hj : j ≠ r) : S'[j]? = S[j]? := by
  obtain ⟨_, c, rfl⟩ := h
  rw [List.getElem?_set_ne (fun z => hj z.symm)]
theorem DTo.app {r : Nat} {S T S' : Sto} (h : DTo r (S ++ T) S') (hr : DSt r S) : ∃ S1, S' = S1 ++ T ∧ S1.length = S.length ∧ ∃ c, S1 = S.set r c := by
  obtain ⟨_, c, rfl⟩ := h
  have hl := hr.lt
  exact ⟨S.set r c, by rw [List.set_append_left _ _ hl], by simp, c, rfl⟩
theorem DTo.fin {r : Nat} {S S' : Sto} (h : DTo r S S') {d : D} (hd : refLt S.length d = true) : Zi.fin S (d, S') = (d, S') := by
  obtain ⟨_, c, rfl⟩ := h
  exact fin_set hd
section
variable {prog : Nat → Option Fb} (hp3 : ∀ j fb, lZl3[j]? = some fb → prog (3000 + j) = some fb) {k : Nat} {S : Sto} {Q : D → Sto → Prop}
include hp3
theorem r_digit {r : Nat} (hr : DSt r S) {m : Int} (hm : 0 < m ∧ m < 2 ^ 64) (q : ∀ (d : Int) S', 0 ≤ d → d < m → DTo r S S' → Q (.int d) S') : wp (run prog (k + 1) 3001 [.ref r, .int m] S) Q := by
  refine run_wp (hp3 1 _ rfl) rfl ?_
  show wp (c__law_digit (run prog k) [some (.ref r), some (.int m), none] S) _
  obtain ⟨rr, a, c, rows, h0, h1, h2, h3, h4, h5, h6⟩ := hr
  unfold c__law_digit
  have hS : DSt r S := ⟨rr, a, c, rows, h0, h1, h2, h3, h4, h5, h6⟩
  refine wp_seq (wp_cut (fun f S1 => f = .nx [some (.ref r), some (.int m), none] ∧ ∃ a c, DTo r S S1 ∧ S1[r]? = some (.lst [.int a, .ref rr, .int c]) ∧ S1[rr]? = some (.lst (rows.map D.int)) ∧ 0 ≤ a ∧ 0 ≤ c) ?_ ?_)
  · walk_at "go2"
    refine wf_ixL h1 atI_0 ?_
    walk_at "go2"
    refine way_dec (fun _ => ?_) fun _ => ?_
    · walk_at "go2"
      refine wp_setI ?_
      walk_at "go2"
      refine wf_ixL h1 atI_2 ?_
      walk_at "go2"
      refine ⟨S.set r (.lst [.int a, .ref rr, .int (c + 1)]), by simp only [setF, h1]; rfl, ?_⟩
      have g1 : (S.set r (.lst [.int a, .ref rr, .int (c + 1)]))[r]? = some (.lst [.int a, .ref rr, .int (c + 1)]) := set_get h1
      have g2 : (S.set r (.lst [.int a, .ref rr, .int (c + 1)]))[rr]? = some (.lst (rows.map D.int)) := by rw [List.getElem?_set_ne (fun z => h0 z.symm)]; exact h2
      have gd : DTo r S (S.set r (.lst [.int a, .ref rr, .int (c + 1)])) := ⟨⟨rr, a, c + 1, rows, h0, g1, g2, h3, h4, h5, by omega⟩, _, rfl⟩
      generalize S.set r (.lst [.int a, .ref rr, .int (c + 1)]) = S1 at *
      walk_at "go2"
      refine wp_setI ?_
      walk_at "go2"
      refine wf_ixL g1 atI_0 ?_
      walk_at "go2"
      refine wf_ixL g1 atI_1 ?_
      walk_at "go2"
      refine wf_ixL g1 atI_2 ?_
      walk_at "go2"
      refine wf_ixL g1 atI_1 ?_
      walk_at "go2"
      have e1 := Int.emod_nonneg (c + 1) (show (rows.length : Int) ≠ 0 by omega)
      have e2 := Int.emod_lt_of_pos (c + 1) (show (0 : Int) < rows.length by omega)
      have e3 : ((c + 1) % (rows.length : Nat)).toNat < rows.length := by omega
      rw [List.length_map]
      refine wf_mod (modC_r (by omega)) (wf_ixL (d := .int (rows[((c + 1) % (rows.length : Nat)).toNat])) g2 (by rw [atI_nn e1, List.getElem?_map, List.getElem?_eq_getElem e3]; rfl) ?_)
      have e4 := h4 _ (List.getElem_mem e3)
      generalize rows[((c + 1) % (rows.length : Nat)).toNat] = w at *
      walk_at "go2"
      refine ⟨S1.set r (.lst [.int (a + w), .ref rr, .int (c + 1)]), by simp only [setF, g1]; rfl, ?_⟩
      have gd2 : DTo r S1 (S1.set r (.lst [.int (a + w), .ref rr, .int (c + 1)])) := ⟨⟨rr, a + w, c + 1, rows, h0, set_get g1, by rw [List.getElem?_set_ne (fun z => h0 z.symm)]; exact g2, h3, h4, by omega, by omega⟩, _, rfl⟩
      refine ⟨rfl, a + w, c + 1, gd.trans gd2, set_get g1, by rw [List.getElem?_set_ne (fun z => h0 z.symm)]; exact g2, by omega, by omega⟩
    · walk_at "go2"
      exact ⟨rfl, a, c, DTo.refl hS, h1, h2, h5, h6⟩
  · rintro f S1 ⟨rfl, a, c, g0, g1, g2, ga, gc⟩
    have hm1 := hm.1
    walk_at "go2"
    refine wf_ixL g1 atI_0 ?_
    walk_at "go2"
    refine wp_setI ?_
    walk_at "go2"
    refine wf_ixL g1 atI_0 ?_
    walk_at "go2"
    refine ⟨S1.set r (.lst [.int (a / m), .ref rr, .int c]), by simp only [setF, g1]; rfl, ?_⟩
    walk_at "go2"
    have gd : DTo r S1 (S1.set r (.lst [.int (a / m), .ref rr, .int c])) := ⟨⟨rr, a / m, c, rows, h0, set_get g1, by rw [List.getElem?_set_ne (fun z => h0 z.symm)]; exact g2, h3, h4, Int.ediv_nonneg ga (by omega), gc⟩, _, rfl⟩
    have gt := g0.trans gd
    refine outK_rt ?_
    rw [gt.fin (refLt_int _)]
    exact q _ _ (Int.emod_nonneg _ (by omega)) (Int.emod_lt_of_pos _ hm1) gt
/-- rows of a script -/
theorem r_rows {ns : List Int} {n : Nat} (hn : n ≤ 1000) : ∃ rows : List Int, rows.length = n ∧ (∀ x ∈ rows, 0 ≤ x) ∧ run prog (k + 1) 3000 [.sl ns, .int (n : Nat)] S = some (.ref S.length, S ++ [.lst (rows.map D.int)]) := by
  have out : wp (c__law_rows (run prog k) [some (.sl ns), some (.int (n : Nat)), none, none, none] S) fun f S1 => ∃ rows : List Int, rows.length = n ∧ (∀ x ∈ rows, 0 ≤ x) ∧ f = .rt (.ref S.length) ∧ S1 = S ++ [.lst (rows.map D.int)] := by
    unfold c__law_rows
    walk_at "go2"
    refine wp_rngN ?_
    walk_at "go2"
    refine ⟨n, rfl, by omega, ?_⟩
    refine wp_inv (fun k : Nat => D.int (0 + (k : Nat))) (List.range n) (fun dn l S' => ∃ (rows : List Int) (o3 o4 : Option D), rows.length = dn.length ∧ (∀ x ∈ rows, 0 ≤ x) ∧ l = [some (.sl ns), some (.int (n : Nat)), some (.ref S.length), o3, o4] ∧ S' = S ++ [.lst (rows.map D.int)]) rfl ⟨[], _, _, rfl, by simp, rfl, rfl⟩ (fun _ _ _ _ => trivial) ?_ ?_
    · rintro dn j rest l S' hall ⟨rows, o3, o4, h1, h2, rfl, rfl⟩
      have hlen := congrArg List.length hall
      rw [List.length_range, List.length_append, List.length_cons] at hlen
      rw [show D.int (0 + (j : Nat)) = D.int (j : Nat) by rw [Int.zero_add]]
      generalize hT : S ++ [Cell.lst (rows.map D.int)] = T
      generalize hj : ((j : Nat) : Int) = i
      have hi : 0 ≤ i := by omega
      walk_at "go2"
      refine way_cut (fun f S' => ∃ c : Int, f = .nx [some (.sl ns), some (.int (n : Nat)), some (.ref S.length), some (.int i), some (.int c)] ∧ T = S') (way_dec (fun g => ?_) fun g => ?_) ?_
      · walk_at "go2"
        have hpos : (0 : Int) < ns.length := g
        have e1 := Int.emod_nonneg i (show (ns.length : Int) ≠ 0 by omega)
        have e2 := Int.emod_lt_of_pos i hpos
        have e3 : (i % (ns.length : Nat)).toNat < ns.length := by omega
        refine wf_ixS (n := ns[(i % (ns.length : Nat)).toNat]) (by rw [atI_nn e1, List.getElem?_eq_getElem e3]) ?_
        walk_at "go2"
        exact ⟨_, rfl, rfl⟩
      · walk_at "go2"
        exact ⟨_, rfl, rfl⟩
      · rintro f S' ⟨c, rfl, rfl⟩
        walk_at "go2"
        refine way_cut (fun f S' => ∃ c : Int, 0 ≤ c ∧ f = .nx [some (.sl ns), some (.int (n : Nat)), some (.ref S.length), some (.int i), some (.int c)] ∧ T = S') (way_dec (fun g => ?_) fun g => ?_) ?_
        · walk_at "go2"
          exact ⟨_, by omega, rfl, rfl⟩
        · walk_at "go2"
          exact ⟨_, by omega, rfl, rfl⟩
        · rintro f S' ⟨c, hc, rfl, rfl⟩
          walk_at "go3"
          refine way_cut (fun f S' => ∃ c : Int, 0 ≤ c ∧ f = .nx [some (.sl ns), some (.int (n : Nat)), some (.ref S.length), some (.int i), some (.int c)] ∧ T = S') (way_of (fun g => ?_) fun g => ?_) ?_
          · walk_at "go3"
            exact ⟨_, Int.emod_nonneg _ (by decide), rfl, rfl⟩
          · walk_at "go3"
            exact ⟨_, hc, rfl, rfl⟩
          · rintro f S' ⟨c, hc, rfl, rfl⟩
            subst hT
            walk_at "go3"
            refine ⟨_, _, rfl, last_get, ?_⟩
            walk_at "go3"
            refine ⟨_, last_get, by rw [List.length_map]; omega, ?_⟩
            rw [last_set]
            walk_at "go3"
            refine ⟨rows ++ [c], _, _, by simp [h1], fun x hx => ?_, rfl, by rw [List.map_append]; rfl⟩
            rcases List.mem_append.mp hx with z | z
            · exact h2 x z
            · rw [List.mem_singleton] at z
              rw [z]
              exact hc
    · rintro l S' ⟨rows, o3, o4, h1, h2, rfl, rfl⟩
      rw [List.length_range] at h1
      walk_at "go2"
      exact ⟨rows, h1, h2, rfl, rfl⟩
  obtain ⟨f, S1, h, rows, h1, h2, rfl, rfl⟩ := out
  exact ⟨rows, h1, h2, run_list (T := []) (hp3 0 _ rfl) rfl h (refLtL_ints _)⟩
theorem r_state {ns : List Int} (q : ∀ S', DSt (S.length + 1) S' → S'.length = S.length + 2 → (∃ T, S' = S ++ T) → Q (.ref (S.length + 1)) S') : wp (run prog (k + 2) 3002 [.sl ns] S) Q := by
  refine run_wp (hp3 2 _ rfl) rfl ?_
  show wp (c__law_state (run prog (k + 1)) [some (.sl ns), none] S) _
  unfold c__law_state
  obtain ⟨rows, h1, h2, h3⟩ := r_rows hp3 (k := k) (S := S) (ns := ns) (n := 64) (by omega)
  walk_at "go2"
  refine wp_eq h3 ?_
  cases rows with
  | nil => cases h1
  | cons w rows =>
    walk_at "go2"
    refine wf_ixL last_get atI_0 ?_
    walk_at "go2"
    have hl : (S ++ [Cell.lst ((w :: rows).map D.int)]).length = S.length + 1 := by simp
    refine outK_rt ?_
    have e : fin S (.ref (S ++ [Cell.lst ((w :: rows).map D.int)]).length, S ++ [Cell.lst ((w :: rows).map D.int)] ++ [.lst [.int w, .ref S.length, .int 0]]) = (.ref (S.length + 1), S ++ [Cell.lst ((w :: rows).map D.int)] ++ [.lst [.int w, .ref S.length, .int 0]]) := by
      unfold fin
      dsimp only
      rw [if_pos (by rw [List.append_assoc]; exact List.take_left), if_neg (by simp [refLt])]
      simp only [last_get]
      rw [if_neg (by simp [cellLt, refLtL, refLt]), hl]
    rw [e]
    refine q _ ⟨S.length, w, 0, w :: rows, by omega, by rw [← hl]; exact last_get, old_get last_get, by simp, h2, h2 w (by simp), by decide⟩ (by simp) ⟨_, List.append_assoc _ _ _⟩
end
end Zi
set_option maxRecDepth 100000
/-! == of tuples, lists with dicts inside: where both are alike -/
namespace Zi
open PySem PySem.Spec PyProof.Rows L2
theorem mix_pairs {P P' : Program} {w w' : World} : ∀ {es : List DictEntry} {kvs : List (Key × Value)}, Pairs (mixKind P w) es kvs → Pairs (mixKind P' w') es kvs
  | _, _, .nil => .nil
  | _, _, .cons h1 h2 h3 => .cons h1 h2 (mix_pairs h3)
theorem pairs_mem {P : Program} {w : World} : ∀ {es : List DictEntry} {kvs : List (Key × Value)}, Pairs (mixKind P w) es kvs → ∀ e ∈ es, ∃ kv ∈ kvs, (mixKind P w).is kv.1 e.key = true
  | _, _, .nil, e, h => by cases h
  | _, _, .cons h1 h2 h3, e, h => by
    rcases List.mem_cons.mp h with rfl | h
    · exact ⟨_, by simp, h1⟩
    · obtain ⟨kv, g1, g2⟩ := pairs_mem h3 e h
      exact ⟨kv, List.mem_cons_of_mem _ g1, g2⟩
def IntKs {α : Type} (kvs : List (Key × α)) : Prop := ∀ p ∈ kvs, ∃ i : Int, p.1 = .inl i
theorem mix_dict {P P' : Program} {w w' : World} {h : Heap} {a : Addr} {kvs : List (Key × Value)} (hi : IntKs kvs) (d : Heap.DictOf (mixKind P w) h a kvs) : Heap.DictOf (mixKind P' w') h a kvs := by
  obtain ⟨o, es, ep, h1, h2, h3, h4, h5, h6⟩ := d
  refine ⟨o, es, ep, h1, h2, h3, fun e he => ?_, mix_pairs h5, h6⟩
  obtain ⟨k, g1, g2⟩ := h4 e he
  obtain ⟨kv, g3, g4⟩ := pairs_mem h5 e (by simpa using he)
  obtain ⟨i, g5⟩ := hi kv g3
  have := (mixKind P w).inj _ _ _ g1 g4
  subst this
  refine ⟨kv.1, g1, ?_⟩
  rw [g2, g5]
  rfl
theorem intKs_kv {ks : List (Key × V)} {va : List (Key × Value)} (h : KV ks va) (hi : IntKs ks) : IntKs va := by
  induction h with
  | nil => intro p hp; cases hp
  | @cons p q ps qs hpq t ih =>
    intro x hx
    rcases List.mem_cons.mp hx with rfl | hx
    · obtain ⟨i, e⟩ := hi p (by simp)
      exact ⟨i, hpq.1 ▸ e⟩
    · exact ih (fun y hy => hi y (List.mem_cons_of_mem _ hy)) x hx
/-- alike, one step -/
def EqS (K : PySem.W.Frag) (H : Hp) (E : V → V → Prop) (x y : V) : Prop :=
  (∃ p, Dp K H x p ∧ Dp K H y p ∧ p.canLay0 = true ∧ p.depth ≤ 100 ∧ PyData.eqv p p = true) ∨
  (∃ a b xs ys, x = .ref a ∧ y = .ref b ∧ SqT K H a xs ∧ SqT K H b ys ∧ Paired E xs ys) ∨
  (∃ a b xs ys, x = .ref a ∧ y = .ref b ∧ SqL K H a xs ∧ SqL K H b ys ∧ Paired E xs ys) ∨
  ∃ a b ks ls, x = .ref a ∧ y = .ref b ∧ H a = some (.dK ks) ∧ H b = some (.dK ls) ∧ IntKs ks ∧ IntKs ls ∧ ks.length = ls.length ∧ ∀ p ∈ ks, ∃ u, valV ls p.1 = some u ∧ E p.2 u
def EqW (K : PySem.W.Frag) (H : Hp) : Nat → V → V → Prop
  | 0 => fun _ _ => False
  | n + 1 => EqS K H (EqW K H n)
section
variable {X : Cx} {pins : List (Addr × Obj)} {σ : L2.St} {H : Hp} {s : Shared}
theorem items_at {A : Around} {E : V → V → Prop} (hE : ∀ x y v u, E x y → RelV x v → RelV y u → SeqAt.EqAt A s v u true) : ∀ {xs ys : List V}, Paired E xs ys → ∀ {us ws : List Value}, Vals xs us → Vals ys ws → ∀ (j : Nat) (h1 : j < us.length) (h2 : j < ws.length), SeqAt.EqAt A s us[j] ws[j] true
  | _, _, .nil, us, ws, h, h', j, h1, h2 => by
    have := h.length
    simp at this
    omega
  | _, _, .cons e r, us, ws, h, h', j, h1, h2 => by
    cases h with
    | cons a b =>
      cases h' with
      | cons c d =>
        cases j with
        | zero => exact hE _ _ _ _ e a c
        | succ j => exact items_at hE r b d j (by simpa using h1) (by simpa using h2)
theorem range_all {n : Nat} : (List.range n).all (fun _ => true) = true := List.all_eq_true.mpr fun _ _ => rfl
theorem rcS (I : Inv X pins σ H s) {A : Around} {E : V → V → Prop} (hu : A.units + 100 < cLine) (hE : ∀ x y v u, E x y → RelV x v → RelV y u → SeqAt.EqAt A.in1 s v u true) {x y : V} {v u : Value} (h : EqS X.K H E x y) (rx : RelV x v) (ry : RelV y u) : SeqAt.RcAt A s v u true := by
  rcases h with ⟨p, h1, h2, h3, h4, h5⟩ | ⟨a, b, xs, ys, rfl, rfl, h1, h2, h3⟩ | ⟨a, b, xs, ys, rfl, rfl, h1, h2, h3⟩ | ⟨a, b, ks, ls, rfl, rfl, h1, h2, i1, i2, h3, h4⟩
  · obtain ⟨as, r1⟩ := Dp.reads I _ _ _ h1 rx
    obtain ⟨bs, r2⟩ := Dp.reads I _ _ _ h2 ry
    have := SeqAt.rcAt_reads (A := A) r1 r2 h3 h3 (by omega)
    rw [h5] at this
    exact this
  · cases rx; cases ry
    obtain ⟨us, q1, p1, z1⟩ := I.tuple h1
    obtain ⟨ws, q2, p2, z2⟩ := I.tuple h2
    have hsz : us.length = ws.length := by rw [← q1.length, ← q2.length, h3.length]
    have := SeqAt.RcAt.tuples (A := A) (e := fun _ => true) (show s.heap.IsTuple a us.toArray from p1) (show s.heap.IsTuple b ws.toArray from p2) (by omega) fun j g1 g2 => items_at hE h3 q1 q2 j (by simpa using g1) (by simpa using g2)
    rw [range_all] at this
    simpa [hsz] using this
  · cases rx; cases ry
    obtain ⟨us, q1, p1, z1⟩ := I.list h1
    obtain ⟨ws, q2, p2, z2⟩ := I.list h2
    have hsz : us.length = ws.length := by rw [← q1.length, ← q2.length, h3.length]
    have := SeqAt.RcAt.lists (A := A) (e := fun _ => true) p1.isList p2.isList (by simpa using hsz) (by omega) fun j g1 g2 => items_at hE h3 q1 q2 j (by simpa using g1) (by simpa using g2)
    rw [range_all] at this
    exact this
  · cases rx; cases ry
    intro P w E0 Q q
    obtain ⟨_, ya, va, ra, da⟩ := show ks.length ≤ sizeLine ∧ (a == sysModules) = false ∧ ∃ vs, KV ks vs ∧ Heap.DictOf (mixKind X.prog X.w) s.heap a vs from I.hok a _ h1
    obtain ⟨_, yb, vb, rb, db⟩ := show ls.length ≤ sizeLine ∧ (b == sysModules) = false ∧ ∃ vs, KV ls vs ∧ Heap.DictOf (mixKind X.prog X.w) s.heap b vs from I.hok b _ h2
    have hits : ∀ {ks : List (Key × V)} {va : List (Key × Value)}, KV ks va → (∀ p ∈ ks, ∃ u, valV ls p.1 = some u ∧ E p.2 u) → PySem.W.KeqHitsP P w A.in1 s vb va true := hits_run (fun x y v u e r1 r2 => (hE x y v u e r1 r2).eqP) rb
    refine PySem.W.rcP_dicts (knd := mixKind P w) ya yb (mix_dict (intKs_kv ra i1) da) (mix_dict (intKs_kv rb i2) db) (by omega) (fun _ => hits ra h4) E0 Q ?_
    rw [show (va.length == vb.length && true) = true by rw [← ra.length, ← rb.length, h3]; simp]
    exact q
theorem eqS_at (I : Inv X pins σ H s) {A : Around} {E : V → V → Prop} (hu : A.units + 100 < cLine) (hE : ∀ x y v u, E x y → RelV x v → RelV y u → SeqAt.EqAt A.in1 s v u true) {x y : V} {v u : Value} (h : EqS X.K H E x y) (rx : RelV x v) (ry : RelV y u) : SeqAt.EqAt A s v u true := by
  have hr := rcS I hu hE h rx ry
  rcases h with ⟨p, h1, h2, h3, h4, h5⟩ | h
  · obtain ⟨as, r1⟩ := Dp.reads I _ _ _ h1 rx
    obtain ⟨bs, r2⟩ := Dp.reads I _ _ _ h2 ry
    have := SeqAt.eqAt_reads p p A s v u as bs r1 r2 h3 h3 (by omega)
    rw [h5] at this
    exact this
  · have hxy : ∃ a b, x = .ref a ∧ y = .ref b := by
      rcases h with ⟨a, b, _, _, e1, e2, _⟩ | ⟨a, b, _, _, e1, e2, _⟩ | ⟨a, b, _, _, e1, e2, _⟩ <;> exact ⟨a, b, e1, e2⟩
    obtain ⟨a, b, rfl, rfl⟩ := hxy
    cases rx; cases ry
    by_cases e : a = b
    · subst e
      exact SeqAt.EqAt.same _
    · exact fun P w => SeqAt.eqP_refs e (hr P w)
theorem eqW_at (I : Inv X pins σ H s) : ∀ (n : Nat) {A : Around}, A.units + n + 100 < cLine → ∀ x y v u, EqW X.K H n x y → RelV x v → RelV y u → SeqAt.EqAt A s v u true
  | 0, _, _, _, _, _, _, h, _, _ => h.elim
  | n + 1, A, hu, x, y, v, u, h, rx, ry => eqS_at I (by omega) (eqW_at I n (by show A.units + 1 + n + 100 < cLine; omega)) h rx ry
end
def rEqW (K : PySem.W.Frag) : R2 := fun x y H Q => EqS K H (EqW K H 60) x y ∧ Q (.bl true) H
def rNeW (K : PySem.W.Frag) : R2 := fun x y H Q => (∃ a b xs ys, x = .ref a ∧ y = .ref b ∧ ((SqT K H a xs ∧ SqT K H b ys) ∨ (SqL K H a xs ∧ SqL K H b ys)) ∧ Paired (EqW K H 60) xs ys) ∧ Q (.bl false) H
section
variable {X : Cx}
theorem op_eqW (hu : X.A.units + 170 < cLine) : OpR X (compareOp .Eq) (rEqW X.K) := fun pins s σ H x y v u Q I rx ry ⟨h, q⟩ =>
  rcS I (by omega) (eqW_at I 60 (by show X.A.units + 1 + 60 + 100 < cLine; omega)) h rx ry X.prog X.w _ _ ⟨.bl true, H, I, rfl, q⟩
theorem op_neW (hu : X.A.units + 170 < cLine) : OpR X (compareOp .NotEq) (rNeW X.K) := fun pins s σ H x y v u Q I rx ry ⟨h, q⟩ => by
  have hE := @eqW_at X pins σ H s I 60 X.A.in1 (by show X.A.units + 1 + 60 + 100 < cLine; omega)
  obtain ⟨a, b, xs, ys, rfl, rfl, h1, h3⟩ := h
  cases rx; cases ry
  rcases h1 with ⟨h1, h2⟩ | ⟨h1, h2⟩
  · obtain ⟨us, q1, p1, z1⟩ := I.tuple h1
    obtain ⟨ws, q2, p2, z2⟩ := I.tuple h2
    have hsz : us.length = ws.length := by rw [← q1.length, ← q2.length, h3.length]
    have := SeqAt.RcNeAt.tuples (A := X.A) (e := fun _ => true) (show s.heap.IsTuple a us.toArray from p1) (show s.heap.IsTuple b ws.toArray from p2) (by omega) fun j g1 g2 => items_at hE h3 q1 q2 j (by simpa using g1) (by simpa using g2)
    rw [range_all] at this
    exact (show SeqAt.RcNeAt X.A s (.ref a) (.ref b) false by simpa [hsz] using this) X.prog X.w _ _ ⟨.bl false, H, I, rfl, q⟩
  · obtain ⟨us, q1, p1, z1⟩ := I.list h1
    obtain ⟨ws, q2, p2, z2⟩ := I.list h2
    have hsz : us.length = ws.length := by rw [← q1.length, ← q2.length, h3.length]
    have := SeqAt.RcNeAt.lists (A := X.A) (e := fun _ => true) p1.isList p2.isList (by simpa using hsz) (by omega) fun j g1 g2 => items_at hE h3 q1 q2 j (by simpa using g1) (by simpa using g2)
    rw [range_all] at this
    exact (show SeqAt.RcNeAt X.A s (.ref a) (.ref b) false from this) X.prog X.w _ _ ⟨.bl false, H, I, rfl, q⟩
end
/-! ### data -/
def All2 (E : D → D → Prop) : List D → List D → Prop
  | [], [] => True
  | x :: xs, y :: ys => E x y ∧ All2 E xs ys
  | _, _ => False
def EqDs (S : Sto) (E : D → D → Prop) (x y : D) : Prop :=
  (∃ p, snap 100 S x = some p ∧ snap 100 S y = some p) ∨
  (∃ xs ys, x = .tup xs ∧ y = .tup ys ∧ All2 E xs ys) ∨
  (∃ i j xs ys, x = .ref i ∧ y = .ref j ∧ S[i]? = some (.lst xs) ∧ S[j]? = some (.lst ys) ∧ All2 E xs ys) ∨
  ∃ i j ks ls, x = .ref i ∧ y = .ref j ∧ S[i]? = some (.dK ks) ∧ S[j]? = some (.dK ls) ∧ IntKs ks ∧ IntKs ls ∧ ks.length = ls.length ∧ ∀ p ∈ ks, ∃ u, valD ls p.1 = some u ∧ E p.2 u
def EqD (S : Sto) : Nat → D → D → Prop
  | 0 => fun _ _ => False
  | n + 1 => EqDs S (EqD S n)
section
variable {g : Wr} {ρ : List Addr} {S : Sto} {H : Hp}
theorem all2_ok {E : D → D → Prop} {F : V → V → Prop} (hE : ∀ x y v u, E x y → RD g ρ H x v → RD g ρ H y u → F v u) : ∀ {xs ys : List D} {vs us : List V}, All2 E xs ys → RDs g ρ H xs vs → RDs g ρ H ys us → Paired F vs us
  | [], [], _, _, _, .nil, .nil => .nil
  | _ :: _, _ :: _, _, _, h, .cons a b, .cons c d => .cons (hE _ _ _ _ h.1 a c) (all2_ok hE h.2 b d)
  | [], _ :: _, _, _, h, _, _ => h.elim
  | _ :: _, [], _, _, h, _, _ => h.elim
theorem rdk_ints : ∀ {ks : List (Key × D)} {vs : List (Key × V)}, RDk g ρ H ks vs → IntKs ks → IntKs vs
  | _, _, .nil, _, p, hp => by cases hp
  | _, _, @RDk.cons _ _ _ _ k d _ _ _ r rs, hi, p, hp => by
    rcases List.mem_cons.mp hp with rfl | hp
    · exact hi (k, d) (by simp)
    · exact rdk_ints rs (fun y hy => hi y (List.mem_cons_of_mem _ hy)) p hp
theorem eqDs_ok (s : Sim g ρ S H) {E : D → D → Prop} {F : V → V → Prop} (hE : ∀ x y v u, E x y → RD g ρ H x v → RD g ρ H y u → F v u) {x y : D} {v u : V} (h : EqDs S E x y) (rx : RD g ρ H x v) (ry : RD g ρ H y u) : EqS g.K H F v u := by
  rcases h with ⟨p, h1, h2⟩ | ⟨xs, ys, rfl, rfl, h⟩ | ⟨i, j, xs, ys, rfl, rfl, h1, h2, h⟩ | ⟨i, j, ks, ls, rfl, rfl, h1, h2, i1, i2, h3, h⟩
  · obtain ⟨a1, a2, a3⟩ := snap_ok s 100 _ _ _ rx h1
    obtain ⟨b1, b2, b3⟩ := snap_ok s 100 _ _ _ ry h2
    exact .inl ⟨p, a1, b1, a2, a3, eqv_self h1⟩
  · cases rx with
    | tup t1 r1 =>
      cases ry with
      | tup t2 r2 => exact .inr (.inl ⟨_, _, _, _, rfl, rfl, .inl (.inl t1), .inl (.inl t2), all2_ok hE h r1 r2⟩)
  · cases rx with
    | ref e1 =>
      cases ry with
      | ref e2 =>
        obtain ⟨o1, g1, c1⟩ := s.cell _ _ _ e1 h1
        obtain ⟨o2, g2, c2⟩ := s.cell _ _ _ e2 h2
        cases c1 with
        | lst c1 =>
          cases c2 with
          | lst c2 => exact .inr (.inr (.inl ⟨_, _, _, _, rfl, rfl, SqL.of g1, SqL.of g2, all2_ok hE h c1 c2⟩))
  · cases rx with
    | ref e1 =>
      cases ry with
      | ref e2 =>
        obtain ⟨o1, g1, c1⟩ := s.cell _ _ _ e1 h1
        obtain ⟨o2, g2, c2⟩ := s.cell _ _ _ e2 h2
        cases c1 with
        | dK c1 =>
          cases c2 with
          | dK c2 =>
            refine .inr (.inr (.inr ⟨_, _, _, _, rfl, rfl, g1, g2, rdk_ints c1 i1, rdk_ints c2 i2, by rw [← c1.length, ← c2.length, h3], ?_⟩))
            clear g1 h1 h3 e1 i1
            induction c1 with
            | nil => intro p hp; cases hp
            | @cons k d v ds vs r rs ih =>
              intro p hp
              rcases List.mem_cons.mp hp with rfl | hp
              · obtain ⟨w, hw, hE'⟩ := h (k, d) (by simp)
                have := c2.val (k := k)
                rw [show valD ls k = some w from hw] at this
                generalize hz : valV _ k = z at this
                cases this with
                | yes r2 => exact ⟨_, rfl, hE _ _ _ _ hE' r r2⟩
              · exact ih (fun q hq => h q (List.mem_cons_of_mem _ hq)) p hp
theorem eqD_ok (s : Sim g ρ S H) : ∀ (n : Nat) x y v u, EqD S n x y → RD g ρ H x v → RD g ρ H y u → EqW g.K H n v u
  | 0, _, _, _, _, h, _, _ => h.elim
  | n + 1, x, y, v, u, h, rx, ry => eqDs_ok s (eqD_ok s n) h rx ry
end
open Classical in
noncomputable def fEqW : OpF := fun x y S => if EqDs S (EqD S 60) x y then some (.bl true, S) else none
open Classical in
noncomputable def fNeW : OpF := fun x y S => if (∃ xs ys, x = .tup xs ∧ y = .tup ys ∧ All2 (EqD S 60) xs ys) ∨ (∃ i j xs ys, x = .ref i ∧ y = .ref j ∧ S[i]? = some (.lst xs) ∧ S[j]? = some (.lst ys) ∧ All2 (EqD S 60) xs ys) then some (.bl false, S) else none
theorem eqW_ok {g : Wr} : OpOk g (rEqW g.K) fEqW := fun ρ S H x y v u z S' Q s rx ry h q => by
  unfold fEqW at h
  split at h
  · rename_i hz
    cases h
    exact ⟨eqDs_ok s (eqD_ok s 60) hz rx ry, q ρ _ H Ext.refl s (.bl _)⟩
  · cases h
theorem neW_ok {g : Wr} : OpOk g (rNeW g.K) fNeW := fun ρ S H x y v u z S' Q s rx ry h q => by
  unfold fNeW at h
  split at h
  · rename_i hz
    cases h
    refine ⟨?_, q ρ _ H Ext.refl s (.bl _)⟩
    rcases hz with ⟨xs, ys, rfl, rfl, hz⟩ | ⟨i, j, xs, ys, rfl, rfl, h1, h2, hz⟩
    · cases rx with
      | tup t1 r1 =>
        cases ry with
        | tup t2 r2 => exact ⟨_, _, _, _, rfl, rfl, .inl ⟨.inl (.inl t1), .inl (.inl t2)⟩, all2_ok (eqD_ok s 60) hz r1 r2⟩
    · cases rx with
      | ref e1 =>
        cases ry with
        | ref e2 =>
          obtain ⟨o1, g1, c1⟩ := s.cell _ _ _ e1 h1
          obtain ⟨o2, g2, c2⟩ := s.cell _ _ _ e2 h2
          cases c1 with
          | lst c1 =>
            cases c2 with
            | lst c2 => exact ⟨_, _, _, _, rfl, rfl, .inr ⟨SqL.of g1, SqL.of g2⟩, all2_ok (eqD_ok s 60) hz c1 c2⟩
  · cases h
section
variable {X : Cx} {pos : Pos} {a b : Expr} {ma mb : M}
theorem s_eqW (hu : X.A.units + 200 < cLine) (ha : Snd X a ma) (hb : Snd X b mb) : Snd X (.Compare a [.Eq] [b] pos) (mOp fEqW ma mb) := s_cmp (op_eqW (by omega)) eqW_ok ha hb (nomark b)
theorem t_eqW (hu : X.A.units + 200 < cLine) (ha : Snd X a ma) (hb : Snd X b mb) : SndT X (.Compare a [.Eq] [b] pos) (mBool (mOp fEqW ma mb)) := t_cmp (op_eqW (by omega)) eqW_ok ha hb (nomark b)
theorem s_neW (hu : X.A.units + 200 < cLine) (ha : Snd X a ma) (hb : Snd X b mb) : Snd X (.Compare a [.NotEq] [b] pos) (mOp fNeW ma mb) := s_cmp (op_neW (by omega)) neW_ok ha hb (nomark b)
theorem t_neW (hu : X.A.units + 200 < cLine) (ha : Snd X a ma) (hb : Snd X b mb) : SndT X (.Compare a [.NotEq] [b] pos) (mBool (mOp fNeW ma mb)) := t_cmp (op_neW (by omega)) neW_ok ha hb (nomark b)
end
end Zi
set_option maxRecDepth 100000
/-! texts: f-strings, join -/
namespace Zi
open PySem PySem.Spec PyProof.Rows L2
def mFmt (m : M) : M := fun l S => (m l S).bind fun p => match p.1 with
  | .str y => if y.length ≤ 1000000 then some (.str y, p.2) else none
  | .int i => if i.natAbs < 2 ^ 1000 then some (.str (toString i), p.2) else none
  | _ => none
def mJsL : List M → Str → M
  | [], acc => fun _ S => some (.str acc, S)
  | m :: ms, acc => fun l S => (m l S).bind fun p => match p.1 with
    | .str y => if (acc ++ y).length ≤ 1000000 then mJsL ms (acc ++ y) l p.2 else none
    | _ => none
def mJs (ms : List M) : M := mJsL ms Str.empty
theorem log2_lt {n : Nat} (h : n < 2 ^ 1000) : n.log2 < 1920 := by
  rcases Nat.eq_zero_or_pos n with z | z
  · subst z; decide
  · have := (Nat.log2_lt (by omega)).mpr h
    omega
inductive SndJ (X : Cx) : List Expr → List M → Prop
  | nil : SndJ X [] []
  | cons {e : Expr} {m : M} {es : List Expr} {ms : List M} : Snd X e m → SndJ X es ms → SndJ X (e :: es) (m :: ms)
section
variable {X : Cx} {pos apos : Pos}
theorem s_fmt {e : Expr} {m : M} (h : Snd X e m) : Snd X (.FormattedValue e (-1) none pos) (mFmt m) := pe_imp (pe_fmt h) fun σ H Q h => by
  obtain ⟨ρ, l, S, d, S', hs, hl, hm, q⟩ := h
  obtain ⟨⟨x, S1⟩, e1, hm⟩ := bind2 hm
  refine ⟨ρ, l, S, x, S1, hs, hl, e1, fun ρ1 v H1 x1 s1 r1 => ?_⟩
  cases r1 with
  | str y =>
    dsimp only at hm
    split at hm
    · rename_i hz
      cases hm
      exact .inl ⟨y, rfl, le_line hz (by decide), q ρ1 _ H1 x1 s1 (.str y)⟩
    · cases hm
  | int i =>
    dsimp only at hm
    split at hm
    · rename_i hz
      cases hm
      exact .inr ⟨i, rfl, log2_lt hz, q ρ1 _ H1 x1 s1 (.str _)⟩
    · cases hm
  | _ => cases hm
theorem pj_of {es : List Expr} {ms : List M} (h : SndJ X es ms) : PJ X es (ms.map (tM (Cx.g X))) := by
  induction h with
  | nil => exact .nil
  | cons h _ ih => exact .cons h ih
theorem js_of {g : Wr} : ∀ (ms : List M) (acc : Str) (ρ : List Addr) (l : Lo) (S : Sto) (d : D) (S' : Sto) (σ : L2.St) (H : Hp) (Q : V → Hp → Prop), Sim g ρ S H → LocR g ρ H l σ → mJsL ms acc l S = some (d, S') → (∀ ρ' v H', Ext ρ H ρ' H' → Sim g ρ' S' H' → RD g ρ' H' d v → Q v H') → tJs (ms.map (tM g)) acc σ H fun out H1 => Q (.str out) H1
  | [], acc, ρ, l, S, d, S', σ, H, Q, hs, hl, hm, q => by
    cases hm
    exact q ρ _ H Ext.refl hs (.str acc)
  | m :: ms, acc, ρ, l, S, d, S', σ, H, Q, hs, hl, hm, q => by
    obtain ⟨⟨x, S1⟩, e1, hm⟩ := bind2 (show (m l S).bind _ = some (d, S') from hm)
    refine ⟨ρ, l, S, x, S1, hs, hl, e1, fun ρ1 v H1 x1 s1 r1 => ?_⟩
    cases r1 with
    | str y =>
      dsimp only at hm
      split at hm
      · rename_i hz
        refine ⟨y, rfl, le_line hz (by decide), js_of ms (acc ++ y) ρ1 l S1 d S' σ H1 Q s1 (x1.loc hs hl) hm fun ρ2 v2 H2 x2 s2 r2 => q ρ2 v2 H2 (x1.trans x2) s2 r2⟩
      · cases hm
    | _ => cases hm
theorem s_joined {v1 v2 : Expr} {rest : List Expr} {ms : List M} (h : SndJ X (v1 :: v2 :: rest) ms) : Snd X (.JoinedStr (v1 :: v2 :: rest) pos) (mJs ms) := pe_imp (pe_joined (pj_of h)) fun σ H Q h => by
  obtain ⟨ρ, l, S, d, S', hs, hl, hm, q⟩ := h
  exact js_of ms Str.empty ρ l S d S' σ H Q hs hl hm q
def allT : List D → Option (List Str)
  | [] => some []
  | .str i :: ds => (allT ds).bind fun r => some (i :: r)
  | _ :: _ => none
theorem allT_ok {g : Wr} {ρ : List Addr} {H : Hp} : ∀ {ds : List D} {vs : List V} {ns : List Str}, RDs g ρ H ds vs → allT ds = some ns → vs = ns.map V.str
  | _, _, _, .nil, h => by cases h; rfl
  | _, _, _, .cons r rs, h => by
    cases r <;> first
      | (obtain ⟨q, e1, h⟩ := bind2 h
         cases h
         rw [allT_ok rs e1]
         rfl)
      | cases h
/-- a.join(xs) -/
def mJoin (o : M) (e : MO) : M := fun l S => (o l S).bind fun p => match p.1 with
  | .str a => (e l p.2).bind fun q => (lisO q.2 q.1).bind fun ds => (allT ds).bind fun ys => if (ys.map Str.length).sum + ys.length * a.length ≤ 16777216 then some (.str (Txt.join a ys), q.2) else none
  | _ => none
theorem s_join {o e : Expr} {mo : M} {me : MO} (ho : Snd X o mo) (he : SndO X e me) (hs1 : starEach [e] X.env = [(false, eval e X.env)] := by rfl) (hbase : attributeBase o "join" X.env (eval o X.env) = eval o X.env := by rfl) (hline : (apos.endLine == pos.line) = true := by rfl) : Snd X (.Call (.Attribute o "join" apos) [e] [] pos) (mJoin mo me) :=
  pe_imp (pe_join ho he hs1 hbase hline) fun σ H Q h => by
  obtain ⟨ρ, l, S, d, S', hs, hl, hm, q⟩ := h
  obtain ⟨⟨x, S1⟩, e1, hm⟩ := bind2 hm
  refine ⟨ρ, l, S, x, S1, hs, hl, e1, fun ρ1 v H1 x1 s1 r1 => ?_⟩
  cases r1 with
  | str a =>
    obtain ⟨⟨y, S2⟩, e2, hm⟩ := bind2 hm
    obtain ⟨ds, e3, hm⟩ := bind2 hm
    obtain ⟨ys, e4, hm⟩ := bind2 hm
    split at hm
    · rename_i hz
      cases hm
      refine ⟨⟨a, rfl⟩, ρ1, l, S1, y, S2, s1, x1.loc hs hl, e2, fun ρ2 u H2 x2 s2 r2 => ?_⟩
      obtain ⟨p, vs, rfl, hq, rs⟩ := lis_of s2 r2 e3
      have e := allT_ok rs e4
      subst e
      exact ⟨a, p, ys, rfl, rfl, .inl hq, hz, q ρ2 _ H2 (x1.trans x2) s2 (.str _)⟩
    · cases hm
  | _ => cases hm
end
/-! ### == of texts -/
def fEqS : OpF := fun x y S => match x, y with
  | .str i, .str j => some (.bl (decide (i = j)), S)
  | _, _ => none
def fNeS : OpF := fun x y S => match x, y with
  | .str i, .str j => some (.bl (!decide (i = j)), S)
  | _, _ => none
theorem v_str {i j : Str} : decide (V.str i = V.str j) = decide (i = j) := decide_eq_decide.mpr ⟨fun h => by cases h; rfl, fun h => by rw [h]⟩
theorem eqS_ok {g : Wr} : OpOk g rEq fEqS := fun ρ S H x y v u z S' Q s rx ry h q => by
  cases rx with
  | str i =>
    cases ry with
    | str j =>
      cases h
      exact ⟨rfl, by rw [v_str]; exact q ρ _ H Ext.refl s (.bl _)⟩
    | _ => cases h
  | _ => cases h
theorem neS_ok {g : Wr} : OpOk g rNe fNeS := fun ρ S H x y v u z S' Q s rx ry h q => by
  cases rx with
  | str i =>
    cases ry with
    | str j =>
      cases h
      exact ⟨rfl, by rw [v_str]; exact q ρ _ H Ext.refl s (.bl _)⟩
    | _ => cases h
  | _ => cases h
section
variable {X : Cx} {pos : Pos} {a b : Expr} {ma mb : M}
theorem s_eqS (ha : Snd X a ma) (hb : Snd X b mb) : Snd X (.Compare a [.Eq] [b] pos) (mOp fEqS ma mb) := s_cmp op_eq eqS_ok ha hb (nomark b)
theorem t_eqS (ha : Snd X a ma) (hb : Snd X b mb) : SndT X (.Compare a [.Eq] [b] pos) (mBool (mOp fEqS ma mb)) := t_cmp op_eq eqS_ok ha hb (nomark b)
theorem s_neS (ha : Snd X a ma) (hb : Snd X b mb) : Snd X (.Compare a [.NotEq] [b] pos) (mOp fNeS ma mb) := s_cmp op_ne neS_ok ha hb (nomark b)
theorem t_neS (ha : Snd X a ma) (hb : Snd X b mb) : SndT X (.Compare a [.NotEq] [b] pos) (mBool (mOp fNeS ma mb)) := t_cmp op_ne neS_ok ha hb (nomark b)
end
end Zi
set_option maxRecDepth 100000
/-! texts: isalnum, ord, a sign in a text, a text so many times -/
namespace Zi
open PySem PySem.Spec PyProof.Rows L2
def mAlnum (o : M) : M := fun l S => (o l S).bind fun p => match p.1 with
  | .str a => some (.bl (Txt.isalnum a), p.2)
  | _ => none
def fOrd : Fn1 := fun o S => match o with
  | .d (.str x) => if x.length = 1 then some (.int (x.cps.getD 0 0 : Nat), S) else none
  | _ => none
theorem ord_ok {g : Wr} : Fn1Ok g (fun xs H Q => ∃ x, xs = [.str x] ∧ x.length = 1 ∧ Q (.int (x.cps.getD 0 0 : Nat)) H) fOrd := fun ρ S H H₀ o v z S' Q s r h q => by
  cases r with
  | n => cases h
  | d r =>
    cases r with
    | str x =>
      simp only [fOrd] at h
      split at h
      · rename_i hz
        cases h
        exact ⟨x, rfl, hz, q ρ _ H Ext.refl s (.int _)⟩
      · cases h
    | _ => cases h
def fInSG (f : Bool → Bool) : OpF := fun x y S => match x, y with
  | .str i, .str j => match i.cps.toList with
    | [c] => some (.bl (f (decide (c ∈ j.cps.toList))), S)
    | _ => none
  | _, _ => none
def fInS : OpF := fInSG fun b => b
def fNinS : OpF := fInSG fun b => !b
theorem inS_ok {g : Wr} {f : Bool → Bool} : OpOk g (fun x y H Q => ∃ (c : Nat) (z : Str), x = .str ⟨#[c]⟩ ∧ y = .str z ∧ Q (.bl (f (decide (c ∈ z.cps.toList)))) H) (fInSG f) := fun ρ S H x y v u z S' Q s rx ry h q => by
  cases rx with
  | str i =>
    cases ry with
    | str j =>
      simp only [fInSG] at h
      split at h
      · rename_i c hc
        cases h
        have e : i = ⟨#[c]⟩ := by
          obtain ⟨a⟩ := i
          have : a = #[c] := by rw [← Array.toArray_toList (xs := a), hc]
          rw [this]
        exact ⟨c, j, by rw [e], rfl, q ρ _ H Ext.refl s (.bl _)⟩
      · cases h
    | _ => cases h
  | _ => cases h
def repS (a : Str) (n : Nat) : Str := ⟨(List.replicate n a.cps).foldl (· ++ ·) #[]⟩
theorem rep_fold (c : Array Nat) : ∀ (n : Nat) (acc : Array Nat), ((List.replicate n c).foldl (· ++ ·) acc).toList = acc.toList ++ (List.replicate n c.toList).flatten
  | 0, acc => by simp
  | n + 1, acc => by
    rw [List.replicate_succ, List.foldl_cons, rep_fold c n, List.replicate_succ, List.flatten_cons, Array.toList_append, List.append_assoc]
theorem rep_list (a : Str) (n : Nat) : (repS a n).cps.toList = (List.replicate n a.cps.toList).flatten := by
  show ((List.replicate n a.cps).foldl (· ++ ·) #[]).toList = _
  rw [rep_fold]
  rfl
theorem rep_len (a : Str) (n : Nat) : (repS a n).length = n * a.length := by
  show (repS a n).cps.size = _
  rw [← Array.length_toList, rep_list]
  simp [Str.length]
theorem op_mulS {X : Cx} : OpR X (binaryOp .Mult) (fun x y H Q => ∃ (a : Str) (n : Int), x = .str a ∧ y = .int n ∧ (2 ≤ n ∧ n ≤ 1000 ∧ 1 ≤ a.length ∧ a.length ≤ 1000) ∧ Q (.str (repS a n.toNat)) H) := by
  intro pins s σ H x y v u Q I rx ry h
  obtain ⟨a, n, rfl, rfl, ⟨h1, h2, h3, h4⟩, q⟩ := h
  obtain ⟨t, rfl⟩ := rx
  obtain ⟨t', rfl⟩ := ry
  have hl : n.toNat * a.length ≤ 1000000 := by
    have : n.toNat * a.length ≤ 1000 * 1000 := Nat.mul_le_mul (by omega) h4
    omega
  have c1 : (n == 1 || a.length == 0) = false := by
    rw [Bool.or_eq_false_iff]
    exact ⟨beq_eq_false_iff_ne.mpr (by omega), beq_eq_false_iff_ne.mpr (by omega)⟩
  refine PySem.P.mul_str ?_ (fun _ _ => ?_) (fun _ _ => ?_) ?_
  · rw [decide_eq_false (by omega), decide_eq_false (by omega)]; rfl
  · have h5 : (1000 : Int) ≤ (2 ^ 63 - 1) / n := Int.le_ediv_of_mul_le (by omega) (by omega)
    omega
  · have e := sizeLine_eq
    unfold Builtin.Str.tooLong
    rw [Nat.mul_comm]
    exact decide_eq_false (by omega)
  · rw [if_neg (by omega), if_neg (by rw [c1]; exact Bool.false_ne_true)]
    refine ⟨?_, ⟨.str _, H, I.tok _, ⟨_, rfl⟩, q⟩⟩
    have e := rep_len a n.toNat
    have e2 := sizeLine_eq
    first | (show (repS a n.toNat).length ≤ sizeLine; omega) | (show tooLong (repS a n.toNat).length = false; omega)
def fMulS : OpF := fun x y S => match x, y with
  | .str a, .int n => if 2 ≤ n ∧ n ≤ 1000 ∧ 1 ≤ a.length ∧ a.length ≤ 1000 then some (.str (repS a n.toNat), S) else none
  | _, _ => none
theorem mulS_ok {g : Wr} : OpOk g (fun x y H Q => ∃ (a : Str) (n : Int), x = .str a ∧ y = .int n ∧ (2 ≤ n ∧ n ≤ 1000 ∧ 1 ≤ a.length ∧ a.length ≤ 1000) ∧ Q (.str (repS a n.toNat)) H) fMulS := fun ρ S H x y v u z S' Q s rx ry h q => by
  cases rx with
  | str a =>
    cases ry with
    | int n =>
      simp only [fMulS] at h
      split at h
      · rename_i hz
        cases h
        exact ⟨a, n, rfl, rfl, hz, q ρ _ H Ext.refl s (.str _)⟩
      · cases h
    | _ => cases h
  | _ => cases h
section
variable {X : Cx} {pos apos p : Pos} {o a b e : Expr} {mo ma mb : M}
theorem s_alnum (ho : Snd X o mo) (hbase : attributeBase o "isalnum" X.env (eval o X.env) = eval o X.env := by rfl) (hline : (apos.endLine == pos.line) = true := by rfl) : Snd X (.Call (.Attribute o "isalnum" apos) [] [] pos) (mAlnum mo) :=
  pe_imp (pe_m0 PySem.F.slot_str_isalnum PySem.F.type_str_isalnum mt_isalnum ho hbase hline) fun σ H Q h => by
  obtain ⟨ρ, l, S, d, S', hs, hl, hm, q⟩ := h
  obtain ⟨⟨x, S1⟩, e1, hm⟩ := bind2 hm
  refine ⟨ρ, l, S, x, S1, hs, hl, e1, fun ρ1 v H1 x1 s1 r1 => ?_⟩
  cases r1 with
  | str y =>
    cases hm
    exact ⟨⟨y, rfl⟩, y, rfl, rfl, trivial, q ρ1 _ H1 x1 s1 (.bl _)⟩
  | _ => cases hm
theorem s_ord {m : MO} (h : SndO X e m) (hm : X.mg "ord" = none) (hg : Gl X "ord" := by rfl) (he : starEach (e :: []) X.env = (false, eval e X.env) :: starEach [] X.env := by rfl) : Snd X (.Call (.Name "ord" p) [e] [] pos) (mFn1 fOrd m) := s_callB call_ord ord_ok h hm PyProof.Rows.boot_ord hg (by decide) (by decide) he
theorem s_inS (hu : X.A.units + 200 < cLine) (ha : Snd X a ma) (hb : Snd X b mb) (hm : behindInMarks .In b = false := by rfl) : Snd X (.Compare a [.In] [b] pos) (mOp fInS ma mb) := s_cmp (op_in_sign) (inS_ok (f := fun b => b)) ha hb hm
theorem t_inS (hu : X.A.units + 200 < cLine) (ha : Snd X a ma) (hb : Snd X b mb) (hm : behindInMarks .In b = false := by rfl) : SndT X (.Compare a [.In] [b] pos) (mBool (mOp fInS ma mb)) := t_cmp (op_in_sign) (inS_ok (f := fun b => b)) ha hb hm
theorem s_ninS (hu : X.A.units + 200 < cLine) (ha : Snd X a ma) (hb : Snd X b mb) (hm : behindInMarks .NotIn b = false := by rfl) : Snd X (.Compare a [.NotIn] [b] pos) (mOp fNinS ma mb) := s_cmp (op_notIn_sign) (inS_ok (f := fun b => !b)) ha hb hm
theorem t_ninS (hu : X.A.units + 200 < cLine) (ha : Snd X a ma) (hb : Snd X b mb) (hm : behindInMarks .NotIn b = false := by rfl) : SndT X (.Compare a [.NotIn] [b] pos) (mBool (mOp fNinS ma mb)) := t_cmp (op_notIn_sign) (inS_ok (f := fun b => !b)) ha hb hm
theorem s_mulS (ha : Snd X a ma) (hb : Snd X b mb) : Snd X (.BinOp a .Mult b pos) (mOp fMulS ma mb) := s_op op_mulS mulS_ok ha hb
end
end Zi
set_option maxRecDepth 100000
set_option maxHeartbeats 1000000
/-! list(zip(a, b)) of two tuples -/
namespace Zi
open PySem PySem.Calls PyProof.Rows PyProof.V PySem.Spec PySem.W
open PySem.Sem (wp)
section
variable {prog : Program} {w : World} {A : Around} {E : Value → Shared → Prop} {s : Shared}
theorem zt_item_held {z TI TO T i1 i2 l1 l2 : Addr} {f : Bool} {oT : Obj} {k1 k2 : Nat} {xs ys : Array Value} {x y : Value} {Q : Value → Shared → Prop} (D : ZipApart z TI TO i1 i2 l1 l2)
    (hz : IsZipHeld s.heap z TI TO T f) (hT : s.heap.get? T = some oT) (hTI : IsPair s.heap TI (.ref i1) (.ref i2))
    (h1 : s.heap.IsTupleIter i1 l1 k1) (h2 : s.heap.IsTupleIter i2 l2 k2) (hl1 : s.heap.IsTuple l1 xs) (hl2 : s.heap.IsTuple l2 ys) (hx : xs[k1]? = some x) (hy : ys[k2]? = some y)
    (hQ : ∀ h', IsZipHeld h' z TI TO T true → h'.IsTupleIter i1 l1 (k1 + 1) → h'.IsTupleIter i2 l2 (k2 + 1) → IsPair h' s.heap.objs.size x y → h'.objs.size = s.heap.objs.size + 1 →
      (∀ c o, c ≠ z → c ≠ i1 → c ≠ i2 → s.heap.get? c = some o → h'.get? c = some o) → Q (.ref s.heap.objs.size) { s with heap := h' }) :
    wpAny (model prog w) A (Builtin.«zip.__next__» ⟨[.ref z], []⟩) (fun fin s' => ∃ v, fin = .done (.ret v) ∧ Q v s') E s := by
  show wpAny _ _ (field (.ref z) 2 >>= _) _ _ _
  refine wpAny_bind (wpAny_field hz rfl (x := .bool false) rfl ?_)
  show wpAny _ _ (field (.ref z) 3 >>= _) _ _ _
  refine wpAny_bind (wpAny_field hz rfl (x := .ref TI) rfl ?_)
  refine wpAny_bind (wpAny_seqItems hTI rfl ?_)
  show wpAny _ _ (Builtin.SmallTypes.ownedTupleIsFree (.ref z) >>= _) _ _ _
  refine wpAny_bind (wpAny_tupleHeld_zip hz hT fun h₁ hz₁ hs₁ => ?_)
  simp only [Bool.false_eq_true, if_false]
  refine wpAny_bind ?_
  rw [← Array.forIn_toList]
  simp only [List.forIn_cons, List.forIn_nil]
  refine wpAny_bind (wpAny_bind (wpAny_holding ?_))
  show wpAny _ _ (Builtin.SmallTypes.nextOf (.ref i1) >>= _) _ _ _
  refine wpAny_bind (RZ.nextOf_tuple_item (s := { s with heap := h₁ }) (h1.extBut hs₁.extBut D.i1z) (hl1.extBut hs₁.extBut D.l1z) hx fun h₂ h1₂ hs₂ => wpAny_pure ?_)
  refine wpAny_pure ?_
  refine wpAny_bind (wpAny_bind (wpAny_holding ?_))
  show wpAny _ _ (Builtin.SmallTypes.nextOf (.ref i2) >>= _) _ _ _
  refine wpAny_bind (RZ.nextOf_tuple_item (s := { s with heap := h₂ }) ((h2.extBut hs₁.extBut D.i2z).extBut hs₂.extBut D.i12.symm) ((hl2.extBut hs₁.extBut D.l2z).extBut hs₂.extBut D.l2i1) hy fun h₃ h2₃ hs₃ => wpAny_pure ?_)
  refine wpAny_pure (wpAny_pure ?_)
  show wpAny _ _ (newTuple [x, y] >>= _) _ _ _
  refine wpAny_bind (wpAny_newTuple ?_)
  have hsz : h₃.objs.size = s.heap.objs.size := by rw [hs₃.1, hs₂.1, hs₁.1]
  have hz₃ : IsZipHeld h₃ z TI TO T true := hs₃.extBut _ _ D.i2z.symm (hs₂.extBut _ _ D.i1z.symm hz₁)
  have hk : ∀ c o, c ≠ z → c ≠ i1 → c ≠ i2 → s.heap.get? c = some o → h₃.get? c = some o := fun c o c1 c2 c3 e => hs₃.extBut _ _ c3 (hs₂.extBut _ _ c2 (hs₁.extBut _ _ c1 e))
  have h1₃ : h₃.IsTupleIter i1 l1 (k1 + 1) := h1₂.extBut hs₃.extBut D.i12
  refine wpAny_pure ⟨_, rfl, ?_⟩
  show Q (.ref h₃.objs.size) _
  have hp : IsPair (h₃.push { cls := .type "tuple", data := .seq #[x, y] }) h₃.objs.size x y := Heap.get?_push_size _ rfl
  have hz4 : (h₃.push { cls := .type "tuple", data := .seq #[x, y] }).objs.size = h₃.objs.size + 1 := Heap.size_push ..
  rw [hsz] at hp hz4 ⊢
  exact hQ _ (Heap.get?_push_of_some _ hz₃) (h1₃.at fun o e => Heap.get?_push_of_some _ e) (h2₃.at fun o e => Heap.get?_push_of_some _ e) hp hz4 fun c o c1 c2 c3 e => Heap.get?_push_of_some _ (hk c o c1 c2 c3 e)
theorem zt_end_held {z TI TO T i1 i2 l1 l2 : Addr} {f : Bool} {oT : Obj} {k1 k2 : Nat} {xs ys : Array Value} {Q : Fin → Shared → Prop} (hh : A.handled = none) (D : ZipApart z TI TO i1 i2 l1 l2)
    (hz : IsZipHeld s.heap z TI TO T f) (hT : s.heap.get? T = some oT) (hTI : IsPair s.heap TI (.ref i1) (.ref i2))
    (h1 : s.heap.IsTupleIter i1 l1 k1) (h2 : s.heap.IsTupleIter i2 l2 k2) (hl1 : s.heap.IsTuple l1 xs) (hl2 : s.heap.IsTuple l2 ys) (hend : xs[k1]? = none ∨ ys[k2]? = none)
    (hE : ∀ h' e, (∀ c o, c ≠ z → c ≠ i1 → c ≠ i2 → s.heap.get? c = some o → h'.get? c = some o) → (∃ o, h'.get? e = some o ∧ o.cls = .type "StopIteration") → E (.ref e) { s with heap := h' }) :
    wpAny (model prog w) A (Builtin.«zip.__next__» ⟨[.ref z], []⟩) Q E s := by
  show wpAny _ _ (field (.ref z) 2 >>= _) _ _ _
  refine wpAny_bind (wpAny_field hz rfl (x := .bool false) rfl ?_)
  show wpAny _ _ (field (.ref z) 3 >>= _) _ _ _
  refine wpAny_bind (wpAny_field hz rfl (x := .ref TI) rfl ?_)
  refine wpAny_bind (wpAny_seqItems hTI rfl ?_)
  show wpAny _ _ (Builtin.SmallTypes.ownedTupleIsFree (.ref z) >>= _) _ _ _
  refine wpAny_bind (wpAny_tupleHeld_zip hz hT fun h₁ hz₁ hs₁ => ?_)
  simp only [Bool.false_eq_true, if_false]
  refine wpAny_bind ?_
  rw [← Array.forIn_toList]
  simp only [List.forIn_cons, List.forIn_nil]
  refine wpAny_bind (wpAny_bind (wpAny_holding ?_))
  show wpAny _ _ (Builtin.SmallTypes.nextOf (.ref i1) >>= _) _ _ _
  cases hx : xs[k1]? with
  | none =>
    refine wpAny_bind (RZ.nextOf_tuple_end (s := { s with heap := h₁ }) hh (h1.extBut hs₁.extBut D.i1z) (hl1.extBut hs₁.extBut D.l1z) hx fun h₂ e hs₂ he => ?_)
    exact hE h₂ e (fun c o c1 c2 _ x => hs₂ _ _ c2 (hs₁.extBut _ _ c1 x)) he
  | some x =>
    have hy : ys[k2]? = none := by rcases hend with h | h; rw [hx] at h; cases h; exact h
    refine wpAny_bind (RZ.nextOf_tuple_item (s := { s with heap := h₁ }) (h1.extBut hs₁.extBut D.i1z) (hl1.extBut hs₁.extBut D.l1z) hx fun h₂ h1₂ hs₂ => wpAny_pure ?_)
    refine wpAny_pure ?_
    refine wpAny_bind (wpAny_bind (wpAny_holding ?_))
    show wpAny _ _ (Builtin.SmallTypes.nextOf (.ref i2) >>= _) _ _ _
    refine wpAny_bind (RZ.nextOf_tuple_end (s := { s with heap := h₂ }) hh ((h2.extBut hs₁.extBut D.i2z).extBut hs₂.extBut D.i12.symm) ((hl2.extBut hs₁.extBut D.l2z).extBut hs₂.extBut D.l2i1) hy fun h₃ e hs₃ he => ?_)
    exact hE h₃ e (fun c o c1 c2 c3 x => hs₃ _ _ c3 (hs₂.extBut _ _ c2 (hs₁.extBut _ _ c1 x))) he
theorem zt_pyNext_item_held {z TI TO T i1 i2 l1 l2 : Addr} {f : Bool} {oT : Obj} {k1 k2 : Nat} {xs ys : Array Value} {x y : Value} {Q : Option Value → Shared → Prop} (D : ZipApart z TI TO i1 i2 l1 l2)
    (hz : IsZipHeld s.heap z TI TO T f) (hT : s.heap.get? T = some oT) (hTI : IsPair s.heap TI (.ref i1) (.ref i2))
    (h1 : s.heap.IsTupleIter i1 l1 k1) (h2 : s.heap.IsTupleIter i2 l2 k2) (hl1 : s.heap.IsTuple l1 xs) (hl2 : s.heap.IsTuple l2 ys) (hx : xs[k1]? = some x) (hy : ys[k2]? = some y)
    (hQ : ∀ h', IsZipHeld h' z TI TO T true → h'.IsTupleIter i1 l1 (k1 + 1) → h'.IsTupleIter i2 l2 (k2 + 1) → IsPair h' s.heap.objs.size x y → h'.objs.size = s.heap.objs.size + 1 →
      (∀ c o, c ≠ z → c ≠ i1 → c ≠ i2 → s.heap.get? c = some o → h'.get? c = some o) → Q (some (.ref s.heap.objs.size)) { s with heap := h' }) :
    wpAny (model prog w) A (pyNext (.ref z)) Q E s := by
  have hTy : s.TypeIs (.ref z) "zip" := ⟨_, hz, rfl⟩
  unfold pyNext
  exact wpAny_bind (wpAny_attempt (wpAny_callSpecial?_slot (name := Str.ofString "__next__") hTy F.slot_zip_next
    (wpAny_call_entry F.slot_zip_next hTy F.entry_zip_next
      (zt_item_held D hz hT hTI h1 h2 hl1 hl2 hx hy fun h' a1 a3 a4 a5 a6 a7 => wpAny_pure (hQ h' a1 a3 a4 a5 a6 a7)) (F.args_zip_next_1 _))))
theorem zt_pyNext_end_held {z TI TO T i1 i2 l1 l2 : Addr} {f : Bool} {oT : Obj} {k1 k2 : Nat} {xs ys : Array Value} {Q : Option Value → Shared → Prop} (hh : A.handled = none) (D : ZipApart z TI TO i1 i2 l1 l2)
    (hz : IsZipHeld s.heap z TI TO T f) (hT : s.heap.get? T = some oT) (hTI : IsPair s.heap TI (.ref i1) (.ref i2))
    (h1 : s.heap.IsTupleIter i1 l1 k1) (h2 : s.heap.IsTupleIter i2 l2 k2) (hl1 : s.heap.IsTuple l1 xs) (hl2 : s.heap.IsTuple l2 ys) (hend : xs[k1]? = none ∨ ys[k2]? = none)
    (hQ : ∀ h', (∀ c o, c ≠ z → c ≠ i1 → c ≠ i2 → s.heap.get? c = some o → h'.get? c = some o) → Q none { s with heap := h' }) : wpAny (model prog w) A (pyNext (.ref z)) Q E s := by
  have hTy : s.TypeIs (.ref z) "zip" := ⟨_, hz, rfl⟩
  unfold pyNext
  refine wpAny_bind (wpAny_attempt (wpAny_callSpecial?_slot (name := Str.ofString "__next__") hTy F.slot_zip_next
    (wpAny_call_entry F.slot_zip_next hTy F.entry_zip_next (zt_end_held hh D hz hT hTI h1 h2 hl1 hl2 hend fun h' e hk he => ?_) (F.args_zip_next_1 _))))
  obtain ⟨o, ho, hc⟩ := he
  refine wpAny_bind (wpAny_isInstance (T := "StopIteration") (b := true) ⟨o, ho, hc⟩ isSubtype_stop ?_)
  exact wpAny_pure (hQ _ hk)
end
/-- a zip of two tuples on its way; S: the list that takes what it gives -/
structure ZSt (h : Heap) (z TI TO i1 i2 a b S : Addr) (xs ys : Array Value) (i : Nat) : Prop where
  D : ZipApart z TI TO i1 i2 a b
  pr : IsPair h TI (.ref i1) (.ref i2)
  h1 : h.IsTupleIter i1 a i
  h2 : h.IsTupleIter i2 b i
  l1 : h.IsTuple a xs
  l2 : h.IsTuple b ys
  st : (IsZip h z TI TO .none ∧ ∃ u v, IsPair h TO u v) ∨ ∃ T f oT, IsZipHeld h z TI TO T f ∧ h.get? T = some oT ∧ T ≠ S ∧ T ≠ z ∧ T ≠ TO ∧ T ≠ i1 ∧ T ≠ i2
section
variable {prog : Program} {w : World} {A : Around} {E : Value → Shared → Prop} {s : Shared} {z TI TO i1 i2 a b S : Addr} {xs ys : Array Value} {i : Nat}
theorem ZSt.keep {h h' : Heap} (st : ZSt h z TI TO i1 i2 a b S xs ys i) (k : ∀ c o, c ≠ S → h.get? c = some o → h'.get? c = some o) (n1 : TI ≠ S) (n2 : i1 ≠ S) (n3 : i2 ≠ S) (n4 : a ≠ S) (n5 : b ≠ S) (n6 : z ≠ S) (n7 : TO ≠ S) : ZSt h' z TI TO i1 i2 a b S xs ys i := by
  refine ⟨st.D, k _ _ n1 st.pr, st.h1.at fun o e => k _ o n2 e, st.h2.at fun o e => k _ o n3 e, st.l1.at fun o e => k _ o n4 e, st.l2.at fun o e => k _ o n5 e, ?_⟩
  rcases st.st with ⟨q, u, v, p⟩ | ⟨T, f, oT, q, hT, t0, t⟩
  · exact .inl ⟨k _ _ n6 q, u, v, k _ _ n7 p⟩
  · exact .inr ⟨T, f, oT, k _ _ n6 q, k _ _ t0 hT, t0, t⟩
theorem zl_item {x y : Value} {Q : Option Value → Shared → Prop} (st : ZSt s.heap z TI TO i1 i2 a b S xs ys i) (hS : S < s.heap.objs.size) (hx : xs[i]? = some x) (hy : ys[i]? = some y)
    (hQ : ∀ h', ZSt h' z TI TO i1 i2 a b S xs ys (i + 1) → h'.get? s.heap.objs.size = some { cls := .type "tuple", data := .seq #[x, y] } → h'.objs.size = s.heap.objs.size + 1 →
      (∀ c o, c ≠ z → c ≠ TO → c ≠ i1 → c ≠ i2 → s.heap.get? c = some o → h'.get? c = some o) → Q (some (.ref s.heap.objs.size)) { s with heap := h' }) :
    wpAny (model prog w) A (pyNext (.ref z)) Q E s := by
  obtain ⟨D, pr, h1, h2, l1, l2, st⟩ := st
  have n1 : i1 < s.heap.objs.size := by obtain ⟨_, e, _⟩ := h1; exact Heap.lt_size e
  have n2 : i2 < s.heap.objs.size := by obtain ⟨_, e, _⟩ := h2; exact Heap.lt_size e
  rcases st with ⟨hz, u, v, hTO⟩ | ⟨T, f, oT, hz, hT, t0, t1, t2, t3, t4⟩
  · have n3 : z < s.heap.objs.size := Heap.lt_size hz
    have n4 : TO < s.heap.objs.size := Heap.lt_size hTO
    refine RZ.pyNext_zipT_item D hz pr hTO h1 h2 l1 l2 hx hy fun h' a1 a2 a3 a4 a5 a6 a7 => hQ h' ⟨D, a7 _ _ D.TIz D.TITO D.TIi1 D.TIi2 pr, a3, a4, l1.at fun o e => a7 _ o D.l1z D.l1TO D.l1i1 D.l1i2 e, l2.at fun o e => a7 _ o D.l2z D.l2TO D.l2i1 D.l2i2 e, .inr ⟨_, false, _, a1, a5, Nat.ne_of_gt hS, Nat.ne_of_gt n3, Nat.ne_of_gt n4, Nat.ne_of_gt n1, Nat.ne_of_gt n2⟩⟩ a5 a6 a7
  · refine zt_pyNext_item_held D hz hT pr h1 h2 l1 l2 hx hy fun h' a1 a3 a4 a5 a6 a7 => hQ h' ⟨D, a7 _ _ D.TIz D.TIi1 D.TIi2 pr, a3, a4, l1.at fun o e => a7 _ o D.l1z D.l1i1 D.l1i2 e, l2.at fun o e => a7 _ o D.l2z D.l2i1 D.l2i2 e, .inr ⟨T, true, oT, a1, a7 _ _ t1 t3 t4 hT, t0, t1, t2, t3, t4⟩⟩ a5 a6 fun c o c1 _ c3 c4 e => a7 c o c1 c3 c4 e
theorem zl_done {Q : Option Value → Shared → Prop} (hh : A.handled = none) (st : ZSt s.heap z TI TO i1 i2 a b S xs ys i) (hend : xs[i]? = none ∨ ys[i]? = none)
    (hQ : ∀ h', (∀ c o, c ≠ z → c ≠ TO → c ≠ i1 → c ≠ i2 → s.heap.get? c = some o → h'.get? c = some o) → Q none { s with heap := h' }) : wpAny (model prog w) A (pyNext (.ref z)) Q E s := by
  obtain ⟨D, pr, h1, h2, l1, l2, st⟩ := st
  rcases st with ⟨hz, u, v, hTO⟩ | ⟨T, f, oT, hz, hT, t0, t1, t2, t3, t4⟩
  · exact RZ.pyNext_zipT_end hh D hz pr hTO h1 h2 l1 l2 hend hQ
  · exact zt_pyNext_end_held hh D hz hT pr h1 h2 l1 l2 hend fun h' k => hQ h' fun c o c1 _ c3 c4 e => k c o c1 c3 c4 e
end
/-- the addresses as hold the pairs, in order; they lie above lo and rise -/
structure ZG (xs ys : Array Value) (lo : Addr) (h : Heap) (as : List Addr) : Prop where
  rise : as.Pairwise (· < ·)
  above : ∀ a ∈ as, lo < a
  pairs : ∀ (j : Nat) (a : Addr), as[j]? = some a → ∃ x y, xs[j]? = some x ∧ ys[j]? = some y ∧ h.get? a = some { cls := .type "tuple", data := .seq #[x, y] }
theorem ZG.there {xs ys : Array Value} {lo : Addr} {h : Heap} {as : List Addr} (g : ZG xs ys lo h as) {a : Addr} (ha : a ∈ as) : a < h.objs.size := by
  obtain ⟨j, hj⟩ := List.mem_iff_getElem?.mp ha
  obtain ⟨_, _, _, _, e⟩ := g.pairs j a hj
  exact Heap.lt_size e
theorem ZG.low {xs ys : Array Value} {lo lo' : Addr} {h : Heap} {as : List Addr} (g : ZG xs ys lo h as) (hl : lo' ≤ lo) : ZG xs ys lo' h as := ⟨g.rise, fun a ha => Nat.lt_of_le_of_lt hl (g.above a ha), g.pairs⟩
section
variable {prog : Program} {w : World} {A : Around} {s : Shared} {R : Result → Shared → Prop} {xs ys : Array Value}
/-- what a walk may change -/
abbrev Kept (S z TO i1 i2 : Addr) (h h' : Heap) : Prop := ∀ b o, b ≠ S → b ≠ z → b ≠ TO → b ≠ i1 → b ≠ i2 → h.get? b = some o → h'.get? b = some o
theorem zl_loop {S z TI TO i1 i2 a b lo : Addr} (hh : A.handled = none) (hlo : S ≤ lo ∧ z ≤ lo ∧ TO ≤ lo ∧ i1 ≤ lo ∧ i2 ≤ lo)
    (n1 : TI ≠ S) (n2 : i1 ≠ S) (n3 : i2 ≠ S) (n4 : a ≠ S) (n5 : b ≠ S) (n6 : z ≠ S) (n7 : TO ≠ S) {n : Nat} (hnx : n = min xs.size ys.size) (hn : n ≤ sizeLine) (res : Value) {h₁ : Heap}
    (hR : ∀ h' tk acc c as, Kept S z TO i1 i2 h₁ h' → h'.get? S = some { cls := .type "list", dict := none, data := .seq acc c, slots := #[] } → as.length = n → ZG xs ys lo h' as →
      acc.toList = as.map Value.ref → R (.ok (.ret res)) { s with heap := h', toks := tk }) :
    ∀ (k i : Nat) (h : Heap) (tk c : Nat) (acc : Array Value) (as : List Addr), n - i = k → i ≤ n → ZSt h z TI TO i1 i2 a b S xs ys i → Kept S z TO i1 i2 h₁ h →
      h.get? S = some { cls := .type "list", dict := none, data := .seq acc c, slots := #[] } → acc.toList = as.map Value.ref → as.length = i → ZG xs ys lo h as → lo < h.objs.size →
      codeAny (model prog w) A (.builtin "list.extend.loop" ⟨[.ref S, .ref z, res], []⟩) R { s with heap := h, toks := tk } := by
  have off : ∀ c, lo < c → c ≠ S ∧ c ≠ z ∧ c ≠ TO ∧ c ≠ i1 ∧ c ≠ i2 := fun c hc => ⟨Nat.ne_of_gt (Nat.lt_of_le_of_lt hlo.1 hc), Nat.ne_of_gt (Nat.lt_of_le_of_lt hlo.2.1 hc), Nat.ne_of_gt (Nat.lt_of_le_of_lt hlo.2.2.1 hc), Nat.ne_of_gt (Nat.lt_of_le_of_lt hlo.2.2.2.1 hc), Nat.ne_of_gt (Nat.lt_of_le_of_lt hlo.2.2.2.2 hc)⟩
  intro k
  induction k with
  | zero =>
    intro i h tk c acc as hk hi hst hkeep hS hacc hal hG hIs
    have hin : i = n := by omega
    refine codeAny_builtin PySem.F.entry_extend_loop ?_
    rw [Around.under_plainId PySem.F.plain_extend_loop _]
    show wpAny _ A.in1 (pyNext (.ref z) >>= _) _ _ _
    have hend : xs[i]? = none ∨ ys[i]? = none := by
      rcases Nat.le_total xs.size ys.size with q | q
      · exact .inl (by rw [Array.getElem?_eq_none]; rw [hin, hnx, Nat.min_eq_left q]; exact Nat.le_refl _)
      · exact .inr (by rw [Array.getElem?_eq_none]; rw [hin, hnx, Nat.min_eq_right q]; exact Nat.le_refl _)
    refine wpAny_bind (zl_done (s := { s with heap := h, toks := tk }) (A := A.in1) hh hst hend fun h' he => ?_)
    refine wpAny_pure (hR h' tk acc c as (fun b o q1 q2 q3 q4 q5 e => he b o q2 q3 q4 q5 (hkeep b o q1 q2 q3 q4 q5 e)) (he S _ n6.symm n7.symm n2.symm n3.symm hS) (by omega) ⟨hG.rise, hG.above, fun j a hj => ?_⟩ hacc)
    obtain ⟨x, y, e1, e2, e3⟩ := hG.pairs j a hj
    obtain ⟨_, o2, o3, o4, o5⟩ := off a (hG.above a (List.mem_of_getElem? hj))
    exact ⟨x, y, e1, e2, he a _ o2 o3 o4 o5 e3⟩
  | succ k ih =>
    intro i h tk c acc as hk hi hst hkeep hS hacc hal hG hIs
    have hlt : i < n := by omega
    have hx : xs[i]? = some (xs[i]'(by omega)) := Array.getElem?_eq_getElem (by omega)
    have hy : ys[i]? = some (ys[i]'(by omega)) := Array.getElem?_eq_getElem (by omega)
    generalize xs[i]'(by omega) = x at hx
    generalize ys[i]'(by omega) = y at hy
    have hsz : acc.size = i := by rw [← Array.length_toList, hacc, List.length_map, hal]
    refine codeAny_builtin PySem.F.entry_extend_loop ?_
    rw [Around.under_plainId PySem.F.plain_extend_loop _]
    show wpAny _ A.in1 (pyNext (.ref z) >>= _) _ _ _
    refine wpAny_bind (zl_item (s := { s with heap := h, toks := tk }) hst (Heap.lt_size hS) hx hy fun h' hst' ht hz hkp => ?_)
    dsimp only at ht hz hkp ⊢
    have hS' := hkp S _ n6.symm n7.symm n2.symm n3.symm hS
    have up : ∀ b o, b ≠ S → h'.get? b = some o → (h'.update S (Obj.mapSeq (·.push (Value.ref h.objs.size)))).get? b = some o := fun b o hb e => (Heap.get?_update_other _ _ (Ne.symm hb)).trans e
    have hSl : S < h.objs.size := Heap.lt_size hS
    show wpAny _ A.in1 (updateSeq S (·.push (Value.ref h.objs.size)) >>= _) _ _ _
    refine wpAny_bind ?_
    refine wpAny_updateSeq hS' rfl (wpAny_pure ⟨plainId_quiet PySem.F.plain_extend_loop _, ih (i + 1) _ tk _ (acc.push (Value.ref h.objs.size)) (as ++ [h.objs.size]) (by omega) hlt (hst'.keep up n1 n2 n3 n4 n5 n6 n7)
      (fun b o q1 q2 q3 q4 q5 e => up b o q1 (hkp b o q2 q3 q4 q5 (hkeep b o q1 q2 q3 q4 q5 e))) (Heap.get?_update_self _ hS' rfl) (by rw [Array.toList_push, hacc, List.map_append]; rfl) (by rw [List.length_append, hal]; rfl) ⟨?_, ?_, ?_⟩ ?_⟩) (by rw [hsz]; omega) (by show (acc.push (Value.ref h.objs.size)).size ≤ sizeLine + 1; rw [Array.size_push, hsz]; omega)
    · refine List.pairwise_append.mpr ⟨hG.rise, List.pairwise_singleton _ _, fun a ha b hb => ?_⟩
      rw [List.mem_singleton.mp hb]
      exact hG.there ha
    · intro a ha
      rcases List.mem_append.mp ha with ha | ha
      · exact hG.above a ha
      · rw [List.mem_singleton.mp ha]; exact hIs
    · intro j b hj
      rcases Nat.lt_trichotomy j as.length with h1 | h1 | h1
      · rw [List.getElem?_append_left h1] at hj
        obtain ⟨x', y', e1, e2, e3⟩ := hG.pairs j b hj
        obtain ⟨o1, o2, o3, o4, o5⟩ := off b (hG.above b (List.mem_of_getElem? hj))
        exact ⟨x', y', e1, e2, up b _ o1 (hkp b _ o2 o3 o4 o5 e3)⟩
      · subst h1
        have hb : h.objs.size = b := by simpa using hj
        subst hb
        refine ⟨x, y, by rw [hal]; exact hx, by rw [hal]; exact hy, up _ _ (Nat.ne_of_gt hSl) ht⟩
      · have hnone : (as ++ [h.objs.size])[j]? = none := List.getElem?_eq_none (by rw [List.length_append, List.length_singleton]; omega)
        rw [hnone] at hj; cases hj
    · have e : (h'.update S (Obj.mapSeq (·.push (Value.ref h.objs.size)))).get? h.objs.size = _ := up _ _ (Nat.ne_of_gt hSl) ht
      exact Nat.lt_trans hIs (Heap.lt_size e)
end
theorem zip_no_len : typeLookup (.type "zip") "__len__" = pure none := am_miss_of_fast (by decide +kernel)
theorem zip_no_hint : typeLookup (.type "zip") "__length_hint__" = pure none := am_miss_of_fast (by decide +kernel)
section
variable {prog : Program} {w : World} {A : Around} {E : Value → Shared → Prop} {s : Shared} {xs ys : Array Value} {z TI TO i1 i2 a b : Addr}
theorem zl_extend {R : Result → Shared → Prop} (hh : A.handled = none) (S : Addr) (st : ZSt s.heap z TI TO i1 i2 a b S xs ys 0) (hz : IsZip s.heap z TI TO .none)
    (n1 : TI ≠ S) (n2 : i1 ≠ S) (n3 : i2 ≠ S) (n4 : a ≠ S) (n5 : b ≠ S) (n6 : z ≠ S) (n7 : TO ≠ S) {n : Nat} (hnx : n = min xs.size ys.size) (hn : n ≤ sizeLine) (res : Value) (c₀ : Nat) {lo : Addr} (hlo : S ≤ lo ∧ z ≤ lo ∧ TO ≤ lo ∧ i1 ≤ lo ∧ i2 ≤ lo) (hls : lo < s.heap.objs.size) (hS : s.heap.get? S = some { cls := .type "list", data := .seq #[] c₀ })
    (hR : ∀ h' tk acc c as, Kept S z TO i1 i2 s.heap h' → h'.get? S = some { cls := .type "list", dict := none, data := .seq acc c, slots := #[] } → as.length = n → ZG xs ys lo h' as →
      acc.toList = as.map Value.ref → R (.ok (.ret res)) { s with heap := h', toks := tk }) :
    wpAny (model prog w) A.in1 (Builtin.List.listExtendWith (.ref S) (.ref z) res)
      (fun fin s' => match fin with | .done f => R (.ok f) s' | .again c' => c'.quiet = true ∧ codeAny (model prog w) A c' R s') (fun e s' => R (.error e) s') s := by
  have hT : s.TypeIs (.ref z) "zip" := ⟨_, hz, rfl⟩
  unfold Builtin.List.listExtendWith
  refine wpAny_bind (wpAny_typeOf hT ?_)
  have h1 : Builtin.List.listSameRef (.ref S) (.ref z) = false := by simp [Builtin.List.listSameRef, n6.symm]
  have h2 : (Value.type "zip" == Value.type "list") = false := by decide
  have h3 : (Value.type "zip" == Value.type "tuple") = false := by decide
  simp only [h1, h2, h3, Bool.or_false, Bool.false_eq_true, if_false]
  refine wpAny_bind (wpAny_pyIter_zip hz ?_)
  refine wpAny_bind (wpAny_holding ?_)
  unfold Builtin.List.listLengthHint
  refine wpAny_bind (wpAny_specialOf hT zip_no_len ?_)
  show wpAny _ A.in1 (specialOf (Value.ref z) (Str.ofString "__length_hint__") >>= _) _ _ _
  refine wpAny_bind (wpAny_specialOf hT zip_no_hint ?_)
  refine wpAny_pure ?_
  show wpAny _ A.in1 (rule "list.extend.makes-room" >>= fun _ => Builtin.List.listTouch (.ref S) >>= fun _ =>
    again (.builtin "list.extend.loop" ⟨[.ref S, .ref z, res], []⟩)) _ _ _
  refine wpAny_bind (wpAny_rule ?_)
  refine wpAny_bind ?_
  show wpAny _ A.in1 (updateSeq S (·.push .none) >>= fun _ => updateSeq S (·.pop)) _ _ _
  refine wpAny_bind (wpAny_updateSeq hS rfl ?_)
  have hS₂ := Heap.get?_update_self (Obj.mapSeq (·.push Value.none)) hS rfl
  refine wpAny_updateSeq (hz := by seq_fits) hS₂ rfl ?_
  have hS₃ := Heap.get?_update_self (Obj.mapSeq (·.pop)) hS₂ rfl
  have oth : ∀ b o, b ≠ S → s.heap.get? b = some o → ((s.heap.update S (Obj.mapSeq (·.push Value.none))).update S (Obj.mapSeq (·.pop))).get? b = some o :=
    fun b o hb e => (Heap.get?_update_other _ _ (Ne.symm hb)).trans ((Heap.get?_update_other _ _ (Ne.symm hb)).trans e)
  refine wpAny_pure ⟨plainId_quiet PySem.F.plain_extend_loop _, ?_⟩
  refine zl_loop (s := s) (h₁ := s.heap) hh hlo n1 n2 n3 n4 n5 n6 n7 hnx hn res (fun h' tk acc c as hk hS' hl hG hacc => hR h' tk acc c as hk hS' hl hG hacc) n 0 _ s.toks _ #[] [] (Nat.sub_zero _) (Nat.zero_le _) (st.keep oth n1 n2 n3 n4 n5 n6 n7)
    (fun b o q1 _ _ _ _ e => oth b o q1 e) hS₃ rfl rfl ⟨List.Pairwise.nil, (fun _ ha => nomatch ha), (fun j a hj => by simp at hj)⟩ ?_
  simpa [Heap.update] using hls
theorem zl_init {R : Result → Shared → Prop} (hh : A.handled = none) (S : Addr) (st : ZSt s.heap z TI TO i1 i2 a b S xs ys 0) (hz : IsZip s.heap z TI TO .none)
    (n1 : TI ≠ S) (n2 : i1 ≠ S) (n3 : i2 ≠ S) (n4 : a ≠ S) (n5 : b ≠ S) (n6 : z ≠ S) (n7 : TO ≠ S) {n : Nat} (hnx : n = min xs.size ys.size) (hn : n ≤ sizeLine) {lo : Addr} (hlo : S ≤ lo ∧ z ≤ lo ∧ TO ≤ lo ∧ i1 ≤ lo ∧ i2 ≤ lo) (hls : lo < s.heap.objs.size) (hS : s.heap.get? S = some { cls := .type "list", data := .seq #[] })
    (hR : ∀ h' tk acc c as, Kept S z TO i1 i2 s.heap h' → h'.get? S = some { cls := .type "list", dict := none, data := .seq acc c, slots := #[] } → as.length = n → ZG xs ys lo h' as →
      acc.toList = as.map Value.ref → R (.ok (.ret .none)) { s with heap := h', toks := tk }) :
    wpAny (model prog w) A.in1 (Builtin.«list.__init__» ⟨[.ref S, .ref z], []⟩)
      (fun fin s' => match fin with | .done f => R (.ok f) s' | .again c' => c'.quiet = true ∧ codeAny (model prog w) A c' R s') (fun e s' => R (.error e) s') s := by
  show wpAny _ _ (do let old ← Builtin.List.listItems (.ref S); Builtin.List.listUpdate (.ref S) (fun _ => #[]); letGo old.toList.reverse; Builtin.List.listExtendWith (.ref S) (.ref z) .none) _ _ s
  refine wpAny_bind ?_
  unfold Builtin.List.listItems
  refine wpAny_bind (wpAny_seqItems hS rfl (wpAny_pure ?_))
  show wpAny _ _ (updateSeq S (fun _ => #[]) >>= fun _ => letGo (#[] : Array Value).toList.reverse >>= fun _ => Builtin.List.listExtendWith (.ref S) (.ref z) .none) _ _ s
  refine wpAny_bind (wpAny_updateSeq hS rfl ?_)
  have hS₂ := Heap.get?_update_self (Obj.mapSeq (fun _ => (#[] : Array Value))) hS rfl
  have oth : ∀ b o, b ≠ S → s.heap.get? b = some o → (s.heap.update S (Obj.mapSeq (fun _ => (#[] : Array Value)))).get? b = some o :=
    fun b o hb e => (Heap.get?_update_other _ _ (Ne.symm hb)).trans e
  refine wpAny_bind (wpAny_letGo ?_)
  refine zl_extend hh S (st.keep oth n1 n2 n3 n4 n5 n6 n7) (oth _ _ n6 hz) n1 n2 n3 n4 n5 n6 n7 hnx hn .none _ hlo (by simpa [Heap.update] using hls) hS₂ (fun h' tk acc c as hk hS' hl hG hacc => ?_)
  exact hR h' tk acc c as (fun b o q1 q2 q3 q4 q5 e => hk b o q1 q2 q3 q4 q5 (oth b o q1 e)) hS' hl hG hacc
theorem zl_call {Q : Value → Shared → Prop} (hh : A.handled = none) (D : ZipApart z TI TO i1 i2 a b) (hz : IsZip s.heap z TI TO .none) (hTI : IsPair s.heap TI (.ref i1) (.ref i2)) {u v : Value} (hTO : IsPair s.heap TO u v)
    (h1 : s.heap.IsTupleIter i1 a 0) (h2 : s.heap.IsTupleIter i2 b 0) (l1 : s.heap.IsTuple a xs) (l2 : s.heap.IsTuple b ys) {n : Nat} (hnx : n = min xs.size ys.size) (hn : n ≤ sizeLine)
    (hQ : ∀ h' tk acc c as, (∀ b o, b ≠ z → b ≠ TO → b ≠ i1 → b ≠ i2 → s.heap.get? b = some o → h'.get? b = some o) → h'.get? s.heap.objs.size = some { cls := .type "list", dict := none, data := .seq acc c, slots := #[] } → as.length = n → ZG xs ys s.heap.objs.size h' as →
      acc.toList = as.map Value.ref → Q (.ref s.heap.objs.size) { s with heap := h', toks := tk }) :
    wpAny (model prog w) A (call (.type "list") [.ref z]) Q E s := by
  refine callType_codes (Q₁ := fun obj s₁ => obj = .ref s.heap.objs.size ∧ s₁ = { s with heap := s.heap.push { cls := .type "list", data := .seq #[] } }) PySem.F.called_list (PySem.F.typeCall_list_1 _) PySem.F.entry_list_init
    (code_list_new _ ⟨rfl, rfl⟩) fun obj s₁ h₁ => ?_
  obtain ⟨rfl, rfl⟩ := h₁
  have hS : (s.heap.push { cls := .type "list", data := .seq #[] }).get? s.heap.objs.size = some { cls := .type "list", data := .seq #[] } := Heap.get?_push_size _ rfl
  have lz : z < s.heap.objs.size := Heap.lt_size hz
  have lTI : TI < s.heap.objs.size := Heap.lt_size hTI
  have lTO : TO < s.heap.objs.size := Heap.lt_size hTO
  have li1 : i1 < s.heap.objs.size := by obtain ⟨_, e, _⟩ := h1; exact Heap.lt_size e
  have li2 : i2 < s.heap.objs.size := by obtain ⟨_, e, _⟩ := h2; exact Heap.lt_size e
  have la : a < s.heap.objs.size := by obtain ⟨_, e, _⟩ := l1; exact Heap.lt_size e
  have lb : b < s.heap.objs.size := by obtain ⟨_, e, _⟩ := l2; exact Heap.lt_size e
  have up : ∀ c o, s.heap.get? c = some o → (s.heap.push { cls := .type "list", data := .seq #[] }).get? c = some o := fun c o e => Heap.get?_push_of_some _ e
  refine ⟨⟨_, hS, rfl⟩, PySem.F.args_list_init_2 _ _, zl_init (A := A.in1) (s := { s with heap := s.heap.push { cls := .type "list", data := .seq #[] } }) hh s.heap.objs.size ⟨D, up _ _ hTI, h1.at fun o e => up _ o e, h2.at fun o e => up _ o e, l1.at fun o e => up _ o e, l2.at fun o e => up _ o e, .inl ⟨up _ _ hz, u, v, up _ _ hTO⟩⟩ (up _ _ hz)
    (Nat.ne_of_lt lTI) (Nat.ne_of_lt li1) (Nat.ne_of_lt li2) (Nat.ne_of_lt la) (Nat.ne_of_lt lb) (Nat.ne_of_lt lz) (Nat.ne_of_lt lTO) hnx hn (lo := s.heap.objs.size) ⟨Nat.le_refl _, Nat.le_of_lt lz, Nat.le_of_lt lTO, Nat.le_of_lt li1, Nat.le_of_lt li2⟩ (Heap.lt_size hS) hS (fun h' tk acc c as hk hS' hl hG hacc => ?_)⟩
  exact ⟨rfl, hQ h' tk acc c as (fun b o q2 q3 q4 q5 e => hk b o (Nat.ne_of_lt (Heap.lt_size e)) q2 q3 q4 q5 (up b o e)) hS' hl hG hacc⟩
end
end Zi
namespace Zi
open PySem PySem.Spec PyProof.Rows L2
/-- new pairs, one after another -/
inductive PrsH : Hp → List (V × V) → List Addr → Hp → Prop
  | nil {H : Hp} : PrsH H [] [] H
  | cons {H H' : Hp} {a : Addr} {x y : V} {ps : List (V × V)} {as : List Addr} : H a = none → PrsH (upd H a (.tup [x, y])) ps as H' → PrsH H ((x, y) :: ps) (a :: as) H'
def tLZ (K : PySem.W.Frag) (ta : TA) : TE := fun σ H Q => ta σ H fun vs H1 => ∃ a b xs ys, vs = [V.ref a, V.ref b] ∧ SqT K H1 a xs ∧ SqT K H1 b ys ∧ ∀ as H2 l, PrsH H1 (xs.zip ys) as H2 → H2 l = none → Q (.ref l) (upd H2 l (.lst (as.map V.ref)))
section
variable {X : Cx} {e1 e2 : Expr} {ta : TA} {p p2 pos pos2 : Pos}
/-- the pairs are tracked from now on -/
theorem take_prs {pins : List (Addr × Obj)} {σ : L2.St} {s : Shared} {h' : Heap} {tk : Nat} {lo : Addr} {its its2 : List Value} :
    ∀ (xs ys : List V) (as : List Addr) (H : Hp), Inv X pins σ H { s with heap := h', toks := tk } → (∀ b, lo < b → ∀ H' : Hp, H' b = none → FpOk X pins H' b) → Vals xs its → Vals ys its2 →
      as.Pairwise (· < ·) → (∀ a ∈ as, lo < a ∧ H a = none) → as.length = min xs.length ys.length →
      (∀ (j : Nat) (a : Addr), as[j]? = some a → ∃ x y, its[j]? = some x ∧ its2[j]? = some y ∧ h'.get? a = some { cls := .type "tuple", data := .seq #[x, y] }) →
      ∃ H2, PrsH H (xs.zip ys) as H2 ∧ Inv X pins σ H2 { s with heap := h', toks := tk } ∧ (∀ b, b ∉ as → H2 b = H b) := by
  intro xs
  induction xs generalizing its its2 with
  | nil =>
    intro ys as H I hf r1 r2 hp ha hl hg
    have : as = [] := List.eq_nil_of_length_eq_zero (by simpa using hl)
    subst this
    exact ⟨H, .nil, I, fun _ _ => rfl⟩
  | cons x xs ih =>
    intro ys as H I hf r1 r2 hp ha hl hg
    cases ys with
    | nil =>
      have : as = [] := List.eq_nil_of_length_eq_zero (by simpa using hl)
      subst this
      exact ⟨H, .nil, I, fun _ _ => rfl⟩
    | cons y ys =>
      cases as with
      | nil => simp only [List.length_nil, List.length_cons] at hl; omega
      | cons a as =>
        cases r1 with
        | cons rx r1 =>
          cases r2 with
          | cons ry r2 =>
            obtain ⟨u, v, e1, e2, e3⟩ := hg 0 a rfl
            cases e1
            cases e2
            obtain ⟨ha1, ha2⟩ := ha a (by simp)
            have hp' := List.pairwise_cons.mp hp
            have I1 := I.take (h' := h') (t' := tk) (it := a) (o := .tup [x, y]) (fun b ob _ e => e) (hf a ha1 H ha2) ⟨by show 2 ≤ sizeLine; decide, [_, _], .cons rx (.cons ry .nil), ⟨_, e3, rfl, _, rfl⟩⟩
            obtain ⟨H2, q1, q2, q3⟩ := ih ys as (upd H a (.tup [x, y])) I1 hf r1 r2 hp'.2 (fun b hb => ⟨(ha b (List.mem_cons_of_mem _ hb)).1, by rw [upd_ne (Nat.ne_of_gt (hp'.1 b hb))]; exact (ha b (List.mem_cons_of_mem _ hb)).2⟩)
              (by simp only [List.length_cons] at hl; omega) (fun j b hb => hg (j + 1) b hb)
            exact ⟨H2, .cons ha2 q1, q2, fun b hb => by
              rw [q3 b (fun z => hb (List.mem_cons_of_mem _ z)), upd_ne (fun z => hb (by rw [z]; simp))]⟩
theorem vals_refs : ∀ as : List Addr, Vals (as.map V.ref) (as.map Value.ref)
  | [] => .nil
  | a :: as => .cons rfl (vals_refs as)
theorem pe_lzip (hc : X.calm = true) (hl : Gl X "list") (ml : X.mg "list" = none) (hg : Gl X "zip") (hm : X.mg "zip" = none) (ha : PA X [e1, e2] ta)
    (hs : starEach [e1, e2] X.env = (false, eval e1 X.env) :: starEach [e2] X.env := by rfl) (hpl : (backTo pos2 (starEach [e2] X.env)).any (·.1) = false := by rfl)
    (hs1 : starEach [.Call (.Name "zip" p2) [e1, e2] [] pos2] X.env = (false, eval (.Call (.Name "zip" p2) [e1, e2] [] pos2) X.env) :: starEach [] X.env := by rfl) :
    PE X (.Call (.Name "list" p) [.Call (.Name "zip" p2) [e1, e2] [] pos2] [] pos) (tLZ X.K ta) := by
  refine ⟨fun pins s σ H Q I h => ?_⟩
  refine wpAny_Call_Name_kw (ld_blt I hl ml PyProof.Rows.boot_list (PyProof.Rows.callWith_type1 ?_ hs1 (by rfl)))
  rw [hs1]
  show wpAny _ _ (spliced ((false, eval (.Call (.Name "zip" p2) [e1, e2] [] pos2) X.env) :: backTo pos (starEach [] X.env))) _ _ s
  refine Calls.spliced_cons ?_
  refine wpAny_Call_Name_kw (ld_blt I hg hm PyProof.Rows.boot_zip (PyProof.Rows.callWith_type1 (thn (ha.run pos2 pins s σ H _ I h) fun us s1 ⟨vs, H1, I1, r1, q1⟩ => ?_) hs hpl))
  obtain ⟨a, b, xs, ys, ex, hqx, hqy, q⟩ := q1
  subst ex
  cases r1 with
  | cons r rr =>
    cases rr with
    | cons r' rr =>
      cases rr
      cases r
      cases r'
      obtain ⟨its, rv, p1, hz1⟩ := I1.tuple hqx
      obtain ⟨its2, rv2, p2', hz2⟩ := I1.tuple hqy
      obtain ⟨o1, ho1, _⟩ := id p1
      obtain ⟨o2, ho2, _⟩ := id p2'
      refine RZ.call_zipT (show s1.heap.IsTuple a its.toArray from p1) (show s1.heap.IsTuple b its2.toArray from p2') fun h' hz hTI hTO h1 h2 hsz hk => ?_
      refine Calls.spliced_nil ?_
      have hlx := rv.length
      have hly := rv2.length
      refine zl_call (s := { s1 with heap := h' }) (xs := its.toArray) (ys := its2.toArray) (I1.ok.hd hc) (PySem.W.ktu_apart s1.heap.objs.size a b (Heap.lt_size ho1) (Heap.lt_size ho2)) hz hTI hTO h1 h2
        (Heap.IsTuple.at (show s1.heap.IsTuple a its.toArray from p1) fun o e => hk _ o e) (Heap.IsTuple.at (show s1.heap.IsTuple b its2.toArray from p2') fun o e => hk _ o e) rfl
        (by simp only [List.size_toArray]; exact Nat.le_trans (Nat.min_le_left _ _) (by rw [← hlx]; exact hz1)) fun h2 tk acc c as kp hS hal hG hacc => ?_
      simp only [List.size_toArray] at hal
      dsimp only at kp hS hG ⊢
      have kp1 : ∀ b o, s1.heap.get? b = some o → h2.get? b = some o := fun b o e => by
        have hlt := Heap.lt_size e
        exact kp b o (Nat.ne_of_lt (Nat.lt_of_lt_of_le hlt (Nat.le_add_right _ _))) (Nat.ne_of_lt (Nat.lt_of_lt_of_le hlt (Nat.le_add_right _ _))) (Nat.ne_of_lt hlt) (Nat.ne_of_lt (Nat.lt_of_lt_of_le hlt (Nat.le_add_right _ _))) (hk b o e)
      have I2 : Inv X pins σ H1 { s1 with heap := h2, toks := tk } := I1.kept (t' := tk) kp1
      have hlo : s1.heap.objs.size ≤ h'.objs.size := by rw [hsz]; exact Nat.le_add_right _ _
      have fp : ∀ b, s1.heap.objs.size ≤ b → ∀ H' : Hp, H' b = none → FpOk X pins H' b := fun b hb H' hn => I1.fpOk hb hn
      obtain ⟨H2, g1, g2, g3⟩ := take_prs (X := X) (pins := pins) (σ := σ) (s := s1) (h' := h2) (tk := tk) (lo := h'.objs.size) xs ys as H1 I2 (fun b hb H' hn => fp b (Nat.le_trans hlo (Nat.le_of_lt hb)) H' hn) rv rv2 hG.rise
        (fun c hc => ⟨hG.above c hc, I1.hok.fresh (Nat.le_trans hlo (Nat.le_of_lt (hG.above c hc)))⟩) (by rw [hal, hlx, hly])
        (fun j c hj => by
          obtain ⟨x, y, e1, e2, e3⟩ := hG.pairs j c hj
          exact ⟨x, y, by simpa using e1, by simpa using e2, e3⟩)
      have hnS : h'.objs.size ∉ as := fun hm => Nat.lt_irrefl _ (hG.above _ hm)
      have hH2 : H2 h'.objs.size = none := by rw [g3 _ hnS]; exact I1.hok.fresh hlo
      have I3 := g2.take (h' := h2) (t' := tk) (it := h'.objs.size) (o := .lst (as.map V.ref)) (fun b ob _ e => e) (fp _ hlo H2 hH2) ⟨by
        rw [List.length_map, hal]; exact Nat.le_trans (Nat.min_le_left _ _) (by rw [← hlx]; exact hz1), as.map Value.ref, c, vals_refs as, by
        rw [hS]
        have : acc = (as.map Value.ref).toArray := by rw [← Array.toArray_toList (xs := acc), hacc]
        rw [this]⟩
      exact ⟨.ref h'.objs.size, _, I3, rfl, q as H2 _ g1 hH2⟩
end
theorem PrsH.ext {ρ : List Addr} {H H' : Hp} {ps : List (V × V)} {as : List Addr} (h : PrsH H ps as H') : Ext ρ H ρ H' := by
  induction h with
  | nil => exact Ext.refl
  | cons h _ ih => exact (Ext.new h).trans ih
theorem PrsH.sim {g : Wr} {ρ : List Addr} {S : Sto} {H H' : Hp} {ps : List (V × V)} {as : List Addr} (h : PrsH H ps as H') : Sim g ρ S H → Sim g ρ S H' := by
  induction h with
  | nil => exact fun s => s
  | cons h _ ih => exact fun s => ih (s.other (s.fresh h) h)
theorem PrsH.back {H H' : Hp} {ps : List (V × V)} {as : List Addr} (h : PrsH H ps as H') {p : Addr} (hp : H' p = none) : H p = none := by
  induction h with
  | nil => exact hp
  | @cons H H' a x y ps as h hr ih =>
    have := ih hp
    by_cases e : p = a
    · rw [e, upd_same] at this; cases this
    · rw [upd_ne e] at this; exact this
theorem PrsH.rds {g : Wr} {ρ : List Addr} {S : Sto} : ∀ {xs ys : List V} {ds es : List D} {H H' : Hp} {as : List Addr}, PrsH H (xs.zip ys) as H' → Sim g ρ S H → RDs g ρ H ds xs → RDs g ρ H es ys → RDs g ρ H' ((ds.zip es).map fun p => D.tup [p.1, p.2]) (as.map V.ref) := by
  intro xs
  induction xs with
  | nil =>
    intro ys ds es H H' as h s r1 r2
    cases r1
    cases h
    exact .nil
  | cons x xs ih =>
    intro ys ds es H H' as h s r1 r2
    cases r1 with
    | cons rx r1 =>
      cases ys with
      | nil =>
        cases r2
        cases h
        exact .nil
      | cons y ys =>
        cases r2 with
        | cons ry r2 =>
          cases h with
          | @cons _ _ a _ _ _ as ha hr =>
            have e0 : Ext ρ H ρ (upd H a (.tup [x, y])) := Ext.new ha
            have s1 := s.other (o := .tup [x, y]) (s.fresh ha) ha
            have e1 : Ext ρ (upd H a (.tup [x, y])) ρ H' := hr.ext
            exact .cons (.tup (e1.fr a _ (s.fresh ha) upd_same).1 (e1.rds s1 (e0.rds s (.cons rx (.cons ry .nil))))) (ih hr s1 (e0.rds s r1) (e0.rds s r2))
/-- list(zip(a, b)), a and b tuples -/
def mLZip (a b : M) : MA := fun l S => (a l S).bind fun p => match p.1 with
  | .tup xs => (b l p.2).bind fun q => match q.1 with
    | .tup ys => some ((xs.zip ys).map fun p => D.tup [p.1, p.2], q.2)
    | _ => none
  | _ => none
section
variable {X : Cx} {e1 e2 : Expr} {ma mb : M} {p p2 pos pos2 : Pos}
theorem l_lzip (hc : X.calm = true) (ha : Snd X e1 ma) (hb : Snd X e2 mb) (ml : X.mg "list" = none) (hm : X.mg "zip" = none) (hl : Gl X "list" := by rfl) (hg : Gl X "zip" := by rfl)
    (hs : starEach [e1, e2] X.env = (false, eval e1 X.env) :: starEach [e2] X.env := by rfl) (hs2 : starEach [e2] X.env = (false, eval e2 X.env) :: starEach [] X.env := by rfl) (hpl : (backTo pos2 (starEach [e2] X.env)).any (·.1) = false := by rfl)
    (hs1 : starEach [.Call (.Name "zip" p2) [e1, e2] [] pos2] X.env = (false, eval (.Call (.Name "zip" p2) [e1, e2] [] pos2) X.env) :: starEach [] X.env := by rfl) :
    SndL X (.Call (.Name "list" p) [.Call (.Name "zip" p2) [e1, e2] [] pos2] [] pos) (mLZip ma mb) :=
  pe_imp (pe_lzip hc hl ml hg hm (pa_cons ha (pa_cons hb pa_nil hs2) hs) hs hpl hs1) fun σ H Q h => by
  obtain ⟨ρ, l, S, ds, S', hs, hl, hm, q⟩ := h
  obtain ⟨⟨x, S1⟩, e1, hm⟩ := bind2 hm
  refine ⟨ρ, l, S, x, S1, hs, hl, e1, fun ρ1 v H1 x1 s1 r1 => ?_⟩
  cases r1 with
  | @tup xs a vs h1 r1 =>
    obtain ⟨⟨y, S2⟩, e2, hm⟩ := bind2 hm
    refine ⟨ρ1, l, S1, y, S2, s1, x1.loc hs hl, e2, fun ρ2 u H2 x2 s2 r2 => ?_⟩
    have hna : a ∉ ρ1 := s1.notin h1 (.inl ⟨_, rfl⟩)
    cases r2 with
    | @tup ys b us h2 r2 =>
      cases hm
      refine ⟨a, b, vs, us, rfl, .inl (.inl (x2.fr a _ hna h1).1), .inl (.inl h2), fun as H3 p g hp => ?_⟩
      have s3 := g.sim s2
      exact q ρ2 p _ _ (((x1.trans x2).trans g.ext).trans (Ext.new hp)) (s3.other (s3.fresh hp) hp) upd_same (s3.fresh hp) ((x1.trans (x2.trans g.ext)).back s3 hp) ((Ext.new hp).rds s3 (g.rds s2 (x2.rds s1 r1) r2))
    | _ => cases hm
  | _ => cases hm
end
end Zi
set_option maxRecDepth 100000
/-! shared functions: what they compute -/
namespace Zi
open PySem L2
/-- 5000 0 pairs, 1 waiting, 2 found, 3 first, 4 second, 5 step, 6 one, 7 other -/
noncomputable def c_unify (G : GF) : MS := (mSeq (mSet 1 (mAlloc (mLisc (oD (mVar 0)))))
    (mSeq (mSet 2 (mDnewK))
    (mSeq (mWhile (mTru (mVar 1)) (mSeq (mAsg (mgTup 2 (mgCons (mgN 3) (mgCons (mgN 4) mgNil))) (mPop (mVar 1)))
    (mSeq (mIfS (mBool (mOpO fEq (oD (mVar 3)) (oD (mVar 4)))) mCont mSkip)
    (mSeq (mIfS (mAndT (mTru (mCall (G 3) (mCons (mVar 4) mNil))) (mNotT (mTru (mCall (G 3) (mCons (mVar 3) mNil))))) (mPar 3 4 (mCons (mVar 4) (mCons (mVar 3) mNil))) mSkip)
    (mIfS (mTru (mCall (G 3) (mCons (mVar 3) mNil))) (mSeq (mIfS (mBool (mOp fGt (mCall (G 6) (mCons (mVar 4) (mCons (mVar 3) mNil))) (mC (.int 0)))) (mRet (mC .non)) mSkip)
    (mSeq (mSet 5 (mDisp1 (mVar 3) (mVar 4)))
    (mSeq (mSetL 1 (mComp (mSrc (oD (mVar 1))) [6, 7] (mgTup 2 (mgCons (mgN 6) (mgCons (mgN 7) mgNil))) mYes (mTup (mCons (mCall (G 1000) (mCons (mVar 6) (mCons (mVar 5) mNil))) (mCons (mCall (G 1000) (mCons (mVar 7) (mCons (mVar 5) mNil))) mNil)))))
    (mSet 2 (mCall (G 2015) (mCons (mVar 2) (mCons (mVar 3) (mCons (mVar 4) mNil)))))))) (mIfS (mOrT (mBool (mOpO fNe (oD (mOp ixF (mVar 3) (mC (.int 0)))) (oD (mOp ixF (mVar 4) (mC (.int 0)))))) (mBool (mOpO fNe (oD (mFn1 fLen (oD (mOp ixF (mVar 3) (mC (.int 1)))))) (oD (mFn1 fLen (oD (mOp ixF (mVar 4) (mC (.int 1))))))))) (mRet (mC .non)) (mSet 1 (mAlloc (mCatL (oD (mVar 1)) (oN (mLZip (mOp ixF (mVar 3) (mC (.int 1))) (mOp ixF (mVar 4) (mC (.int 1))))))))))))))
    (mRet (mVar 2)))))
noncomputable def lZl5 : List Fb := [mkFb 1 8 c_unify]
end Zi
set_option maxRecDepth 100000
set_option maxHeartbeats 1000000
/-! unification: the plain law -/
namespace Zi
open PySem L2
/-! ### substitutions as functions -/
mutual
def Tm.sb (θ : Int → Tm) : Tm → Tm
  | .v i => θ i
  | .ap a b c ts => .ap a b c (sbs θ ts)
def sbs (θ : Int → Tm) : List Tm → List Tm
  | [] => []
  | t :: ts => t.sb θ :: sbs θ ts
end
theorem sbs_map (θ : Int → Tm) : ∀ ts, sbs θ ts = ts.map (Tm.sb θ)
  | [] => rfl
  | t :: ts => by rw [sbs, sbs_map θ ts]; rfl
theorem sb_ap {θ : Int → Tm} {a b c : Int} {ts : List Tm} : (Tm.ap a b c ts).sb θ = .ap a b c (ts.map (Tm.sb θ)) := by rw [Tm.sb, sbs_map]
theorem sb_v {θ : Int → Tm} {i : Int} : (Tm.v i).sb θ = θ i := by rw [Tm.sb]
abbrev asF (s : List (Int × Tm)) : Int → Tm := fun i => (subOf s i).getD (.v i)
theorem put_sb (s : List (Int × Tm)) (t : Tm) : t.put s = t.sb (asF s) := by
  induction t using Tm.ind with
  | hv i => rw [sb_v]; simp only [Tm.put]
  | ha a b c ts ih => rw [put_ap, sb_ap, List.map_congr_left ih]
theorem sb_sb (σ θ : Int → Tm) (t : Tm) : (t.sb σ).sb θ = t.sb fun i => (σ i).sb θ := by
  induction t using Tm.ind with
  | hv i => rw [sb_v, sb_v]
  | ha a b c ts ih => rw [sb_ap, sb_ap, sb_ap, List.map_map, List.map_congr_left (f := Tm.sb θ ∘ Tm.sb σ) (g := Tm.sb fun i => (σ i).sb θ) fun t ht => ih t ht]
theorem has_ap {x a b c : Int} {ts : List Tm} : (Tm.ap a b c ts).has x ↔ ∃ t ∈ ts, t.has x := by rw [Tm.has]; exact hasL_iff ts
theorem has_v {x i : Int} : (Tm.v i).has x ↔ i = x := by rw [Tm.has]
theorem sb_congr {θ θ' : Int → Tm} (t : Tm) (h : ∀ x, t.has x → θ x = θ' x) : t.sb θ = t.sb θ' := by
  induction t using Tm.ind with
  | hv i => rw [sb_v, sb_v]; exact h i (has_v.mpr rfl)
  | ha a b c ts ih => rw [sb_ap, sb_ap, List.map_congr_left (g := Tm.sb θ') fun t ht => ih t ht fun x hx => h x (has_ap.mpr ⟨t, ht, hx⟩)]
theorem has_sb {θ : Int → Tm} {y : Int} (t : Tm) : (t.sb θ).has y ↔ ∃ x, t.has x ∧ (θ x).has y := by
  induction t using Tm.ind with
  | hv i => rw [sb_v]; exact ⟨fun h => ⟨i, has_v.mpr rfl, h⟩, fun ⟨x, h1, h2⟩ => by rw [has_v] at h1; rw [h1]; exact h2⟩
  | ha a b c ts ih =>
    rw [sb_ap, has_ap]
    constructor
    · rintro ⟨u, hu, h⟩
      obtain ⟨t, ht, rfl⟩ := List.mem_map.mp hu
      obtain ⟨x, h1, h2⟩ := (ih t ht).mp h
      exact ⟨x, has_ap.mpr ⟨t, ht, h1⟩, h2⟩
    · rintro ⟨x, h1, h2⟩
      obtain ⟨t, ht, h1⟩ := has_ap.mp h1
      exact ⟨_, List.mem_map_of_mem ht, (ih t ht).mpr ⟨x, h1, h2⟩⟩
theorem sb_id (t : Tm) : t.sb Tm.v = t := by
  induction t using Tm.ind with
  | hv i => rw [sb_v]
  | ha a b c ts ih => rw [sb_ap, List.map_congr_left (g := id) ih, List.map_id]
theorem sz_ap {a b c : Int} {ts : List Tm} : (Tm.ap a b c ts).size = 1 + sizes ts := by rw [Tm.size]
theorem szM : ∀ {ts : List Tm} {t : Tm}, t ∈ ts → t.size ≤ sizes ts
  | t' :: ts, t, h => by
    have h1 := size_pos t'
    have h2 := sizes_nn ts
    rcases List.mem_cons.mp h with e | e
    · subst e; simp only [sizes]; omega
    · have := szM e
      simp only [sizes]; omega
theorem sb_size {θ : Int → Tm} {x : Int} (t : Tm) (h : t.has x) : (θ x).size ≤ (t.sb θ).size := by
  induction t using Tm.ind with
  | hv i => rw [has_v] at h; rw [sb_v, h]; exact Int.le_refl _
  | ha a b c ts ih =>
    obtain ⟨t, ht, h⟩ := has_ap.mp h
    have h1 := ih t ht h
    have h2 := szM (List.mem_map_of_mem (f := Tm.sb θ) ht)
    rw [sb_ap, sz_ap]
    omega
/-- the occurs check -/
theorem sb_occ {θ : Int → Tm} {x : Int} {t : Tm} (h : t.has x) (hv : t.isV = false) : θ x ≠ t.sb θ := by
  cases t with
  | v i => cases hv
  | ap a b c ts =>
    intro e
    obtain ⟨t, ht, h⟩ := has_ap.mp h
    have h1 := sb_size (θ := θ) t h
    have h2 := szM (List.mem_map_of_mem (f := Tm.sb θ) ht)
    rw [e, sb_ap, sz_ap] at h1
    omega
/-! ### what is solved -/
def Unif (ws : List (Tm × Tm)) (θ : Int → Tm) : Prop := ∀ p ∈ ws, p.1.sb θ = p.2.sb θ
def Sat (f : List (Int × Tm)) (θ : Int → Tm) : Prop := ∀ p ∈ f, θ p.1 = p.2.sb θ
theorem unif_app {a b : List (Tm × Tm)} {θ : Int → Tm} : Unif (a ++ b) θ ↔ Unif a θ ∧ Unif b θ :=
  ⟨fun h => ⟨fun p hp => h p (List.mem_append_left _ hp), fun p hp => h p (List.mem_append_right _ hp)⟩, fun h p hp => (List.mem_append.mp hp).elim (h.1 p) (h.2 p)⟩
theorem unif_one {a b : Tm} {θ : Int → Tm} : Unif [(a, b)] θ ↔ a.sb θ = b.sb θ :=
  ⟨fun h => h (a, b) (by simp), fun h p hp => by rw [List.mem_singleton] at hp; subst hp; exact h⟩
def stp (x : Int) (t : Tm) : List (Int × Tm) := [(x, t)]
theorem stp_at {x y : Int} {t : Tm} : asF (stp x t) y = if x = y then t else .v y := by
  simp only [asF, stp, subOf, List.find?_cons, List.find?_nil]
  by_cases h : x = y
  · simp [h]
  · simp [h]
theorem stp_sb {x : Int} {t u : Tm} {θ : Int → Tm} (h : θ x = t.sb θ) : (u.put (stp x t)).sb θ = u.sb θ := by
  rw [put_sb, sb_sb]
  refine sb_congr u fun y _ => ?_
  rw [stp_at]
  by_cases e : x = y
  · rw [if_pos e, ← h, e]
  · rw [if_neg e, sb_v]
def bnd (f : List (Int × Tm)) (x : Int) (t : Tm) : List (Int × Tm) := (f.map fun p => (p.1, p.2.put (stp x t))) ++ [(x, t)]
theorem suApp (a b : List (Int × Tm)) (y : Int) : subOf (a ++ b) y = (subOf a y).or (subOf b y) := by
  unfold subOf
  rw [List.find?_append]
  cases a.find? (fun p => decide (p.1 = y)) <;> simp
theorem suNone {f : List (Int × Tm)} {x : Int} : subOf f x = none ↔ x ∉ f.map (·.1) := by
  unfold subOf
  rw [Option.map_eq_none_iff, List.find?_eq_none]
  constructor
  · intro h hm
    obtain ⟨p, hp, e⟩ := List.mem_map.mp hm
    exact h p hp (by simp [e])
  · intro h p hp e
    exact h (List.mem_map.mpr ⟨p, hp, by simpa using e⟩)
theorem suIn {f : List (Int × Tm)} {x : Int} {t : Tm} (h : subOf f x = some t) : (x, t) ∈ f := by
  unfold subOf at h
  obtain ⟨p, h1, h2⟩ := Option.map_eq_some_iff.mp h
  have h3 := List.find?_some h1
  have h4 := List.mem_of_find?_eq_some h1
  have : p.1 = x := by simpa using h3
  rw [← h2, ← this]; exact h4
theorem subOf_map (f : List (Int × Tm)) (g : Tm → Tm) (y : Int) : subOf (f.map fun p => (p.1, g p.2)) y = (subOf f y).map g := by
  induction f with
  | nil => rfl
  | cons p f ih =>
    unfold subOf at ih ⊢
    by_cases h : p.1 = y
    · simp [h]
    · simp only [List.map_cons, List.find?_cons, h, decide_false]
      exact ih
theorem subOf_bnd {f : List (Int × Tm)} {x : Int} {t : Tm} (y : Int) : subOf (bnd f x t) y = match subOf f y with
    | some s => some (s.put (stp x t))
    | none => if x = y then some t else none := by
  unfold bnd
  rw [suApp, subOf_map]
  cases subOf f y with
  | some s => rfl
  | none =>
    simp only [Option.map_none, Option.none_or]
    unfold subOf
    by_cases h : x = y
    · simp [h]
    · simp [h]
theorem put_bnd {f : List (Int × Tm)} {x : Int} {t : Tm} (u : Tm) : (u.put f).put (stp x t) = u.put (bnd f x t) := by
  rw [put_sb, put_sb, put_sb, sb_sb]
  refine sb_congr u fun y _ => ?_
  show (asF f y).sb (asF (stp x t)) = asF (bnd f x t) y
  unfold asF
  rw [subOf_bnd]
  cases subOf f y with
  | some s => simp only [Option.getD_some]; rw [← put_sb]
  | none =>
    simp only [Option.getD_none]
    rw [sb_v]
    have := stp_at (x := x) (y := y) (t := t)
    unfold asF at this
    rw [this]
    by_cases h : x = y
    · rw [if_pos h, if_pos h]; rfl
    · rw [if_neg h, if_neg h]; rfl
theorem sat_bnd {f : List (Int × Tm)} {x : Int} {t : Tm} {θ : Int → Tm} : Sat (bnd f x t) θ ↔ Sat f θ ∧ θ x = t.sb θ := by
  constructor
  · intro h
    have hx : θ x = t.sb θ := h (x, t) (by simp [bnd])
    refine ⟨fun p hp => ?_, hx⟩
    have := h (p.1, p.2.put (stp x t)) (List.mem_append_left _ (List.mem_map.mpr ⟨p, hp, rfl⟩))
    rw [stp_sb hx] at this
    exact this
  · rintro ⟨h, hx⟩ p hp
    rcases List.mem_append.mp hp with hp | hp
    · obtain ⟨q, hq, rfl⟩ := List.mem_map.mp hp
      rw [stp_sb hx]; exact h q hq
    · rw [List.mem_singleton] at hp; subst hp; exact hx
def ppW (f : List (Int × Tm)) (ws : List (Tm × Tm)) : List (Tm × Tm) := ws.map fun p => (p.1.put f, p.2.put f)
theorem unif_stp {ws : List (Tm × Tm)} {x : Int} {t : Tm} {θ : Int → Tm} (hx : θ x = t.sb θ) : Unif (ppW (stp x t) ws) θ ↔ Unif ws θ := by
  constructor
  · intro h p hp
    have := h _ (List.mem_map_of_mem (f := fun p : Tm × Tm => (p.1.put (stp x t), p.2.put (stp x t))) hp)
    rw [stp_sb hx, stp_sb hx] at this
    exact this
  · intro h p hp
    obtain ⟨q, hq, rfl⟩ := List.mem_map.mp hp
    rw [stp_sb hx, stp_sb hx]; exact h q hq
theorem unif_zip {θ : Int → Tm} : ∀ {ts us : List Tm}, ts.length = us.length → (Unif (ts.zip us) θ ↔ ts.map (Tm.sb θ) = us.map (Tm.sb θ))
  | [], [], _ => ⟨fun _ => rfl, fun _ p hp => by cases hp⟩
  | t :: ts, u :: us, h => by
    have ih := unif_zip (θ := θ) (ts := ts) (us := us) (by simpa using h)
    rw [List.zip_cons_cons, List.map_cons, List.map_cons, List.cons.injEq, ← ih]
    exact ⟨fun q => ⟨q (t, u) (by simp), fun p hp => q p (List.mem_cons_of_mem _ hp)⟩, fun ⟨q1, q2⟩ p hp => by
      rcases List.mem_cons.mp hp with rfl | hp
      · exact q1
      · exact q2 p hp⟩
theorem unif_ap {θ : Int → Tm} {a b c : Int} {ts us : List Tm} (h : ts.length = us.length) : ((Tm.ap a b c ts).sb θ = (Tm.ap a b c us).sb θ) ↔ Unif (ts.zip us) θ := by
  rw [sb_ap, sb_ap, unif_zip h]
  simp
theorem unif_clash {θ : Int → Tm} {a b c a' b' c' : Int} {ts us : List Tm} (h : (Tm.ap a b c ts).sb θ = (Tm.ap a' b' c' us).sb θ) : (a = a' ∧ b = b' ∧ c = c') ∧ ts.length = us.length := by
  rw [sb_ap, sb_ap] at h
  simp only [Tm.ap.injEq] at h
  have := congrArg List.length h.2.2.2
  rw [List.length_map, List.length_map] at this
  exact ⟨⟨h.1, h.2.1, h.2.2.1⟩, this⟩
/-! ### how high terms grow -/
theorem hgts_got : ∀ ts : List Tm, hgts ts = 0 ∨ ∃ t ∈ ts, t.hgt = hgts ts
  | [] => .inl rfl
  | t :: ts => by
    simp only [hgts]
    rcases Nat.le_total t.hgt (hgts ts) with h | h
    · rw [Nat.max_eq_right h]
      rcases hgts_got ts with e | ⟨u, hu, e⟩
      · exact .inl e
      · exact .inr ⟨u, List.mem_cons_of_mem _ hu, e⟩
    · rw [Nat.max_eq_left h]
      exact .inr ⟨t, by simp, rfl⟩
theorem all_len : ∀ (h : Nat) (L : List Nat), (∀ k, 1 ≤ k → k ≤ h → k ∈ L) → h ≤ L.length
  | 0, _, _ => Nat.zero_le _
  | h + 1, L, hk => by
    have hm := hk (h + 1) (by omega) (by omega)
    have := all_len h (L.erase (h + 1)) fun k h1 h2 => (List.mem_erase_of_ne (by omega)).mpr (hk k h1 (by omega))
    rw [List.length_erase_of_mem hm] at this
    have := List.length_pos_of_mem hm
    omega
theorem nodup_len : ∀ (L M : List Int), L.Nodup → (∀ x ∈ L, x ∈ M) → L.length ≤ M.length
  | [], _, _, _ => Nat.zero_le _
  | x :: L, M, hn, h => by
    have hx := h x (by simp)
    obtain ⟨h1, h2⟩ := List.nodup_cons.mp hn
    have := nodup_len L (M.erase x) h2 fun y hy => (List.mem_erase_of_ne (show y ≠ x from fun e => h1 (by rw [← e]; exact hy))).mpr (h y (List.mem_cons_of_mem _ hy))
    rw [List.length_erase_of_mem hx] at this
    have := List.length_pos_of_mem hx
    simp only [List.length_cons]
    omega
/-- a list of terms with their arguments -/
def Clo (N : List Tm) : Prop := ∀ a b c ts, Tm.ap a b c ts ∈ N → ∀ t ∈ ts, t ∈ N
def Dg (N : List Tm) (f : List (Int × Tm)) : Prop := ∀ p ∈ f, p.2.isV = true ∨ ∃ u ∈ N, u.isV = false ∧ p.2 = u.put f
theorem dg_at {N : List Tm} {f : List (Int × Tm)} (hd : Dg N f) {u : Tm} (hu : u ∈ N) : (u.put f).isV = true ∨ ∃ v ∈ N, v.isV = false ∧ u.put f = v.put f := by
  cases u with
  | ap a b c ts => exact .inr ⟨_, hu, rfl, rfl⟩
  | v i =>
    cases e : subOf f i with
    | none =>
      left
      show ((subOf f i).getD (.v i)).isV = true
      rw [e]; rfl
    | some s =>
      have e2 : (Tm.v i).put f = s := by show (subOf f i).getD (.v i) = s; rw [e]; rfl
      rw [e2]
      exact hd (i, s) (suIn e)
theorem hgt_N {N : List Tm} {f : List (Int × Tm)} (hc : Clo N) (hd : Dg N f) {u : Tm} (hu : u ∈ N) : (u.put f).hgt ≤ N.length := by
  have key : ∀ (n : Nat) (u : Tm), u ∈ N → (u.put f).hgt = n → ∀ k, 1 ≤ k → k ≤ n → ∃ v ∈ N, (v.put f).hgt = k := by
    intro n
    induction n using Nat.strongRecOn with
    | ind n ih =>
      intro u hu hn k h1 h2
      rcases dg_at hd hu with h | ⟨v, hv, h3, h4⟩
      · cases e : u.put f with
        | v i => rw [e] at hn; simp only [Tm.hgt] at hn; omega
        | ap a b c ts => rw [e] at h; cases h
      · cases v with
        | v i => cases h3
        | ap a b c ts =>
          rcases Nat.lt_or_ge k n with hk | hk
          · rw [h4, put_ap, hgt_ap] at hn
            rcases hgts_got (ts.map (Tm.put f)) with e | ⟨w, hw, e⟩
            · omega
            · obtain ⟨t, ht, rfl⟩ := List.mem_map.mp hw
              exact ih (t.put f).hgt (by omega) t (hc _ _ _ _ hv t ht) rfl k h1 (by omega)
          · exact ⟨u, hu, by omega⟩
  have h1 := all_len (u.put f).hgt (N.map fun v => (v.put f).hgt) fun k h1 h2 => by
    obtain ⟨v, hv, e⟩ := key _ u hu rfl k h1 h2
    exact List.mem_map.mpr ⟨v, hv, e⟩
  rw [List.length_map] at h1
  exact h1
theorem dg_bnd {N : List Tm} {f : List (Int × Tm)} (hd : Dg N f) {x : Int} {t : Tm} (ht : t.isV = true ∨ ∃ u ∈ N, u.isV = false ∧ t = u.put f) (hx : ¬ t.has x) : Dg N (bnd f x t) := by
  have hself : t.put (stp x t) = t := put_id t fun i hi => .inl (by
    rw [suNone]
    simp only [stp, List.map_cons, List.map_nil, List.mem_singleton]
    intro e; exact hx (e ▸ hi))
  have hti : t.isV = true ∨ ∃ u ∈ N, u.isV = false ∧ t = u.put (bnd f x t) := by
    rcases ht with h | ⟨u, hu, h1, h2⟩
    · exact .inl h
    · exact .inr ⟨u, hu, h1, by rw [← put_bnd, ← h2, hself]⟩
  intro p hp
  rcases List.mem_append.mp hp with hp | hp
  · obtain ⟨q, hq, rfl⟩ := List.mem_map.mp hp
    show (q.2.put (stp x t)).isV = true ∨ ∃ u ∈ N, u.isV = false ∧ q.2.put (stp x t) = u.put (bnd f x t)
    rcases hd q hq with h | ⟨u, hu, h1, h2⟩
    · cases e : q.2 with
      | ap a b c ts => rw [e] at h; cases h
      | v i =>
        have : (Tm.v i).put (stp x t) = if x = i then t else .v i := by rw [put_sb, sb_v]; exact stp_at
        rw [this]
        by_cases hi : x = i
        · rw [if_pos hi]; exact hti
        · rw [if_neg hi]; exact .inl rfl
    · exact .inr ⟨u, hu, h1, by rw [h2, put_bnd]⟩
  · rw [List.mem_singleton] at hp; subst hp
    exact hti
end Zi
set_option maxRecDepth 100000
set_option maxHeartbeats 1000000
/-! weights -/
namespace Zi
open PySem L2
local macro_rules | `(tactic| walk_at "dec") => `(tactic| first | decide | omega | assumption)
local macro_rules | `(tactic| walk_at "g1") => `(tactic| first
  | ((with_reducible apply wp_var); (focus (exact rfl)))
  | with_reducible refine wp_c ?_
  | with_reducible refine wp_op ?_
  | with_reducible refine wp_oD ?_
  | with_reducible refine wp_cons ?_
  | with_reducible refine wp_nil ?_
  | ((with_reducible refine nxt_nx ?_); (try dsimp only [List.set_cons_zero, List.set_cons_succ]))
  | with_reducible refine wp_seq ?_
  | with_reducible refine wp_set ?_
  | with_reducible refine wp_ret ?_
  | with_reducible refine nxt_rt ?_
  | with_reducible refine wp_call ?_
  | with_reducible refine wp_opO ?_
  | with_reducible refine wp_bool ?_
  | with_reducible refine isB_bl ?_
  | with_reducible refine wp_ifS ?_
  | with_reducible refine way_t ?_
  | with_reducible refine way_f ?_
  | with_reducible refine way_not ?_
  | ((with_reducible apply wf_ixT); (focus (first | exact atI_0 | exact atI_1 | exact atI_2 | exact atI_3 | exact atI_4 | exact atI_5 | exact atI_6 | exact atI_7 | exact atI_8 | exact atI_9 | assumption)))
  | with_reducible refine wp_fn1 ?_
  | with_reducible refine wf_int ?_
  | with_reducible refine wf_add ?_
  | with_reducible refine wf_sub ?_
  | ((with_reducible refine wf_mod ?_ ?_); (focus (exact modC_r (by walk_at "dec"))))
  | ((with_reducible refine wf_div ?_ ?_); (focus (exact divC_r (by walk_at "dec"))))
  | ((with_reducible refine wf_mul ?_ ?_); (focus (exact mulC_r (by walk_at "dec"))))
  | ((with_reducible refine wf_mul ?_ ?_); (focus (exact mulC_l (by walk_at "dec"))))
  | with_reducible refine wf_eqI ?_
  | with_reducible refine wf_neI ?_
  | ((with_reducible refine wf_pow ?_ ?_); (focus (decide)))
  | with_reducible refine wf_lt ?_
  | with_reducible refine wf_le ?_
  | with_reducible refine wf_gt ?_
  | with_reducible refine wf_ge ?_
  | with_reducible refine wf_eqB ?_
  | with_reducible refine wf_neB ?_
  | with_reducible refine wp_tup ?_
  | ((with_reducible refine shrt_of ?_ ?_); (focus (exact Nat.le_of_ble_eq_true (by exact rfl))))
  | with_reducible refine wp_tru ?_
  | with_reducible refine tru_bl ?_
  | with_reducible refine tru_int ?_
  | with_reducible refine tru_non ?_
  | with_reducible refine tru_tup ?_
  | ((with_reducible apply tru_lst); (focus (first | assumption | exact last_get)))
  | with_reducible refine wp_notT ?_
  | with_reducible refine wp_andT ?_
  | with_reducible refine wp_orT ?_
  | with_reducible refine wp_and ?_
  | with_reducible refine wp_or ?_
  | with_reducible refine wp_not ?_
  | with_reducible refine wp_if ?_
  | with_reducible refine wp_skip ?_
  | with_reducible refine wp_drop ?_
  | with_reducible refine wp_break ?_
  | with_reducible refine wp_cont ?_
  | with_reducible refine nxt_bk ?_
  | with_reducible refine nxt_ct ?_
  | with_reducible refine wp_alloc ?_
  | with_reducible refine wp_lst ?_
  | with_reducible refine wp_oN ?_
  | with_reducible refine wp_oS ?_
  | with_reducible refine valO_d ?_
  | with_reducible refine valO_n ?_
  | with_reducible refine wp_setL ?_
  | with_reducible refine wf_lenT ?_
  | with_reducible refine wf_lenN ?_
  | with_reducible refine wf_lenS ?_
  | ((with_reducible apply wf_lenL); (focus (first | assumption | exact last_get)))
  | with_reducible refine wf_tupcT ?_
  | with_reducible refine wf_tupcN ?_
  | ((with_reducible apply wf_tupcL); (focus (first | assumption | exact last_get)))
  | with_reducible refine wp_for ?_
  | with_reducible refine wp_src ?_
  | with_reducible refine src_tupK ?_
  | with_reducible refine src_nK ?_
  | with_reducible refine src_slK ?_
  | ((with_reducible apply src_lstK); (focus (first | assumption | exact last_get)))
  | with_reducible refine wp_asg ?_
  | with_reducible refine wl_n ?_
  | ((with_reducible refine wl_tup ?_ ?_); (focus (exact rfl)))
  | with_reducible refine wl_cons ?_
  | with_reducible refine wl_nil ?_
  | ((with_reducible apply wp_aug); (focus (exact rfl)))
  | with_reducible refine wf_iadd ?_
  | with_reducible refine wp_isN ?_
  | with_reducible refine wp_notN ?_
  | with_reducible refine wp_isI ?_
  | ((with_reducible apply isI_t); (focus (exact rfl)); (focus (decide)))
  | ((with_reducible apply isI_f); (focus (exact rfl)); (focus (decide)))
  | with_reducible refine loopK_nx ?_
  | with_reducible refine loopK_ct ?_
  | with_reducible refine loopK_bk ?_
  | with_reducible refine loopK_rt ?_
  | with_reducible refine wp_enum ?_
  | with_reducible refine wp_lisc ?_
  | with_reducible refine wp_comp ?_
  | with_reducible refine wp_neg ?_
  | with_reducible refine wp_dnewK ?_
  | with_reducible refine wp_dnewT ?_
  | with_reducible refine wp_get2 ?_
  | with_reducible refine wp_get1 ?_
  | with_reducible refine wp_setD ?_
  | with_reducible refine wp_app ?_
  | with_reducible refine wp_rev ?_
  | with_reducible refine wp_dcopy ?_
  | with_reducible exact ⟨rfl, rfl⟩)
local macro_rules | `(tactic| walk_at "g2") => `(tactic| first
  | walk_at "g1"
  | with_reducible refine wf_ixA0 ?_
  | with_reducible refine wf_ixA1 ?_
  | with_reducible refine wf_ixS0 ?_
  | with_reducible refine wf_ixS1 ?_
  | with_reducible refine wf_ixS2 ?_
  | with_reducible refine wf_ixL0 ?_
  | with_reducible refine wf_ixL1 ?_
  | with_reducible refine wf_ixL2 ?_
  | ((with_reducible refine wf_eqT ?_ ?_ ?_); (focus (walk_at "dec")); (focus (walk_at "dec")))
  | ((with_reducible refine wf_neT ?_ ?_ ?_); (focus (walk_at "dec")); (focus (walk_at "dec")))
  | ((with_reducible refine wf_eqLs ?_ ?_ ?_); (focus (assumption)); (focus (assumption)))
  | ((with_reducible refine wf_neLs ?_ ?_ ?_); (focus (assumption)); (focus (assumption)))
  | ((with_reducible refine wf_eqL ?_ ?_ ?_ ?_ ?_); (focus (walk_at "dec")); (focus (walk_at "dec")); (focus (walk_at "dec")); (focus (walk_at "dec")))
  | ((with_reducible refine wf_neL ?_ ?_ ?_ ?_ ?_); (focus (walk_at "dec")); (focus (walk_at "dec")); (focus (walk_at "dec")); (focus (walk_at "dec")))
  | with_reducible refine way_eq lseq_self ?_
  | with_reducible refine way_eq leq_self ?_
  | with_reducible refine way_eq (teq_self _) ?_
  | with_reducible refine isI_vi ?_
  | with_reducible refine isI_vb ?_
  | with_reducible refine isI_vt ?_
  | ((with_reducible refine wp_eq (r_isvar ?_ _) ?_); (focus (assumption)))
  | ((with_reducible refine wp_eq (r_lisvar ?_ _) ?_); (focus (assumption)))
  | ((with_reducible refine wp_eq (r_lint ?_ _) ?_); (focus (assumption)))
  | ((with_reducible refine wp_eq (run_cell ?_ _ _ ?_ _) ?_); (focus (exact rfl)); (focus (walk_at "dec"))))
local macro_rules | `(tactic| walk_at "go2") => `(tactic| repeat' (walk_at "g2"))
local macro_rules | `(tactic| walk_at "go") => `(tactic| repeat' (walk_at "g1"))
local macro_rules | `(tactic| walk_at "g3") => `(tactic| first
  | with_reducible refine wp_andP ?_
  | with_reducible refine wp_orP ?_
  | with_reducible refine wp_andB ?_
  | with_reducible refine wp_orB ?_
  | with_reducible refine ⟨rfl, rfl, ?_⟩
  | walk_at "g2")
local macro_rules | `(tactic| walk_at "go3") => `(tactic| repeat' (walk_at "g3"))

abbrev Sy := Int × Int × Int
abbrev Wt := List (Sy × Int)
def kS (s : Sy) : List Key := [.inl s.1, .inl s.2.1, .inl s.2.2]
theorem kS_inj {s t : Sy} : kS s = kS t ↔ s = t := by
  obtain ⟨a, b, c⟩ := s
  obtain ⟨d, e, f⟩ := t
  simp [kS]
def eW (w : Wt) : List (List Key × D) := w.map fun p => (kS p.1, .int p.2)
def wtF (w : Wt) (s : Sy) : Option Int := (w.find? fun p => decide (p.1 = s)).map (·.2)
/-- a symbol's weight -/
def wtOf (w : Wt) (s : Sy) : Int := (wtF w s).getD 1
theorem valD_eW (s : Sy) : ∀ w : Wt, valD (eW w) (kS s) = (wtF w s).map D.int
  | [] => rfl
  | p :: w => by
    have ih := valD_eW s w
    by_cases h : p.1 = s
    · simp [eW, valD, wtF, List.find?_cons, h]
    · have h1 : ¬ kS p.1 = kS s := fun z => h (kS_inj.mp z)
      simp only [eW, valD, wtF, List.map_cons, List.find?_cons, decide_eq_false h, decide_eq_false h1] at ih ⊢
      exact ih
theorem keyT_eS (a b c : Int) : keyT (eS a b c) = some (kS (a, b, c)) := rfl
section
variable {S : Sto} {Q : D → Sto → Prop}
theorem gotD_w {r : Nat} {w : Wt} {a b c : Int} (h : S[r]? = some (.dT (eW w))) : gotD S (.ref r) (eS a b c) = some ((wtF w (a, b, c)).map D.int) := by
  simp only [gotD, dkO, dtO, h, keyT_eS, Option.bind_some, valD_eW]
theorem isDO_w {r : Nat} {w : Wt} (h : S[r]? = some (.dT (eW w))) : isDO S (.ref r) = true := by
  simp only [isDO, dkO, dtO, h]
  rfl
theorem getD_w (o : Option Int) : (o.map D.int).getD (.int 1) = .int (o.getD 1) := by cases o <;> rfl
def putW (w : Wt) (s : Sy) (n : Int) : Wt := if (w.any fun p => decide (p.1 = s)) = true then w.map (fun p => if p.1 = s then (p.1, n) else p) else w ++ [(s, n)]
theorem putD_eW (w : Wt) (s : Sy) (n : Int) : putD (eW w) (kS s) (.int n) = eW (putW w s n) := by
  have h1 : ((eW w).any fun kv => decide (kv.1 = kS s)) = w.any fun p => decide (p.1 = s) := by
    unfold eW
    rw [List.any_map]
    congr 1
    funext p
    simp [kS_inj]
  unfold putD putW
  rw [h1]
  split
  · unfold eW
    rw [List.map_map, List.map_map]
    refine List.map_congr_left fun p _ => ?_
    by_cases h : p.1 = s
    · simp [h]
    · have h1 : ¬ kS p.1 = kS s := fun z => h (kS_inj.mp z)
      simp [h, h1]
  · simp [eW]
theorem setD_w {r : Nat} {w : Wt} {a b c n : Int} (hr : S[r]? = some (.dT (eW w))) (hl : w.length < 1000000) : setDF (.ref r) (eS a b c) (.int n) S = some (S.set r (.dT (eW (putW w (a, b, c) n)))) := by
  have hl' : (eW w).length < 1000000 := by unfold eW; rw [List.length_map]; exact hl
  simp only [setDF, hr, keyT_eS, Option.bind_some, if_pos hl', putD_eW]
/-- what weights keep -/
structure WtOk (w : Wt) : Prop where
  nd : (w.map (·.1)).Nodup
  len : w.length ≤ 20
  pos : ∀ p ∈ w, 1 ≤ p.2
theorem WtOk.put {w : Wt} (h : WtOk w) {s : Sy} {n : Int} (hn : 1 ≤ n) (hl : w.length < 20) : WtOk (putW w s n) := by
  unfold putW
  split
  · refine ⟨?_, by rw [List.length_map]; exact h.len, fun p hp => ?_⟩
    · rw [List.map_map, List.map_congr_left (g := (·.1)) fun p _ => by
        show (if p.1 = s then (p.1, n) else p).1 = p.1
        split <;> rfl]
      exact h.nd
    · obtain ⟨q, hq, rfl⟩ := List.mem_map.mp hp
      split
      · exact hn
      · exact h.pos q hq
  · rename_i hne
    refine ⟨?_, by rw [List.length_append, List.length_singleton]; omega, fun p hp => ?_⟩
    · rw [List.map_append, List.nodup_append]
      refine ⟨h.nd, by simp, fun x hx y hy e => ?_⟩
      simp only [List.map_cons, List.map_nil, List.mem_singleton] at hy
      subst hy e
      obtain ⟨q, hq, e⟩ := List.mem_map.mp hx
      exact hne (List.any_eq_true.mpr ⟨q, hq, by simpa using e⟩)
    · rcases List.mem_append.mp hp with z | z
      · exact h.pos p z
      · rw [List.mem_singleton] at z; subst z; exact hn
theorem putW_len (w : Wt) (s : Sy) (n : Int) : (putW w s n).length ≤ w.length + 1 := by
  unfold putW
  split
  · rw [List.length_map]; omega
  · simp
theorem WtOk.of {w : Wt} (h : WtOk w) (s : Sy) : 1 ≤ wtOf w s := by
  unfold wtOf wtF
  cases e : w.find? fun p => decide (p.1 = s) with
  | none => simp
  | some p => simpa using h.pos p (List.mem_of_find?_eq_some e)
mutual
def Tm.wt (w : Wt) : Tm → Int
  | .v _ => 1
  | .ap a b c ts => wtOf w (a, b, c) + wts w ts
def wts (w : Wt) : List Tm → Int
  | [] => 0
  | t :: ts => t.wt w + wts w ts
end
theorem wts_fold (w : Wt) : ∀ (ts : List Tm) (n : Int), ts.foldl (fun s t => s + t.wt w) n = n + wts w ts
  | [], n => by simp [wts]
  | t :: ts, n => by simp only [List.foldl_cons, wts_fold w ts, wts]; omega
def eWP (p : Sy × Int) : D := .tup [eS p.1.1 p.1.2.1 p.1.2.2, .int p.2]
theorem refLtL_eWP {n : Nat} : ∀ w : Wt, refLtL n (w.map eWP) = true
  | [] => by simp [refLtL]
  | p :: w => by simp [refLtL, eWP, eS, refLt, refLtL_eWP w]
def pWP (p : Sy × Int) : PyData := .tuple [.tuple [.int p.1.1, .int p.1.2.1, .int p.1.2.2], .int p.2]
theorem snapO_ws {w : Wt} {r : Nat} (hr : S[r]? = some (.lst (w.map eWP))) : snapO S (.d (.ref r)) = some (.list (w.map pWP)) :=
  snap_lst (n := 189) hr (allS_map eWP pWP w fun p _ => rfl)
end
section
variable {prog : Nat → Option Fb} (hp : ∀ j fb, lZl0[j]? = some fb → prog (0 + j) = some fb) (hp1 : ∀ j fb, lZl1[j]? = some fb → prog (1000 + j) = some fb) (hp2 : ∀ j fb, lZl2[j]? = some fb → prog (2000 + j) = some fb) {k : Nat} {S : Sto} {w : Wt} {r : Nat}
include hp2
theorem r_symw {a b c : Int} (hr : S[r]? = some (.dT (eW w))) : run prog (k + 1) 2001 [.ref r, eS a b c] S = some (.int (wtOf w (a, b, c)), S) := by
  refine run_pure (hp2 1 _ rfl) rfl (refLt_int _) ?_
  show wp (c_symbol_weight (run prog k) [some (.ref r), some (eS a b c)] S) _
  unfold c_symbol_weight
  walk_at "go2"
  refine ⟨isDO_w hr, ?_⟩
  walk_at "go2"
  refine ⟨_, gotD_w hr, ?_⟩
  rw [getD_w]
  walk_at "go2"
include hp
theorem r_tmw (t : Tm) : ∀ {k : Nat}, t.hgt ≤ k → ∀ S, S[r]? = some (.dT (eW w)) → run prog (k + 2) 2002 [.ref r, eT t] S = some (.int (t.wt w), S) := by
  induction t using Tm.ind with
  | hv i =>
    intro k hk S hr
    refine run_pure (hp2 2 _ rfl) rfl (refLt_int _) ?_
    show wp (c_term_weight (run prog (k + 1)) [some (.ref r), some (eT (.v i)), none, none] S) _
    unfold c_term_weight
    walk_at "go2"
    refine way_t ?_
    rw [Tm.wt]
    walk_at "go2"
  | ha a b c ts ih =>
    intro k hk S hr
    rw [hgt_ap] at hk
    obtain ⟨k, rfl⟩ : ∃ k', k = k' + 1 := ⟨k - 1, by omega⟩
    refine run_pure (hp2 2 _ rfl) rfl (refLt_int _) ?_
    show wp (c_term_weight (run prog (k + 2)) [some (.ref r), some (eT (.ap a b c ts)), none, none] S) _
    unfold c_term_weight
    walk_at "go2"
    refine way_f ?_
    walk_at "go2"
    refine wp_eq (r_symw hp2 (k := k + 1) hr) ?_
    walk_at "go2"
    refine wp_fold eT ts (fun (s : Int) o => [some (.ref r), some (eT (.ap a b c ts)), some (.int s), o]) (fun _ => S) (fun s t => s + t.wt w) (wtOf w (a, b, c)) none rfl rfl rfl (fun _ => trivial) (fun s o x hx => ?_) fun o => ?_
    · walk_at "go2"
      refine wp_eq (ih x hx (k := k) (Nat.le_trans (hgts_mem hx) (by omega)) S hr) ?_
      walk_at "go2"
      exact ⟨_, .inl rfl, rfl⟩
    · rw [wts_fold, Tm.wt]
      walk_at "go2"
theorem r_lweigh (t : Tm) : ∀ {k : Nat}, t.hgt ≤ k → ∀ S, S[r]? = some (.dT (eW w)) → run prog (k + 2) 2004 [.ref r, eT t] S = some (.int (t.wt w), S) := by
  induction t using Tm.ind with
  | hv i =>
    intro k hk S hr
    refine run_pure (hp2 4 _ rfl) rfl (refLt_int _) ?_
    show wp (c__law_weigh (run prog (k + 1)) [some (.ref r), some (eT (.v i)), none, none] S) _
    unfold c__law_weigh
    walk_at "go2"
    refine way_t ?_
    rw [Tm.wt]
    walk_at "go2"
  | ha a b c ts ih =>
    intro k hk S hr
    rw [hgt_ap] at hk
    obtain ⟨k, rfl⟩ : ∃ k', k = k' + 1 := ⟨k - 1, by omega⟩
    refine run_pure (hp2 4 _ rfl) rfl (refLt_int _) ?_
    show wp (c__law_weigh (run prog (k + 2)) [some (.ref r), some (eT (.ap a b c ts)), none, none] S) _
    unfold c__law_weigh
    walk_at "go2"
    refine way_f ?_
    walk_at "go2"
    refine ⟨isDO_w hr, ?_⟩
    walk_at "go2"
    refine ⟨_, gotD_w hr, ?_⟩
    rw [getD_w]
    walk_at "go2"
    refine wp_fold eT ts (fun (s : Int) o => [some (.ref r), some (eT (.ap a b c ts)), some (.int s), o]) (fun _ => S) (fun s t => s + t.wt w) (wtOf w (a, b, c)) none rfl rfl rfl (fun _ => trivial) (fun s o x hx => ?_) fun o => ?_
    · walk_at "go2"
      refine wp_eq (ih x hx (k := k) (Nat.le_trans (hgts_mem hx) (by omega)) S hr) ?_
      walk_at "go2"
      exact ⟨_, .inl rfl, rfl⟩
    · rw [wts_fold, Tm.wt]
      walk_at "go2"
omit hp hp2
def sixW : List Sy := [(2, 0, 0), (2, 1, 0), (3, 0, 0), (2, 2, 0), (1, 0, 0), (1, 1, 0)]
def eSy (s : Sy) : D := eS s.1 s.2.1 s.2.2
include hp2
theorem r_lwts {row : Int} (hrow : 0 ≤ row) : ∃ w, WtOk w ∧ w.length ≤ 12 ∧ run prog (k + 1) 2003 [.int row] S = some (.ref S.length, S ++ [.dT (eW w)]) := by
  have hw : wp (c__law_weights (run prog k) [some (.int row), none, none, none] S) fun f S1 => ∃ w, WtOk w ∧ w.length ≤ 12 ∧ f = .rt (.ref (S.length + 1)) ∧ S1 = S ++ [.lst (sixW.map eSy), .dT (eW w)] := by
    unfold c__law_weights
    walk_at "go2"
    refine src_lstK (xs := sixW.map eSy) (old_get last_get) ?_
    have hT : (S ++ [Cell.lst (sixW.map eSy)])[S.length]? = some (.lst (sixW.map eSy)) := last_get
    have hT2 : ∀ w, S ++ [Cell.lst (sixW.map eSy)] ++ [.dT (eW w)] = S ++ [.lst (sixW.map eSy), .dT (eW w)] := fun w => by rw [List.append_assoc]; rfl
    have hT3 : (S ++ [Cell.lst (sixW.map eSy)]).length = S.length + 1 := by simp
    show wp (forL _ _ _ (sixW.map eSy) [some (.int row), some (.ref S.length), some (.ref (S ++ [Cell.lst (sixW.map eSy)]).length), none] (S ++ [Cell.lst (sixW.map eSy)] ++ [.dT (eW [])])) _
    generalize S ++ [Cell.lst (sixW.map eSy)] = T at *
    refine wp_inv eSy sixW (fun dn l S' => ∃ (w : Wt) (rw : Int) (o : Option D), 0 ≤ rw ∧ WtOk w ∧ w.length ≤ 2 * dn.length ∧ l = [some (.int rw), some (.ref S.length), some (.ref T.length), o] ∧ S' = T ++ [.dT (eW w)]) rfl ⟨[], row, _, hrow, ⟨by simp, by simp, by simp⟩, by simp, rfl, rfl⟩ ?_ ?_ ?_
    · rintro dn l S' ⟨w, rw, o, _, _, _, _, rfl⟩
      exact old_get hT
    · rintro dn ⟨a, b, c⟩ rest l S' hall ⟨w, rw, o, h1, h2, h3, rfl, rfl⟩
      have hll := congrArg List.length hall
      rw [List.length_append, List.length_cons, show sixW.length = 6 from rfl] at hll
      walk_at "go2"
      refine way_cut (fun f S' => ∃ w' : Wt, WtOk w' ∧ w'.length ≤ w.length + 1 ∧ f = .nx [some (.int rw), some (.ref S.length), some (.ref T.length), some (eSy (a, b, c))] ∧ S' = T ++ [.dT (eW w')]) (way_dec (fun _ => ?_) fun _ => ?_) ?_
      · walk_at "go2"
        refine ⟨_, setD_w last_get (by omega), ?_⟩
        rw [last_set]
        exact ⟨_, h2.put (by omega) (by omega), putW_len _ _ _, rfl, rfl⟩
      · walk_at "go2"
        exact ⟨w, h2, by omega, rfl, rfl⟩
      rintro f S' ⟨w1, g1, g2, rfl, rfl⟩
      walk_at "go2"
      refine way_cut (fun f S' => ∃ w' : Wt, WtOk w' ∧ w'.length ≤ w.length + 2 ∧ f = .nx [some (.int rw), some (.ref S.length), some (.ref T.length), some (eSy (a, b, c))] ∧ S' = T ++ [.dT (eW w')]) (way_dec (fun _ => ?_) fun _ => ?_) ?_
      · walk_at "go2"
        refine ⟨_, setD_w last_get (by omega), ?_⟩
        rw [last_set]
        exact ⟨_, g1.put (by omega) (by omega), by exact Nat.le_trans (putW_len _ _ _) (by omega), rfl, rfl⟩
      · walk_at "go2"
        exact ⟨w1, g1, by omega, rfl, rfl⟩
      rintro f S' ⟨w2, g3, g4, rfl, rfl⟩
      walk_at "go2"
      exact ⟨w2, _, _, by omega, g3, by rw [List.length_append, List.length_singleton]; omega, rfl, rfl⟩
    · rintro l S' ⟨w, rw, o, h1, h2, h3, rfl, rfl⟩
      walk_at "go2"
      exact ⟨w, h2, by rw [show sixW.length = 6 from rfl] at h3; omega, by rw [hT3], hT2 w⟩
  obtain ⟨f, S1, e, w, h1, h2, rfl, rfl⟩ := hw
  refine ⟨w, h1, h2, run_own (hp2 3 _ rfl) rfl (show cellLt S.length (.dT _) = true from ?_) ⟨_, _, e, _, _, rfl, rfl, by omega, ?_⟩⟩
  · have : ∀ w : Wt, refLtL S.length ((eW w).map (·.2)) = true := fun w => by
      induction w with
      | nil => simp [eW, refLtL]
      | cons p w ih =>
        show (refLt S.length (.int p.2) && refLtL S.length ((eW w).map (·.2))) = true
        rw [refLt_int, ih]
        rfl
    exact this w
  · exact mid_get2 (j := 0)
omit hp2
theorem wtF_mem : ∀ {w : Wt} {p : Sy × Int}, (w.map (·.1)).Nodup → p ∈ w → wtF w p.1 = some p.2
  | q :: w, p, hd, h => by
    rw [List.map_cons, List.nodup_cons] at hd
    rcases List.mem_cons.mp h with e | e
    · subst e; simp [wtF, List.find?_cons]
    · have hne : ¬q.1 = p.1 := fun z => hd.1 (by rw [z]; exact List.mem_map_of_mem e)
      have ih := wtF_mem hd.2 e
      simp only [wtF, List.find?_cons, decide_eq_false hne] at ih ⊢
      exact ih
include hp1
theorem r_lpairsT (hd : (w.map (·.1)).Nodup) (hn : w.length ≤ 1000) (hr : S[r]? = some (.dT (eW w))) : run prog (k + 1) 1007 [.ref r] S = some (.ref S.length, S ++ [.lst (w.map eWP)]) := by
  refine run_own (hp1 7 _ rfl) rfl (show cellLt S.length (.lst _) = true from refLtL_eWP _) ?_
  show wp (c__law_pairs (run prog k) [some (.ref r), none] S) _
  unfold c__law_pairs
  walk_at "go2"
  refine wp_lockA rfl hr rfl ?_
  walk_at "go2"
  refine wp_keysT ?_
  walk_at "go2"
  have hl : (S.set r (.lkT (eW w)))[r]? = some (.lkT (eW w)) := set_get hr
  refine ⟨_, _, rfl, hl, by simp [eW]; omega, ?_⟩
  refine wp_map (fun p : Sy × Int => eSy p.1) w eWP (by unfold eW; rw [List.map_map]; rfl) hl (fun p hp => ?_) ?_
  · dsimp only [wipeD]
    walk_at "go2"
    have e : gotD (S.set r (.lkT (eW w))) (.ref r) (eSy p.1) = some (some (.int p.2)) := by
      have z := wtF_mem hd hp
      simp only [gotD, dkO, dtO, hl, eSy, keyT_eS, Option.bind_some, valD_eW]
      rw [show wtF w (p.1.1, p.1.2.1, p.1.2.2) = some p.2 from z]
      rfl
    refine wf_ixX e ?_
    walk_at "go2"
  · refine ⟨_, _, hl, rfl, S.length, [.lst (w.map eWP)], ?_, ?_, Nat.le_refl _, last_get⟩
    · rw [List.set_set, set_same hr]
    · rw [List.set_set, set_same hr]
end
end Zi
set_option maxRecDepth 100000
set_option maxHeartbeats 1000000
/-! the order of terms: what is computed -/
namespace Zi
open PySem L2
local macro_rules | `(tactic| walk_at "dec") => `(tactic| first | decide | omega | assumption)
local macro_rules | `(tactic| walk_at "g1") => `(tactic| first
  | ((with_reducible apply wp_var); (focus (exact rfl)))
  | with_reducible refine wp_c ?_
  | with_reducible refine wp_op ?_
  | with_reducible refine wp_oD ?_
  | with_reducible refine wp_cons ?_
  | with_reducible refine wp_nil ?_
  | ((with_reducible refine nxt_nx ?_); (try dsimp only [List.set_cons_zero, List.set_cons_succ]))
  | with_reducible refine wp_seq ?_
  | with_reducible refine wp_set ?_
  | with_reducible refine wp_ret ?_
  | with_reducible refine nxt_rt ?_
  | with_reducible refine wp_call ?_
  | with_reducible refine wp_opO ?_
  | with_reducible refine wp_bool ?_
  | with_reducible refine isB_bl ?_
  | with_reducible refine wp_ifS ?_
  | with_reducible refine way_t ?_
  | with_reducible refine way_f ?_
  | with_reducible refine way_not ?_
  | ((with_reducible apply wf_ixT); (focus (first | exact atI_0 | exact atI_1 | exact atI_2 | exact atI_3 | exact atI_4 | exact atI_5 | exact atI_6 | exact atI_7 | exact atI_8 | exact atI_9 | assumption)))
  | with_reducible refine wp_fn1 ?_
  | with_reducible refine wf_int ?_
  | with_reducible refine wf_add ?_
  | with_reducible refine wf_sub ?_
  | ((with_reducible refine wf_mod ?_ ?_); (focus (exact modC_r (by walk_at "dec"))))
  | ((with_reducible refine wf_div ?_ ?_); (focus (exact divC_r (by walk_at "dec"))))
  | ((with_reducible refine wf_mul ?_ ?_); (focus (exact mulC_r (by walk_at "dec"))))
  | ((with_reducible refine wf_mul ?_ ?_); (focus (exact mulC_l (by walk_at "dec"))))
  | with_reducible refine wf_eqI ?_
  | with_reducible refine wf_neI ?_
  | ((with_reducible refine wf_pow ?_ ?_); (focus (decide)))
  | with_reducible refine wf_lt ?_
  | with_reducible refine wf_le ?_
  | with_reducible refine wf_gt ?_
  | with_reducible refine wf_ge ?_
  | with_reducible refine wf_eqB ?_
  | with_reducible refine wf_neB ?_
  | with_reducible refine wp_tup ?_
  | ((with_reducible refine shrt_of ?_ ?_); (focus (exact Nat.le_of_ble_eq_true (by exact rfl))))
  | with_reducible refine wp_tru ?_
  | with_reducible refine tru_bl ?_
  | with_reducible refine tru_int ?_
  | with_reducible refine tru_non ?_
  | with_reducible refine tru_tup ?_
  | ((with_reducible apply tru_lst); (focus (first | assumption | exact last_get)))
  | with_reducible refine wp_notT ?_
  | with_reducible refine wp_andT ?_
  | with_reducible refine wp_orT ?_
  | with_reducible refine wp_and ?_
  | with_reducible refine wp_or ?_
  | with_reducible refine wp_not ?_
  | with_reducible refine wp_if ?_
  | with_reducible refine wp_skip ?_
  | with_reducible refine wp_drop ?_
  | with_reducible refine wp_break ?_
  | with_reducible refine wp_cont ?_
  | with_reducible refine nxt_bk ?_
  | with_reducible refine nxt_ct ?_
  | with_reducible refine wp_alloc ?_
  | with_reducible refine wp_lst ?_
  | with_reducible refine wp_oN ?_
  | with_reducible refine wp_oS ?_
  | with_reducible refine valO_d ?_
  | with_reducible refine valO_n ?_
  | with_reducible refine wp_setL ?_
  | with_reducible refine wf_lenT ?_
  | with_reducible refine wf_lenN ?_
  | with_reducible refine wf_lenS ?_
  | ((with_reducible apply wf_lenL); (focus (first | assumption | exact last_get)))
  | with_reducible refine wf_tupcT ?_
  | with_reducible refine wf_tupcN ?_
  | ((with_reducible apply wf_tupcL); (focus (first | assumption | exact last_get)))
  | with_reducible refine wp_for ?_
  | with_reducible refine wp_src ?_
  | with_reducible refine src_tupK ?_
  | with_reducible refine src_nK ?_
  | with_reducible refine src_slK ?_
  | ((with_reducible apply src_lstK); (focus (first | assumption | exact last_get)))
  | with_reducible refine wp_asg ?_
  | with_reducible refine wl_n ?_
  | ((with_reducible refine wl_tup ?_ ?_); (focus (exact rfl)))
  | with_reducible refine wl_cons ?_
  | with_reducible refine wl_nil ?_
  | ((with_reducible apply wp_aug); (focus (exact rfl)))
  | with_reducible refine wf_iadd ?_
  | with_reducible refine wp_isN ?_
  | with_reducible refine wp_notN ?_
  | with_reducible refine wp_isI ?_
  | ((with_reducible apply isI_t); (focus (exact rfl)); (focus (decide)))
  | ((with_reducible apply isI_f); (focus (exact rfl)); (focus (decide)))
  | with_reducible refine loopK_nx ?_
  | with_reducible refine loopK_ct ?_
  | with_reducible refine loopK_bk ?_
  | with_reducible refine loopK_rt ?_
  | with_reducible refine wp_enum ?_
  | with_reducible refine wp_lisc ?_
  | with_reducible refine wp_comp ?_
  | with_reducible refine wp_neg ?_
  | with_reducible refine wp_dnewK ?_
  | with_reducible refine wp_dnewT ?_
  | with_reducible refine wp_get2 ?_
  | with_reducible refine wp_get1 ?_
  | with_reducible refine wp_setD ?_
  | with_reducible refine wp_app ?_
  | with_reducible refine wp_rev ?_
  | with_reducible refine wp_dcopy ?_
  | with_reducible exact ⟨rfl, rfl⟩)
local macro_rules | `(tactic| walk_at "g2") => `(tactic| first
  | walk_at "g1"
  | with_reducible refine wf_ixA0 ?_
  | with_reducible refine wf_ixA1 ?_
  | with_reducible refine wf_ixS0 ?_
  | with_reducible refine wf_ixS1 ?_
  | with_reducible refine wf_ixS2 ?_
  | with_reducible refine wf_ixL0 ?_
  | with_reducible refine wf_ixL1 ?_
  | with_reducible refine wf_ixL2 ?_
  | ((with_reducible refine wf_eqT ?_ ?_ ?_); (focus (walk_at "dec")); (focus (walk_at "dec")))
  | ((with_reducible refine wf_neT ?_ ?_ ?_); (focus (walk_at "dec")); (focus (walk_at "dec")))
  | ((with_reducible refine wf_eqLs ?_ ?_ ?_); (focus (assumption)); (focus (assumption)))
  | ((with_reducible refine wf_neLs ?_ ?_ ?_); (focus (assumption)); (focus (assumption)))
  | ((with_reducible refine wf_eqL ?_ ?_ ?_ ?_ ?_); (focus (walk_at "dec")); (focus (walk_at "dec")); (focus (walk_at "dec")); (focus (walk_at "dec")))
  | ((with_reducible refine wf_neL ?_ ?_ ?_ ?_ ?_); (focus (walk_at "dec")); (focus (walk_at "dec")); (focus (walk_at "dec")); (focus (walk_at "dec")))
  | with_reducible refine way_eq lseq_self ?_
  | with_reducible refine way_eq leq_self ?_
  | with_reducible refine way_eq (teq_self _) ?_
  | with_reducible refine isI_vi ?_
  | with_reducible refine isI_vb ?_
  | with_reducible refine isI_vt ?_
  | ((with_reducible refine wp_eq (r_isvar ?_ _) ?_); (focus (assumption)))
  | ((with_reducible refine wp_eq (r_lisvar ?_ _) ?_); (focus (assumption)))
  | ((with_reducible refine wp_eq (r_lint ?_ _) ?_); (focus (assumption)))
  | ((with_reducible refine wp_eq (run_cell ?_ _ _ ?_ _) ?_); (focus (exact rfl)); (focus (walk_at "dec"))))
local macro_rules | `(tactic| walk_at "go2") => `(tactic| repeat' (walk_at "g2"))
local macro_rules | `(tactic| walk_at "go") => `(tactic| repeat' (walk_at "g1"))
local macro_rules | `(tactic| walk_at "g3") => `(tactic| first
  | with_reducible refine wp_andP ?_
  | with_reducible refine wp_orP ?_
  | with_reducible refine wp_andB ?_
  | with_reducible refine wp_orB ?_
  | with_reducible refine ⟨rfl, rfl, ?_⟩
  | walk_at "g2")
local macro_rules | `(tactic| walk_at "go3") => `(tactic| repeat' (walk_at "g3"))

section
variable {l : Lo} {S : Sto} {Q : D → Sto → Prop} {QO : O → Sto → Prop} {a : M} {lo hi : MOpt} {QI : Option Int → Sto → Prop}
theorem wp_sl (h : wp (a l S) fun x S1 => wp (lo l S1) fun p S2 => wp (hi l S2) fun q S3 => ∃ o, slF x p q S3 = some o ∧ QO o S3) : wp (mSl a lo hi l S) QO := by
  obtain ⟨x, S1, e1, p, S2, e2, q, S3, e3, o, e4, z⟩ := h
  exact ⟨o, S3, by unfold mSl; simp only [e1, e2, e3, e4, Option.bind_some], z⟩
theorem wp_noI (q : QI none S) : wp (mNoI l S) QI := ⟨_, _, rfl, q⟩
theorem wp_soI (h : wp (a l S) fun x S1 => ∃ i, x = .int i ∧ QI (some i) S1) : wp (mSoI a l S) QI := by
  obtain ⟨x, S1, e1, i, rfl, q⟩ := h
  exact ⟨_, S1, by unfold mSoI; simp only [e1, Option.bind_some], q⟩
theorem cut_last {α : Type} (xs : List α) : cutD xs none (some (-1)) = xs.dropLast := by
  unfold cutD
  rw [HT.sIx_none, List.drop_zero, Nat.sub_zero]
  have e : HT.sIx xs.length xs.length (some (-1)) = xs.length - 1 := by
    show (if (-1 : Int) < 0 then (-1 + (xs.length : Int)).toNat else min (-1 : Int).toNat xs.length) = _
    rw [if_pos (by decide)]
    omega
  rw [e, List.dropLast_eq_take]
theorem atI_last {α : Type} {xs : List α} {x : α} (h : xs.getLast? = some x) : atI xs (-1) = some x := by
  have hl : 0 < xs.length := by
    cases xs with
    | nil => simp at h
    | cons a xs => simp
  unfold atI ixN
  rw [if_neg (by decide), if_pos (by omega)]
  rw [List.getLast?_eq_getElem?] at h
  rw [show ((-1 : Int) + (xs.length : Int)).toNat = xs.length - 1 by omega]
  exact h
def symLt (s t : Sy) : Bool := HT.lexLt [s.1, s.2.1, s.2.2] [t.1, t.2.1, t.2.2]
theorem wf_ltS {a b c d e f : Int} (q : Q (.bl (symLt (a, b, c) (d, e, f))) S) : wp (fLtT (eS a b c) (eS d e f) S) Q := ⟨_, _, rfl, q⟩
end
/-- no variable occurs more often in u -/
def hav (t u : Tm) : Bool := ((u.vars []).find? fun v => decide (t.occ v < u.occ v)).isNone
def lastT (ts : List Tm) : Tm := ts.getLastD (.v 0)
/-- two of equal weight -/
def gtB (R : Tm → Tm → Bool) (a b c : Int) (ts : List Tm) : Tm → Bool
  | .v _ => false
  | .ap d e f us => if ts.isEmpty = true then us.isEmpty && symLt (d, e, f) (a, b, c) else if us.isEmpty = true then true else
      if teq (.ap a b c ts.dropLast) (.ap d e f us.dropLast) = true then R (lastT ts) (lastT us) else R (.ap a b c ts.dropLast) (.ap d e f us.dropLast)
def gtF (w : Wt) : Nat → Tm → Tm → Bool
  | 0, _, _ => false
  | _ + 1, .v _, _ => false
  | n + 1, .ap a b c ts, u => hav (.ap a b c ts) u && if (Tm.ap a b c ts).wt w = u.wt w then gtB (gtF w n) a b c ts u else decide (u.wt w < (Tm.ap a b c ts).wt w)
mutual
def Tm.rk : Tm → Nat
  | .v _ => 0
  | .ap _ _ _ ts => ts.length + rks ts + 1
def rks : List Tm → Nat
  | [] => 0
  | t :: ts => max t.rk (rks ts)
end
theorem rks_mem : ∀ {ts : List Tm} {t : Tm}, t ∈ ts → t.rk ≤ rks ts
  | t' :: ts, t, h => by
    rcases List.mem_cons.mp h with e | e
    · subst e; simp only [rks]; omega
    · have := rks_mem e
      simp only [rks]; omega
theorem rks_le : ∀ {ts : List Tm} {n : Nat}, (∀ t ∈ ts, t.rk ≤ n) → rks ts ≤ n
  | [], _, _ => by simp [rks]
  | t :: ts, n, h => by
    have h1 := h t (by simp)
    have h2 := rks_le (n := n) fun x hx => h x (List.mem_cons_of_mem _ hx)
    simp only [rks]; omega
theorem lastT_mem {ts : List Tm} (h : ts.isEmpty = false) : lastT ts ∈ ts ∧ ts.getLast? = some (lastT ts) ∧ ts = ts.dropLast ++ [lastT ts] := by
  cases ts with
  | nil => cases h
  | cons t ts =>
    have e : lastT (t :: ts) = (t :: ts).getLast (by simp) := by
      unfold lastT
      rw [List.getLastD_eq_getLast?, List.getLast?_eq_some_getLast (by simp)]
      rfl
    exact ⟨by rw [e]; exact List.getLast_mem _, by rw [e]; exact List.getLast?_eq_some_getLast _, by rw [e]; exact (List.dropLast_concat_getLast _).symm⟩
theorem rk_head {a b c : Int} {ts : List Tm} (h : ts.isEmpty = false) : (Tm.ap a b c ts.dropLast).rk < (Tm.ap a b c ts).rk := by
  have h1 : rks ts.dropLast ≤ rks ts := rks_le fun t ht => rks_mem (List.dropLast_subset _ ht)
  have h2 : ts.dropLast.length + 1 = ts.length := by
    rw [List.length_dropLast]
    cases ts with
    | nil => cases h
    | cons t ts => simp
  simp only [Tm.rk]; omega
theorem rk_last {a b c : Int} {ts : List Tm} (h : ts.isEmpty = false) : (lastT ts).rk < (Tm.ap a b c ts).rk := by
  have h1 := rks_mem (lastT_mem h).1
  simp only [Tm.rk]; omega
theorem gtB_congr {R R' : Tm → Tm → Bool} {a b c : Int} {ts : List Tm} {u : Tm} (h : ts.isEmpty = false → (∀ u, R (.ap a b c ts.dropLast) u = R' (.ap a b c ts.dropLast) u) ∧ ∀ u, R (lastT ts) u = R' (lastT ts) u) : gtB R a b c ts u = gtB R' a b c ts u := by
  cases u with
  | v i => rfl
  | ap d e f us =>
    unfold gtB
    dsimp only
    by_cases h1 : ts.isEmpty = true
    · rw [if_pos h1, if_pos h1]
    · rw [if_neg h1, if_neg h1]
      obtain ⟨g1, g2⟩ := h (by simpa using h1)
      rw [g1, g2]
theorem gtF_stable (w : Wt) : ∀ (n : Nat) (t u : Tm), t.rk < n → gtF w (n + 1) t u = gtF w n t u := by
  intro n
  induction n with
  | zero => intro t u h; omega
  | succ n ih =>
    intro t u h
    cases t with
    | v i => rfl
    | ap a b c ts =>
      show (hav (.ap a b c ts) u && if (Tm.ap a b c ts).wt w = u.wt w then gtB (gtF w (n + 1)) a b c ts u else _) = (hav (.ap a b c ts) u && if (Tm.ap a b c ts).wt w = u.wt w then gtB (gtF w n) a b c ts u else _)
      rw [gtB_congr fun h1 => by
        have z1 := rk_head (a := a) (b := b) (c := c) h1
        have z2 := rk_last (a := a) (b := b) (c := c) h1
        exact ⟨fun u => ih _ u (by omega), fun u => ih _ u (by omega)⟩]
def gt (w : Wt) (t u : Tm) : Bool := gtF w (t.rk + 1) t u
theorem gtF_eq (w : Wt) {n : Nat} {t u : Tm} (h : t.rk < n) : gtF w n t u = gt w t u := by
  induction h with
  | refl => rfl
  | @step m h ih =>
    rw [← ih]
    exact gtF_stable w m t u h
theorem gt_v (w : Wt) (i : Int) (u : Tm) : gt w (.v i) u = false := rfl
theorem gt_ap (w : Wt) (a b c : Int) (ts : List Tm) (u : Tm) : gt w (.ap a b c ts) u = (hav (.ap a b c ts) u && if (Tm.ap a b c ts).wt w = u.wt w then gtB (gt w) a b c ts u else decide (u.wt w < (Tm.ap a b c ts).wt w)) := by
  show (hav (.ap a b c ts) u && if (Tm.ap a b c ts).wt w = u.wt w then gtB (gtF w (Tm.ap a b c ts).rk) a b c ts u else decide (u.wt w < (Tm.ap a b c ts).wt w)) = _
  rw [gtB_congr fun h1 => ⟨fun u => gtF_eq w (rk_head h1), fun u => gtF_eq w (rk_last h1)⟩]
theorem hgt_head {a b c : Int} (ts : List Tm) : (Tm.ap a b c ts.dropLast).hgt ≤ (Tm.ap a b c ts).hgt := by
  rw [hgt_ap, hgt_ap]
  have := hgts_le (ts := ts.dropLast) (n := hgts ts) fun t ht => hgts_mem (List.dropLast_subset _ ht)
  omega
theorem hgt_last {a b c : Int} {ts : List Tm} (h : ts.isEmpty = false) : (lastT ts).hgt ≤ (Tm.ap a b c ts).hgt := by
  rw [hgt_ap]
  have := hgts_mem (lastT_mem h).1
  omega
theorem size_dl : ∀ ts : List Tm, sizes ts.dropLast ≤ sizes ts
  | [] => by simp
  | [t] => by
    have := size_pos t
    simp only [List.dropLast_singleton, sizes]; omega
  | t :: u :: ts => by
    have := size_dl (u :: ts)
    simp only [List.dropLast_cons₂, sizes] at this ⊢; omega
theorem size_mem : ∀ {ts : List Tm} {t : Tm}, t ∈ ts → t.size ≤ sizes ts
  | t' :: ts, t, h => by
    have h1 := size_pos t'
    have h2 := sizes_nn ts
    rcases List.mem_cons.mp h with e | e
    · subst e; simp only [sizes]; omega
    · have := size_mem e
      simp only [sizes]; omega
/-- terms of modest size -/
structure TmW (H : Nat) (t : Tm) : Prop where
  hgt : t.hgt ≤ H
  size : t.size ≤ 100000
theorem TmW.head {H : Nat} {a b c : Int} {ts : List Tm} (h : TmW H (.ap a b c ts)) : TmW H (.ap a b c ts.dropLast) := ⟨Nat.le_trans (hgt_head ts) h.hgt, by
  have h1 := h.size
  have h2 := size_dl ts
  simp only [Tm.size] at h1 ⊢; omega⟩
theorem TmW.last {H : Nat} {a b c : Int} {ts : List Tm} (h : TmW H (.ap a b c ts)) (hn : ts.isEmpty = false) : TmW H (lastT ts) := ⟨Nat.le_trans (hgt_last hn) h.hgt, by
  have h1 := h.size
  have h2 := size_mem (lastT_mem hn).1
  simp only [Tm.size] at h1; omega⟩
section
variable {prog : Nat → Option Fb} (hp : ∀ j fb, lZl0[j]? = some fb → prog (0 + j) = some fb) (hp2 : ∀ j fb, lZl2[j]? = some fb → prog (2000 + j) = some fb) {k : Nat} {S : Sto} {w : Wt} {r : Nat}
include hp
theorem r_cb {a b c d e f : Int} : run prog (k + 1) 1 [eS a b c, eS d e f] S = some (.bl (symLt (a, b, c) (d, e, f)), S) := by
  refine run_pure (hp 1 _ rfl) rfl (refLt_bl _) ?_
  show wp (c_comes_before (run prog k) [some (eS a b c), some (eS d e f)] S) _
  unfold c_comes_before
  walk_at "go2"
  refine wf_ltS ?_
  walk_at "go2"
include hp2
omit hp in
theorem r_head {a b c : Int} {ts : List Tm} : run prog (k + 1) 2005 [eT (.ap a b c ts)] S = some (eT (.ap a b c ts.dropLast), S) := by
  refine run_pure (hp2 5 _ rfl) rfl (refLt_eT _) ?_
  show wp (c_head (run prog k) [some (eT (.ap a b c ts))] S) _
  unfold c_head
  walk_at "go2"
  refine wp_sl ?_
  walk_at "go2"
  refine wp_noI (wp_soI ?_)
  walk_at "go2"
  refine ⟨1, rfl, ?_⟩
  refine ⟨-1, rfl, _, rfl, ?_⟩
  walk_at "go2"
  rw [cut_last, ← List.map_dropLast, eT_ap]
  exact ⟨rfl, rfl⟩
theorem r_hav {t u : Tm} (ht : t.hgt ≤ k) (hu : u.hgt ≤ k) (hs : u.size ≤ 100000) : run prog (k + 4) 2006 [eT t, eT u] S = some (.bl (hav t u), S) := by
  refine run_rub (hp2 6 _ rfl) rfl (refLt_bl _) ?_
  show wp (c_has_all_variables (run prog (k + 3)) [some (eT t), some (eT u), none] S) _
  unfold c_has_all_variables
  walk_at "go2"
  refine wp_eq (r_variables hp (k := k) hu (by omega) S) ?_
  walk_at "go2"
  refine wp_find D.int (u.vars []) (fun o => [some (eT t), some (eT u), o]) (fun v => decide (t.occ v < u.occ v)) (fun _ => .bl false) none rfl rfl last_get (fun o x hx => ?_) ?_
  · walk_at "go2"
    refine wp_eq (r_occ hp x u (k := k + 1) (by omega) _) ?_
    walk_at "go2"
    refine wp_eq (r_occ hp x t (k := k + 1) (by omega) _) ?_
    walk_at "go2"
    refine way_dec (fun h => ?_) fun h => ?_
    · walk_at "go2"
      exact ⟨rfl, by rw [if_pos (decide_eq_true h)]⟩
    · walk_at "go2"
      refine ⟨rfl, ?_⟩
      rw [if_neg (by simpa using h)]
      exact ⟨_, .inl rfl⟩
  · unfold hav
    cases (u.vars []).find? fun v => decide (t.occ v < u.occ v) with
    | some x =>
      walk_at "go2"
      exact ⟨rfl, _, rfl⟩
    | none =>
      intro o
      walk_at "go2"
      exact ⟨rfl, _, rfl⟩
theorem r_gt2 {R : Tm → Tm → Bool} {K : Nat} {a b c d e f : Int} {ts us : List Tm} {H : Nat} (hH : H ≤ 90) (ht : TmW H (.ap a b c ts)) (hu : TmW H (.ap d e f us)) (hr : S[r]? = some (.dT (eW w))) (hK : 5 ≤ K)
    (ih : ts.isEmpty = false → us.isEmpty = false → run prog K 2007 [.ref r, eT (.ap a b c ts.dropLast), eT (.ap d e f us.dropLast)] S = some (.bl (R (.ap a b c ts.dropLast) (.ap d e f us.dropLast)), S) ∧ run prog K 2007 [.ref r, eT (lastT ts), eT (lastT us)] S = some (.bl (R (lastT ts) (lastT us)), S)) :
    run prog (K + 1) 2008 [.ref r, eT (.ap a b c ts), eT (.ap d e f us)] S = some (.bl (gtB R a b c ts (.ap d e f us)), S) := by
  obtain ⟨K, rfl⟩ : ∃ m, K = m + 1 := ⟨K - 1, by omega⟩
  refine run_pure (hp2 8 _ rfl) rfl (refLt_bl _) ?_
  show wp (c_greater_of_equal_weight (run prog (K + 1)) [some (.ref r), some (eT (.ap a b c ts)), some (eT (.ap d e f us)), none, none] S) _
  unfold c_greater_of_equal_weight
  walk_at "go2"
  cases h1 : ts.isEmpty with
  | true =>
    rw [show (ts.map eT).isEmpty = true by rw [List.isEmpty_map]; exact h1]
    walk_at "go2"
    cases h2 : us.isEmpty with
    | true =>
      rw [show (us.map eT).isEmpty = true by rw [List.isEmpty_map]; exact h2]
      walk_at "go2"
      refine wp_eq (r_cb hp) ?_
      simp only [gtB, h1, h2, if_true, Bool.true_and]
      walk_at "go2"
    | false =>
      rw [show (us.map eT).isEmpty = false by rw [List.isEmpty_map]; exact h2]
      walk_at "go2"
      simp [gtB, h1, h2]
  | false =>
    rw [show (ts.map eT).isEmpty = false by rw [List.isEmpty_map]; exact h1]
    walk_at "go2"
    cases h2 : us.isEmpty with
    | true =>
      rw [show (us.map eT).isEmpty = true by rw [List.isEmpty_map]; exact h2]
      walk_at "go2"
      simp [gtB, h1, h2]
    | false =>
      rw [show (us.map eT).isEmpty = false by rw [List.isEmpty_map]; exact h2]
      obtain ⟨i1, i2⟩ := ih h1 h2
      have hh1 := ht.head.hgt
      have hh2 := hu.head.hgt
      walk_at "go2"
      refine wp_eq (r_head hp2) ?_
      walk_at "go2"
      refine wp_eq (r_head hp2) ?_
      walk_at "go2"
      simp only [gtB, h1, h2, Bool.false_eq_true, if_false]
      cases h3 : teq (.ap a b c ts.dropLast) (.ap d e f us.dropLast) with
      | true =>
        walk_at "go2"
        rw [if_pos rfl]
        refine ⟨1, rfl, ?_⟩
        refine wf_ixT (d := eT (lastT ts)) (atI_last (by rw [List.getLast?_map, (lastT_mem h1).2.1]; rfl)) ?_
        walk_at "go2"
        refine ⟨1, rfl, ?_⟩
        refine wf_ixT (d := eT (lastT us)) (atI_last (by rw [List.getLast?_map, (lastT_mem h2).2.1]; rfl)) ?_
        walk_at "go2"
        refine wp_eq i2 ?_
        walk_at "go2"
      | false =>
        walk_at "go2"
        rw [if_neg (by simp)]
        refine wp_eq i1 ?_
        walk_at "go2"
theorem r_gtv {i : Int} {u : Tm} : run prog (k + 2) 2007 [.ref r, .int i, eT u] S = some (.bl false, S) := by
  refine run_pure (hp2 7 _ rfl) rfl (refLt_bl _) ?_
  show wp (c_greater (run prog (k + 1)) [some (.ref r), some (.int i), some (eT u), none, none] S) _
  unfold c_greater
  walk_at "go2"
  refine wp_eq (r_isvar hp (k := k) (.v i)) ?_
  simp only [Tm.isV]
  walk_at "go2"
theorem r_gt1 {R : Tm → Tm → Bool} {H : Nat} {a b c : Int} {ts : List Tm} {u : Tm} (hk : H ≤ k) (hH : H ≤ 90) (ht : TmW H (.ap a b c ts)) (hu : TmW H u) (hr : S[r]? = some (.dT (eW w)))
    (h8 : u.isV = false → run prog (k + 4) 2008 [.ref r, eT (.ap a b c ts), eT u] S = some (.bl (gtB R a b c ts u), S)) :
    run prog (k + 5) 2007 [.ref r, eT (.ap a b c ts), eT u] S = some (.bl (hav (.ap a b c ts) u && if (Tm.ap a b c ts).wt w = u.wt w then gtB R a b c ts u else decide (u.wt w < (Tm.ap a b c ts).wt w)), S) := by
  refine run_pure (hp2 7 _ rfl) rfl (refLt_bl _) ?_
  show wp (c_greater (run prog (k + 4)) [some (.ref r), some (eT (.ap a b c ts)), some (eT u), none, none] S) _
  unfold c_greater
  walk_at "go2"
  refine way_f ?_
  walk_at "go2"
  refine wp_eq (r_hav hp hp2 (k := k) (Nat.le_trans ht.hgt hk) (Nat.le_trans hu.hgt hk) hu.size) ?_
  walk_at "go2"
  cases hav (.ap a b c ts) u with
  | false => walk_at "go2"
  | true =>
    walk_at "go2"
    refine wp_eq (r_tmw hp hp2 _ (k := k + 2) (by have := ht.hgt; omega) S hr) ?_
    walk_at "go2"
    refine wp_eq (r_tmw hp hp2 _ (k := k + 2) (by have := hu.hgt; omega) S hr) ?_
    walk_at "go2"
    rw [Bool.true_and]
    refine way_dec (fun e => ?_) fun e => ?_
    · rw [if_pos e]
      walk_at "go2"
      cases u with
      | v i =>
        refine way_t ?_
        walk_at "go2"
      | ap d e f us =>
        refine way_f ?_
        walk_at "go2"
        refine wp_eq (h8 rfl) ?_
        walk_at "go2"
    · rw [if_neg e]
      walk_at "go2"
theorem r_gt {H : Nat} (hk : H ≤ k) (hH : H ≤ 90) (n : Nat) : ∀ {t u : Tm}, t.rk ≤ n → TmW H t → TmW H u → ∀ S, S[r]? = some (.dT (eW w)) → run prog (2 * n + k + 10) 2007 [.ref r, eT t, eT u] S = some (.bl (gt w t u), S) := by
  induction n with
  | zero =>
    intro t u hn ht hu S hr
    cases t with
    | v i =>
      rw [eT_v]
      exact r_gtv hp hp2 (k := 2 * 0 + k + 8)
    | ap a b c ts => simp only [Tm.rk] at hn; omega
  | succ n ih =>
    intro t u hn ht hu S hr
    rw [show 2 * (n + 1) + k + 10 = (2 * n + k + 7) + 5 by omega]
    cases t with
    | v i =>
      rw [eT_v]
      exact r_gtv hp hp2 (k := 2 * n + k + 7 + 3)
    | ap a b c ts =>
      rw [gt_ap]
      refine r_gt1 hp hp2 (H := H) (by omega) hH ht hu hr fun hv => ?_
      cases u with
      | v i => cases hv
      | ap d e f us =>
        refine r_gt2 hp hp2 (K := 2 * n + k + 10) hH ht hu hr (by omega) fun h1 h2 => ?_
        have z1 := rk_head (a := a) (b := b) (c := c) h1
        have z2 := rk_last (a := a) (b := b) (c := c) h1
        exact ⟨ih (by omega) ht.head hu.head S hr, ih (by omega) (ht.last h1) (hu.last h2) S hr⟩
theorem r_lgtv {i : Int} {u : Tm} : run prog (k + 2) 2010 [.ref r, .int i, eT u] S = some (.bl false, S) := by
  refine run_pure (hp2 10 _ rfl) rfl (refLt_bl _) ?_
  show wp (c__law_greater (run prog (k + 1)) [some (.ref r), some (.int i), some (eT u), none, none, none, none, none] S) _
  unfold c__law_greater
  walk_at "go2"
  refine wp_eq (r_lisvar hp (k := k) (.v i)) ?_
  simp only [Tm.isV]
  walk_at "go2"
theorem r_lgt1 {R : Tm → Tm → Bool} {H : Nat} {a b c : Int} {ts : List Tm} {u : Tm} (hk : H ≤ k) (hH : H ≤ 90) (ht : TmW H (.ap a b c ts)) (hu : TmW H u) (hr : S[r]? = some (.dT (eW w)))
    (ih : ∀ d e f us, u = .ap d e f us → ts.isEmpty = false → us.isEmpty = false → ∀ S, S[r]? = some (.dT (eW w)) → run prog (k + 4) 2010 [.ref r, eT (.ap a b c ts.dropLast), eT (.ap d e f us.dropLast)] S = some (.bl (R (.ap a b c ts.dropLast) (.ap d e f us.dropLast)), S) ∧ run prog (k + 4) 2010 [.ref r, eT (lastT ts), eT (lastT us)] S = some (.bl (R (lastT ts) (lastT us)), S)) :
    run prog (k + 5) 2010 [.ref r, eT (.ap a b c ts), eT u] S = some (.bl (hav (.ap a b c ts) u && if (Tm.ap a b c ts).wt w = u.wt w then gtB R a b c ts u else decide (u.wt w < (Tm.ap a b c ts).wt w)), S) := by
  refine run_rub (hp2 10 _ rfl) rfl (refLt_bl _) ?_
  show wp (c__law_greater (run prog (k + 4)) [some (.ref r), some (eT (.ap a b c ts)), some (eT u), none, none, none, none, none] S) _
  have hlu := hu.hgt
  have hlt := ht.hgt
  have hsu := hu.size
  unfold c__law_greater
  walk_at "go2"
  refine way_f ?_
  walk_at "go2"
  obtain ⟨r1, T1, e1, g1⟩ := r_lvars hp u (k := k + 2) (by omega) (S ++ [.lst []]) S.length [] last_get (by simp; omega)
  refine wp_eq e1 ?_
  walk_at "go2"
  have hrA : (S ++ [.lst []] ++ T1)[r]? = some (.dT (eW w)) := old_get (old_get hr)
  have hA : ∃ T, S ++ [.lst []] ++ T1 = S ++ T := ⟨_, List.append_assoc _ _ _⟩
  generalize S ++ [.lst []] ++ T1 = A at *
  refine wp_find D.int (u.vars []) (fun o => [some (.ref r), some (eT (.ap a b c ts)), some (eT u), o, none, none, none, none]) (fun v => decide ((Tm.ap a b c ts).occ v < u.occ v)) (fun _ => .bl false) none rfl rfl g1 (fun o x hx => ?_) ?_
  · walk_at "go2"
    refine wp_eq (r_lcount hp x u (k := k + 2) (by omega) _) ?_
    walk_at "go2"
    refine wp_eq (r_lcount hp x (.ap a b c ts) (k := k + 2) (by omega) _) ?_
    walk_at "go2"
    refine way_dec (fun h => ?_) fun h => ?_
    · walk_at "go2"
      exact ⟨rfl, by rw [if_pos (decide_eq_true h)]⟩
    · walk_at "go2"
      refine ⟨rfl, ?_⟩
      rw [if_neg (by simpa using h)]
      exact ⟨_, .inl rfl⟩
  · unfold hav
    cases (u.vars []).find? fun v => decide ((Tm.ap a b c ts).occ v < u.occ v) with
    | some x =>
      walk_at "go2"
      exact ⟨rfl, hA⟩
    | none =>
      intro o
      walk_at "go2"
      refine wp_eq (r_lweigh hp hp2 _ (k := k + 2) (by omega) _ hrA) ?_
      walk_at "go2"
      refine wp_eq (r_lweigh hp hp2 _ (k := k + 2) (by omega) _ hrA) ?_
      walk_at "go2"
      rw [show (none : Option Int).isNone = true from rfl, Bool.true_and]
      refine way_dec (fun e => ?_) fun e => ?_
      · rw [if_pos e]
        walk_at "go2"
        cases u with
        | v i =>
          refine way_t ?_
          walk_at "go2"
          refine ⟨?_, hA⟩
          rw [e]
          simp [gtB]
        | ap d e' f us =>
          refine way_f ?_
          walk_at "go2"
          cases h1 : ts.isEmpty with
          | true =>
            rw [show (ts.map eT).isEmpty = true by rw [List.isEmpty_map]; exact h1]
            walk_at "go2"
            rw [show (ts.map eT).isEmpty = true by rw [List.isEmpty_map]; exact h1]
            walk_at "go2"
            cases h2 : us.isEmpty with
            | true =>
              rw [show (us.map eT).isEmpty = true by rw [List.isEmpty_map]; exact h2]
              walk_at "go2"
              refine wf_ltS ?_
              walk_at "go2"
              exact ⟨by simp [gtB, h1, h2], hA⟩
            | false =>
              rw [show (us.map eT).isEmpty = false by rw [List.isEmpty_map]; exact h2]
              walk_at "go2"
              exact ⟨by simp [gtB, h1, h2], hA⟩
          | false =>
            rw [show (ts.map eT).isEmpty = false by rw [List.isEmpty_map]; exact h1]
            walk_at "go2"
            cases h2 : us.isEmpty with
            | true =>
              rw [show (us.map eT).isEmpty = true by rw [List.isEmpty_map]; exact h2]
              walk_at "go2"
              rw [show (ts.map eT).isEmpty = false by rw [List.isEmpty_map]; exact h1]
              walk_at "go2"
              exact ⟨by simp [gtB, h1, h2], hA⟩
            | false =>
              rw [show (us.map eT).isEmpty = false by rw [List.isEmpty_map]; exact h2]
              obtain ⟨i1, i2⟩ := ih d e' f us rfl h1 h2 A hrA
              have hh1 := ht.head.hgt
              have hh2 := hu.head.hgt
              walk_at "go2"
              refine wp_sl ?_
              walk_at "go2"
              refine wp_noI (wp_soI ?_)
              walk_at "go2"
              refine ⟨1, rfl, -1, rfl, _, rfl, ?_⟩
              walk_at "go2"
              refine wp_sl ?_
              walk_at "go2"
              refine wp_noI (wp_soI ?_)
              walk_at "go2"
              refine ⟨1, rfl, -1, rfl, _, rfl, ?_⟩
              walk_at "go2"
              rw [cut_last, cut_last, ← List.map_dropLast, ← List.map_dropLast, ← eT_ap, ← eT_ap]
              walk_at "go2"
              cases h3 : teq (.ap a b c ts.dropLast) (.ap d e' f us.dropLast) with
              | true =>
                walk_at "go2"
                refine ⟨1, rfl, ?_⟩
                refine wf_ixT (d := eT (lastT ts)) (atI_last (by rw [List.getLast?_map, (lastT_mem h1).2.1]; rfl)) ?_
                walk_at "go2"
                refine ⟨1, rfl, ?_⟩
                refine wf_ixT (d := eT (lastT us)) (atI_last (by rw [List.getLast?_map, (lastT_mem h2).2.1]; rfl)) ?_
                walk_at "go2"
                refine wp_eq i2 ?_
                walk_at "go2"
                exact ⟨by simp [gtB, h1, h2, h3], hA⟩
              | false =>
                walk_at "go2"
                refine wp_eq i1 ?_
                walk_at "go2"
                exact ⟨by simp [gtB, h1, h2, h3], hA⟩
      · rw [if_neg e]
        walk_at "go2"
        exact ⟨rfl, hA⟩
theorem r_lgt {H : Nat} (hk : H ≤ k) (hH : H ≤ 90) (n : Nat) : ∀ {t u : Tm}, t.rk ≤ n → TmW H t → TmW H u → ∀ S, S[r]? = some (.dT (eW w)) → run prog (n + k + 10) 2010 [.ref r, eT t, eT u] S = some (.bl (gt w t u), S) := by
  induction n with
  | zero =>
    intro t u hn ht hu S hr
    cases t with
    | v i =>
      rw [eT_v]
      exact r_lgtv hp hp2 (k := 0 + k + 8)
    | ap a b c ts => simp only [Tm.rk] at hn; omega
  | succ n ih =>
    intro t u hn ht hu S hr
    rw [show n + 1 + k + 10 = (n + k + 6) + 5 by omega]
    cases t with
    | v i =>
      rw [eT_v]
      exact r_lgtv hp hp2 (k := n + k + 6 + 3)
    | ap a b c ts =>
      rw [gt_ap]
      refine r_lgt1 hp hp2 (H := H) (by omega) hH ht hu hr fun d e f us hv h1 h2 S hr => ?_
      subst hv
      have z1 := rk_head (a := a) (b := b) (c := c) h1
      have z2 := rk_last (a := a) (b := b) (c := c) h1
      exact ⟨ih (by omega) ht.head hu.head S hr, ih (by omega) (ht.last h1) (hu.last h2) S hr⟩
def cmp (w : Wt) (t u : Tm) : D := if teq t u = true then .str (Str.ofString "same") else if gt w t u = true then .str (Str.ofString "greater") else if gt w u t = true then .str (Str.ofString "less") else .non
theorem r_cmp {H : Nat} (hk : H ≤ k) (hH : H ≤ 90) {n : Nat} {t u : Tm} (h1 : t.rk ≤ n) (h2 : u.rk ≤ n) (ht : TmW H t) (hu : TmW H u) (hr : S[r]? = some (.dT (eW w))) : run prog (2 * n + k + 11) 2009 [.ref r, eT t, eT u] S = some (cmp w t u, S) := by
  have hlu := hu.hgt
  have hlt := ht.hgt
  refine run_pure (hp2 9 _ rfl) rfl (by unfold cmp; split; exact refLt_str _; split; exact refLt_str _; split; exact refLt_str _; exact refLt_non) ?_
  show wp (c_compare (run prog (2 * n + k + 10)) [some (.ref r), some (eT t), some (eT u)] S) _
  unfold c_compare cmp
  walk_at "go2"
  cases teq t u with
  | true => walk_at "go2"
  | false =>
    walk_at "go2"
    refine wp_eq (r_gt hp hp2 hk hH n h1 ht hu S hr) ?_
    walk_at "go2"
    cases gt w t u with
    | true => walk_at "go2"
    | false =>
      walk_at "go2"
      refine wp_eq (r_gt hp hp2 hk hH n h2 hu ht S hr) ?_
      walk_at "go2"
      cases gt w u t with
      | true => walk_at "go2"
      | false => walk_at "go2"
end
end Zi
set_option maxRecDepth 100000
set_option maxHeartbeats 1000000
/-! the laws' second terms -/
namespace Zi
open PySem L2
local macro_rules | `(tactic| walk_at "dec") => `(tactic| first | decide | omega | assumption)
local macro_rules | `(tactic| walk_at "g1") => `(tactic| first
  | ((with_reducible apply wp_var); (focus (exact rfl)))
  | with_reducible refine wp_c ?_
  | with_reducible refine wp_op ?_
  | with_reducible refine wp_oD ?_
  | with_reducible refine wp_cons ?_
  | with_reducible refine wp_nil ?_
  | ((with_reducible refine nxt_nx ?_); (try dsimp only [List.set_cons_zero, List.set_cons_succ]))
  | with_reducible refine wp_seq ?_
  | with_reducible refine wp_set ?_
  | with_reducible refine wp_ret ?_
  | with_reducible refine nxt_rt ?_
  | with_reducible refine wp_call ?_
  | with_reducible refine wp_opO ?_
  | with_reducible refine wp_bool ?_
  | with_reducible refine isB_bl ?_
  | with_reducible refine wp_ifS ?_
  | with_reducible refine way_t ?_
  | with_reducible refine way_f ?_
  | with_reducible refine way_not ?_
  | ((with_reducible apply wf_ixT); (focus (first | exact atI_0 | exact atI_1 | exact atI_2 | exact atI_3 | exact atI_4 | exact atI_5 | exact atI_6 | exact atI_7 | exact atI_8 | exact atI_9 | assumption)))
  | with_reducible refine wp_fn1 ?_
  | with_reducible refine wf_int ?_
  | with_reducible refine wf_add ?_
  | with_reducible refine wf_sub ?_
  | ((with_reducible refine wf_mod ?_ ?_); (focus (exact modC_r (by walk_at "dec"))))
  | ((with_reducible refine wf_div ?_ ?_); (focus (exact divC_r (by walk_at "dec"))))
  | ((with_reducible refine wf_mul ?_ ?_); (focus (exact mulC_r (by walk_at "dec"))))
  | ((with_reducible refine wf_mul ?_ ?_); (focus (exact mulC_l (by walk_at "dec"))))
  | with_reducible refine wf_eqI ?_
  | with_reducible refine wf_neI ?_
  | ((with_reducible refine wf_pow ?_ ?_); (focus (decide)))
  | with_reducible refine wf_lt ?_
  | with_reducible refine wf_le ?_
  | with_reducible refine wf_gt ?_
  | with_reducible refine wf_ge ?_
  | with_reducible refine wf_eqB ?_
  | with_reducible refine wf_neB ?_
  | with_reducible refine wp_tup ?_
  | ((with_reducible refine shrt_of ?_ ?_); (focus (exact Nat.le_of_ble_eq_true (by exact rfl))))
  | with_reducible refine wp_tru ?_
  | with_reducible refine tru_bl ?_
  | with_reducible refine tru_int ?_
  | with_reducible refine tru_non ?_
  | with_reducible refine tru_tup ?_
  | ((with_reducible apply tru_lst); (focus (first | assumption | exact last_get)))
  | with_reducible refine wp_notT ?_
  | with_reducible refine wp_andT ?_
  | with_reducible refine wp_orT ?_
  | with_reducible refine wp_and ?_
  | with_reducible refine wp_or ?_
  | with_reducible refine wp_not ?_
  | with_reducible refine wp_if ?_
  | with_reducible refine wp_skip ?_
  | with_reducible refine wp_drop ?_
  | with_reducible refine wp_break ?_
  | with_reducible refine wp_cont ?_
  | with_reducible refine nxt_bk ?_
  | with_reducible refine nxt_ct ?_
  | with_reducible refine wp_alloc ?_
  | with_reducible refine wp_lst ?_
  | with_reducible refine wp_oN ?_
  | with_reducible refine wp_oS ?_
  | with_reducible refine valO_d ?_
  | with_reducible refine valO_n ?_
  | with_reducible refine wp_setL ?_
  | with_reducible refine wf_lenT ?_
  | with_reducible refine wf_lenN ?_
  | with_reducible refine wf_lenS ?_
  | ((with_reducible apply wf_lenL); (focus (first | assumption | exact last_get)))
  | with_reducible refine wf_tupcT ?_
  | with_reducible refine wf_tupcN ?_
  | ((with_reducible apply wf_tupcL); (focus (first | assumption | exact last_get)))
  | with_reducible refine wp_for ?_
  | with_reducible refine wp_src ?_
  | with_reducible refine src_tupK ?_
  | with_reducible refine src_nK ?_
  | with_reducible refine src_slK ?_
  | ((with_reducible apply src_lstK); (focus (first | assumption | exact last_get)))
  | with_reducible refine wp_asg ?_
  | with_reducible refine wl_n ?_
  | ((with_reducible refine wl_tup ?_ ?_); (focus (exact rfl)))
  | with_reducible refine wl_cons ?_
  | with_reducible refine wl_nil ?_
  | ((with_reducible apply wp_aug); (focus (exact rfl)))
  | with_reducible refine wf_iadd ?_
  | with_reducible refine wp_isN ?_
  | with_reducible refine wp_notN ?_
  | with_reducible refine wp_isI ?_
  | ((with_reducible apply isI_t); (focus (exact rfl)); (focus (decide)))
  | ((with_reducible apply isI_f); (focus (exact rfl)); (focus (decide)))
  | with_reducible refine loopK_nx ?_
  | with_reducible refine loopK_ct ?_
  | with_reducible refine loopK_bk ?_
  | with_reducible refine loopK_rt ?_
  | with_reducible refine wp_enum ?_
  | with_reducible refine wp_lisc ?_
  | with_reducible refine wp_comp ?_
  | with_reducible refine wp_neg ?_
  | with_reducible refine wp_dnewK ?_
  | with_reducible refine wp_dnewT ?_
  | with_reducible refine wp_get2 ?_
  | with_reducible refine wp_get1 ?_
  | with_reducible refine wp_setD ?_
  | with_reducible refine wp_app ?_
  | with_reducible refine wp_rev ?_
  | with_reducible refine wp_dcopy ?_
  | with_reducible exact ⟨rfl, rfl⟩)
local macro_rules | `(tactic| walk_at "g2") => `(tactic| first
  | walk_at "g1"
  | with_reducible refine wf_ixA0 ?_
  | with_reducible refine wf_ixA1 ?_
  | with_reducible refine wf_ixS0 ?_
  | with_reducible refine wf_ixS1 ?_
  | with_reducible refine wf_ixS2 ?_
  | with_reducible refine wf_ixL0 ?_
  | with_reducible refine wf_ixL1 ?_
  | with_reducible refine wf_ixL2 ?_
  | ((with_reducible refine wf_eqT ?_ ?_ ?_); (focus (walk_at "dec")); (focus (walk_at "dec")))
  | ((with_reducible refine wf_neT ?_ ?_ ?_); (focus (walk_at "dec")); (focus (walk_at "dec")))
  | ((with_reducible refine wf_eqLs ?_ ?_ ?_); (focus (assumption)); (focus (assumption)))
  | ((with_reducible refine wf_neLs ?_ ?_ ?_); (focus (assumption)); (focus (assumption)))
  | ((with_reducible refine wf_eqL ?_ ?_ ?_ ?_ ?_); (focus (walk_at "dec")); (focus (walk_at "dec")); (focus (walk_at "dec")); (focus (walk_at "dec")))
  | ((with_reducible refine wf_neL ?_ ?_ ?_ ?_ ?_); (focus (walk_at "dec")); (focus (walk_at "dec")); (focus (walk_at "dec")); (focus (walk_at "dec")))
  | with_reducible refine way_eq lseq_self ?_
  | with_reducible refine way_eq leq_self ?_
  | with_reducible refine way_eq (teq_self _) ?_
  | with_reducible refine isI_vi ?_
  | with_reducible refine isI_vb ?_
  | with_reducible refine isI_vt ?_
  | ((with_reducible refine wp_eq (r_isvar ?_ _) ?_); (focus (assumption)))
  | ((with_reducible refine wp_eq (r_lisvar ?_ _) ?_); (focus (assumption)))
  | ((with_reducible refine wp_eq (r_lint ?_ _) ?_); (focus (assumption)))
  | ((with_reducible refine wp_eq (run_cell ?_ _ _ ?_ _) ?_); (focus (exact rfl)); (focus (walk_at "dec"))))
local macro_rules | `(tactic| walk_at "go2") => `(tactic| repeat' (walk_at "g2"))
local macro_rules | `(tactic| walk_at "go") => `(tactic| repeat' (walk_at "g1"))
local macro_rules | `(tactic| walk_at "g3") => `(tactic| first
  | with_reducible refine wp_andP ?_
  | with_reducible refine wp_orP ?_
  | with_reducible refine wp_andB ?_
  | with_reducible refine wp_orB ?_
  | with_reducible refine ⟨rfl, rfl, ?_⟩
  | walk_at "g2")
local macro_rules | `(tactic| walk_at "go3") => `(tactic| repeat' (walk_at "g3"))

structure T2 (H : Nat) (B : Int) (t : Tm) : Prop where
  hgt : t.hgt ≤ H
  size : t.size ≤ B
  wd : t.Wd 2
theorem T2.mono {H H' : Nat} {B B' : Int} {t : Tm} (h : T2 H B t) (h1 : H ≤ H') (h2 : B ≤ B') : T2 H' B' t := ⟨Nat.le_trans h.hgt h1, Int.le_trans h.size h2, h.wd⟩
theorem T2.w {H H' : Nat} {B : Int} {t : Tm} (h : T2 H B t) (h1 : H ≤ H') (h2 : B ≤ 100000) : TmW H' t := ⟨Nat.le_trans h.hgt h1, Int.le_trans h.size h2⟩
theorem T2.of {d : Nat} {t : Tm} (h : TermOk d t) : T2 (d + 1) (bdT d) t := ⟨h.hgt, h.size, Tm.Ok.wd (fun a b c m z => z.2) h.ok⟩
theorem T2.ofA {d : Nat} {t : Tm} (h : AtomOk d t) : T2 (d + 2) (bdT (d + 1)) t := ⟨h.hgt, h.size, Tm.Ok.wd (fun a b c m z => z.2) h.ok⟩
theorem rk_hgt {t : Tm} (h : t.Wd 2) : t.rk ≤ 3 * t.hgt := by
  induction h with
  | v i => simp [Tm.rk]
  | @ap a b c ts h1 h2 ih =>
    have h3 : rks ts ≤ 3 * hgts ts := rks_le fun t ht => by
      have := ih t ht
      have := hgts_mem ht
      omega
    simp only [Tm.rk, hgt_ap]; omega
theorem Wd.mono {n m : Nat} (h : n ≤ m) {t : Tm} (ht : t.Wd n) : t.Wd m := by
  induction ht with
  | v i => exact .v i
  | ap h1 h2 ih => exact .ap (Nat.le_trans h1 h) ih
theorem sizes_rev : ∀ ts : List Tm, sizes ts.reverse = sizes ts
  | [] => rfl
  | t :: ts => by
    rw [List.reverse_cons, sizes_app, sizes_rev ts]
    simp only [sizes]; omega
theorem T2.args {H : Nat} {B : Int} {a b c : Int} {ts : List Tm} (h : T2 H B (.ap a b c ts)) : ts.length ≤ 2 ∧ (∀ t ∈ ts, t.Wd 2) ∧ hgts ts + 1 ≤ H ∧ 1 + sizes ts ≤ B := by
  have h1 := h.hgt
  have h2 := h.size
  rw [hgt_ap] at h1
  simp only [Tm.size] at h2
  cases h.wd with
  | ap h3 h4 => exact ⟨h3, h4, h1, h2⟩
theorem T2.mk' {H : Nat} {B : Int} {a b c : Int} {ts : List Tm} (h1 : ts.length ≤ 2) (h2 : ∀ t ∈ ts, t.Wd 2) (h3 : ∀ t ∈ ts, t.hgt + 1 ≤ H) (h4 : 1 + sizes ts ≤ B) (hH : 1 ≤ H) : T2 H B (.ap a b c ts) := ⟨by
  rw [hgt_ap]
  have := hgts_le (ts := ts) (n := H - 1) fun t ht => by have := h3 t ht; omega
  omega, by simp only [Tm.size]; exact h4, .ap h1 h2⟩
theorem sizes_set : ∀ (ts : List Tm) (n : Nat) (x : Tm), sizes (ts.set n x) ≤ sizes ts + x.size
  | [], n, x => by
    have := size_pos x
    simp only [List.set_nil, sizes]; omega
  | t :: ts, 0, x => by
    have := size_pos t
    simp only [List.set_cons_zero, sizes]; omega
  | t :: ts, n + 1, x => by
    have := sizes_set ts n x
    simp only [List.set_cons_succ, sizes]; omega
section
variable {l : Lo} {S : Sto} {Q : D → Sto → Prop}
theorem setF_at {r n : Nat} {xs : List D} {v : D} {j : Int} (hr : S[r]? = some (.lst xs)) (h0 : 0 ≤ j) (h1 : j < xs.length) : setF (.ref r) (.int j) v S = some (S.set r (.lst (xs.set j.toNat v))) := by
  simp only [setF, hr, ixN]
  rw [if_pos h0, if_pos h1]
  rfl
theorem seqO_tup {xs : List D} : seqO S (.d (.tup xs)) = some xs := rfl
end
section
variable {prog : Nat → Option Fb} (hp : ∀ j fb, lZl0[j]? = some fb → prog (0 + j) = some fb) (hp2 : ∀ j fb, lZl2[j]? = some fb → prog (2000 + j) = some fb) {k : Nat} {S : Sto}
include hp hp2
theorem r_second {H : Nat} {B : Int} {t : Tm} (hH : 3 ≤ H) (hB : 7 ≤ B) (ht : T2 H B t) {row : Int} (hrow : 0 ≤ row) : ∃ u, T2 (H + 1) (B + 3) u ∧ run prog (k + 5) 2011 [eT t, .int row] S = some (eT u, S) := by
  obtain ⟨t2, w2, f2, _, h2⟩ := r_term hp 2 (k := k + 2) (by omega) (show 0 ≤ row / 6 by omega) S
  have T22 : T2 (H + 1) (B + 3) t2 := (T2.of f2).mono (by omega) (by rw [show bdT 2 = 7 from rfl]; omega)
  have hw : wp (c__law_second (run prog (k + 4)) [some (eT t), some (.int row), none, none] S) fun f S1 => ∃ u, T2 (H + 1) (B + 3) u ∧ f = .rt (eT u) ∧ ∃ T, S1 = S ++ T := by
    unfold c__law_second
    walk_at "go2"
    have triv : ∀ {x : Fl}, x = .rt (eT t2) → ∃ u, T2 (H + 1) (B + 3) u ∧ x = .rt (eT u) ∧ ∃ T, S = S ++ T := fun e => ⟨t2, T22, e, [], by simp⟩
    refine way_dec (fun _ => ?_) fun k0 => ?_
    · walk_at "go2"
      refine wp_eq h2 ?_
      walk_at "go2"
      exact triv rfl
    · walk_at "go2"
      cases t with
      | v i =>
        refine way_t ?_
        walk_at "go2"
        refine wp_eq h2 ?_
        walk_at "go2"
        exact triv rfl
      | ap a b c ts =>
        obtain ⟨q1, q2, q3, q4⟩ := ht.args
        refine way_f ?_
        walk_at "go2"
        cases h1 : ts.isEmpty with
        | true =>
          rw [show (ts.map eT).isEmpty = true by rw [List.isEmpty_map]; exact h1]
          walk_at "go2"
          refine wp_eq h2 ?_
          walk_at "go2"
          exact triv rfl
        | false =>
          have hpos : 0 < ts.length := by
            cases ts with
            | nil => cases h1
            | cons t ts => simp
          rw [show (ts.map eT).isEmpty = false by rw [List.isEmpty_map]; exact h1]
          walk_at "go2"
          refine ⟨ts.map eT, rfl, ?_⟩
          walk_at "go2"
          have base : ∀ (us : List Tm), us.length ≤ 2 → (∀ t ∈ us, t.Wd 2) → (∀ t ∈ us, t.hgt ≤ H) → sizes us ≤ sizes ts + 3 → T2 (H + 1) (B + 3) (.ap a b c us) := fun us z1 z2 z3 z4 => .mk' z1 z2 (fun t h => by have := z3 t h; omega) (by omega) (by omega)
          have hh : ∀ t ∈ ts, t.hgt ≤ H := fun t h => by have := hgts_mem h; omega
          refine way_dec (fun k1 => ?_) fun k1 => ?_
          · walk_at "go2"
            refine ⟨_, _, rfl, last_get, ?_⟩
            rw [last_set]
            walk_at "go2"
            exact ⟨.ap a b c ts.reverse, base _ (by simpa using q1) (fun t h => q2 t (by simpa using h)) (fun t h => hh t (by simpa using h)) (by rw [sizes_rev]; omega), by rw [eT_ap, List.map_reverse], _, rfl⟩
          · walk_at "go2"
            refine way_dec (fun k2 => ?_) fun k2 => ?_
            · obtain ⟨t3, w3, f3, _, h3⟩ := r_term hp 1 (k := k + 2) (by omega) (show 0 ≤ row / 6 / 2 by omega) (S ++ [.lst (ts.map eT)])
              refine wp_setI ?_
              walk_at "go2"
              refine wp_eq h3 ?_
              walk_at "go2"
              refine wf_mod (modC_r (by rw [List.length_map]; omega)) ?_
              have e1 := Int.emod_nonneg (row / 6) (show (((ts.map eT).length : Nat) : Int) ≠ 0 by rw [List.length_map]; omega)
              have e2 := Int.emod_lt_of_pos (row / 6) (show (0 : Int) < (((ts.map eT).length : Nat) : Int) by rw [List.length_map]; omega)
              refine ⟨_, setF_at (n := 0) last_get e1 e2, ?_⟩
              rw [last_set]
              walk_at "go2"
              have hs := sizes_set ts ((row / 6) % (((ts.map eT).length : Nat) : Int)).toNat t3
              have b3 := f3.size
              rw [show bdT 1 = 3 from rfl] at b3
              refine ⟨.ap a b c (ts.set ((row / 6) % (((ts.map eT).length : Nat) : Int)).toNat t3), base _ (by simpa using q1) (fun t h => ?_) (fun t h => ?_) (by omega), by rw [eT_ap, List.map_set], _, rfl⟩
              · rcases List.mem_or_eq_of_mem_set h with z | z
                · exact q2 t z
                · subst z; exact (T2.of f3).wd
              · rcases List.mem_or_eq_of_mem_set h with z | z
                · exact hh t z
                · subst z; have := f3.hgt; omega
            · walk_at "go2"
              refine way_dec (fun k3 => ?_) fun k3 => ?_
              · walk_at "go2"
                obtain ⟨a', b', c', _, hs⟩ := r_symbol hp (k := k + 3) (n := row / 6 % 5) (by omega) (S ++ [.lst (ts.map eT)])
                refine wp_eq hs ?_
                walk_at "go2"
                exact ⟨.ap a' b' c' ts, .mk' q1 q2 (fun t h => by have := hh t h; omega) (by omega) (by omega), by rw [eT_ap], _, rfl⟩
              · walk_at "go2"
                refine way_dec (fun k4 => ?_) fun k4 => ?_
                · walk_at "go2"
                  refine wp_sl ?_
                  walk_at "go2"
                  refine wp_noI (wp_soI ?_)
                  walk_at "go2"
                  refine ⟨1, rfl, -1, rfl, .n (ts.map eT).dropLast, by simp only [slF, last_get, cut_last], ?_⟩
                  walk_at "go2"
                  exact ⟨.ap a b c ts.dropLast, base _ (by rw [List.length_dropLast]; omega) (fun t h => q2 t (List.dropLast_subset _ h)) (fun t h => hh t (List.dropLast_subset _ h)) (by have := size_dl ts; omega), by rw [eT_ap, List.map_dropLast], _, List.append_assoc _ _ _⟩
                · walk_at "go2"
                  refine ⟨.ap 2 0 0 [.ap a b c ts], .mk' (by simp) (fun t h => ?_) (fun t h => ?_) ?_ (by omega), ?_, _, rfl⟩
                  · rw [List.mem_singleton] at h; subst h; exact ht.wd
                  · rw [List.mem_singleton] at h; subst h; have := ht.hgt; omega
                  · have := ht.size
                    simp only [sizes]; omega
                  · simp only [eT_ap, List.map_cons, List.map_nil]
                    rfl
  obtain ⟨f, S1, e, u, h1, rfl, T, rfl⟩ := hw
  exact ⟨u, h1, run_more (hp2 11 _ rfl) rfl e (refLt_eT _)⟩
end
end Zi
set_option maxRecDepth 100000
set_option maxHeartbeats 1000000
/-! matching -/
namespace Zi
open PySem L2
local macro_rules | `(tactic| walk_at "dec") => `(tactic| first | decide | omega | assumption)
local macro_rules | `(tactic| walk_at "g1") => `(tactic| first
  | ((with_reducible apply wp_var); (focus (exact rfl)))
  | with_reducible refine wp_c ?_
  | with_reducible refine wp_op ?_
  | with_reducible refine wp_oD ?_
  | with_reducible refine wp_cons ?_
  | with_reducible refine wp_nil ?_
  | ((with_reducible refine nxt_nx ?_); (try dsimp only [List.set_cons_zero, List.set_cons_succ]))
  | with_reducible refine wp_seq ?_
  | with_reducible refine wp_set ?_
  | with_reducible refine wp_ret ?_
  | with_reducible refine nxt_rt ?_
  | with_reducible refine wp_call ?_
  | with_reducible refine wp_opO ?_
  | with_reducible refine wp_bool ?_
  | with_reducible refine isB_bl ?_
  | with_reducible refine wp_ifS ?_
  | with_reducible refine way_t ?_
  | with_reducible refine way_f ?_
  | with_reducible refine way_not ?_
  | ((with_reducible apply wf_ixT); (focus (first | exact atI_0 | exact atI_1 | exact atI_2 | exact atI_3 | exact atI_4 | exact atI_5 | exact atI_6 | exact atI_7 | exact atI_8 | exact atI_9 | assumption)))
  | with_reducible refine wp_fn1 ?_
  | with_reducible refine wf_int ?_
  | with_reducible refine wf_add ?_
  | with_reducible refine wf_sub ?_
  | ((with_reducible refine wf_mod ?_ ?_); (focus (exact modC_r (by walk_at "dec"))))
  | ((with_reducible refine wf_div ?_ ?_); (focus (exact divC_r (by walk_at "dec"))))
  | ((with_reducible refine wf_mul ?_ ?_); (focus (exact mulC_r (by walk_at "dec"))))
  | ((with_reducible refine wf_mul ?_ ?_); (focus (exact mulC_l (by walk_at "dec"))))
  | with_reducible refine wf_eqI ?_
  | with_reducible refine wf_neI ?_
  | ((with_reducible refine wf_pow ?_ ?_); (focus (decide)))
  | with_reducible refine wf_lt ?_
  | with_reducible refine wf_le ?_
  | with_reducible refine wf_gt ?_
  | with_reducible refine wf_ge ?_
  | with_reducible refine wf_eqB ?_
  | with_reducible refine wf_neB ?_
  | with_reducible refine wp_tup ?_
  | ((with_reducible refine shrt_of ?_ ?_); (focus (exact Nat.le_of_ble_eq_true (by exact rfl))))
  | with_reducible refine wp_tru ?_
  | with_reducible refine tru_bl ?_
  | with_reducible refine tru_int ?_
  | with_reducible refine tru_non ?_
  | with_reducible refine tru_tup ?_
  | ((with_reducible apply tru_lst); (focus (first | assumption | exact last_get)))
  | with_reducible refine wp_notT ?_
  | with_reducible refine wp_andT ?_
  | with_reducible refine wp_orT ?_
  | with_reducible refine wp_and ?_
  | with_reducible refine wp_or ?_
  | with_reducible refine wp_not ?_
  | with_reducible refine wp_if ?_
  | with_reducible refine wp_skip ?_
  | with_reducible refine wp_drop ?_
  | with_reducible refine wp_break ?_
  | with_reducible refine wp_cont ?_
  | with_reducible refine nxt_bk ?_
  | with_reducible refine nxt_ct ?_
  | with_reducible refine wp_alloc ?_
  | with_reducible refine wp_lst ?_
  | with_reducible refine wp_oN ?_
  | with_reducible refine wp_oS ?_
  | with_reducible refine valO_d ?_
  | with_reducible refine valO_n ?_
  | with_reducible refine wp_setL ?_
  | with_reducible refine wf_lenT ?_
  | with_reducible refine wf_lenN ?_
  | with_reducible refine wf_lenS ?_
  | ((with_reducible apply wf_lenL); (focus (first | assumption | exact last_get)))
  | with_reducible refine wf_tupcT ?_
  | with_reducible refine wf_tupcN ?_
  | ((with_reducible apply wf_tupcL); (focus (first | assumption | exact last_get)))
  | with_reducible refine wp_for ?_
  | with_reducible refine wp_src ?_
  | with_reducible refine src_tupK ?_
  | with_reducible refine src_nK ?_
  | with_reducible refine src_slK ?_
  | ((with_reducible apply src_lstK); (focus (first | assumption | exact last_get)))
  | with_reducible refine wp_asg ?_
  | with_reducible refine wl_n ?_
  | ((with_reducible refine wl_tup ?_ ?_); (focus (exact rfl)))
  | with_reducible refine wl_cons ?_
  | with_reducible refine wl_nil ?_
  | ((with_reducible apply wp_aug); (focus (exact rfl)))
  | with_reducible refine wf_iadd ?_
  | with_reducible refine wp_isN ?_
  | with_reducible refine wp_notN ?_
  | with_reducible refine wp_isI ?_
  | ((with_reducible apply isI_t); (focus (exact rfl)); (focus (decide)))
  | ((with_reducible apply isI_f); (focus (exact rfl)); (focus (decide)))
  | with_reducible refine loopK_nx ?_
  | with_reducible refine loopK_ct ?_
  | with_reducible refine loopK_bk ?_
  | with_reducible refine loopK_rt ?_
  | with_reducible refine wp_enum ?_
  | with_reducible refine wp_lisc ?_
  | with_reducible refine wp_comp ?_
  | with_reducible refine wp_neg ?_
  | with_reducible refine wp_dnewK ?_
  | with_reducible refine wp_dnewT ?_
  | with_reducible refine wp_get2 ?_
  | with_reducible refine wp_get1 ?_
  | with_reducible refine wp_setD ?_
  | with_reducible refine wp_app ?_
  | with_reducible refine wp_rev ?_
  | with_reducible refine wp_dcopy ?_
  | with_reducible exact ⟨rfl, rfl⟩)
local macro_rules | `(tactic| walk_at "g2") => `(tactic| first
  | walk_at "g1"
  | with_reducible refine wf_ixA0 ?_
  | with_reducible refine wf_ixA1 ?_
  | with_reducible refine wf_ixS0 ?_
  | with_reducible refine wf_ixS1 ?_
  | with_reducible refine wf_ixS2 ?_
  | with_reducible refine wf_ixL0 ?_
  | with_reducible refine wf_ixL1 ?_
  | with_reducible refine wf_ixL2 ?_
  | ((with_reducible refine wf_eqT ?_ ?_ ?_); (focus (walk_at "dec")); (focus (walk_at "dec")))
  | ((with_reducible refine wf_neT ?_ ?_ ?_); (focus (walk_at "dec")); (focus (walk_at "dec")))
  | ((with_reducible refine wf_eqLs ?_ ?_ ?_); (focus (assumption)); (focus (assumption)))
  | ((with_reducible refine wf_neLs ?_ ?_ ?_); (focus (assumption)); (focus (assumption)))
  | ((with_reducible refine wf_eqL ?_ ?_ ?_ ?_ ?_); (focus (walk_at "dec")); (focus (walk_at "dec")); (focus (walk_at "dec")); (focus (walk_at "dec")))
  | ((with_reducible refine wf_neL ?_ ?_ ?_ ?_ ?_); (focus (walk_at "dec")); (focus (walk_at "dec")); (focus (walk_at "dec")); (focus (walk_at "dec")))
  | with_reducible refine way_eq lseq_self ?_
  | with_reducible refine way_eq leq_self ?_
  | with_reducible refine way_eq (teq_self _) ?_
  | with_reducible refine isI_vi ?_
  | with_reducible refine isI_vb ?_
  | with_reducible refine isI_vt ?_
  | ((with_reducible refine wp_eq (r_isvar ?_ _) ?_); (focus (assumption)))
  | ((with_reducible refine wp_eq (r_lisvar ?_ _) ?_); (focus (assumption)))
  | ((with_reducible refine wp_eq (r_lint ?_ _) ?_); (focus (assumption)))
  | ((with_reducible refine wp_eq (run_cell ?_ _ _ ?_ _) ?_); (focus (exact rfl)); (focus (walk_at "dec"))))
local macro_rules | `(tactic| walk_at "go2") => `(tactic| repeat' (walk_at "g2"))
local macro_rules | `(tactic| walk_at "go") => `(tactic| repeat' (walk_at "g1"))
local macro_rules | `(tactic| walk_at "g3") => `(tactic| first
  | with_reducible refine wp_andP ?_
  | with_reducible refine wp_orP ?_
  | with_reducible refine wp_andB ?_
  | with_reducible refine wp_orB ?_
  | with_reducible refine ⟨rfl, rfl, ?_⟩
  | walk_at "g2")
local macro_rules | `(tactic| walk_at "go3") => `(tactic| repeat' (walk_at "g3"))

section
variable {l : Lo} {S : Sto} {Q : D → Sto → Prop} {QS : Fl → Sto → Prop}
abbrev Sb := List (Int × Tm)
mutual
/-- the pattern's binding -/
def mt : Tm → Tm → Sb → Option Sb
  | .v i, u, s => match subOf s i with
    | some t => if teq t u = true then some s else none
    | none => some (s ++ [(i, u)])
  | .ap _ _ _ _, .v _, _ => none
  | .ap a b c ts, .ap d e f us, s => if (a, b, c) = (d, e, f) ∧ ts.length = us.length then mts ts us s else none
def mts : List Tm → List Tm → Sb → Option Sb
  | [], _, s => some s
  | _ :: _, [], _ => none
  | t :: ts, u :: us, s => (mt t u s).bind (mts ts us)
end
theorem wf_neS {a b c d e f : Int} (q : Q (.bl (!decide ((a, b, c) = (d, e, f)))) S) : wp (fNe (.d (eS a b c)) (.d (eS d e f)) S) Q := by
  refine wp_eq ?_ q
  show some (D.bl (!PyData.eqv (.tuple [.int a, .int b, .int c]) (.tuple [.int d, .int e, .int f])), S) = _
  simp only [PyData.eqv, PyData.eqvAll, Bool.and_true]
  by_cases h1 : a = d <;> by_cases h2 : b = e <;> by_cases h3 : c = f <;> simp [h1, h2, h3]
def mtz : List (Tm × Tm) → Sb → Option Sb
  | [], s => some s
  | p :: ps, s => (mt p.1 p.2 s).bind (mtz ps)
theorem mts_zip : ∀ (ts us : List Tm) (s : Sb), ts.length = us.length → mts ts us s = mtz (ts.zip us) s
  | [], us, s, _ => by simp [mts, mtz]
  | t :: ts, [], s, h => by simp at h
  | t :: ts, u :: us, s, h => by
    simp only [mts, mtz, List.zip_cons_cons]
    congr 1
    funext s2
    exact mts_zip ts us s2 (by simpa using h)
theorem mtz_app (xs ys : List (Tm × Tm)) : ∀ s, mtz (xs ++ ys) s = (mtz xs s).bind (mtz ys) := by
  induction xs with
  | nil => intro s; rfl
  | cons x xs ih =>
    intro s
    simp only [List.cons_append, mtz, Option.bind_assoc]
    congr 1
    funext s2
    exact ih s2
/-- what a dict of bindings keeps -/
structure SbOk (n : Int) (s : Sb) : Prop where
  nd : (s.map (·.1)).Nodup
  hg : ∀ p ∈ s, p.2.hgt ≤ 90
  ln : (s.length : Int) ≤ n
theorem subOf_none {s : Sb} {i : Int} (h : subOf s i = none) : ∀ p ∈ s, p.1 ≠ i := by
  unfold subOf at h
  rw [Option.map_eq_none_iff, List.find?_eq_none] at h
  exact fun p hp e => h p hp (by simp [e])
theorem subOf_in {s : Sb} {i : Int} {t : Tm} (h : subOf s i = some t) : ∃ p ∈ s, p.2 = t := by
  unfold subOf at h
  rw [Option.map_eq_some_iff] at h
  obtain ⟨p, hp, e⟩ := h
  exact ⟨p, List.mem_of_find?_eq_some hp, e⟩
theorem SbOk.add {n : Int} {s : Sb} (h : SbOk n s) {i : Int} {u : Tm} (hi : subOf s i = none) (hu : u.hgt ≤ 90) : SbOk (n + 1) (s ++ [(i, u)]) := ⟨by
  rw [List.map_append, List.nodup_append]
  refine ⟨h.nd, by simp, fun a ha b hb e => ?_⟩
  obtain ⟨p, hp, rfl⟩ := List.mem_map.mp ha
  simp only [List.map_cons, List.map_nil, List.mem_singleton] at hb
  exact subOf_none hi p hp (e.trans hb), fun p hp => by
  rcases List.mem_append.mp hp with e | e
  · exact h.hg p e
  · rw [List.mem_singleton] at e
    rw [e]
    exact hu, by
  have := h.ln
  rw [List.length_append, List.length_singleton]; omega⟩
theorem wp_zip {oa ob : MO} {QI : Src → Sto → Prop} (h : wp (oa l S) fun x S1 => wp (ob l S1) fun y S2 => ∃ xs ys, x = .d (.tup xs) ∧ y = .d (.tup ys) ∧ QI ⟨zipD xs ys, fun _ => True ∧ True⟩ S2) : wp (mZip oa ob l S) QI := by
  obtain ⟨x, S1, e1, y, S2, e2, xs, ys, rfl, rfl, q⟩ := h
  exact ⟨_, S2, by unfold mZip; simp only [e1, e2, Option.bind_some]; rfl, q⟩
theorem zipD_map : ∀ ts us : List Tm, zipD (ts.map eT) (us.map eT) = (ts.zip us).map fun p => D.tup [eT p.1, eT p.2]
  | [], us => by simp [zipD]
  | t :: ts, [] => by simp [zipD]
  | t :: ts, u :: us => by simp [zipD, zipD_map ts us]
/-- where a cell of the store is put anew -/
theorem set_set' {r : Nat} {a b : Cell} : (S.set r a).set r b = S.set r b := List.set_set a
theorem mt_some {s : Sb} {i : Int} {t u : Tm} (h : subOf s i = some t) : mt (.v i) u s = if teq t u = true then some s else none := by
  simp only [mt, h]
theorem mt_none {s : Sb} {i : Int} {u : Tm} (h : subOf s i = none) : mt (.v i) u s = some (s ++ [(i, u)]) := by
  simp only [mt, h]
theorem set_get' {r : Nat} {c d : Cell} (h : S[r]? = some c) : (S.set r d)[r]? = some d := by
  have hl : r < S.length := by
    rw [List.getElem?_eq_some_iff] at h
    exact h.1
  rw [List.getElem?_set_self hl]
theorem mt_ap {a b c d e f : Int} {ts us : List Tm} {s : Sb} (h : (a, b, c) = (d, e, f) ∧ ts.length = us.length) : mt (.ap a b c ts) (.ap d e f us) s = mtz (ts.zip us) s := by
  simp only [mt]
  rw [if_pos h, mts_zip ts us s h.2]
theorem mt_ne {a b c d e f : Int} {ts us : List Tm} {s : Sb} (h : ¬((a, b, c) = (d, e, f) ∧ ts.length = us.length)) : mt (.ap a b c ts) (.ap d e f us) s = none := by
  simp only [mt]
  rw [if_neg h]
theorem sizes_app' : ∀ xs ys : List Tm, sizes (xs ++ ys) = sizes xs + sizes ys
  | [], ys => by simp [sizes]
  | x :: xs, ys => by simp only [List.cons_append, sizes, sizes_app' xs ys]; omega
theorem SbOk.mono {n m : Int} {s : Sb} (h : SbOk n s) (hm : n ≤ m) : SbOk m s := ⟨h.nd, h.hg, Int.le_trans h.ln hm⟩
theorem at_zip2 {α : Type} {xs : List α} {p : α × Nat} (h : p ∈ xs.zipIdx) : xs[p.2]? = some p.1 := by
  obtain ⟨i, hi, e⟩ := List.mem_iff_getElem.mp h
  rw [List.getElem_zipIdx] at e
  subst e
  simp only [Nat.zero_add]
  rw [List.length_zipIdx] at hi
  exact List.getElem?_eq_getElem hi
theorem len_sizes : ∀ ts : List Tm, (ts.length : Int) ≤ sizes ts
  | [] => by simp [sizes]
  | t :: ts => by
    have h1 := size_pos t
    have h2 := len_sizes ts
    simp only [List.length_cons, sizes]
    omega
/-! the plain law: what matches becomes the term -/
theorem subOf_app {s e : Sb} {i : Int} {t : Tm} (h : subOf s i = some t) : subOf (s ++ e) i = some t := by
  unfold subOf at h ⊢
  rw [Option.map_eq_some_iff] at h
  obtain ⟨p, hp, rfl⟩ := h
  rw [List.find?_append, hp]
  rfl
theorem subOf_new {s e : Sb} {i : Int} {t : Tm} (h : subOf s i = none) : subOf (s ++ (i, t) :: e) i = some t := by
  unfold subOf at h ⊢
  rw [Option.map_eq_none_iff] at h
  rw [List.find?_append, h]
  simp
theorem mtz_put {ps : List (Tm × Tm)} (ih : ∀ p ∈ ps, ∀ s s2, mt p.1 p.2 s = some s2 → (∃ e, s2 = s ++ e) ∧ ∀ e, p.1.put (s2 ++ e) = p.2) : ∀ s s2, mtz ps s = some s2 → (∃ e, s2 = s ++ e) ∧ ∀ e, ∀ p ∈ ps, p.1.put (s2 ++ e) = p.2 := by
  induction ps with
  | nil =>
    intro s s2 h
    cases h
    exact ⟨⟨[], by simp⟩, fun _ _ h => by cases h⟩
  | cons p ps ihp =>
    intro s s2 h
    simp only [mtz] at h
    rw [Option.bind_eq_some_iff] at h
    obtain ⟨s1, h1, h2⟩ := h
    obtain ⟨⟨e1, rfl⟩, g1⟩ := ih p (by simp) s s1 h1
    obtain ⟨⟨e2, rfl⟩, g2⟩ := ihp (fun q hq => ih q (List.mem_cons_of_mem _ hq)) _ s2 h2
    refine ⟨⟨e1 ++ e2, by rw [List.append_assoc]⟩, fun e q hq => ?_⟩
    rcases List.mem_cons.mp hq with z | z
    · rw [z, List.append_assoc _ e2]
      exact g1 (e2 ++ e)
    · exact g2 e q z
theorem mt_put (t : Tm) : ∀ (u : Tm) (s s2 : Sb), mt t u s = some s2 → (∃ e, s2 = s ++ e) ∧ ∀ e, t.put (s2 ++ e) = u := by
  induction t using Tm.ind with
  | hv i =>
    intro u s s2 h
    cases e : subOf s i with
    | some t =>
      rw [mt_some e] at h
      split at h
      · rename_i g
        cases h
        rw [teq_iff] at g
        subst g
        exact ⟨⟨[], by simp⟩, fun e' => by simp [Tm.put, subOf_app e]⟩
      · cases h
    | none =>
      rw [mt_none e] at h
      cases h
      exact ⟨⟨_, rfl⟩, fun e' => by simp [Tm.put, List.append_assoc, subOf_new e]⟩
  | ha a b c ts ih =>
    intro u s s2 h
    cases u with
    | v j => cases h
    | ap d e f us =>
      by_cases hc : (a, b, c) = (d, e, f) ∧ ts.length = us.length
      · rw [mt_ap hc] at h
        have := mtz_put (ps := ts.zip us) (fun p hp s s2 => ih p.1 (List.of_mem_zip (show (p.1, p.2) ∈ ts.zip us from hp)).1 p.2 s s2) s s2 h
        refine ⟨this.1, fun x => ?_⟩
        obtain ⟨hc1, hc2⟩ := hc
        cases hc1
        rw [put_ap]
        congr 1
        refine List.ext_getElem (by rw [List.length_map]; exact hc2) fun n h1 h2 => ?_
        rw [List.length_map] at h1
        rw [List.getElem_map]
        exact this.2 x (ts[n], us[n]) (by
          have : (ts.zip us)[n]? = some (ts[n], us[n]) := by rw [List.getElem?_zip_eq_some]; exact ⟨List.getElem?_eq_getElem h1, List.getElem?_eq_getElem h2⟩
          exact List.mem_of_getElem? this)
      · rw [mt_ne hc] at h
        cases h
theorem refLtL_prs {n : Nat} : ∀ s : List (Int × Tm), refLtL n (s.map ePr) = true
  | [] => by simp [refLtL]
  | q :: s => by simp [refLtL, ePr, refLt, refLt_eT, refLtL_prs s]
/-- a walk that ends at the first x of which f is some; the store may change -/
theorem wp_findS {α β : Type} {ok : Sto → Prop} {tg : MG} {body : MS} {ds : List D} (e : α → D) (xs : List α) (I : Lo → Sto → Prop) (f : α → Option β) (R : β → D → Sto → Prop) (hd : ds = xs.map e) (hl : I l S) (hok : ∀ l S, I l S → ok S)
    (hs : ∀ l S x, x ∈ xs → I l S → wl (tg (e x) l S) fun l1 => wp (body l1 S) fun g S' => match f x with | some b => ∃ d, g = .rt d ∧ R b d S' | none => ∃ l2, (g = .nx l2 ∨ g = .ct l2) ∧ I l2 S')
    (hq : match xs.findSome? f with | some b => ∀ d S', R b d S' → QS (.rt d) S' | none => ∀ l S', I l S' → QS (.nx l) S') : wp (forL ok tg body ds l S) QS := by
  subst hd
  induction xs generalizing l S with
  | nil => exact ⟨_, _, forL_nil (hok _ _ hl), hq l S hl⟩
  | cons x xs ih =>
    obtain ⟨l1, e1, g, S1, e2, hg⟩ := hs l S x (by simp) hl
    rw [List.findSome?_cons] at hq
    cases hp : f x with
    | some b =>
      rw [hp] at hg hq
      obtain ⟨d, rfl, hR⟩ := hg
      exact ⟨_, _, forL_rt (hok _ _ hl) e1 e2, hq d S1 hR⟩
    | none =>
      rw [hp] at hg hq
      obtain ⟨l2, hg, hI⟩ := hg
      obtain ⟨f', S', e3, q'⟩ := ih hI (fun l S y hy => hs l S y (List.mem_cons_of_mem _ hy)) hq
      rcases hg with rfl | rfl
      · exact ⟨f', S', (forL_nx (hok _ _ hl) e1 e2).trans e3, q'⟩
      · exact ⟨f', S', (forL_ct (hok _ _ hl) e1 e2).trans e3, q'⟩
end
section
variable {prog : Nat → Option Fb} (hp : ∀ j fb, lZl0[j]? = some fb → prog (0 + j) = some fb) (hp2 : ∀ j fb, lZl2[j]? = some fb → prog (2000 + j) = some fb) {k : Nat} {S : Sto}
include hp hp2
theorem r_ext (t : Tm) : ∀ {k : Nat}, t.hgt ≤ k → t.hgt ≤ 90 → ∀ (u : Tm), u.hgt ≤ 90 → ∀ (S : Sto) (r : Nat) (s : Sb) (n : Int), S[r]? = some (.dK (eSub s)) → SbOk n s → n + t.size ≤ 100000 →
    ∃ s', SbOk (n + t.size) s' ∧ run prog (k + 2) 2016 [eT t, eT u, .ref r] S = some (.bl (mt t u s).isSome, S.set r (.dK (eSub s'))) ∧ ∀ s2, mt t u s = some s2 → s' = s2 := by
  induction t using Tm.ind with
  | hv i =>
    intro k hk hh u hu S r s n hr hs hn
    have out : wp (c_extends (run prog (k + 1)) [some (eT (.v i)), some (eT u), some (.ref r), none, none] S) fun f S1 => ∃ s', SbOk (n + 1) s' ∧ f = .rt (.bl (mt (.v i) u s).isSome) ∧ S1 = S.set r (.dK (eSub s')) ∧ ∀ s2, mt (.v i) u s = some s2 → s' = s2 := by
      unfold c_extends
      walk_at "go3"
      refine way_eq rfl ?_
      walk_at "go3"
      rw [eT_v]
      refine wf_inD (gotD_sub hr) ?_
      have hg := gotD_sub (i := i) hr
      cases e : subOf s i with
      | some t =>
        rw [mt_some e]
        obtain ⟨p, hpm, hpe⟩ := subOf_in e
        have ht : t.hgt ≤ 94 := by have := hs.hg p hpm; rw [← hpe]; omega
        have hu4 : u.hgt ≤ 94 := by omega
        rw [e] at hg
        walk_at "go3"
        refine way_eq rfl ?_
        walk_at "go3"
        refine wf_ixX hg ?_
        walk_at "go3"
        refine ⟨s, ⟨hs.nd, hs.hg, by have := hs.ln; omega⟩, ?_, by rw [set_same hr], fun s2 h2 => ?_⟩
        · by_cases g : teq t u = true
          · rw [if_pos g, g]; rfl
          · rw [if_neg g]; simp only [Bool.not_eq_true] at g; rw [g]; rfl
        · split at h2
          · exact Option.some.inj h2
          · cases h2
      | none =>
        rw [mt_none e]
        have hlen := hs.ln
        simp only [Tm.size] at hn
        walk_at "go3"
        refine way_ne rfl ?_
        walk_at "go3"
        refine ⟨S.set r (.dK (eSub (s ++ [(i, u)]))), ?_, ?_⟩
        · simp only [setDF, hr, keyD, Option.bind_some]
          rw [if_pos (by unfold eSub; rw [List.length_map]; omega), putD_new (subOf_none e)]
        · walk_at "go3"
          exact ⟨_, hs.add e hu, rfl, rfl, fun s2 h2 => Option.some.inj h2⟩
    obtain ⟨f, S1, h, s', g1, rfl, rfl, g2⟩ := out
    exact ⟨s', g1, (run_step (k := k + 1) (ds := [eT (.v i), eT u, .ref r]) (S := S) (i := 2016) (n := 3) (j := 5) (ms := c_extends) (hp2 16 _ rfl) rfl h).trans (by rw [fin_set (refLt_bl _)]), g2⟩
  | ha a b c ts ih =>
    intro k hk hh u hu S r s n hr hs hn
    rw [hgt_ap] at hk hh
    obtain ⟨k, rfl⟩ : ∃ k', k = k' + 1 := ⟨k - 1, by omega⟩
    have out : wp (c_extends (run prog (k + 2)) [some (eT (.ap a b c ts)), some (eT u), some (.ref r), none, none] S) fun f S1 => ∃ s', SbOk (n + (Tm.ap a b c ts).size) s' ∧ f = .rt (.bl (mt (.ap a b c ts) u s).isSome) ∧ S1 = S.set r (.dK (eSub s')) ∧ ∀ s2, mt (.ap a b c ts) u s = some s2 → s' = s2 := by
      have hsz := sizes_nn ts
      have hself : SbOk (n + (Tm.ap a b c ts).size) s := ⟨hs.nd, hs.hg, by have := hs.ln; simp only [Tm.size]; omega⟩
      unfold c_extends
      walk_at "go3"
      refine way_ne rfl ?_
      cases u with
      | v j =>
        walk_at "go2"
        refine way_eq rfl ?_
        walk_at "go2"
        exact ⟨s, hself, rfl, by rw [set_same hr], fun s2 h2 => by cases h2⟩
      | ap d e f us =>
        walk_at "go3"
        refine wf_neS ?_
        walk_at "go3"
        have ec : ((Tm.ap d e f us).isV || (!decide ((a, b, c) = (d, e, f)) || !decide (((ts.map eT).length : Int) = ((us.map eT).length : Nat)))) = !decide ((a, b, c) = (d, e, f) ∧ ts.length = us.length) := by
          rw [show (Tm.ap d e f us).isV = false from rfl, List.length_map, List.length_map]
          by_cases h1 : (a, b, c) = (d, e, f)
          · by_cases h2 : ts.length = us.length
            · have h3 : ((ts.length : Nat) : Int) = (us.length : Nat) := by rw [h2]
              rw [decide_eq_true h1, decide_eq_true h3, decide_eq_true ⟨h1, h2⟩]; rfl
            · have h3 : ¬((ts.length : Nat) : Int) = (us.length : Nat) := by omega
              rw [decide_eq_true h1, decide_eq_false h3, decide_eq_false (show ¬((a, b, c) = (d, e, f) ∧ ts.length = us.length) from fun z => h2 z.2)]; rfl
          · rw [decide_eq_false h1, decide_eq_false (show ¬((a, b, c) = (d, e, f) ∧ ts.length = us.length) from fun z => h1 z.1)]; rfl
        rw [ec]
        refine way_not (way_dec (fun hc => ?_) fun hc => ?_)
        · rw [mt_ap hc]
          walk_at "go3"
          refine wp_zip ?_
          walk_at "go3"
          refine ⟨_, _, rfl, rfl, ?_⟩
          have hf : (ts.zip us).map (·.1) = ts := List.map_fst_zip (by omega)
          refine wp_inv (fun p : Tm × Tm => D.tup [eT p.1, eT p.2]) (ts.zip us) (fun dn l S' => ∃ s' o3 o4, SbOk (n + sizes (dn.map (·.1))) s' ∧ mtz dn s = some s' ∧ l = [some (eT (.ap a b c ts)), some (eT (.ap d e f us)), some (.ref r), o3, o4] ∧ S' = S.set r (.dK (eSub s'))) (zipD_map ts us) ⟨s, none, none, by simpa [sizes] using hs, rfl, rfl, by rw [set_same hr]⟩ (fun _ _ _ _ => ⟨trivial, trivial⟩) ?_ ?_
          · rintro dn ⟨x, y⟩ rest l S' hall ⟨s', o3, o4, g1, g2, rfl, rfl⟩
            have hxm : x ∈ ts := by rw [← hf, hall]; simp
            have hym : y ∈ us := (List.of_mem_zip (show (x, y) ∈ ts.zip us by rw [hall]; simp)).2
            have hsum : sizes ts = sizes (dn.map (·.1)) + (x.size + sizes (rest.map (·.1))) := by
              rw [← hf, hall, List.map_append, List.map_cons, sizes_app']
              rfl
            have hrn := sizes_nn (rest.map (·.1))
            have hx1 := hgts_mem hxm
            have hy1 := hgts_mem hym
            rw [hgt_ap] at hu
            obtain ⟨s3, g3, e3, g4⟩ := ih x hxm (k := k) (by omega) (by omega) y (by omega) (S.set r (.dK (eSub s'))) r s' _ (set_get hr) g1 (by simp only [Tm.size] at hn; omega)
            rw [set_set'] at e3
            walk_at "go3"
            refine wp_eq e3 ?_
            walk_at "go3"
            cases e : mt x y s' with
            | some s4 =>
              have := g4 s4 e
              subst this
              refine way_eq rfl ?_
              walk_at "go3"
              exact ⟨s3, _, _, by rw [List.map_append, sizes_app']; exact g3.mono (by simp [sizes]; omega), by rw [mtz_app, g2]; simp [mtz, e], rfl, rfl⟩
            | none =>
              refine way_ne rfl ?_
              walk_at "go3"
              have hz : mtz (ts.zip us) s = none := by rw [hall, mtz_app, g2]; simp [mtz, e]
              rw [hz]
              exact ⟨s3, g3.mono (by simp only [Tm.size]; omega), rfl, rfl, fun s2 h2 => by cases h2⟩
          · rintro l S' ⟨s', o3, o4, g1, g2, rfl, rfl⟩
            walk_at "go3"
            rw [hf] at g1
            rw [g2]
            exact ⟨s', g1.mono (by simp only [Tm.size]; omega), rfl, rfl, fun s2 h2 => Option.some.inj h2⟩
        · rw [mt_ne hc]
          walk_at "go3"
          exact ⟨s, hself, rfl, by rw [set_same hr], fun s2 h2 => by cases h2⟩
    obtain ⟨f, S1, h, s', g1, rfl, rfl, g2⟩ := out
    exact ⟨s', g1, (run_step (k := k + 2) (ds := [eT (.ap a b c ts), eT u, .ref r]) (S := S) (i := 2016) (n := 3) (j := 5) (ms := c_extends) (hp2 16 _ rfl) rfl h).trans (by rw [fin_set (refLt_bl _)]), g2⟩
theorem r_match {t u : Tm} (hk : t.hgt ≤ k) (ht : t.hgt ≤ 90) (hu : u.hgt ≤ 90) {r : Nat} {s : Sb} {n : Int} (hr : S[r]? = some (.dK (eSub s))) (hs : SbOk n s) (hn : n + t.size ≤ 100000) :
    match mt t u s with
    | some s2 => SbOk (n + t.size) s2 ∧ run prog (k + 3) 2017 [eT t, eT u, .ref r] S = some (.ref S.length, S ++ [.dK (eSub s2)])
    | none => run prog (k + 3) 2017 [eT t, eT u, .ref r] S = some (.non, S) := by
  obtain ⟨s3, g3, e3, g4⟩ := r_ext hp hp2 t (k := k) hk ht u hu (S ++ [.dK (eSub s)]) S.length s n last_get hs hn
  rw [last_set] at e3
  cases e : mt t u s with
  | some s2 =>
    have := g4 s2 e
    subst this
    refine ⟨g3, ?_⟩
    have out : wp (c_match (run prog (k + 2)) [some (eT t), some (eT u), some (.ref r), none] S) fun f S1 => f = .rt (.ref S.length) ∧ S1 = S ++ [.dK (eSub s3)] := by
      unfold c_match
      walk_at "go3"
      refine ⟨eSub s, by simp only [dkO, hr], ?_⟩
      walk_at "go3"
      refine wp_eq e3 ?_
      rw [e]
      walk_at "go3"
      refine way_eq rfl ?_
      walk_at "go3"
    obtain ⟨f, S1, h, rfl, rfl⟩ := out
    exact (run_step (k := k + 2) (ds := [eT t, eT u, .ref r]) (S := S) (i := 2017) (n := 3) (j := 4) (ms := c_match) (hp2 17 _ rfl) rfl h).trans (by rw [fin_cell (T := []) (c := .dK (eSub s3)) (show cellLt S.length (.dK (eSub s3)) = true from refLt_eSub s3)])
  | none =>
    refine run_rub (k := k + 2) (i := 2017) (n := 3) (j := 4) (ms := c_match) (hp2 17 _ rfl) rfl rfl ?_
    show wp (c_match (run prog (k + 2)) [some (eT t), some (eT u), some (.ref r), none] S) _
    unfold c_match
    walk_at "go3"
    refine ⟨eSub s, by simp only [dkO, hr], ?_⟩
    walk_at "go3"
    refine wp_eq e3 ?_
    rw [e]
    walk_at "go3"
    refine way_ne rfl ?_
    walk_at "go3"
    exact ⟨rfl, _, rfl⟩
theorem mt_ok {t u : Tm} {s s2 : Sb} {n : Int} (ht : t.hgt ≤ 90) (hu : u.hgt ≤ 90) (hs : SbOk n s) (hn : n + t.size ≤ 100000) (h : mt t u s = some s2) : SbOk (n + t.size) s2 := by
  obtain ⟨s3, g3, _, g4⟩ := r_ext hp hp2 t (Nat.le_refl _) ht u hu [.dK (eSub s)] 0 s n rfl hs hn
  rw [← g4 s2 h]
  exact g3
end
end Zi
set_option maxRecDepth 100000
set_option maxHeartbeats 1000000
/-! unification: the walk -/
namespace Zi
open PySem L2
local macro_rules | `(tactic| walk_at "dec") => `(tactic| first | decide | omega | assumption)
local macro_rules | `(tactic| walk_at "g1") => `(tactic| first
  | ((with_reducible apply wp_var); (focus (exact rfl)))
  | with_reducible refine wp_c ?_
  | with_reducible refine wp_op ?_
  | with_reducible refine wp_oD ?_
  | with_reducible refine wp_cons ?_
  | with_reducible refine wp_nil ?_
  | ((with_reducible refine nxt_nx ?_); (try dsimp only [List.set_cons_zero, List.set_cons_succ]))
  | with_reducible refine wp_seq ?_
  | with_reducible refine wp_set ?_
  | with_reducible refine wp_ret ?_
  | with_reducible refine nxt_rt ?_
  | with_reducible refine wp_call ?_
  | with_reducible refine wp_opO ?_
  | with_reducible refine wp_bool ?_
  | with_reducible refine isB_bl ?_
  | with_reducible refine wp_ifS ?_
  | with_reducible refine way_t ?_
  | with_reducible refine way_f ?_
  | with_reducible refine way_not ?_
  | ((with_reducible apply wf_ixT); (focus (first | exact atI_0 | exact atI_1 | exact atI_2 | exact atI_3 | exact atI_4 | exact atI_5 | exact atI_6 | exact atI_7 | exact atI_8 | exact atI_9 | assumption)))
  | with_reducible refine wp_fn1 ?_
  | with_reducible refine wf_int ?_
  | with_reducible refine wf_add ?_
  | with_reducible refine wf_sub ?_
  | ((with_reducible refine wf_mod ?_ ?_); (focus (exact modC_r (by walk_at "dec"))))
  | ((with_reducible refine wf_div ?_ ?_); (focus (exact divC_r (by walk_at "dec"))))
  | ((with_reducible refine wf_mul ?_ ?_); (focus (exact mulC_r (by walk_at "dec"))))
  | ((with_reducible refine wf_mul ?_ ?_); (focus (exact mulC_l (by walk_at "dec"))))
  | with_reducible refine wf_eqI ?_
  | with_reducible refine wf_neI ?_
  | ((with_reducible refine wf_pow ?_ ?_); (focus (decide)))
  | with_reducible refine wf_lt ?_
  | with_reducible refine wf_le ?_
  | with_reducible refine wf_gt ?_
  | with_reducible refine wf_ge ?_
  | with_reducible refine wf_eqB ?_
  | with_reducible refine wf_neB ?_
  | with_reducible refine wp_tup ?_
  | ((with_reducible refine shrt_of ?_ ?_); (focus (exact Nat.le_of_ble_eq_true (by exact rfl))))
  | with_reducible refine wp_tru ?_
  | with_reducible refine tru_bl ?_
  | with_reducible refine tru_int ?_
  | with_reducible refine tru_non ?_
  | with_reducible refine tru_tup ?_
  | ((with_reducible apply tru_lst); (focus (first | assumption | exact last_get)))
  | with_reducible refine wp_notT ?_
  | with_reducible refine wp_andT ?_
  | with_reducible refine wp_orT ?_
  | with_reducible refine wp_and ?_
  | with_reducible refine wp_or ?_
  | with_reducible refine wp_not ?_
  | with_reducible refine wp_if ?_
  | with_reducible refine wp_skip ?_
  | with_reducible refine wp_drop ?_
  | with_reducible refine wp_break ?_
  | with_reducible refine wp_cont ?_
  | with_reducible refine nxt_bk ?_
  | with_reducible refine nxt_ct ?_
  | with_reducible refine wp_alloc ?_
  | with_reducible refine wp_lst ?_
  | with_reducible refine wp_oN ?_
  | with_reducible refine wp_oS ?_
  | with_reducible refine valO_d ?_
  | with_reducible refine valO_n ?_
  | with_reducible refine wp_setL ?_
  | with_reducible refine wf_lenT ?_
  | with_reducible refine wf_lenN ?_
  | with_reducible refine wf_lenS ?_
  | ((with_reducible apply wf_lenL); (focus (first | assumption | exact last_get)))
  | with_reducible refine wf_tupcT ?_
  | with_reducible refine wf_tupcN ?_
  | ((with_reducible apply wf_tupcL); (focus (first | assumption | exact last_get)))
  | with_reducible refine wp_for ?_
  | with_reducible refine wp_src ?_
  | with_reducible refine src_tupK ?_
  | with_reducible refine src_nK ?_
  | with_reducible refine src_slK ?_
  | ((with_reducible apply src_lstK); (focus (first | assumption | exact last_get)))
  | with_reducible refine wp_asg ?_
  | with_reducible refine wl_n ?_
  | ((with_reducible refine wl_tup ?_ ?_); (focus (exact rfl)))
  | with_reducible refine wl_cons ?_
  | with_reducible refine wl_nil ?_
  | ((with_reducible apply wp_aug); (focus (exact rfl)))
  | with_reducible refine wf_iadd ?_
  | with_reducible refine wp_isN ?_
  | with_reducible refine wp_notN ?_
  | with_reducible refine wp_isI ?_
  | ((with_reducible apply isI_t); (focus (exact rfl)); (focus (decide)))
  | ((with_reducible apply isI_f); (focus (exact rfl)); (focus (decide)))
  | with_reducible refine loopK_nx ?_
  | with_reducible refine loopK_ct ?_
  | with_reducible refine loopK_bk ?_
  | with_reducible refine loopK_rt ?_
  | with_reducible refine wp_enum ?_
  | with_reducible refine wp_lisc ?_
  | with_reducible refine wp_comp ?_
  | with_reducible refine wp_neg ?_
  | with_reducible refine wp_dnewK ?_
  | with_reducible refine wp_dnewT ?_
  | with_reducible refine wp_get2 ?_
  | with_reducible refine wp_get1 ?_
  | with_reducible refine wp_setD ?_
  | with_reducible refine wp_app ?_
  | with_reducible refine wp_rev ?_
  | with_reducible refine wp_dcopy ?_
  | with_reducible exact ⟨rfl, rfl⟩)
local macro_rules | `(tactic| walk_at "g2") => `(tactic| first
  | walk_at "g1"
  | with_reducible refine wf_ixA0 ?_
  | with_reducible refine wf_ixA1 ?_
  | with_reducible refine wf_ixS0 ?_
  | with_reducible refine wf_ixS1 ?_
  | with_reducible refine wf_ixS2 ?_
  | with_reducible refine wf_ixL0 ?_
  | with_reducible refine wf_ixL1 ?_
  | with_reducible refine wf_ixL2 ?_
  | ((with_reducible refine wf_eqT ?_ ?_ ?_); (focus (walk_at "dec")); (focus (walk_at "dec")))
  | ((with_reducible refine wf_neT ?_ ?_ ?_); (focus (walk_at "dec")); (focus (walk_at "dec")))
  | ((with_reducible refine wf_eqLs ?_ ?_ ?_); (focus (assumption)); (focus (assumption)))
  | ((with_reducible refine wf_neLs ?_ ?_ ?_); (focus (assumption)); (focus (assumption)))
  | ((with_reducible refine wf_eqL ?_ ?_ ?_ ?_ ?_); (focus (walk_at "dec")); (focus (walk_at "dec")); (focus (walk_at "dec")); (focus (walk_at "dec")))
  | ((with_reducible refine wf_neL ?_ ?_ ?_ ?_ ?_); (focus (walk_at "dec")); (focus (walk_at "dec")); (focus (walk_at "dec")); (focus (walk_at "dec")))
  | with_reducible refine way_eq lseq_self ?_
  | with_reducible refine way_eq leq_self ?_
  | with_reducible refine way_eq (teq_self _) ?_
  | with_reducible refine isI_vi ?_
  | with_reducible refine isI_vb ?_
  | with_reducible refine isI_vt ?_
  | ((with_reducible refine wp_eq (r_isvar ?_ _) ?_); (focus (assumption)))
  | ((with_reducible refine wp_eq (r_lisvar ?_ _) ?_); (focus (assumption)))
  | ((with_reducible refine wp_eq (r_lint ?_ _) ?_); (focus (assumption)))
  | ((with_reducible refine wp_eq (run_cell ?_ _ _ ?_ _) ?_); (focus (exact rfl)); (focus (walk_at "dec"))))
local macro_rules | `(tactic| walk_at "go2") => `(tactic| repeat' (walk_at "g2"))
local macro_rules | `(tactic| walk_at "go") => `(tactic| repeat' (walk_at "g1"))
local macro_rules | `(tactic| walk_at "g3") => `(tactic| first
  | with_reducible refine wp_andP ?_
  | with_reducible refine wp_orP ?_
  | with_reducible refine wp_andB ?_
  | with_reducible refine wp_orB ?_
  | with_reducible refine ⟨rfl, rfl, ?_⟩
  | walk_at "g2")
local macro_rules | `(tactic| walk_at "go3") => `(tactic| repeat' (walk_at "g3"))

section
variable {l : Lo} {S : Sto} {Q : D → Sto → Prop} {QS : Fl → Sto → Prop} {QA : List D → Sto → Prop} {a b : M}
theorem wp_disp1 (h : wp (a l (S ++ [.dK []])) fun x S1 => wp (b l S1) fun y S2 => ∃ k, S2[S.length]? = some (.dK []) ∧ keyD x = some k ∧ Q (.ref S.length) (S2.set S.length (.dK [(k, y)]))) : wp (mDisp1 a b l S) Q := by
  obtain ⟨x, S1, e1, y, S2, e2, k, h1, h2, q⟩ := h
  exact ⟨_, _, by unfold mDisp1; simp only [e1, Option.bind_some, e2, h1, h2], q⟩
theorem wp_lzip (h : wp (a l S) fun x S1 => ∃ xs, x = .tup xs ∧ wp (b l S1) fun y S2 => ∃ ys, y = .tup ys ∧ QA ((xs.zip ys).map fun p => D.tup [p.1, p.2]) S2) : wp (mLZip a b l S) QA := by
  obtain ⟨x, S1, e1, xs, rfl, y, S2, e2, ys, rfl, q⟩ := h
  exact ⟨_, _, by unfold mLZip; simp only [e1, Option.bind_some, e2], q⟩
theorem wp_whileW {α : Type} {r : α → α → Prop} (wf : WellFounded r) {ta : MT} {sb : MS} (I : α → Lo → Sto → Prop) (n : α) (h0 : I n l S) (hs : ∀ m l S, I m l S → wp (ta l S) fun x S1 => way x (wp (sb l S1) (loopK (fun l S => ∃ m', r m' m ∧ I m' l S) QS)) (QS (.nx l) S1)) : wp (mWhile ta sb l S) QS := by
  have go : ∀ m l S, I m l S → ∃ n f S', whileL ta sb n l S = some (f, S') ∧ QS f S' := by
    intro m
    induction m using wf.induction with
    | _ m ih =>
      intro l S h
      obtain ⟨x, S1, e1, q⟩ := hs m l S h
      cases x with
      | false => exact ⟨1, _, _, by unfold whileL; simp only [e1, Option.bind_some, Bool.false_eq_true, if_false], q.2 rfl⟩
      | true =>
        obtain ⟨f, S2, e2, q⟩ := q.1 rfl
        cases f with
        | nx l2 =>
          obtain ⟨m', hm, hI⟩ := q
          obtain ⟨n, f', S', e3, q'⟩ := ih m' hm l2 S2 hI
          exact ⟨n + 1, f', S', by unfold whileL; simp only [e1, Option.bind_some, if_true, e2]; exact e3, q'⟩
        | ct l2 =>
          obtain ⟨m', hm, hI⟩ := q
          obtain ⟨n, f', S', e3, q'⟩ := ih m' hm l2 S2 hI
          exact ⟨n + 1, f', S', by unfold whileL; simp only [e1, Option.bind_some, if_true, e2]; exact e3, q'⟩
        | bk l2 => exact ⟨1, _, _, by unfold whileL; simp only [e1, Option.bind_some, if_true, e2], q⟩
        | rt d => exact ⟨1, _, _, by unfold whileL; simp only [e1, Option.bind_some, if_true, e2], q⟩
  obtain ⟨n, f, S', e, q⟩ := go n l S h0
  exact ⟨f, S', mWhile_of e, q⟩
end
section
variable {prog : Nat → Option Fb} (hp : ∀ j fb, lZl0[j]? = some fb → prog (0 + j) = some fb) (hp1 : ∀ j fb, lZl1[j]? = some fb → prog (1000 + j) = some fb) (hp2 : ∀ j fb, lZl2[j]? = some fb → prog (2000 + j) = some fb) (hp5 : ∀ j fb, lZl5[j]? = some fb → prog (5000 + j) = some fb) {k : Nat} {S : Sto}
include hp hp1 hp2
theorem r_bind {f : List (Int × Tm)} {x : Int} {t : Tm} {r : Nat} (hr : S[r]? = some (.dK (eSub f))) (hn : (f.map (·.1)).Nodup) (hx : x ∉ f.map (·.1)) (hl : f.length ≤ 1000) (hf : ∀ p ∈ f, p.2.hgt ≤ k ∧ p.2.Wd 1000) : run prog (k + 3) 2015 [.ref r, .int x, eT t] S = some (.ref S.length, S ++ [Cell.dK (eSub (bnd f x t))]) := by
  refine run_own (c := .dK (eSub (bnd f x t))) (k := k + 2) (n := 3) (j := 7) (hp2 15 _ rfl) rfl (show cellLt S.length (.dK (eSub _)) = true from refLt_eSub _) ?_
  show wp (c_bind (run prog (k + 2)) [some (.ref r), some (.int x), some (eT t), none, none, none, none] S) _
  unfold c_bind
  have hrl : r < S.length := (List.getElem?_eq_some_iff.mp hr).1
  walk_at "go2"
  refine wp_disp1 ?_
  walk_at "go2"
  refine ⟨.inl x, last_get, rfl, ?_⟩
  rw [last_set]
  walk_at "go2"
  have hr2 : (S ++ [Cell.dK [(.inl x, eT t)]] ++ [Cell.dK []])[r]? = some (.dK (eSub f)) := by rw [List.append_assoc, List.getElem?_append_left hrl]; exact hr
  have e0 : (S ++ [Cell.dK [(.inl x, eT t)]] ++ [Cell.dK []]).set r (.lk (eSub f)) = S.set r (Cell.lk (eSub f)) ++ [Cell.dK (eSub (stp x t))] ++ [Cell.dK (eSub [])] := by
    rw [List.append_assoc, List.set_append_left _ _ hrl, ← List.append_assoc]; rfl
  have hlen : (S.set r (.lk (eSub f))).length = S.length := List.length_set
  have eL1 : (S ++ [Cell.dK [(Sum.inl x, eT t)]]).length = S.length + 1 := by simp
  refine wp_lockS rfl hr2 rfl ?_
  rw [e0]
  walk_at "go2"
  refine wp_items ?_
  walk_at "go2"
  have gr : ∀ c, (S.set r (Cell.lk (eSub f)) ++ [Cell.dK (eSub (stp x t))] ++ [c])[r]? = some (.lk (eSub f)) := fun c => by
    rw [List.append_assoc, List.getElem?_append_left (by rw [hlen]; exact hrl)]
    exact set_get hr
  refine ⟨r, eSub f, rfl, gr _, ?_⟩
  have ed : (eSub f).map (fun kv => D.tup [keyOfD kv.1, kv.2]) = f.map ePr := by unfold eSub; rw [List.map_map]; rfl
  refine wp_inv ePr f (fun dn l S' => ∃ o5 o6, l = [some (.ref r), some (.int x), some (eT t), some (.ref S.length), some (.ref (S.length + 1)), o5, o6] ∧ S' = S.set r (Cell.lk (eSub f)) ++ [Cell.dK (eSub (stp x t))] ++ [Cell.dK (eSub (dn.map fun p => (p.1, p.2.put (stp x t))))]) ed ⟨none, none, by simp, rfl⟩ (fun dn l S h => ?_) ?_ ?_
  · obtain ⟨_, _, _, rfl⟩ := h
    exact gr _
  · rintro dn p rest l S' hall ⟨o5, o6, rfl, rfl⟩
    have hpf : p ∈ f := by rw [hall]; simp
    have hdn : dn.length < 1000000 := by have := congrArg List.length hall; rw [List.length_append, List.length_cons] at this; omega
    have hnew : ∀ q ∈ dn.map (fun p => (p.1, p.2.put (stp x t))), q.1 ≠ p.1 := fun q hq e => by
      obtain ⟨q', hq', rfl⟩ := List.mem_map.mp hq
      rw [hall, List.map_append, List.map_cons, List.nodup_append] at hn
      exact hn.2.2 q'.1 (List.mem_map_of_mem hq') p.1 (by simp) e
    have g1 : (S.set r (Cell.lk (eSub f)) ++ [Cell.dK (eSub (stp x t))] ++ [Cell.dK (eSub (dn.map fun p => (p.1, p.2.put (stp x t))))])[S.length]? = some (.dK (eSub (stp x t))) := by
      rw [List.append_assoc, ← hlen]; exact last_get'
    have g2 : (S.set r (Cell.lk (eSub f)) ++ [Cell.dK (eSub (stp x t))] ++ [Cell.dK (eSub (dn.map fun p => (p.1, p.2.put (stp x t))))])[S.length + 1]? = some (.dK (eSub (dn.map fun p => (p.1, p.2.put (stp x t))))) := by
      have : S.length + 1 = (S.set r (Cell.lk (eSub f)) ++ [Cell.dK (eSub (stp x t))]).length := by simp
      rw [this]; exact last_get
    have e1 := r_put hp hp1 (s := stp x t) (r := S.length) p.2 (k := k) (hf p hpf).1 (hf p hpf).2 _ g1
    unfold ePr
    walk_at "go2"
    refine wp_eq e1 ?_
    walk_at "go2"
    refine ⟨_, setD_new g2 hnew (by rw [List.length_map]; exact hdn), ?_⟩
    have : S.length + 1 = (S.set r (Cell.lk (eSub f)) ++ [Cell.dK (eSub (stp x t))]).length := by simp
    rw [this, last_set]
    exact ⟨some (.int p.1), some (eT p.2), by simp, by rw [List.map_append]; rfl⟩
  · rintro l S' ⟨o5, o6, rfl, rfl⟩
    refine ⟨_, _, gr _, rfl, ?_⟩
    have e2 : (S.set r (Cell.lk (eSub f)) ++ [Cell.dK (eSub (stp x t))] ++ [Cell.dK (eSub (f.map fun p => (p.1, p.2.put (stp x t))))]).set r (.dK (eSub f)) = S ++ [Cell.dK (eSub (stp x t))] ++ [Cell.dK (eSub (f.map fun p => (p.1, p.2.put (stp x t))))] := by
      rw [List.append_assoc, List.set_append_left _ _ (by rw [hlen]; exact hrl), ← List.append_assoc, List.set_set, set_same hr]
    rw [e2]
    walk_at "go2"
    have g2 : (S ++ [Cell.dK (eSub (stp x t))] ++ [Cell.dK (eSub (f.map fun p => (p.1, p.2.put (stp x t))))])[S.length + 1]? = some (.dK (eSub (f.map fun p => (p.1, p.2.put (stp x t))))) := by
      have : S.length + 1 = (S ++ [Cell.dK (eSub (stp x t))]).length := by simp
      rw [this]; exact last_get
    refine ⟨_, setD_new g2 (fun q hq e => ?_) (by rw [List.length_map]; omega), ?_⟩
    · obtain ⟨q', hq', rfl⟩ := List.mem_map.mp hq
      exact hx (List.mem_map.mpr ⟨q', hq', e⟩)
    · walk_at "go2"
      refine ⟨S.length + 1, [Cell.dK (eSub (stp x t)), .dK (eSub (bnd f x t))], rfl, ?_, by omega, ?_⟩
      · have : S.length + 1 = (S ++ [Cell.dK (eSub (stp x t))]).length := by simp
        rw [this, last_set, List.append_assoc]; rfl
      · simp
end
/-! ### the invariant -/
structure NV (N : List Tm) (V : List Int) : Prop where
  clo : Clo N
  wd : ∀ u ∈ N, u.Wd 2
  vars : ∀ u ∈ N, ∀ x, u.has x → x ∈ V
  nl : N.length ≤ 90
  vl : V.length ≤ 50
structure UI (orig : List (Tm × Tm)) (N : List Tm) (V : List Int) (ws : List (Tm × Tm)) (f : List (Int × Tm)) : Prop where
  eqv : ∀ θ, Unif orig θ ↔ Unif ws θ ∧ Sat f θ
  nod : (f.map (·.1)).Nodup
  keyV : ∀ x ∈ f.map (·.1), x ∈ V
  ran : ∀ p ∈ f, ∀ x, p.2.has x → x ∈ V ∧ x ∉ f.map (·.1)
  wv : ∀ p ∈ ws, ∀ x, (p.1.has x ∨ p.2.has x) → x ∈ V ∧ x ∉ f.map (·.1)
  dag : ∀ p ∈ ws, (∃ u ∈ N, p.1 = u.put f) ∧ ∃ u ∈ N, p.2 = u.put f
  dg : Dg N f
  wd : ∀ p ∈ f, p.2.Wd 2
  pos : ∀ (i : Nat) (p : Tm × Tm), ws[i]? = some p → i + p.1.hgt ≤ 3 + N.length * (f.length + 1) ∧ i + p.2.hgt ≤ 3 + N.length * (f.length + 1)
section
variable {orig ws rest : List (Tm × Tm)} {N : List Tm} {V : List Int} {f : List (Int × Tm)} {a b t : Tm} {x : Int}
theorem UI.hgt (h : UI orig N V ws f) (hN : NV N V) {p : Tm × Tm} (hp : p ∈ ws) : p.1.hgt ≤ N.length ∧ p.2.hgt ≤ N.length := by
  obtain ⟨⟨u, hu, e1⟩, v, hv, e2⟩ := h.dag p hp
  rw [e1, e2]
  exact ⟨hgt_N hN.clo h.dg hu, hgt_N hN.clo h.dg hv⟩
theorem UI.wdW (h : UI orig N V ws f) (hN : NV N V) {p : Tm × Tm} (hp : p ∈ ws) : p.1.Wd 2 ∧ p.2.Wd 2 := by
  obtain ⟨⟨u, hu, e1⟩, v, hv, e2⟩ := h.dag p hp
  rw [e1, e2]
  exact ⟨(hN.wd u hu).put h.wd, (hN.wd v hv).put h.wd⟩
theorem UI.flen (h : UI orig N V ws f) : f.length ≤ V.length := by
  have := nodup_len (f.map (·.1)) V h.nod h.keyV
  rw [List.length_map] at this
  exact this
theorem UI.len (h : UI orig N V ws f) (hN : NV N V) : ws.length ≤ 5000 := by
  rcases Nat.eq_zero_or_pos ws.length with z | z
  · omega
  · have hl : ws.length - 1 < ws.length := by omega
    have h1 := (h.pos (ws.length - 1) _ (List.getElem?_eq_getElem hl)).1
    have h2 := h.flen
    have h3 := hN.vl
    have h4 : N.length * (f.length + 1) ≤ 90 * 51 := Nat.mul_le_mul hN.nl (by omega)
    omega
theorem UI.fhgt (h : UI orig N V ws f) (hN : NV N V) : ∀ p ∈ f, p.2.hgt ≤ N.length := fun p hp => by
  rcases h.dg p hp with e | ⟨u, hu, _, e⟩
  · cases q : p.2 with
    | v i => simp [Tm.hgt]
    | ap a b c ts => rw [q] at e; cases e
  · rw [e]; exact hgt_N hN.clo h.dg hu
theorem UI.init (hN : NV N V) (hO : ∀ p ∈ orig, p.1 ∈ N ∧ p.2 ∈ N) (hl : orig.length ≤ 3) : UI orig N V orig [] := by
  refine ⟨fun θ => ⟨fun h => ⟨h, fun p hp => by cases hp⟩, fun h => h.1⟩, List.nodup_nil, (fun x hx => by cases hx), (fun p hp => by cases hp), fun p hp x hx => ⟨?_, by simp⟩, fun p hp => ⟨⟨p.1, (hO p hp).1, (put_nil _).symm⟩, p.2, (hO p hp).2, (put_nil _).symm⟩, (fun p hp => by cases hp), (fun p hp => by cases hp), fun i p hi => ?_⟩
  · rcases hx with hx | hx
    · exact hN.vars _ (hO p hp).1 x hx
    · exact hN.vars _ (hO p hp).2 x hx
  · have hp := List.mem_of_getElem? hi
    have hd : Dg N [] := fun p hp => by cases hp
    have h1 := hgt_N hN.clo hd (hO p hp).1
    have h2 := hgt_N hN.clo hd (hO p hp).2
    rw [put_nil] at h1 h2
    have := (List.getElem?_eq_some_iff.mp hi).1
    simp only [List.length_nil]
    omega
theorem UI.drop (h : UI orig N V (rest ++ [(t, t)]) f) : UI orig N V rest f :=
  ⟨fun θ => by rw [h.eqv θ, unif_app]; exact ⟨fun z => ⟨z.1.1, z.2⟩, fun z => ⟨⟨z.1, unif_one.mpr rfl⟩, z.2⟩⟩, h.nod, h.keyV, h.ran, fun p hp => h.wv p (List.mem_append_left _ hp), fun p hp => h.dag p (List.mem_append_left _ hp), h.dg, h.wd, fun i p hi => h.pos i p (by rw [List.getElem?_append_left (List.getElem?_eq_some_iff.mp hi).1]; exact hi)⟩
theorem UI.swap (h : UI orig N V (rest ++ [(a, b)]) f) : UI orig N V (rest ++ [(b, a)]) f := by
  have hm : ∀ p ∈ rest ++ [(b, a)], p ∈ rest ++ [(a, b)] ∨ (p.2, p.1) ∈ rest ++ [(a, b)] := fun p hp => by
    rcases List.mem_append.mp hp with hp | hp
    · exact .inl (List.mem_append_left _ hp)
    · rw [List.mem_singleton] at hp; subst hp; exact .inr (by simp)
  refine ⟨fun θ => ?_, h.nod, h.keyV, h.ran, fun p hp x hx => ?_, fun p hp => ?_, h.dg, h.wd, fun i p hi => ?_⟩
  · rw [h.eqv θ, unif_app, unif_app, unif_one, unif_one, eq_comm (a := a.sb θ)]
  · rcases hm p hp with q | q
    · exact h.wv p q x hx
    · exact h.wv _ q x hx.symm
  · rcases hm p hp with q | q
    · exact h.dag p q
    · exact (h.dag _ q).symm
  · rcases Nat.lt_or_ge i rest.length with q | q
    · rw [List.getElem?_append_left q] at hi
      exact h.pos i p (by rw [List.getElem?_append_left q]; exact hi)
    · rw [List.getElem?_append_right q] at hi
      have hi0 : i - rest.length = 0 := by
        have := (List.getElem?_eq_some_iff.mp hi).1
        simp at this; omega
      rw [hi0] at hi
      have e : p = (b, a) := by simpa using hi.symm
      have := h.pos i (a, b) (by rw [List.getElem?_append_right q, hi0]; rfl)
      rw [e]
      exact this.symm
theorem stp_has {u : Tm} {y : Int} (h : (u.put (stp x t)).has y) : (u.has y ∧ y ≠ x) ∨ t.has y := by
  rw [put_sb, has_sb] at h
  obtain ⟨z, h1, h2⟩ := h
  rw [stp_at] at h2
  by_cases e : x = z
  · rw [if_pos e] at h2; exact .inr h2
  · rw [if_neg e, has_v] at h2
    subst h2
    exact .inl ⟨h1, fun q => e q.symm⟩
theorem bnd_keys : (bnd f x t).map (·.1) = f.map (·.1) ++ [x] := by
  unfold bnd
  rw [List.map_append, List.map_map]
  rfl
theorem bnd_len : (bnd f x t).length = f.length + 1 := by
  unfold bnd
  rw [List.length_append, List.length_map, List.length_singleton]
theorem UI.bind (hN : NV N V) (h : UI orig N V (rest ++ [(.v x, t)]) f) (hx : ¬ t.has x) : UI orig N V (ppW (stp x t) rest) (bnd f x t) := by
  have hlast : ((.v x, t) : Tm × Tm) ∈ rest ++ [(.v x, t)] := by simp
  have hxv := h.wv _ hlast x (.inl (has_v.mpr rfl))
  have htv : ∀ y, t.has y → y ∈ V ∧ y ∉ f.map (·.1) := fun y hy => h.wv _ hlast y (.inr hy)
  have htd : t.isV = true ∨ ∃ u ∈ N, u.isV = false ∧ t = u.put f := by
    obtain ⟨_, u, hu, e⟩ := h.dag _ hlast
    rw [show t = u.put f from e]
    exact dg_at h.dg hu
  have hdg := dg_bnd h.dg htd hx
  have hwt : t.Wd 2 := (h.wdW hN hlast).2
  have hwd : ∀ p ∈ bnd f x t, p.2.Wd 2 := fun p hp => by
    rcases List.mem_append.mp hp with hp | hp
    · obtain ⟨q, hq, rfl⟩ := List.mem_map.mp hp
      exact (h.wd q hq).put fun z hz => by rw [stp, List.mem_singleton] at hz; subst hz; exact hwt
    · rw [List.mem_singleton] at hp; subst hp; exact hwt
  have hnx : ∀ y, y ∉ f.map (·.1) → y ≠ x → y ∉ (bnd f x t).map (·.1) := fun y h1 h2 h3 => by
    rw [bnd_keys, List.mem_append, List.mem_singleton] at h3
    exact h3.elim h1 h2
  have hst : ∀ {u : Tm} {y : Int}, (∀ z, u.has z → z ∈ V ∧ z ∉ f.map (·.1)) → (u.put (stp x t)).has y → y ∈ V ∧ y ∉ (bnd f x t).map (·.1) := fun {u y} hu hy => by
    rcases stp_has hy with ⟨h1, h2⟩ | h1
    · exact ⟨(hu y h1).1, hnx y (hu y h1).2 h2⟩
    · exact ⟨(htv y h1).1, hnx y (htv y h1).2 fun e => hx (e ▸ h1)⟩
  refine ⟨fun θ => ?_, ?_, ?_, fun p hp y hy => ?_, fun p hp y hy => ?_, fun p hp => ?_, hdg, hwd, fun i p hi => ?_⟩
  · rw [h.eqv θ, unif_app, unif_one, sb_v, sat_bnd]
    constructor
    · rintro ⟨⟨h1, h2⟩, h3⟩
      exact ⟨(unif_stp h2).mpr h1, h3, h2⟩
    · rintro ⟨h1, h3, h2⟩
      exact ⟨⟨(unif_stp h2).mp h1, h2⟩, h3⟩
  · rw [bnd_keys, List.nodup_append]
    exact ⟨h.nod, by simp, fun y hy z hz e => by rw [List.mem_singleton] at hz; exact hxv.2 (by rw [← hz, ← e]; exact hy)⟩
  · intro y hy
    rw [bnd_keys, List.mem_append, List.mem_singleton] at hy
    rcases hy with hy | rfl
    · exact h.keyV y hy
    · exact hxv.1
  · rcases List.mem_append.mp hp with hp | hp
    · obtain ⟨q, hq, rfl⟩ := List.mem_map.mp hp
      exact hst (fun z hz => h.ran q hq z hz) hy
    · rw [List.mem_singleton] at hp; subst hp
      exact ⟨(htv y hy).1, hnx y (htv y hy).2 fun e => hx (e ▸ hy)⟩
  · obtain ⟨q, hq, rfl⟩ := List.mem_map.mp hp
    have hq' := List.mem_append_left [((.v x, t) : Tm × Tm)] hq
    rcases hy with hy | hy
    · exact hst (fun z hz => h.wv q hq' z (.inl hz)) hy
    · exact hst (fun z hz => h.wv q hq' z (.inr hz)) hy
  · obtain ⟨q, hq, rfl⟩ := List.mem_map.mp hp
    obtain ⟨⟨u, hu, e1⟩, v, hv, e2⟩ := h.dag q (List.mem_append_left _ hq)
    exact ⟨⟨u, hu, by show q.1.put (stp x t) = _; rw [e1, put_bnd]⟩, v, hv, by show q.2.put (stp x t) = _; rw [e2, put_bnd]⟩
  · have hi' := hi
    unfold ppW at hi'
    rw [List.getElem?_map] at hi'
    obtain ⟨q, hq, e⟩ := Option.map_eq_some_iff.mp hi'
    have hlt := (List.getElem?_eq_some_iff.mp hq).1
    have hpos := h.pos i q (by rw [List.getElem?_append_left hlt]; exact hq)
    have hqm := List.mem_append_left [((.v x, t) : Tm × Tm)] (List.mem_of_getElem? hq)
    obtain ⟨⟨u, hu, e1⟩, v, hv, e2⟩ := h.dag q hqm
    have b1 := hgt_N hN.clo hdg hu
    have b2 := hgt_N hN.clo hdg hv
    rw [← put_bnd, ← e1] at b1
    rw [← put_bnd, ← e2] at b2
    rw [← e, bnd_len]
    have : N.length * (f.length + 1 + 1) = N.length * (f.length + 1) + N.length := by rw [Nat.mul_add, Nat.mul_one]
    rw [this]
    show i + (q.1.put (stp x t)).hgt ≤ _ ∧ i + (q.2.put (stp x t)).hgt ≤ _
    omega
theorem UI.dec (hN : NV N V) {k1 k2 k3 : Int} {ts us : List Tm} (h : UI orig N V (rest ++ [(.ap k1 k2 k3 ts, .ap k1 k2 k3 us)]) f) (hl : ts.length = us.length) : UI orig N V (rest ++ ts.zip us) f := by
  have hlast : ((.ap k1 k2 k3 ts, .ap k1 k2 k3 us) : Tm × Tm) ∈ rest ++ [(.ap k1 k2 k3 ts, .ap k1 k2 k3 us)] := by simp
  have hz : ∀ p ∈ ts.zip us, p.1 ∈ ts ∧ p.2 ∈ us := fun p hp => ⟨(List.of_mem_zip hp).1, (List.of_mem_zip hp).2⟩
  have sub : ∀ {u : Tm} {ts : List Tm}, u ∈ N → (Tm.ap k1 k2 k3 ts) = u.put f → ∀ t ∈ ts, ∃ v ∈ N, t = v.put f := fun {u ts} hu e t ht => by
    rcases dg_at h.dg hu with q | ⟨v, hv, q1, q2⟩
    · rw [← e] at q; cases q
    · cases v with
      | v i => cases q1
      | ap c1 c2 c3 vs =>
        rw [← e, put_ap] at q2
        simp only [Tm.ap.injEq] at q2
        rw [q2.2.2.2] at ht
        obtain ⟨w, hw, rfl⟩ := List.mem_map.mp ht
        exact ⟨w, hN.clo _ _ _ _ hv w hw, rfl⟩
  have hwd := h.wdW hN hlast
  have hts : ts.length ≤ 2 := by cases hwd.1 with | ap q _ => exact q
  refine ⟨fun θ => ?_, h.nod, h.keyV, h.ran, fun p hp x hx => ?_, fun p hp => ?_, h.dg, h.wd, fun i p hi => ?_⟩
  · rw [h.eqv θ, unif_app, unif_app, unif_one, unif_ap hl]
  · rcases List.mem_append.mp hp with hp | hp
    · exact h.wv p (List.mem_append_left _ hp) x hx
    · refine h.wv _ hlast x (hx.imp (fun q => has_ap.mpr ⟨_, (hz p hp).1, q⟩) fun q => has_ap.mpr ⟨_, (hz p hp).2, q⟩)
  · rcases List.mem_append.mp hp with hp | hp
    · exact h.dag p (List.mem_append_left _ hp)
    · obtain ⟨⟨u, hu, e1⟩, v, hv, e2⟩ := h.dag _ hlast
      exact ⟨sub hu e1 p.1 (hz p hp).1, sub hv e2 p.2 (hz p hp).2⟩
  · rcases Nat.lt_or_ge i rest.length with q | q
    · rw [List.getElem?_append_left q] at hi
      exact h.pos i p (by rw [List.getElem?_append_left q]; exact hi)
    · rw [List.getElem?_append_right q] at hi
      have hi0 := (List.getElem?_eq_some_iff.mp hi).1
      rw [List.length_zip] at hi0
      have hm := hz p (List.mem_of_getElem? hi)
      have hp := h.pos rest.length _ (by rw [List.getElem?_append_right (Nat.le_refl _), Nat.sub_self]; rfl)
      simp only [hgt_ap] at hp
      have b1 := hgts_mem hm.1
      have b2 := hgts_mem hm.2
      omega
theorem UI.occ (h : UI orig N V (rest ++ [(.v x, t)]) f) (hx : t.has x) (hv : t.isV = false) : ∀ θ, ¬ Unif orig θ := fun θ hu => by
  have h1 := ((h.eqv θ).mp hu).1
  rw [unif_app, unif_one, sb_v] at h1
  exact sb_occ hx hv h1.2
theorem UI.clash (h : UI orig N V (rest ++ [(a, b)]) f) (hc : ∀ θ, a.sb θ ≠ b.sb θ) : ∀ θ, ¬ Unif orig θ := fun θ hu => by
  have h1 := ((h.eqv θ).mp hu).1
  rw [unif_app, unif_one] at h1
  exact hc θ h1.2
end
/-! ### the walk of unify -/
def ePP (p : Tm × Tm) : D := .tup [eT p.1, eT p.2]
def szW : List (Tm × Tm) → Int
  | [] => 0
  | p :: ws => p.1.size + p.2.size + szW ws
theorem szW_nn : ∀ ws, 0 ≤ szW ws
  | [] => by simp [szW]
  | p :: ws => by
    have := szW_nn ws; have h1 := size_pos p.1; have h2 := size_pos p.2
    simp only [szW]; omega
theorem szW_app : ∀ a b, szW (a ++ b) = szW a + szW b
  | [], b => by simp [szW]
  | p :: a, b => by simp only [List.cons_append, szW, szW_app a b]; omega
theorem szW_zip : ∀ ts us : List Tm, szW (ts.zip us) ≤ sizes ts + sizes us
  | [], us => by have := sizes_nn us; simp [szW, sizes]; omega
  | t :: ts, [] => by have := sizes_nn (t :: ts); simp [szW]; simp only [sizes] at *; omega
  | t :: ts, u :: us => by have := szW_zip ts us; simp only [List.zip_cons_cons, szW, sizes]; omega
theorem has_occ' {x : Int} (t : Tm) : t.has x ↔ 0 < t.occ x := by
  have nn : ∀ ts : List Tm, (∀ t ∈ ts, 0 ≤ t.occ x) → 0 ≤ occs x ts := fun ts => by
    induction ts with
    | nil => intro _; simp [occs]
    | cons t ts ih => intro h; have := ih fun u hu => h u (List.mem_cons_of_mem _ hu); have := h t (by simp); simp only [occs]; omega
  have key : ∀ t : Tm, 0 ≤ t.occ x ∧ (t.has x ↔ 0 < t.occ x) := fun t => by
    induction t using Tm.ind with
    | hv i =>
      rw [has_v]
      simp only [Tm.occ]
      split <;> (rename_i h; simp [h])
    | ha a b c ts ih =>
      rw [has_ap]
      simp only [Tm.occ]
      refine ⟨nn ts fun t ht => (ih t ht).1, ?_⟩
      induction ts with
      | nil => simp [occs]
      | cons t ts ih2 =>
        have a1 := ih t (by simp)
        have a2 := ih2 fun u hu => ih u (List.mem_cons_of_mem _ hu)
        have a3 := nn ts fun u hu => (ih u (List.mem_cons_of_mem _ hu)).1
        simp only [List.mem_cons, exists_eq_or_imp, occs]
        rw [a1.2, a2]
        omega
  exact (key t).2
abbrev UIm (V : List Int) (ws : List (Tm × Tm)) (f : List (Int × Tm)) : Nat × Nat := (V.length - f.length, (szW ws).toNat)
theorem eS_zip (ts us : List Tm) : ((ts.map eT).zip (us.map eT)).map (fun p => D.tup [p.1, p.2]) = (ts.zip us).map ePP := by
  rw [List.zip_map, List.map_map]
  rfl
section
variable {prog : Nat → Option Fb} (hp : ∀ j fb, lZl0[j]? = some fb → prog (0 + j) = some fb) (hp1 : ∀ j fb, lZl1[j]? = some fb → prog (1000 + j) = some fb) (hp2 : ∀ j fb, lZl2[j]? = some fb → prog (2000 + j) = some fb) (hp5 : ∀ j fb, lZl5[j]? = some fb → prog (5000 + j) = some fb) {k : Nat} {S : Sto}
variable {orig : List (Tm × Tm)} {N : List Tm} {V : List Int}
include hp hp1 hp2
theorem un_step (hN : NV N V) {pr : D} {r1 r2 : Nat} {ws : List (Tm × Tm)} {f : List (Int × Tm)} {T : Sto} {o3 o4 o5 o6 o7 : Option D} (h1 : S.length ≤ r1) (h2 : S.length ≤ r2) (hne : r1 ≠ r2)
    (hu : UI orig N V ws f) (g1 : (S ++ T)[r1]? = some (.lst (ws.map ePP))) (g2 : (S ++ T)[r2]? = some (.dK (eSub f))) (hpos : ws ≠ [])
    {QS : Fl → Sto → Prop} (hI : ∀ (ws' : List (Tm × Tm)) (f' : List (Int × Tm)) (r1' r2' : Nat) (T' : Sto) (o3 o4 o5 o6 o7 : Option D), S.length ≤ r1' → S.length ≤ r2' → r1' ≠ r2' → UI orig N V ws' f' → (S ++ T')[r1']? = some (.lst (ws'.map ePP)) → (S ++ T')[r2']? = some (.dK (eSub f')) → Prod.Lex (· < ·) (· < ·) (UIm V ws' f') (UIm V ws f) → QS (.nx [some pr, some (.ref r1'), some (.ref r2'), o3, o4, o5, o6, o7]) (S ++ T') ∧ QS (.ct [some pr, some (.ref r1'), some (.ref r2'), o3, o4, o5, o6, o7]) (S ++ T'))
    (hF : ∀ T', (∀ θ, ¬ Unif orig θ) → QS (.rt .non) (S ++ T')) : wp ((mSeq (mAsg (mgTup 2 (mgCons (mgN 3) (mgCons (mgN 4) mgNil))) (mPop (mVar 1)))
    (mSeq (mIfS (mBool (mOpO fEq (oD (mVar 3)) (oD (mVar 4)))) mCont mSkip)
    (mSeq (mIfS (mAndT (mTru (mCall (run prog ((k+99)) 3) (mCons (mVar 4) mNil))) (mNotT (mTru (mCall (run prog ((k+99)) 3) (mCons (mVar 3) mNil))))) (mPar 3 4 (mCons (mVar 4) (mCons (mVar 3) mNil))) mSkip)
    (mIfS (mTru (mCall (run prog ((k+99)) 3) (mCons (mVar 3) mNil))) (mSeq (mIfS (mBool (mOp fGt (mCall (run prog ((k+99)) 6) (mCons (mVar 4) (mCons (mVar 3) mNil))) (mC (.int 0)))) (mRet (mC .non)) mSkip)
    (mSeq (mSet 5 (mDisp1 (mVar 3) (mVar 4)))
    (mSeq (mSetL 1 (mComp (mSrc (oD (mVar 1))) [6, 7] (mgTup 2 (mgCons (mgN 6) (mgCons (mgN 7) mgNil))) mYes (mTup (mCons (mCall (run prog ((k+99)) 1000) (mCons (mVar 6) (mCons (mVar 5) mNil))) (mCons (mCall (run prog ((k+99)) 1000) (mCons (mVar 7) (mCons (mVar 5) mNil))) mNil)))))
    (mSet 2 (mCall (run prog ((k+99)) 2015) (mCons (mVar 2) (mCons (mVar 3) (mCons (mVar 4) mNil)))))))) (mIfS (mOrT (mBool (mOpO fNe (oD (mOp ixF (mVar 3) (mC (.int 0)))) (oD (mOp ixF (mVar 4) (mC (.int 0)))))) (mBool (mOpO fNe (oD (mFn1 fLen (oD (mOp ixF (mVar 3) (mC (.int 1)))))) (oD (mFn1 fLen (oD (mOp ixF (mVar 4) (mC (.int 1))))))))) (mRet (mC .non)) (mSet 1 (mAlloc (mCatL (oD (mVar 1)) (oN (mLZip (mOp ixF (mVar 3) (mC (.int 1))) (mOp ixF (mVar 4) (mC (.int 1))))))))))))) [some pr, some (.ref r1), some (.ref r2), o3, o4, o5, o6, o7] (S ++ T)) QS := by
  obtain ⟨rest, ab, rfl⟩ : ∃ rest ab, ws = rest ++ [ab] := ⟨ws.dropLast, ws.getLast hpos, (List.dropLast_concat_getLast hpos).symm⟩
  obtain ⟨a, b⟩ := ab
  have hh := hu.hgt hN (p := (a, b)) (by simp)
  have hnl := hN.nl
  have ha : a.hgt ≤ 90 := by have := hh.1; simp only at this; omega
  have hb : b.hgt ≤ 90 := by have := hh.2; simp only at this; omega
  refine wp_seq (wp_asg ?_)
  refine wp_pop ?_
  walk_at "go2"
  refine ⟨_, _, ePP (a, b), rfl, g1, by simp, ?_⟩
  obtain ⟨T1, hT1, g1', g2'⟩ : ∃ T1, (S ++ T).set r1 (.lst ((rest ++ [(a, b)]).map ePP).dropLast) = S ++ T1 ∧ (S ++ T1)[r1]? = some (.lst (rest.map ePP)) ∧ (S ++ T1)[r2]? = some (.dK (eSub f)) := by
    have e1 : (S ++ T).set r1 (.lst ((rest ++ [(a, b)]).map ePP).dropLast) = S ++ T.set (r1 - S.length) (.lst (rest.map ePP)) := by
      rw [List.map_append, List.map_cons, List.map_nil, List.dropLast_concat, List.set_append_right _ _ h1]
    refine ⟨_, e1, ?_, ?_⟩
    · rw [← e1, set_get g1, List.map_append, List.map_cons, List.map_nil, List.dropLast_concat]
    · rw [← e1, List.getElem?_set_ne hne]; exact g2
  rw [hT1]
  clear hT1 g1 g2
  have hr1 : r1 < (S ++ T1).length := (List.getElem?_eq_some_iff.mp g1').1
  have hr2 : r2 < (S ++ T1).length := (List.getElem?_eq_some_iff.mp g2').1
  have hlS : S.length ≤ (S ++ T1).length := by rw [List.length_append]; omega
  have hsz : szW rest + (a.size + b.size) = szW (rest ++ [(a, b)]) := by rw [szW_app]; simp only [szW]; omega
  have hsr := szW_nn rest
  have ps1 := size_pos a; have ps2 := size_pos b
  -- binding
  have hB : ∀ (x : Int) (t : Tm), t ≠ .v x → t.hgt ≤ 90 → UI orig N V (rest ++ [(.v x, t)]) f → wp ((mIfS (mTru (mCall (run prog ((k+99)) 3) (mCons (mVar 3) mNil))) (mSeq (mIfS (mBool (mOp fGt (mCall (run prog ((k+99)) 6) (mCons (mVar 4) (mCons (mVar 3) mNil))) (mC (.int 0)))) (mRet (mC .non)) mSkip)
    (mSeq (mSet 5 (mDisp1 (mVar 3) (mVar 4)))
    (mSeq (mSetL 1 (mComp (mSrc (oD (mVar 1))) [6, 7] (mgTup 2 (mgCons (mgN 6) (mgCons (mgN 7) mgNil))) mYes (mTup (mCons (mCall (run prog ((k+99)) 1000) (mCons (mVar 6) (mCons (mVar 5) mNil))) (mCons (mCall (run prog ((k+99)) 1000) (mCons (mVar 7) (mCons (mVar 5) mNil))) mNil)))))
    (mSet 2 (mCall (run prog ((k+99)) 2015) (mCons (mVar 2) (mCons (mVar 3) (mCons (mVar 4) mNil)))))))) (mIfS (mOrT (mBool (mOpO fNe (oD (mOp ixF (mVar 3) (mC (.int 0)))) (oD (mOp ixF (mVar 4) (mC (.int 0)))))) (mBool (mOpO fNe (oD (mFn1 fLen (oD (mOp ixF (mVar 3) (mC (.int 1)))))) (oD (mFn1 fLen (oD (mOp ixF (mVar 4) (mC (.int 1))))))))) (mRet (mC .non)) (mSet 1 (mAlloc (mCatL (oD (mVar 1)) (oN (mLZip (mOp ixF (mVar 3) (mC (.int 1))) (mOp ixF (mVar 4) (mC (.int 1)))))))))) [some pr, some (.ref r1), some (.ref r2), some (.int x), some (eT t), o5, o6, o7] (S ++ T1)) QS := fun x t hne' htt hu' => by
    walk_at "go2"
    refine wp_eq (r_isvar hp (k := k + 98) (.v x)) ?_
    walk_at "go2"
    refine way_eq rfl ?_
    walk_at "go2"
    refine wp_eq (r_occ hp x t (k := k + 97) (by omega) _) ?_
    walk_at "go2"
    refine way_dec (fun ho => ?_) fun ho => ?_
    · walk_at "go2"
      refine hF T1 (hu'.occ ((has_occ' t).mpr ho) ?_)
      cases t with
      | v i =>
        exfalso
        have := (has_occ' (.v i)).mpr ho
        rw [has_v] at this
        exact hne' (by rw [this])
      | ap a b c ts => rfl
    · have hnt : ¬ t.has x := fun q => ho ((has_occ' t).mp q)
      have hxn : x ∉ f.map (·.1) := (hu'.wv (.v x, t) (by simp) x (.inl (has_v.mpr rfl))).2
      walk_at "go2"
      refine wp_disp1 ?_
      walk_at "go2"
      refine ⟨.inl x, last_get, rfl, ?_⟩
      rw [last_set]
      have gd : (S ++ T1 ++ [Cell.dK [(.inl x, eT t)]])[(S ++ T1).length]? = some (.dK (eSub (stp x t))) := last_get
      have g3 : (S ++ T1 ++ [Cell.dK [(.inl x, eT t)]])[r1]? = some (.lst (rest.map ePP)) := old_get g1'
      have g4 : (S ++ T1 ++ [Cell.dK [(.inl x, eT t)]])[r2]? = some (.dK (eSub f)) := old_get g2'
      have hlen := hu'.len hN
      rw [List.length_append, List.length_singleton] at hlen
      generalize hS2 : S ++ T1 ++ [Cell.dK [(Sum.inl x, eT t)]] = S2 at *
      walk_at "go2"
      refine ⟨by rw [List.length_map]; omega, wp_mapE ePP rest ePP (fun p => (p.1.put (stp x t), p.2.put (stp x t))) rfl g3 (fun p hpm => ?_) ?_⟩
      · have hpp := List.mem_append_left [((.v x, t) : Tm × Tm)] hpm
        have b1 := hu'.hgt hN hpp
        have b2 := hu'.wdW hN hpp
        have c1 := r_put hp hp1 (s := stp x t) (r := (S ++ T1).length) p.1 (k := k + 97) (by omega) (Wd.mono (by decide) b2.1) _ gd
        have c2 := r_put hp hp1 (s := stp x t) (r := (S ++ T1).length) p.2 (k := k + 97) (by omega) (Wd.mono (by decide) b2.2) _ gd
        unfold ePP
        walk_at "go2"
        refine wp_eq c1 ?_
        walk_at "go2"
        refine wp_eq c2 ?_
        walk_at "go2"
      · have hfl := hu'.flen
        have hvl := hN.vl
        have e := r_bind hp hp1 hp2 (k := k + 96) (S := S2 ++ [Cell.lst ((rest.map fun p => (p.1.put (stp x t), p.2.put (stp x t))).map ePP)]) (f := f) (x := x) (t := t) (r := r2) (old_get g4) hu'.nod hxn (by omega) (fun p hpm => ⟨by have := hu'.fhgt hN p hpm; omega, Wd.mono (by decide) (hu'.wd p hpm)⟩)
        walk_at "go2"
        refine wp_eq e ?_
        walk_at "go2"
        have hub := hu'.bind hN hnt
        have hfl2 := hub.flen
        rw [bnd_len] at hfl2
        have el2 : (S2 ++ [Cell.lst ((rest.map fun p => (p.1.put (stp x t), p.2.put (stp x t))).map ePP)]).length = S2.length + 1 := by simp
        have hl2 : S.length ≤ S2.length := by rw [← hS2]; simp
        have eT : S2 ++ [Cell.lst ((rest.map fun p => (p.1.put (stp x t), p.2.put (stp x t))).map ePP)] ++ [Cell.dK (eSub (bnd f x t))] = S ++ (T1 ++ [Cell.dK [(Sum.inl x, Zi.eT t)]] ++ [Cell.lst ((rest.map fun p => (p.1.put (stp x t), p.2.put (stp x t))).map ePP)] ++ [Cell.dK (eSub (bnd f x t))]) := by
          rw [← hS2]; simp only [List.append_assoc]
        have q1 : (S2 ++ [Cell.lst ((rest.map fun p => (p.1.put (stp x t), p.2.put (stp x t))).map ePP)] ++ [Cell.dK (eSub (bnd f x t))])[S2.length]? = some (.lst ((ppW (stp x t) rest).map ePP)) := by
          rw [List.append_assoc]; exact last_get'
        have q2 : (S2 ++ [Cell.lst ((rest.map fun p => (p.1.put (stp x t), p.2.put (stp x t))).map ePP)] ++ [Cell.dK (eSub (bnd f x t))])[S2.length + 1]? = some (.dK (eSub (bnd f x t))) := by
          rw [← el2]; exact last_get
        rw [el2]
        rw [eT] at q1 q2 ⊢
        exact (hI (ppW (stp x t) rest) (bnd f x t) S2.length (S2.length + 1) _ _ _ _ _ _ hl2 (by omega) (by omega) hub q1 q2 (.left _ _ (by rw [bnd_len]; omega))).1
  have hmem : ((a, b) : Tm × Tm) ∈ rest ++ [(a, b)] := by simp
  have hwd := hu.wdW hN hmem
  show wl _ _
  unfold ePP
  walk_at "go2"
  cases hab : teq a b with
  | true =>
    have e := (teq_iff a b).mp hab
    subst e
    walk_at "go2"
    refine (hI rest f r1 r2 T1 _ _ _ _ _ h1 h2 hne hu.drop g1' g2' (.right _ (by omega))).2
  | false =>
    have hnab : a ≠ b := fun e => by rw [(teq_iff a b).mpr e] at hab; cases hab
    walk_at "go2"
    cases b with
    | v y =>
      refine way_eq rfl ?_
      walk_at "go2"
      cases a with
      | v x =>
        refine way_eq rfl ?_
        refine wp_skip (nxt_nx ?_)
        rw [eT_v x]
        exact hB x (.v y) (fun e => hnab (by rw [e])) hb hu
      | ap a1 a2 a3 ts =>
        refine way_ne rfl ?_
        refine wp_par (x := eT (.v y)) (y := eT (.ap a1 a2 a3 ts)) rfl ?_
        refine nxt_nx ?_
        rw [eT_v y]
        exact hB y (.ap a1 a2 a3 ts) (fun e => by cases e) ha hu.swap
    | ap b1 b2 b3 us =>
      refine way_ne rfl ?_
      cases a with
      | v x =>
        refine way_f (wp_skip (nxt_nx ?_))
        rw [eT_v x]
        exact hB x (.ap b1 b2 b3 us) (fun e => by cases e) hb hu
      | ap a1 a2 a3 ts =>
        clear hB
        have hw1 : ts.length ≤ 2 := by cases hwd.1 with | ap q _ => exact q
        have hw2 : us.length ≤ 2 := by cases hwd.2 with | ap q _ => exact q
        have hlen := hu.len hN
        rw [List.length_append, List.length_singleton] at hlen
        walk_at "go2"
        refine way_ne rfl ?_
        rw [eT_ap, eT_ap]
        walk_at "go2"
        refine wf_neS ?_
        walk_at "go2"
        refine way_dec (fun hs => ?_) fun hs => ?_
        · simp only [Prod.mk.injEq] at hs
          obtain ⟨rfl, rfl, rfl⟩ := hs
          walk_at "go2"
          rw [List.length_map, List.length_map]
          refine way_dec (fun hl => ?_) fun hl => ?_
          · have hl' : ts.length = us.length := by omega
            walk_at "go2"
            refine wp_catL ?_
            walk_at "go2"
            refine wp_lzip ?_
            walk_at "go2"
            refine ⟨_, rfl, ?_⟩
            walk_at "go2"
            refine ⟨_, rfl, ?_⟩
            walk_at "go2"
            refine ⟨rest.map ePP, ((ts.map Zi.eT).zip (us.map Zi.eT)).map (fun p => D.tup [p.1, p.2]), by simp only [ownO, g1'], rfl, ?_, ?_⟩
            · simp only [List.length_map, List.length_zip]; omega
            · rw [eS_zip, ← List.map_append]
              walk_at "go2"
              have eT2 : S ++ T1 ++ [Cell.lst ((rest ++ ts.zip us).map ePP)] = S ++ (T1 ++ [Cell.lst ((rest ++ ts.zip us).map ePP)]) := List.append_assoc _ _ _
              have q1 : (S ++ T1 ++ [Cell.lst ((rest ++ ts.zip us).map ePP)])[(S ++ T1).length]? = some (.lst ((rest ++ ts.zip us).map ePP)) := last_get
              have q2 : (S ++ T1 ++ [Cell.lst ((rest ++ ts.zip us).map ePP)])[r2]? = some (.dK (eSub f)) := old_get g2'
              rw [eT2] at q1 q2 ⊢
              have hz := szW_zip ts us
              rw [sz_ap, sz_ap] at hsz
              exact (hI (rest ++ ts.zip us) f (S ++ T1).length r2 _ _ _ _ _ _ hlS h2 (by omega) (hu.dec hN hl') q1 q2 (.right _ (by have e5 := szW_app rest (ts.zip us); have n5 := szW_nn (rest ++ ts.zip us); omega))).1
          · walk_at "go2"
            refine hF T1 (hu.clash fun θ e => hl (by have := (unif_clash e).2; omega))
        · walk_at "go2"
          refine hF T1 (hu.clash fun θ e => hs (by obtain ⟨⟨rfl, rfl, rfl⟩, _⟩ := unif_clash e; rfl))
include hp5
/-- what unify hands back -/
theorem r_unify (hN : NV N V) (hO : ∀ p ∈ orig, p.1 ∈ N ∧ p.2 ∈ N) (hl : orig.length ≤ 3) {pr : D} (hpr : seqO S (.d pr) = some (orig.map ePP)) :
    (∃ f, UI orig N V [] f ∧ run prog (k + 100) 5000 [pr] S = some (.ref S.length, S ++ [.dK (eSub f)])) ∨ ((∀ θ, ¬ Unif orig θ) ∧ run prog (k + 100) 5000 [pr] S = some (.non, S)) := by
  have out : wp (c_unify (run prog (k + 99)) [some pr, none, none, none, none, none, none, none] S) fun g S' => (∃ f r T, UI orig N V [] f ∧ g = .rt (.ref r) ∧ S' = S ++ T ∧ S.length ≤ r ∧ (S ++ T)[r]? = some (.dK (eSub f))) ∨ ((∀ θ, ¬ Unif orig θ) ∧ g = .rt .non ∧ ∃ T, S' = S ++ T) := by
    unfold c_unify
    walk_at "go2"
    refine ⟨_, hpr, ?_⟩
    walk_at "go2"
    have e0 : S ++ [Cell.lst (orig.map ePP)] ++ [Cell.dK []] = S ++ ([Cell.lst (orig.map ePP)] ++ [Cell.dK []]) := List.append_assoc _ _ _
    have el : (S ++ [Cell.lst (orig.map ePP)]).length = S.length + 1 := by simp
    refine wp_whileW (Prod.lex Nat.lt_wfRel Nat.lt_wfRel).wf (fun (m : Nat × Nat) l S' => ∃ (ws : List (Tm × Tm)) (f : List (Int × Tm)) (r1 r2 : Nat) (T : Sto) (o3 o4 o5 o6 o7 : Option D), S.length ≤ r1 ∧ S.length ≤ r2 ∧ r1 ≠ r2 ∧ UI orig N V ws f ∧ (S ++ T)[r1]? = some (.lst (ws.map ePP)) ∧ (S ++ T)[r2]? = some (.dK (eSub f)) ∧ m = UIm V ws f ∧ l = [some pr, some (.ref r1), some (.ref r2), o3, o4, o5, o6, o7] ∧ S' = S ++ T) (UIm V orig [])
      ⟨orig, [], S.length, S.length + 1, [Cell.lst (orig.map ePP)] ++ [Cell.dK []], none, none, none, none, none, Nat.le_refl _, by omega, by omega, UI.init hN hO hl, by rw [← e0, List.append_assoc]; exact last_get', by rw [← e0, ← el]; exact last_get, rfl, by rw [el], e0⟩ ?_
    rintro m l S' ⟨ws, f, r1, r2, T, o3, o4, o5, o6, o7, h1, h2, hne, hu, g1, g2, rfl, rfl, rfl⟩
    walk_at "go2"
    refine way_of (fun he => ?_) fun he => ?_
    · have hws : ws = [] := by simpa using he
      subst hws
      walk_at "go2"
      exact .inl ⟨f, r2, T, hu, rfl, rfl, h2, g2⟩
    · have hws : ws ≠ [] := by simpa using he
      refine un_step hp hp1 hp2 hN h1 h2 hne hu g1 g2 hws (fun ws' f' r1' r2' T' o3 o4 o5 o6 o7 q1 q2 q3 q4 q5 q6 q7 => ⟨?_, ?_⟩) fun T' hf => ?_
      · exact ⟨_, q7, ws', f', r1', r2', T', _, _, _, _, _, q1, q2, q3, q4, q5, q6, rfl, rfl, rfl⟩
      · exact ⟨_, q7, ws', f', r1', r2', T', _, _, _, _, _, q1, q2, q3, q4, q5, q6, rfl, rfl, rfl⟩
      · exact .inr ⟨hf, rfl, T', rfl⟩
  obtain ⟨g, S', e, h⟩ := out
  rcases h with ⟨f, r, T, hu, rfl, rfl, h1, h2⟩ | ⟨hf, rfl, T, rfl⟩
  · left
    refine ⟨f, hu, ?_⟩
    exact run_own (c := .dK (eSub f)) (k := k + 99) (n := 1) (j := 8) (hp5 0 _ rfl) rfl (show cellLt S.length (.dK (eSub _)) = true from refLt_eSub _) ⟨_, _, e, r, T, rfl, rfl, h1, h2⟩
  · right
    exact ⟨hf, run_more (k := k + 99) (n := 1) (j := 8) (T := T) (hp5 0 _ rfl) rfl e refLt_non⟩
end
end Zi
set_option maxRecDepth 100000
set_option maxHeartbeats 1000000
/-! unification: what the laws about it share -/
namespace Zi
open PySem L2
local macro_rules | `(tactic| walk_at "dec") => `(tactic| first | decide | omega | assumption)
local macro_rules | `(tactic| walk_at "g1") => `(tactic| first
  | ((with_reducible apply wp_var); (focus (exact rfl)))
  | with_reducible refine wp_c ?_
  | with_reducible refine wp_op ?_
  | with_reducible refine wp_oD ?_
  | with_reducible refine wp_cons ?_
  | with_reducible refine wp_nil ?_
  | ((with_reducible refine nxt_nx ?_); (try dsimp only [List.set_cons_zero, List.set_cons_succ]))
  | with_reducible refine wp_seq ?_
  | with_reducible refine wp_set ?_
  | with_reducible refine wp_ret ?_
  | with_reducible refine nxt_rt ?_
  | with_reducible refine wp_call ?_
  | with_reducible refine wp_opO ?_
  | with_reducible refine wp_bool ?_
  | with_reducible refine isB_bl ?_
  | with_reducible refine wp_ifS ?_
  | with_reducible refine way_t ?_
  | with_reducible refine way_f ?_
  | with_reducible refine way_not ?_
  | ((with_reducible apply wf_ixT); (focus (first | exact atI_0 | exact atI_1 | exact atI_2 | exact atI_3 | exact atI_4 | exact atI_5 | exact atI_6 | exact atI_7 | exact atI_8 | exact atI_9 | assumption)))
  | with_reducible refine wp_fn1 ?_
  | with_reducible refine wf_int ?_
  | with_reducible refine wf_add ?_
  | with_reducible refine wf_sub ?_
  | ((with_reducible refine wf_mod ?_ ?_); (focus (exact modC_r (by walk_at "dec"))))
  | ((with_reducible refine wf_div ?_ ?_); (focus (exact divC_r (by walk_at "dec"))))
  | ((with_reducible refine wf_mul ?_ ?_); (focus (exact mulC_r (by walk_at "dec"))))
  | ((with_reducible refine wf_mul ?_ ?_); (focus (exact mulC_l (by walk_at "dec"))))
  | with_reducible refine wf_eqI ?_
  | with_reducible refine wf_neI ?_
  | ((with_reducible refine wf_pow ?_ ?_); (focus (decide)))
  | with_reducible refine wf_lt ?_
  | with_reducible refine wf_le ?_
  | with_reducible refine wf_gt ?_
  | with_reducible refine wf_ge ?_
  | with_reducible refine wf_eqB ?_
  | with_reducible refine wf_neB ?_
  | with_reducible refine wp_tup ?_
  | ((with_reducible refine shrt_of ?_ ?_); (focus (exact Nat.le_of_ble_eq_true (by exact rfl))))
  | with_reducible refine wp_tru ?_
  | with_reducible refine tru_bl ?_
  | with_reducible refine tru_int ?_
  | with_reducible refine tru_non ?_
  | with_reducible refine tru_tup ?_
  | ((with_reducible apply tru_lst); (focus (first | assumption | exact last_get)))
  | with_reducible refine wp_notT ?_
  | with_reducible refine wp_andT ?_
  | with_reducible refine wp_orT ?_
  | with_reducible refine wp_and ?_
  | with_reducible refine wp_or ?_
  | with_reducible refine wp_not ?_
  | with_reducible refine wp_if ?_
  | with_reducible refine wp_skip ?_
  | with_reducible refine wp_drop ?_
  | with_reducible refine wp_break ?_
  | with_reducible refine wp_cont ?_
  | with_reducible refine nxt_bk ?_
  | with_reducible refine nxt_ct ?_
  | with_reducible refine wp_alloc ?_
  | with_reducible refine wp_lst ?_
  | with_reducible refine wp_oN ?_
  | with_reducible refine wp_oS ?_
  | with_reducible refine valO_d ?_
  | with_reducible refine valO_n ?_
  | with_reducible refine wp_setL ?_
  | with_reducible refine wf_lenT ?_
  | with_reducible refine wf_lenN ?_
  | with_reducible refine wf_lenS ?_
  | ((with_reducible apply wf_lenL); (focus (first | assumption | exact last_get)))
  | with_reducible refine wf_tupcT ?_
  | with_reducible refine wf_tupcN ?_
  | ((with_reducible apply wf_tupcL); (focus (first | assumption | exact last_get)))
  | with_reducible refine wp_for ?_
  | with_reducible refine wp_src ?_
  | with_reducible refine src_tupK ?_
  | with_reducible refine src_nK ?_
  | with_reducible refine src_slK ?_
  | ((with_reducible apply src_lstK); (focus (first | assumption | exact last_get)))
  | with_reducible refine wp_asg ?_
  | with_reducible refine wl_n ?_
  | ((with_reducible refine wl_tup ?_ ?_); (focus (exact rfl)))
  | with_reducible refine wl_cons ?_
  | with_reducible refine wl_nil ?_
  | ((with_reducible apply wp_aug); (focus (exact rfl)))
  | with_reducible refine wf_iadd ?_
  | with_reducible refine wp_isN ?_
  | with_reducible refine wp_notN ?_
  | with_reducible refine wp_isI ?_
  | ((with_reducible apply isI_t); (focus (exact rfl)); (focus (decide)))
  | ((with_reducible apply isI_f); (focus (exact rfl)); (focus (decide)))
  | with_reducible refine loopK_nx ?_
  | with_reducible refine loopK_ct ?_
  | with_reducible refine loopK_bk ?_
  | with_reducible refine loopK_rt ?_
  | with_reducible refine wp_enum ?_
  | with_reducible refine wp_lisc ?_
  | with_reducible refine wp_comp ?_
  | with_reducible refine wp_neg ?_
  | with_reducible refine wp_dnewK ?_
  | with_reducible refine wp_dnewT ?_
  | with_reducible refine wp_get2 ?_
  | with_reducible refine wp_get1 ?_
  | with_reducible refine wp_setD ?_
  | with_reducible refine wp_app ?_
  | with_reducible refine wp_rev ?_
  | with_reducible refine wp_dcopy ?_
  | with_reducible exact ⟨rfl, rfl⟩)
local macro_rules | `(tactic| walk_at "g2") => `(tactic| first
  | walk_at "g1"
  | with_reducible refine wf_ixA0 ?_
  | with_reducible refine wf_ixA1 ?_
  | with_reducible refine wf_ixS0 ?_
  | with_reducible refine wf_ixS1 ?_
  | with_reducible refine wf_ixS2 ?_
  | with_reducible refine wf_ixL0 ?_
  | with_reducible refine wf_ixL1 ?_
  | with_reducible refine wf_ixL2 ?_
  | ((with_reducible refine wf_eqT ?_ ?_ ?_); (focus (walk_at "dec")); (focus (walk_at "dec")))
  | ((with_reducible refine wf_neT ?_ ?_ ?_); (focus (walk_at "dec")); (focus (walk_at "dec")))
  | ((with_reducible refine wf_eqLs ?_ ?_ ?_); (focus (assumption)); (focus (assumption)))
  | ((with_reducible refine wf_neLs ?_ ?_ ?_); (focus (assumption)); (focus (assumption)))
  | ((with_reducible refine wf_eqL ?_ ?_ ?_ ?_ ?_); (focus (walk_at "dec")); (focus (walk_at "dec")); (focus (walk_at "dec")); (focus (walk_at "dec")))
  | ((with_reducible refine wf_neL ?_ ?_ ?_ ?_ ?_); (focus (walk_at "dec")); (focus (walk_at "dec")); (focus (walk_at "dec")); (focus (walk_at "dec")))
  | with_reducible refine way_eq lseq_self ?_
  | with_reducible refine way_eq leq_self ?_
  | with_reducible refine way_eq (teq_self _) ?_
  | with_reducible refine isI_vi ?_
  | with_reducible refine isI_vb ?_
  | with_reducible refine isI_vt ?_
  | ((with_reducible refine wp_eq (r_isvar ?_ _) ?_); (focus (assumption)))
  | ((with_reducible refine wp_eq (r_lisvar ?_ _) ?_); (focus (assumption)))
  | ((with_reducible refine wp_eq (r_lint ?_ _) ?_); (focus (assumption)))
  | ((with_reducible refine wp_eq (run_cell ?_ _ _ ?_ _) ?_); (focus (exact rfl)); (focus (walk_at "dec"))))
local macro_rules | `(tactic| walk_at "go2") => `(tactic| repeat' (walk_at "g2"))
local macro_rules | `(tactic| walk_at "go") => `(tactic| repeat' (walk_at "g1"))
local macro_rules | `(tactic| walk_at "g3") => `(tactic| first
  | with_reducible refine wp_andP ?_
  | with_reducible refine wp_orP ?_
  | with_reducible refine wp_andB ?_
  | with_reducible refine wp_orB ?_
  | with_reducible refine ⟨rfl, rfl, ?_⟩
  | walk_at "g2")
local macro_rules | `(tactic| walk_at "go3") => `(tactic| repeat' (walk_at "g3"))

local macro_rules | `(tactic| walk_at "ev") => `(tactic| (simp only [mSeq, mSet, mRet, mIfS, mIf, mOp, mOpO, mC, mVar, mBool, mFn1, oD, oN, oS, fLen, lenO, seqO, mSkip, fAdd, fMul, fI, fI0, fLt, fLe, fGt, fGe, fSub, fMod, fDiv, fInt, ixF, mNil, mCons, mTup, mCall, mLst, mAlloc, mIsN, mNotN, isNon, mNotT, mAndT, mOrT, mTru, truD, mAsg, mgTup, mgCons, mgNil, mgN, mLisc, mIsI, tyO, isTyB, mDrop, mAug, fIadd, mMax2, mAnd, mOr, mNot, fLtT, fTupc, mApp, mulC_r, mulC_l, divC_r, modC_r, atI_0, atI_1, atI_2, fEq_int, fNe_int, fEq_bl, mSrc, srcO, eT_v, eT_ap, eS, List.length_cons, List.length_nil, Option.bind_some, Option.map_some, List.map_cons, List.map_nil, List.cons_append, List.nil_append, List.replicate, List.getElem?_cons_zero, List.getElem?_cons_succ, List.set_cons_zero, List.set_cons_succ, if_true, decide_true, Int.reduceNeg, Int.reducePow, Int.reduceLT, Nat.reduceAdd, Nat.reduceSub, and_self, Nat.reduceLeDiff, Bool.false_eq_true, if_false, Bool.not_true, Bool.not_false, Int.reduceEq, decide_false, Bool.or_false, Bool.false_or, Bool.or_true, Bool.true_or, Bool.and_true, Bool.true_and, Bool.and_false, Bool.false_and, String.reduceEq, *]))
local macro_rules | `(tactic| walk_at "step") => `(tactic| (refine (Eq.trans (seq_set (by ((try walk_at "ev"); exact rfl))) ?_); simp only [List.set_cons_zero, List.set_cons_succ]))

/-! ### all terms within -/
mutual
def subs : Tm → List Tm
  | .v i => [.v i]
  | .ap a b c ts => .ap a b c ts :: subsL ts
def subsL : List Tm → List Tm
  | [] => []
  | t :: ts => subs t ++ subsL ts
end
theorem subsL_iff {u : Tm} : ∀ ts : List Tm, u ∈ subsL ts ↔ ∃ t ∈ ts, u ∈ subs t
  | [] => by simp [subsL]
  | t :: ts => by simp [subsL, subsL_iff ts]
theorem subs_self (t : Tm) : t ∈ subs t := by cases t <;> simp [subs]
theorem subs_ap {a b c : Int} {ts : List Tm} {u : Tm} : u ∈ subs (.ap a b c ts) ↔ u = .ap a b c ts ∨ ∃ t ∈ ts, u ∈ subs t := by rw [subs, List.mem_cons, subsL_iff]
theorem subs_arg {a b c : Int} {ts : List Tm} {t : Tm} (ht : t ∈ ts) (w : Tm) : Tm.ap a b c ts ∈ subs w → t ∈ subs w := by
  induction w using Tm.ind with
  | hv i => intro h; simp [subs] at h
  | ha a' b' c' us ih =>
    intro h
    rw [subs_ap] at h ⊢
    rcases h with h | ⟨u, hu, h⟩
    · cases h
      exact .inr ⟨t, ht, subs_self t⟩
    · exact .inr ⟨u, hu, ih u hu h⟩
theorem subs_wd {n : Nat} {u : Tm} (w : Tm) (h : w.Wd n) : u ∈ subs w → u.Wd n := by
  induction h with
  | v i => intro hu; simp [subs] at hu; subst hu; exact .v i
  | ap h1 h2 ih =>
    intro hu
    rw [subs_ap] at hu
    rcases hu with rfl | ⟨t, ht, hu⟩
    · exact .ap h1 h2
    · exact ih t ht hu
theorem subs_has {u : Tm} {x : Int} (w : Tm) : u ∈ subs w → u.has x → w.has x := by
  induction w using Tm.ind with
  | hv i => intro h hx; simp [subs] at h; subst h; exact hx
  | ha a b c ts ih =>
    intro h hx
    rw [subs_ap] at h
    rcases h with rfl | ⟨t, ht, h⟩
    · exact hx
    · exact has_ap.mpr ⟨t, ht, ih t ht h hx⟩
mutual
theorem subs_len : ∀ t : Tm, ((subs t).length : Int) = t.size
  | .v i => by simp [subs, Tm.size]
  | .ap a b c ts => by
    have := subsL_len ts
    simp only [subs, List.length_cons, Tm.size]; omega
theorem subsL_len : ∀ ts : List Tm, ((subsL ts).length : Int) = sizes ts
  | [] => by simp [subsL, sizes]
  | t :: ts => by
    have h1 := subs_len t
    have h2 := subsL_len ts
    simp only [subsL, List.length_append, sizes]; omega
end
def nOf : List (Tm × Tm) → List Tm
  | [] => []
  | p :: ws => subs p.1 ++ subs p.2 ++ nOf ws
theorem nOf_len : ∀ ws, ((nOf ws).length : Int) = szW ws
  | [] => by simp [nOf, szW]
  | p :: ws => by
    have h1 := subs_len p.1; have h2 := subs_len p.2; have h3 := nOf_len ws
    simp only [nOf, List.length_append, szW]; omega
theorem nOf_iff {u : Tm} : ∀ ws, u ∈ nOf ws ↔ ∃ p ∈ ws, u ∈ subs p.1 ∨ u ∈ subs p.2
  | [] => by simp [nOf]
  | p :: ws => by simp [nOf, nOf_iff ws, or_assoc]
theorem nv_mk {orig : List (Tm × Tm)} {V : List Int} (h1 : ∀ p ∈ orig, p.1.Wd 2 ∧ p.2.Wd 2) (h2 : szW orig ≤ 90) (h3 : V.length ≤ 50) (h4 : ∀ p ∈ orig, ∀ x, p.1.has x ∨ p.2.has x → x ∈ V) : NV (nOf orig) V ∧ ∀ p ∈ orig, p.1 ∈ nOf orig ∧ p.2 ∈ nOf orig := by
  refine ⟨⟨fun a b c ts hm t ht => ?_, fun u hu => ?_, fun u hu x hx => ?_, by have := nOf_len orig; omega, h3⟩, fun p hp => ⟨(nOf_iff _).mpr ⟨p, hp, .inl (subs_self _)⟩, (nOf_iff _).mpr ⟨p, hp, .inr (subs_self _)⟩⟩⟩
  · obtain ⟨p, hp, h⟩ := (nOf_iff _).mp hm
    exact (nOf_iff _).mpr ⟨p, hp, h.imp (subs_arg ht _) (subs_arg ht _)⟩
  · obtain ⟨p, hp, h⟩ := (nOf_iff _).mp hu
    exact h.elim (subs_wd _ (h1 p hp).1) (subs_wd _ (h1 p hp).2)
  · obtain ⟨p, hp, h⟩ := (nOf_iff _).mp hu
    exact h4 p hp x (h.imp (fun q => subs_has _ q hx) fun q => subs_has _ q hx)
/-! ### solved -/
section
variable {orig : List (Tm × Tm)} {N : List Tm} {V : List Int} {f : List (Int × Tm)}
theorem subOf_nd {f : List (Int × Tm)} (hn : (f.map (·.1)).Nodup) {p : Int × Tm} (hp : p ∈ f) : subOf f p.1 = some p.2 := by
  induction f with
  | nil => cases hp
  | cons q f ih =>
    rw [List.map_cons, List.nodup_cons] at hn
    unfold subOf
    rcases List.mem_cons.mp hp with rfl | hp
    · simp
    · have hne : ¬ q.1 = p.1 := fun e => hn.1 (by rw [e]; exact List.mem_map_of_mem hp)
      rw [List.find?_cons, decide_eq_false hne]
      exact ih hn.2 hp
theorem UI.idem (h : UI orig N V [] f) : ∀ p ∈ f, p.2.put f = p.2 := fun p hp => put_id _ fun i hi => .inl (suNone.mpr (h.ran p hp i hi).2)
theorem UI.self (h : UI orig N V [] f) : Sat f (asF f) := fun p hp => by
  rw [← put_sb, h.idem p hp]
  unfold asF
  rw [subOf_nd h.nod hp]
  rfl
theorem UI.solved (h : UI orig N V [] f) : Unif orig (asF f) := (h.eqv _).mpr ⟨(fun p hp => by cases hp), h.self⟩
theorem UI.solved' (h : UI orig N V [] f) : ∀ p ∈ orig, p.1.put f = p.2.put f := fun p hp => by
  rw [put_sb, put_sb]; exact h.solved p hp
end
/-! ### put of the laws -/
noncomputable def gPut (iv ip : Nat) (G : GF) : MS := (mSeq (mIfS (mTru (mCall (G iv) (mCons (mVar 0) mNil))) (mSeq (mFor (mSrc (oD (mVar 1))) (mgN 2) (mIfS (mBool (mOpO fEq (oD (mOp ixF (mVar 2) (mC (.int 0)))) (oD (mVar 0)))) (mRet (mOp ixF (mVar 2) (mC (.int 1)))) mSkip))
    (mRet (mVar 0))) mSkip)
    (mRet (mTup (mCons (mOp ixF (mVar 0) (mC (.int 0))) (mCons (mFn1 fTupc (oN (mComp (mSrc (oD (mOp ixF (mVar 0) (mC (.int 1))))) [3] (mgN 3) mYes (mCall (G ip) (mCons (mVar 3) (mCons (mVar 1) mNil)))))) mNil)))))
theorem r_gput {prog : Nat → Option Fb} {iv ip : Nat} (hv : ∀ (k : Nat) (t : Tm) (S : Sto), run prog (k + 1) iv [eT t] S = some (.bl t.isV, S)) (hip : prog ip = some (mkFb 2 4 (gPut iv ip))) {s : List (Int × Tm)} {r : Nat} (t : Tm) :
    ∀ {k : Nat}, t.hgt ≤ k → t.Wd 1000 → ∀ S : Sto, S[r]? = some (.lst (s.map ePr)) → run prog (k + 2) ip [eT t, .ref r] S = some (eT (t.put s), S) := by
  induction t using Tm.ind with
  | hv i =>
    intro k hk hw S hr
    refine run_pure (k := k + 1) hip rfl (refLt_eT _) ?_
    show wp (gPut iv ip (run prog (k + 1)) [some (eT (.v i)), some (.ref r), none, none] S) _
    unfold gPut
    walk_at "go2"
    refine wp_eq (hv k (.v i) S) ?_
    walk_at "go2"
    refine way_eq rfl ?_
    rw [eT_v]
    walk_at "go2"
    refine wp_inv ePr s (fun dn l S' => (∀ q ∈ dn, q.1 ≠ i) ∧ S' = S ∧ ∃ o2, l = [some (.int i), some (.ref r), o2, none]) rfl ⟨by simp, rfl, none, rfl⟩ (fun dn l S' h => by rw [h.2.1]; exact hr) ?_ ?_
    · rintro dn p rest l S' hall ⟨h1, rfl, o2, rfl⟩
      unfold ePr
      walk_at "go2"
      refine way_dec (fun h => ?_) fun h => ?_
      · walk_at "go2"
        refine ⟨?_, rfl⟩
        have e : subOf s i = some p.2 := by
          unfold subOf
          rw [hall, List.find?_append]
          have e1 : dn.find? (fun p => decide (p.1 = i)) = none := List.find?_eq_none.mpr fun q hq e => h1 q hq (by simpa using e)
          rw [e1]
          simp [h]
        simp only [Tm.put, e, Option.getD_some]
      · walk_at "go2"
        refine ⟨fun q hq => ?_, rfl, _, rfl⟩
        rcases List.mem_append.mp hq with hq | hq
        · exact h1 q hq
        · rw [List.mem_singleton] at hq; subst hq; exact h
    · rintro l S' ⟨h1, rfl, o2, rfl⟩
      have e : subOf s i = none := by
        unfold subOf
        rw [Option.map_eq_none_iff]
        exact List.find?_eq_none.mpr fun q hq e => h1 q hq (by simpa using e)
      walk_at "go2"
      refine ⟨?_, rfl⟩
      simp only [Tm.put, e, Option.getD_none, eT_v]
  | ha a b c ts ih =>
    intro k hk hw S hr
    rw [hgt_ap] at hk
    obtain ⟨k, rfl⟩ : ∃ k', k = k' + 1 := ⟨k - 1, by omega⟩
    cases hw with
    | ap hw1 hw2 =>
    refine run_pure (k := k + 2) hip rfl (refLt_eT _) ?_
    show wp (gPut iv ip (run prog (k + 2)) [some (eT (.ap a b c ts)), some (.ref r), none, none] S) _
    unfold gPut
    walk_at "go2"
    refine wp_eq (hv (k + 1) (.ap a b c ts) S) ?_
    walk_at "go2"
    refine way_ne rfl ?_
    rw [eT_ap]
    walk_at "go2"
    refine ⟨by rw [List.length_map]; omega, wp_mapE eT ts eT (Tm.put s) rfl trivial (fun t ht => ?_) ?_⟩
    · walk_at "go2"
      refine wp_eq (ih t ht (k := k) (Nat.le_trans (hgts_mem ht) (by omega)) (hw2 t ht) S hr) ?_
      walk_at "go2"
    · walk_at "go2"
      exact ⟨by rw [put_ap, eT_ap], rfl⟩
/-! ### variables, told by which there are -/
section
variable {prog : Nat → Option Fb} (hp : ∀ j fb, lZl0[j]? = some fb → prog (0 + j) = some fb)
include hp
theorem r_lvarsV {V : List Int} (hV : V.length ≤ 1000) (t : Tm) : ∀ {k : Nat}, t.hgt ≤ k → (∀ x, t.has x → x ∈ V) → ∀ (S : Sto) (r : Nat) (f : List Int), S[r]? = some (.lst (f.map D.int)) → f.Nodup → (∀ x ∈ f, x ∈ V) → ∃ r' T, run prog (k + 2) 15 [eT t, .ref r] S = some (.ref r', S ++ T) ∧ (S ++ T)[r']? = some (.lst ((t.vars f).map D.int)) := by
  induction t using Tm.ind with
  | hv i =>
    intro k hk hx S r f hr hn hf
    have hl := nodup_len f V hn hf
    have h1 := t_lisv hp (k := k) (S := S) (l := [some (eT (.v i)), some (.ref r), none]) (i := 0) rfl
    have h2 := fNin_ints (i := i) hr
    unfold Tm.vars
    by_cases hi : i ∈ f
    · rw [if_pos hi]
      refine ⟨r, [], ?_, by rw [List.append_nil]; exact hr⟩
      rw [List.append_nil]
      refine call_pure (hp 15 _ rfl) rfl ?_ (by simp [refLt, (List.getElem?_eq_some_iff.mp hr).1])
      show c__law_variables (run prog (k + 1)) [some (eT (.v i)), some (.ref r), none] S = _
      unfold c__law_variables
      rw [seq_ifT (S1 := S) h1]
      clear h1
      walk_at "ev"
    · rw [if_neg hi]
      refine ⟨S.length, [.lst ((f ++ [i]).map D.int)], ?_, last_get⟩
      refine run_list (T := []) (hp 15 _ rfl) rfl ?_ (refLtL_ints _)
      show c__law_variables (run prog (k + 1)) [some (eT (.v i)), some (.ref r), none] S = _
      unfold c__law_variables
      rw [seq_ifT (S1 := S) h1]
      clear h1
      have hcat := catL_of (a := oD (mVar 1)) (b := oN (mLst (mCons (mVar 0) mNil))) (l := [some (.int i), some (.ref r), none]) (S := S) (ys := [.int i]) rfl hr rfl (by rw [List.length_map, List.length_singleton]; omega)
      rw [List.map_append]
      walk_at "ev"
  | ha a b c ts ih =>
    intro k hk hx S r f hr hn hf
    rw [hgt_ap] at hk
    obtain ⟨k, rfl⟩ : ∃ k', k = k' + 1 := ⟨k - 1, by omega⟩
    have h1 := t_lisv hp (k := k + 1) (S := S) (l := [some (eT (.ap a b c ts)), some (.ref r), none]) (i := 0) rfl
    obtain ⟨l', S', h3, r1, T1, o, h4, h5, h6⟩ := forL_inv (ok := fun _ => True) (tg := mgN 2) (body := mSet 1 (mCall (run prog (k + 2) 15) (mCons (mVar 2) (mCons (mVar 1) mNil)))) eT (fun dn l S' => ∃ r1 T1 o, l = [some (eT (.ap a b c ts)), some (.ref r1), o] ∧ S' = S ++ T1 ∧ S'[r1]? = some (.lst ((varsL dn f).map D.int))) (fun _ _ _ _ => trivial) ts (fun dn x rest l S' hall ⟨r1, T1, o, hl, hS, hg⟩ => by
      subst hl hS
      have hxm : x ∈ ts := by rw [hall]; simp
      have hV2 : ∀ y ∈ varsL dn f, y ∈ V := fun y hy => ((mem_varsL _ _).mp hy).elim (hf y) fun z => by
        obtain ⟨u, hu, z⟩ := (hasL_iff _).mp z
        exact hx y (has_ap.mpr ⟨u, by rw [hall]; exact List.mem_append_left _ hu, z⟩)
      obtain ⟨r2, T2, z4, z5⟩ := ih x hxm (k := k) (Nat.le_trans (hgts_mem hxm) (by omega)) (fun y hy => hx y (has_ap.mpr ⟨x, hxm, hy⟩)) (S ++ T1) r1 (varsL dn f) hg (varsL_nodup dn f hn) hV2
      refine ⟨_, [some (eT (.ap a b c ts)), some (.ref r2), some (eT x)], S ++ T1 ++ T2, rfl, ?_, r2, T1 ++ T2, some (eT x), rfl, by rw [List.append_assoc], ?_⟩
      · clear ih h1 hr
        simp only [mSet, mCall, mCons, mNil, mVar, List.set_cons_zero, List.set_cons_succ, List.getElem?_cons_zero, List.getElem?_cons_succ, Option.bind_some, z4]
      · rw [varsL_app]
        simp only [varsL]
        exact z5) ts [] [some (eT (.ap a b c ts)), some (.ref r), none] S rfl ⟨r, [], _, rfl, (List.append_nil _).symm, hr⟩
    subst h4 h5
    obtain ⟨r2, T2, g1, g2⟩ := fin_ref h6 (refLtL_ints _)
    refine ⟨r2, T2, ?_, by unfold Tm.vars; exact g2⟩
    refine (run_step (d := .ref r1) (S1 := S ++ T1) (hp 15 _ rfl) rfl ?_).trans (by rw [g1])
    show c__law_variables (run prog (k + 2)) [some (eT (.ap a b c ts)), some (.ref r), none] S = _
    unfold c__law_variables
    rw [seq_ifF (S1 := S) h1, seq_skip, seq_nx ((for_of (src_args rfl)).trans h3)]
    rfl
end
end Zi
set_option maxRecDepth 100000
set_option maxHeartbeats 1000000
/-! the order of terms: what it keeps -/
namespace Zi
open PySem L2
mutual
theorem occ_nn (x : Int) : ∀ t : Tm, 0 ≤ t.occ x
  | .v i => by simp only [Tm.occ]; split <;> omega
  | .ap _ _ _ ts => by simp only [Tm.occ]; exact occs_nn x ts
theorem occs_nn (x : Int) : ∀ ts : List Tm, 0 ≤ occs x ts
  | [] => by simp [occs]
  | t :: ts => by
    have h1 := occ_nn x t
    have h2 := occs_nn x ts
    simp only [occs]; omega
end
mutual
theorem occ_has {x : Int} : ∀ t : Tm, ¬ t.has x → t.occ x = 0
  | .v i, h => by
    simp only [Tm.has] at h
    simp only [Tm.occ, if_neg h]
  | .ap _ _ _ ts, h => by
    simp only [Tm.has] at h
    simp only [Tm.occ]
    exact occs_has ts h
theorem occs_has {x : Int} : ∀ ts : List Tm, ¬ hasL x ts → occs x ts = 0
  | [], _ => by simp [occs]
  | t :: ts, h => by
    simp only [hasL, not_or] at h
    simp only [occs, occ_has t h.1, occs_has ts h.2, Int.add_zero]
end
theorem hav_iff {t u : Tm} : hav t u = true ↔ ∀ x, u.occ x ≤ t.occ x := by
  unfold hav
  rw [Option.isNone_iff_eq_none, List.find?_eq_none]
  constructor
  · intro h x
    by_cases hx : u.has x
    · have := h x ((mem_vars u []).mpr (.inr hx))
      simpa using this
    · rw [occ_has u hx]
      exact occ_nn x t
  · intro h x _
    simpa using h x
theorem occs_app (x : Int) : ∀ ts us : List Tm, occs x (ts ++ us) = occs x ts + occs x us
  | [], us => by simp [occs]
  | t :: ts, us => by simp only [List.cons_append, occs, occs_app x ts]; omega
theorem wts_app (w : Wt) : ∀ ts us : List Tm, wts w (ts ++ us) = wts w ts + wts w us
  | [], us => by simp [wts]
  | t :: ts, us => by simp only [List.cons_append, wts, wts_app w ts]; omega
section
variable {w : Wt} (hw : WtOk w)
include hw
mutual
theorem wt_pos : ∀ t : Tm, 1 ≤ t.wt w
  | .v _ => by simp [Tm.wt]
  | .ap a b c ts => by
    have h1 := hw.of (a, b, c)
    have h2 := wts_nn ts
    simp only [Tm.wt]; omega
theorem wts_nn : ∀ ts : List Tm, 0 ≤ wts w ts
  | [] => by simp [wts]
  | t :: ts => by
    have h1 := wt_pos t
    have h2 := wts_nn ts
    simp only [wts]; omega
end
end
/-- a term with arguments: its head and its last argument -/
theorem split_at {a b c : Int} {ts : List Tm} (w : Wt) (h : ts.isEmpty = false) : (Tm.ap a b c ts).wt w = (Tm.ap a b c ts.dropLast).wt w + (lastT ts).wt w ∧ ∀ x, (Tm.ap a b c ts).occ x = (Tm.ap a b c ts.dropLast).occ x + (lastT ts).occ x := by
  obtain ⟨_, _, e⟩ := lastT_mem h
  constructor
  · simp only [Tm.wt]
    rw [show wts w ts = wts w (ts.dropLast ++ [lastT ts]) by rw [← e], wts_app]
    simp only [wts]; omega
  · intro x
    simp only [Tm.occ]
    rw [show occs x ts = occs x (ts.dropLast ++ [lastT ts]) by rw [← e], occs_app]
    simp only [occs]; omega
theorem gtB_nn {R : Tm → Tm → Bool} {a b c d e f : Int} {ts us : List Tm} (h1 : ts.isEmpty = false) (h2 : us.isEmpty = false) : gtB R a b c ts (.ap d e f us) = if teq (.ap a b c ts.dropLast) (.ap d e f us.dropLast) = true then R (lastT ts) (lastT us) else R (.ap a b c ts.dropLast) (.ap d e f us.dropLast) := by
  simp [gtB, h1, h2]
theorem gtB_en {R : Tm → Tm → Bool} {a b c d e f : Int} {ts us : List Tm} (h1 : ts.isEmpty = true) : gtB R a b c ts (.ap d e f us) = (us.isEmpty && symLt (d, e, f) (a, b, c)) := by
  simp [gtB, h1]
theorem gtB_ne {R : Tm → Tm → Bool} {a b c d e f : Int} {ts us : List Tm} (h1 : ts.isEmpty = false) (h2 : us.isEmpty = true) : gtB R a b c ts (.ap d e f us) = true := by
  simp [gtB, h1, h2]
theorem lex_irr : ∀ xs : List Int, HT.lexLt xs xs = false
  | [] => rfl
  | x :: xs => by rw [HT.lexLt_cons, if_pos rfl]; exact lex_irr xs
theorem lex_asym : ∀ xs ys : List Int, HT.lexLt xs ys = true → HT.lexLt ys xs = false
  | [], [], h => by cases h
  | [], _ :: _, _ => rfl
  | _ :: _, [], h => by cases h
  | x :: xs, y :: ys, h => by
    rw [HT.lexLt_cons] at h ⊢
    by_cases e : x = y
    · rw [if_pos e] at h
      rw [if_pos e.symm]
      exact lex_asym xs ys h
    · rw [if_neg e] at h
      rw [if_neg (Ne.symm e)]
      have := of_decide_eq_true h
      exact decide_eq_false (by omega)
theorem lex_trans : ∀ xs ys zs : List Int, HT.lexLt xs ys = true → HT.lexLt ys zs = true → HT.lexLt xs zs = true
  | [], [], _, h, _ => by cases h
  | [], _ :: _, [], _, h => by cases h
  | [], _ :: _, _ :: _, _, _ => rfl
  | _ :: _, [], _, h, _ => by cases h
  | _ :: _, _ :: _, [], _, h => by cases h
  | x :: xs, y :: ys, z :: zs, h1, h2 => by
    rw [HT.lexLt_cons] at h1 h2 ⊢
    by_cases e : x = y
    · subst e
      rw [if_pos rfl] at h1
      by_cases e2 : x = z
      · subst e2
        rw [if_pos rfl] at h2 ⊢
        exact lex_trans xs ys zs h1 h2
      · rw [if_neg e2] at h2 ⊢
        exact h2
    · rw [if_neg e] at h1
      have l1 := of_decide_eq_true h1
      by_cases e2 : y = z
      · subst e2
        rw [if_neg e]
        exact h1
      · rw [if_neg e2] at h2
        have l2 := of_decide_eq_true h2
        rw [if_neg (by omega)]
        exact decide_eq_true (by omega)
theorem sym_total {s t : Sy} (h : s ≠ t) : symLt s t = true ∨ symLt t s = true := by
  obtain ⟨a, b, c⟩ := s
  obtain ⟨d, e, f⟩ := t
  simp only [symLt, HT.lexLt_cons, HT.lexLt_nil_nil]
  by_cases h1 : a = d
  · subst h1
    by_cases h2 : b = e
    · subst h2
      have h3 : c ≠ f := fun z => h (by rw [z])
      simp only [if_true, if_neg h3, if_neg (Ne.symm h3), decide_eq_true_eq]; omega
    · simp only [if_true, if_neg h2, if_neg (Ne.symm h2), decide_eq_true_eq]; omega
  · simp only [if_neg h1, if_neg (Ne.symm h1), decide_eq_true_eq]; omega
section
variable {w : Wt} (hw : WtOk w)
/-- induction by the rank of the first term -/
theorem rk_ind {P : Tm → Prop} (hv : ∀ i, P (.v i)) (he : ∀ a b c ts, ts.isEmpty = true → P (.ap a b c ts)) (hn : ∀ a b c ts, ts.isEmpty = false → P (.ap a b c ts.dropLast) → P (lastT ts) → P (.ap a b c ts)) (t : Tm) : P t := by
  have go : ∀ (n : Nat) (t : Tm), t.rk ≤ n → P t := by
    intro n
    induction n with
    | zero =>
      intro t h
      cases t with
      | v i => exact hv i
      | ap a b c ts => simp only [Tm.rk] at h; omega
    | succ n ih =>
      intro t h
      cases t with
      | v i => exact hv i
      | ap a b c ts =>
        cases h1 : ts.isEmpty with
        | true => exact he a b c ts h1
        | false =>
          have z1 := rk_head (a := a) (b := b) (c := c) h1
          have z2 := rk_last (a := a) (b := b) (c := c) h1
          exact hn a b c ts h1 (ih _ (by omega)) (ih _ (by omega))
  exact go t.rk t (Nat.le_refl _)
theorem gt_hav {t u : Tm} (h : gt w t u = true) : hav t u = true := by
  cases t with
  | v i => cases h
  | ap a b c ts =>
    rw [gt_ap, Bool.and_eq_true] at h
    exact h.1
theorem gt_wt {t u : Tm} (h : gt w t u = true) : u.wt w ≤ t.wt w := by
  cases t with
  | v i => cases h
  | ap a b c ts =>
    rw [gt_ap, Bool.and_eq_true] at h
    have h2 := h.2
    split at h2
    · rename_i e; omega
    · have := of_decide_eq_true h2; omega
theorem gt_eqw {a b c : Int} {ts : List Tm} {u : Tm} (h : gt w (.ap a b c ts) u = true) (e : (Tm.ap a b c ts).wt w = u.wt w) : gtB (gt w) a b c ts u = true := by
  rw [gt_ap, if_pos e, Bool.and_eq_true] at h
  exact h.2
theorem gt_of_wt {a b c : Int} {ts : List Tm} {u : Tm} (h : ∀ x, u.occ x ≤ (Tm.ap a b c ts).occ x) (e : u.wt w < (Tm.ap a b c ts).wt w) : gt w (.ap a b c ts) u = true := by
  rw [gt_ap, if_neg (by omega), hav_iff.mpr h, decide_eq_true e]
  rfl
theorem gt_of_B {a b c : Int} {ts : List Tm} {u : Tm} (h : ∀ x, u.occ x ≤ (Tm.ap a b c ts).occ x) (e : (Tm.ap a b c ts).wt w = u.wt w) (g : gtB (gt w) a b c ts u = true) : gt w (.ap a b c ts) u = true := by
  rw [gt_ap, if_pos e, hav_iff.mpr h, g]
  rfl
/-- no term is greater than itself -/
theorem gt_irr (t : Tm) : gt w t t = false := by
  induction t using rk_ind with
  | hv i => rfl
  | he a b c ts h =>
    rw [gt_ap, if_pos rfl, gtB_en h]
    simp only [symLt, lex_irr, Bool.and_false]
  | hn a b c ts h i1 i2 =>
    rw [gt_ap, if_pos rfl, gtB_nn h h, if_pos (teq_self _), i2, Bool.and_false]
theorem gt_ne {t u : Tm} (h : gt w t u = true) : teq t u = false := by
  cases e : teq t u with
  | false => rfl
  | true =>
    rw [(teq_iff t u).mp e, gt_irr] at h
    cases h
/-- of two terms at most one is greater -/
theorem gt_asym (t : Tm) : ∀ u, gt w t u = true → gt w u t = true → False := by
  induction t using rk_ind with
  | hv i => intro u h; cases h
  | he a b c ts h =>
    intro u h1 h2
    have e := Int.le_antisymm (gt_wt h2) (gt_wt h1)
    cases u with
    | v i => cases h2
    | ap d e' f us =>
      have g1 := gt_eqw h1 e
      have g2 := gt_eqw h2 e.symm
      rw [gtB_en h, Bool.and_eq_true] at g1
      rw [gtB_en g1.1, Bool.and_eq_true] at g2
      have := lex_asym _ _ g1.2
      have g3 := g2.2
      simp only [symLt] at g3
      rw [this] at g3
      cases g3
  | hn a b c ts h i1 i2 =>
    intro u h1 h2
    have e := Int.le_antisymm (gt_wt h2) (gt_wt h1)
    cases u with
    | v i => cases h2
    | ap d e' f us =>
      have g1 := gt_eqw h1 e
      have g2 := gt_eqw h2 e.symm
      cases hu : us.isEmpty with
      | true =>
        rw [gtB_en hu, h] at g2
        cases g2
      | false =>
        rw [gtB_nn h hu] at g1
        rw [gtB_nn hu h] at g2
        cases q : teq (.ap a b c ts.dropLast) (.ap d e' f us.dropLast) with
        | true =>
          have q' := (teq_iff _ _).mp q
          rw [if_pos q] at g1
          rw [if_pos (by rw [q']; exact teq_self _)] at g2
          exact i2 _ g1 g2
        | false =>
          rw [if_neg (by simp [q])] at g1
          rw [if_neg (fun z => by
            rw [(teq_iff _ _).mp z, teq_self] at q
            cases q)] at g2
          exact i1 _ g1 g2
/-- the order is transitive -/
theorem gt_trans (t : Tm) : ∀ u v, gt w t u = true → gt w u v = true → gt w t v = true := by
  have main : ∀ a b c ts u v, gt w (.ap a b c ts) u = true → gt w u v = true → ((Tm.ap a b c ts).wt w = u.wt w → u.wt w = v.wt w → gtB (gt w) a b c ts v = true) → gt w (.ap a b c ts) v = true := fun a b c ts u v h1 h2 h3 => by
    have l1 := gt_wt h1
    have l2 := gt_wt h2
    have o : ∀ x, v.occ x ≤ (Tm.ap a b c ts).occ x := fun x => Int.le_trans (hav_iff.mp (gt_hav h2) x) (hav_iff.mp (gt_hav h1) x)
    by_cases e : v.wt w < (Tm.ap a b c ts).wt w
    · exact gt_of_wt o e
    · exact gt_of_B o (by omega) (h3 (by omega) (by omega))
  induction t using rk_ind with
  | hv i => intro u v h; cases h
  | he a b c ts h =>
    intro u v h1 h2
    refine main a b c ts u v h1 h2 fun e1 e2 => ?_
    cases u with
    | v i => cases h2
    | ap d e f us =>
      have g1 := gt_eqw h1 e1
      have g2 := gt_eqw h2 e2
      rw [gtB_en h, Bool.and_eq_true] at g1
      cases v with
      | v i => cases g2
      | ap p q s vs =>
        rw [gtB_en g1.1, Bool.and_eq_true] at g2
        rw [gtB_en h, Bool.and_eq_true]
        exact ⟨g2.1, lex_trans _ _ _ g2.2 g1.2⟩
  | hn a b c ts h i1 i2 =>
    intro u v h1 h2
    refine main a b c ts u v h1 h2 fun e1 e2 => ?_
    cases u with
    | v i => cases h2
    | ap d e f us =>
      have g1 := gt_eqw h1 e1
      have g2 := gt_eqw h2 e2
      cases v with
      | v i => cases g2
      | ap p q s vs =>
        cases hv : vs.isEmpty with
        | true => exact gtB_ne h hv
        | false =>
          cases hu : us.isEmpty with
          | true =>
            rw [gtB_en hu, hv] at g2
            cases g2
          | false =>
            rw [gtB_nn h hu] at g1
            rw [gtB_nn hu hv] at g2
            rw [gtB_nn h hv]
            cases k1 : teq (.ap a b c ts.dropLast) (.ap d e f us.dropLast) with
            | true =>
              have k1' := (teq_iff _ _).mp k1
              rw [if_pos k1] at g1
              rw [k1']
              cases k2 : teq (.ap d e f us.dropLast) (.ap p q s vs.dropLast) with
              | true =>
                rw [if_pos k2] at g2
                rw [if_pos rfl]
                exact i2 _ _ g1 g2
              | false =>
                rw [if_neg (by simp [k2])] at g2
                rw [if_neg (by simp)]
                exact g2
            | false =>
              rw [if_neg (by simp [k1])] at g1
              cases k2 : teq (.ap d e f us.dropLast) (.ap p q s vs.dropLast) with
              | true =>
                rw [← (teq_iff _ _).mp k2, if_neg (by simp [k1])]
                exact g1
              | false =>
                rw [if_neg (by simp [k2])] at g2
                have g3 := i1 _ _ g1 g2
                rw [if_neg (by simp [gt_ne g3])]
                exact g3
/-- no variables -/
def Tm.gr (t : Tm) : Prop := ∀ x, t.occ x = 0
theorem gr_split {a b c : Int} {ts : List Tm} (h : ts.isEmpty = false) (g : (Tm.ap a b c ts).gr) : (Tm.ap a b c ts.dropLast).gr ∧ (lastT ts).gr := by
  have z := (split_at (a := a) (b := b) (c := c) [] h).2
  constructor <;> intro x
  · have := z x; have := g x; have := occ_nn x (.ap a b c ts.dropLast); have := occ_nn x (lastT ts); omega
  · have := z x; have := g x; have := occ_nn x (.ap a b c ts.dropLast); have := occ_nn x (lastT ts); omega
theorem gr_v {i : Int} (h : (Tm.v i).gr) : False := by
  have := h i
  simp [Tm.occ] at this
/-- of two different terms without variables one is greater -/
theorem gt_total (t : Tm) : ∀ u, t.gr → u.gr → t ≠ u → gt w t u = true ∨ gt w u t = true := by
  have main : ∀ a b c ts d e f us, (Tm.ap a b c ts).gr → (Tm.ap d e f us).gr → ((Tm.ap a b c ts).wt w = (Tm.ap d e f us).wt w → gtB (gt w) a b c ts (.ap d e f us) = true ∨ gtB (gt w) d e f us (.ap a b c ts) = true) → gt w (.ap a b c ts) (.ap d e f us) = true ∨ gt w (.ap d e f us) (.ap a b c ts) = true := fun a b c ts d e f us h1 h2 h3 => by
    have o1 : ∀ x, (Tm.ap d e f us).occ x ≤ (Tm.ap a b c ts).occ x := fun x => by rw [h1 x, h2 x]; exact Int.le_refl _
    have o2 : ∀ x, (Tm.ap a b c ts).occ x ≤ (Tm.ap d e f us).occ x := fun x => by rw [h1 x, h2 x]; exact Int.le_refl _
    rcases Int.lt_trichotomy ((Tm.ap a b c ts).wt w) ((Tm.ap d e f us).wt w) with z | z | z
    · exact .inr (gt_of_wt o2 z)
    · rcases h3 z with g | g
      · exact .inl (gt_of_B o1 z g)
      · exact .inr (gt_of_B o2 z.symm g)
    · exact .inl (gt_of_wt o1 z)
  induction t using rk_ind with
  | hv i => intro u h; exact (gr_v h).elim
  | he a b c ts h =>
    intro u h1 h2 hne
    cases u with
    | v i => exact (gr_v h2).elim
    | ap d e f us =>
      refine main a b c ts d e f us h1 h2 fun _ => ?_
      cases hu : us.isEmpty with
      | true =>
        rw [gtB_en h, gtB_en hu, hu, h, Bool.true_and, Bool.true_and]
        have hs : ((d, e, f) : Sy) ≠ (a, b, c) := fun z => hne (by
          rw [List.isEmpty_iff] at h hu
          subst h hu
          cases z
          rfl)
        exact sym_total hs
      | false => exact .inr (gtB_ne hu h)
  | hn a b c ts h i1 i2 =>
    intro u h1 h2 hne
    cases u with
    | v i => exact (gr_v h2).elim
    | ap d e f us =>
      refine main a b c ts d e f us h1 h2 fun _ => ?_
      cases hu : us.isEmpty with
      | true => exact .inl (gtB_ne h hu)
      | false =>
        obtain ⟨x1, x2⟩ := gr_split h h1
        obtain ⟨y1, y2⟩ := gr_split hu h2
        rw [gtB_nn h hu, gtB_nn hu h]
        cases k : teq (.ap a b c ts.dropLast) (.ap d e f us.dropLast) with
        | true =>
          have k' := (teq_iff _ _).mp k
          rw [if_pos rfl, if_pos (by rw [k']; exact teq_self _)]
          refine i2 _ x2 y2 fun z => hne ?_
          have e1 := (lastT_mem h).2.2
          have e2 := (lastT_mem hu).2.2
          injection k' with p1 p2 p3 p4
          subst p1 p2 p3
          rw [e1, e2, p4, z]
        | false =>
          rw [if_neg (by simp), if_neg (fun z => by
            rw [(teq_iff _ _).mp z, teq_self] at k
            cases k)]
          refine i1 _ x1 y1 fun z => ?_
          rw [z, teq_self] at k
          cases k
end
end Zi
set_option maxRecDepth 100000
set_option maxHeartbeats 1000000
/-! the laws' terms without variables -/
namespace Zi
open PySem L2
local macro_rules | `(tactic| walk_at "dec") => `(tactic| first | decide | omega | assumption)
local macro_rules | `(tactic| walk_at "g1") => `(tactic| first
  | ((with_reducible apply wp_var); (focus (exact rfl)))
  | with_reducible refine wp_c ?_
  | with_reducible refine wp_op ?_
  | with_reducible refine wp_oD ?_
  | with_reducible refine wp_cons ?_
  | with_reducible refine wp_nil ?_
  | ((with_reducible refine nxt_nx ?_); (try dsimp only [List.set_cons_zero, List.set_cons_succ]))
  | with_reducible refine wp_seq ?_
  | with_reducible refine wp_set ?_
  | with_reducible refine wp_ret ?_
  | with_reducible refine nxt_rt ?_
  | with_reducible refine wp_call ?_
  | with_reducible refine wp_opO ?_
  | with_reducible refine wp_bool ?_
  | with_reducible refine isB_bl ?_
  | with_reducible refine wp_ifS ?_
  | with_reducible refine way_t ?_
  | with_reducible refine way_f ?_
  | with_reducible refine way_not ?_
  | ((with_reducible apply wf_ixT); (focus (first | exact atI_0 | exact atI_1 | exact atI_2 | exact atI_3 | exact atI_4 | exact atI_5 | exact atI_6 | exact atI_7 | exact atI_8 | exact atI_9 | assumption)))
  | with_reducible refine wp_fn1 ?_
  | with_reducible refine wf_int ?_
  | with_reducible refine wf_add ?_
  | with_reducible refine wf_sub ?_
  | ((with_reducible refine wf_mod ?_ ?_); (focus (exact modC_r (by walk_at "dec"))))
  | ((with_reducible refine wf_div ?_ ?_); (focus (exact divC_r (by walk_at "dec"))))
  | ((with_reducible refine wf_mul ?_ ?_); (focus (exact mulC_r (by walk_at "dec"))))
  | ((with_reducible refine wf_mul ?_ ?_); (focus (exact mulC_l (by walk_at "dec"))))
  | with_reducible refine wf_eqI ?_
  | with_reducible refine wf_neI ?_
  | ((with_reducible refine wf_pow ?_ ?_); (focus (decide)))
  | with_reducible refine wf_lt ?_
  | with_reducible refine wf_le ?_
  | with_reducible refine wf_gt ?_
  | with_reducible refine wf_ge ?_
  | with_reducible refine wf_eqB ?_
  | with_reducible refine wf_neB ?_
  | with_reducible refine wp_tup ?_
  | ((with_reducible refine shrt_of ?_ ?_); (focus (exact Nat.le_of_ble_eq_true (by exact rfl))))
  | with_reducible refine wp_tru ?_
  | with_reducible refine tru_bl ?_
  | with_reducible refine tru_int ?_
  | with_reducible refine tru_non ?_
  | with_reducible refine tru_tup ?_
  | ((with_reducible apply tru_lst); (focus (first | assumption | exact last_get)))
  | with_reducible refine wp_notT ?_
  | with_reducible refine wp_andT ?_
  | with_reducible refine wp_orT ?_
  | with_reducible refine wp_and ?_
  | with_reducible refine wp_or ?_
  | with_reducible refine wp_not ?_
  | with_reducible refine wp_if ?_
  | with_reducible refine wp_skip ?_
  | with_reducible refine wp_drop ?_
  | with_reducible refine wp_break ?_
  | with_reducible refine wp_cont ?_
  | with_reducible refine nxt_bk ?_
  | with_reducible refine nxt_ct ?_
  | with_reducible refine wp_alloc ?_
  | with_reducible refine wp_lst ?_
  | with_reducible refine wp_oN ?_
  | with_reducible refine wp_oS ?_
  | with_reducible refine valO_d ?_
  | with_reducible refine valO_n ?_
  | with_reducible refine wp_setL ?_
  | with_reducible refine wf_lenT ?_
  | with_reducible refine wf_lenN ?_
  | with_reducible refine wf_lenS ?_
  | ((with_reducible apply wf_lenL); (focus (first | assumption | exact last_get)))
  | with_reducible refine wf_tupcT ?_
  | with_reducible refine wf_tupcN ?_
  | ((with_reducible apply wf_tupcL); (focus (first | assumption | exact last_get)))
  | with_reducible refine wp_for ?_
  | with_reducible refine wp_src ?_
  | with_reducible refine src_tupK ?_
  | with_reducible refine src_nK ?_
  | with_reducible refine src_slK ?_
  | ((with_reducible apply src_lstK); (focus (first | assumption | exact last_get)))
  | with_reducible refine wp_asg ?_
  | with_reducible refine wl_n ?_
  | ((with_reducible refine wl_tup ?_ ?_); (focus (exact rfl)))
  | with_reducible refine wl_cons ?_
  | with_reducible refine wl_nil ?_
  | ((with_reducible apply wp_aug); (focus (exact rfl)))
  | with_reducible refine wf_iadd ?_
  | with_reducible refine wp_isN ?_
  | with_reducible refine wp_notN ?_
  | with_reducible refine wp_isI ?_
  | ((with_reducible apply isI_t); (focus (exact rfl)); (focus (decide)))
  | ((with_reducible apply isI_f); (focus (exact rfl)); (focus (decide)))
  | with_reducible refine loopK_nx ?_
  | with_reducible refine loopK_ct ?_
  | with_reducible refine loopK_bk ?_
  | with_reducible refine loopK_rt ?_
  | with_reducible refine wp_enum ?_
  | with_reducible refine wp_lisc ?_
  | with_reducible refine wp_comp ?_
  | with_reducible refine wp_neg ?_
  | with_reducible refine wp_dnewK ?_
  | with_reducible refine wp_dnewT ?_
  | with_reducible refine wp_get2 ?_
  | with_reducible refine wp_get1 ?_
  | with_reducible refine wp_setD ?_
  | with_reducible refine wp_app ?_
  | with_reducible refine wp_rev ?_
  | with_reducible refine wp_dcopy ?_
  | with_reducible exact ⟨rfl, rfl⟩)
local macro_rules | `(tactic| walk_at "g2") => `(tactic| first
  | walk_at "g1"
  | with_reducible refine wf_ixA0 ?_
  | with_reducible refine wf_ixA1 ?_
  | with_reducible refine wf_ixS0 ?_
  | with_reducible refine wf_ixS1 ?_
  | with_reducible refine wf_ixS2 ?_
  | with_reducible refine wf_ixL0 ?_
  | with_reducible refine wf_ixL1 ?_
  | with_reducible refine wf_ixL2 ?_
  | ((with_reducible refine wf_eqT ?_ ?_ ?_); (focus (walk_at "dec")); (focus (walk_at "dec")))
  | ((with_reducible refine wf_neT ?_ ?_ ?_); (focus (walk_at "dec")); (focus (walk_at "dec")))
  | ((with_reducible refine wf_eqLs ?_ ?_ ?_); (focus (assumption)); (focus (assumption)))
  | ((with_reducible refine wf_neLs ?_ ?_ ?_); (focus (assumption)); (focus (assumption)))
  | ((with_reducible refine wf_eqL ?_ ?_ ?_ ?_ ?_); (focus (walk_at "dec")); (focus (walk_at "dec")); (focus (walk_at "dec")); (focus (walk_at "dec")))
  | ((with_reducible refine wf_neL ?_ ?_ ?_ ?_ ?_); (focus (walk_at "dec")); (focus (walk_at "dec")); (focus (walk_at "dec")); (focus (walk_at "dec")))
  | with_reducible refine way_eq lseq_self ?_
  | with_reducible refine way_eq leq_self ?_
  | with_reducible refine way_eq (teq_self _) ?_
  | with_reducible refine isI_vi ?_
  | with_reducible refine isI_vb ?_
  | with_reducible refine isI_vt ?_
  | ((with_reducible refine wp_eq (r_isvar ?_ _) ?_); (focus (assumption)))
  | ((with_reducible refine wp_eq (r_lisvar ?_ _) ?_); (focus (assumption)))
  | ((with_reducible refine wp_eq (r_lint ?_ _) ?_); (focus (assumption)))
  | ((with_reducible refine wp_eq (run_cell ?_ _ _ ?_ _) ?_); (focus (exact rfl)); (focus (walk_at "dec"))))
local macro_rules | `(tactic| walk_at "go2") => `(tactic| repeat' (walk_at "g2"))
local macro_rules | `(tactic| walk_at "go") => `(tactic| repeat' (walk_at "g1"))
local macro_rules | `(tactic| walk_at "g3") => `(tactic| first
  | with_reducible refine wp_andP ?_
  | with_reducible refine wp_orP ?_
  | with_reducible refine wp_andB ?_
  | with_reducible refine wp_orB ?_
  | with_reducible refine ⟨rfl, rfl, ?_⟩
  | walk_at "g2")
local macro_rules | `(tactic| walk_at "go3") => `(tactic| repeat' (walk_at "g3"))

theorem gr_ap {a b c : Int} {ts : List Tm} (h : ∀ t ∈ ts, t.gr) : (Tm.ap a b c ts).gr := by
  intro x
  simp only [Tm.occ]
  induction ts with
  | nil => simp [occs]
  | cons t ts ih =>
    simp only [occs, h t (by simp) x, ih fun u hu => h u (List.mem_cons_of_mem _ hu)]
    rfl
structure TG (H : Nat) (B : Int) (t : Tm) : Prop where
  t2 : T2 H B t
  gr : t.gr
theorem TG.mono {H H' : Nat} {B B' : Int} {t : Tm} (h : TG H B t) (h1 : H ≤ H') (h2 : B ≤ B') : TG H' B' t := ⟨h.t2.mono h1 h2, h.gr⟩
theorem TG.mk' {H : Nat} {B B' : Int} {a b c : Int} {ts : List Tm} (h1 : ts.length ≤ 2) (h : ∀ t ∈ ts, TG H B t) (hB : 0 ≤ B) (hb : 1 + 2 * B ≤ B') : TG (H + 1) B' (.ap a b c ts) := by
  refine ⟨.mk' h1 (fun t ht => (h t ht).t2.wd) (fun t ht => by have := (h t ht).t2.hgt; omega) ?_ (by omega), gr_ap fun t ht => (h t ht).gr⟩
  have := sizes_le (B := B) (ts := ts) fun t ht => (h t ht).t2.size
  have z : (ts.length : Int) * B ≤ 2 * B := Int.mul_le_mul_of_nonneg_right (by omega) hB
  omega
section
variable {prog : Nat → Option Fb} (hp : ∀ j fb, lZl0[j]? = some fb → prog (0 + j) = some fb) (hp2 : ∀ j fb, lZl2[j]? = some fb → prog (2000 + j) = some fb) {k : Nat} {S : Sto}
include hp hp2
theorem r_ground (d : Nat) : ∀ {k : Nat}, d ≤ k → ∀ {row : Int}, 0 ≤ row → ∀ S, ∃ t row', TG (d + 1) (bdT d) t ∧ 0 ≤ row' ∧ run prog (k + 2) 2012 [.int row, .int (d : Nat)] S = some (.tup [eT t, .int row'], S) := by
  induction d using Nat.strongRecOn with
  | ind d IH =>
    intro k hd row hrow S
    have hw : wp (c__law_ground (run prog (k + 1)) [some (.int row), some (.int (d : Nat)), none, none, none, none, none] S) fun f S1 => ∃ t row', TG (d + 1) (bdT d) t ∧ 0 ≤ row' ∧ f = .rt (.tup [eT t, .int row']) ∧ ∃ T, S1 = S ++ T := by
      unfold c__law_ground
      walk_at "go2"
      refine way_cut (fun f S' => ∃ many : Nat, (many ≤ 2 ∧ (d = 0 → many = 0)) ∧ f = .nx [some (.int (row / 3)), some (.int (d : Nat)), some (.int (many : Nat)), none, none, none, none] ∧ S = S') (way_dec (fun h0 => ?_) fun h0 => ?_) ?_
      · walk_at "go2"
        exact ⟨0, ⟨by omega, fun _ => rfl⟩, rfl, rfl⟩
      · walk_at "go2"
        exact ⟨(row % 3).toNat, ⟨by omega, fun h => by omega⟩, by rw [show (((row % 3).toNat : Nat) : Int) = row % 3 by omega], rfl⟩
      rintro f S' ⟨many, ⟨hm, hm0⟩, rfl, hS⟩
      subst hS
      walk_at "go2"
      obtain ⟨a, b, c, _, hs⟩ := r_symbol hp (k := k) (n := row / 3 % 5) (by omega) S
      refine wp_eq hs ?_
      walk_at "go2"
      refine wp_rngN ?_
      walk_at "go2"
      refine ⟨many, rfl, by omega, ?_⟩
      refine wp_inv (fun k : Nat => D.int (0 + (k : Nat))) (List.range many) (fun dn l S' => ∃ (ts : List Tm) (rw : Int) (o5 o6 : Option D), 0 ≤ rw ∧ ts.length = dn.length ∧ (∀ t ∈ ts, TG d (bdT (d - 1)) t) ∧ l = [some (.int rw), some (.int (d : Nat)), some (.int (many : Nat)), some (eS a b c), some (.ref S.length), o5, o6] ∧ S' = S ++ [.lst (ts.map eT)]) rfl ⟨[], _, _, _, by omega, rfl, by simp, rfl, rfl⟩ (fun _ _ _ _ => trivial) ?_ ?_
      · rintro dn x rest l S' hall ⟨ts, rw, o5, o6, h1, h2, h3, rfl, rfl⟩
        have hlen := congrArg List.length hall
        rw [List.length_range, List.length_append, List.length_cons] at hlen
        obtain ⟨d, rfl⟩ : ∃ d', d = d' + 1 := ⟨d - 1, by
          have : d ≠ 0 := fun h => by have := hm0 h; omega
          omega⟩
        obtain ⟨k, rfl⟩ : ∃ k', k = k' + 1 := ⟨k - 1, by omega⟩
        walk_at "go2"
        obtain ⟨t, row2, g1, g2, g3⟩ := IH d (by omega) (k := k) (by omega) h1 (S ++ [.lst (ts.map eT)])
        rw [show ((d + 1 : Nat) : Int) - 1 = (d : Nat) by omega]
        refine wp_eq g3 ?_
        walk_at "go2"
        refine ⟨_, _, rfl, last_get, ?_⟩
        walk_at "go2"
        refine ⟨_, last_get, by rw [List.length_map]; omega, ?_⟩
        rw [last_set]
        walk_at "go2"
        exact ⟨ts ++ [t], _, _, _, g2, by simp [h2], fun u hu => by
          rcases List.mem_append.mp hu with z | z
          · exact h3 u z
          · rw [List.mem_singleton] at z; subst z; exact g1, rfl, by rw [List.map_append]; rfl⟩
      · rintro l S' ⟨ts, rw, o5, o6, h1, h2, h3, rfl, rfl⟩
        rw [List.length_range] at h2
        walk_at "go2"
        refine ⟨.ap a b c ts, rw, ?_, h1, by rw [eT_ap], _, rfl⟩
        cases d with
        | zero =>
          have : ts = [] := List.length_eq_zero_iff.mp (by have := hm0 rfl; omega)
          subst this
          exact ⟨.mk' (by simp) (by simp) (by simp) (by simp [sizes, bdT]) (by omega), gr_ap (by simp)⟩
        | succ d => exact TG.mk' (by omega) h3 (by have := bdT_pos d; exact Int.le_trans (by decide) this) (by simp only [bdT, Nat.add_sub_cancel]; omega)
    obtain ⟨f, S1, e, t, row', h1, h2, rfl, T, rfl⟩ := hw
    exact ⟨t, row', h1, h2, run_more (hp2 12 _ rfl) rfl e (by rw [refLt_tup, refLtL_cons, refLt_eT, refLtL_cons, refLt_int, refLtL_nil]; rfl)⟩
theorem r_gatom (d : Nat) {k : Nat} (hd : d ≤ k) {row : Int} (hrow : 0 ≤ row) (S : Sto) : ∃ t row', TG (d + 2) (bdT (d + 1)) t ∧ 0 ≤ row' ∧ run prog (k + 3) 2013 [.int row, .int (d : Nat)] S = some (.tup [eT t, .int row'], S) := by
  have hw : wp (c__law_ground_atom (run prog (k + 2)) [some (.int row), some (.int (d : Nat)), none, none, none, none, none, none] S) fun f S1 => ∃ t row', TG (d + 2) (bdT (d + 1)) t ∧ 0 ≤ row' ∧ f = .rt (.tup [eT t, .int row']) ∧ ∃ T, S1 = S ++ T := by
    unfold c__law_ground_atom
    walk_at "go2"
    obtain ⟨x, g1, g2⟩ := atI_lt (xs := [eS 1 0 0, eS 1 1 0, eS 4 0 0, eS 1 2 0]) (i := row % 4) (by omega) (by simp only [List.length_cons, List.length_nil]; omega)
    have h3 : ∃ a b c, x = eS a b c := by
      simp only [List.mem_cons, List.not_mem_nil, or_false] at g2
      rcases g2 with e | e | e | e <;> exact ⟨_, _, _, e⟩
    obtain ⟨a, b, c, rfl⟩ := h3
    refine wf_ixL (xs := [eS 1 0 0, eS 1 1 0, eS 4 0 0, eS 1 2 0]) last_get g1 ?_
    walk_at "go2"
    obtain ⟨many, hm, hmany⟩ : ∃ many : Nat, many ≤ 1 ∧ row / 4 % 2 = many := ⟨(row / 4 % 2).toNat, by omega, by omega⟩
    rw [hmany]
    have hA : ∀ T, ∃ T', S ++ [Cell.lst [D.tup [D.int 1, D.int 0, D.int 0], D.tup [D.int 1, D.int 1, D.int 0], D.tup [D.int 4, D.int 0, D.int 0], D.tup [D.int 1, D.int 2, D.int 0]]] ++ T = S ++ T' := fun T => ⟨_, List.append_assoc _ _ _⟩
    generalize S ++ [Cell.lst [D.tup [D.int 1, D.int 0, D.int 0], D.tup [D.int 1, D.int 1, D.int 0], D.tup [D.int 4, D.int 0, D.int 0], D.tup [D.int 1, D.int 2, D.int 0]]] = A at *
    refine wp_rngN ?_
    walk_at "go2"
    refine ⟨many, rfl, by omega, ?_⟩
    refine wp_inv (fun k : Nat => D.int (0 + (k : Nat))) (List.range many) (fun dn l S' => ∃ (ts : List Tm) (rw : Int) (o5 o6 : Option D), 0 ≤ rw ∧ ts.length = dn.length ∧ (∀ t ∈ ts, TG (d + 1) (bdT d) t) ∧ l = [some (.int rw), some (.int (d : Nat)), some (.ref S.length), some (eS a b c), some (.int (many : Nat)), some (.ref A.length), o5, o6] ∧ S' = A ++ [.lst (ts.map eT)]) rfl ⟨[], _, _, _, by omega, rfl, by simp, rfl, rfl⟩ (fun _ _ _ _ => trivial) ?_ ?_
    · rintro dn x rest l S' hall ⟨ts, rw, o5, o6, h1, h2, h3, rfl, rfl⟩
      have hlen := congrArg List.length hall
      rw [List.length_range, List.length_append, List.length_cons] at hlen
      walk_at "go2"
      obtain ⟨t, row2, g1, g2, g3⟩ := r_ground hp hp2 d hd h1 (A ++ [.lst (ts.map eT)])
      refine wp_eq g3 ?_
      walk_at "go2"
      refine ⟨_, _, rfl, last_get, ?_⟩
      walk_at "go2"
      refine ⟨_, last_get, by rw [List.length_map]; omega, ?_⟩
      rw [last_set]
      walk_at "go2"
      exact ⟨ts ++ [t], _, _, _, g2, by simp [h2], fun u hu => by
        rcases List.mem_append.mp hu with z | z
        · exact h3 u z
        · rw [List.mem_singleton] at z; subst z; exact g1, rfl, by rw [List.map_append]; rfl⟩
    · rintro l S' ⟨ts, rw, o5, o6, h1, h2, h3, rfl, rfl⟩
      rw [List.length_range] at h2
      walk_at "go2"
      exact ⟨.ap a b c ts, rw, TG.mk' (by omega) h3 (by have := bdT_pos d; exact Int.le_trans (by decide) this) (by simp only [bdT]; omega), h1, by rw [eT_ap], hA _⟩
  obtain ⟨f, S1, e, t, row', h1, h2, rfl, T, rfl⟩ := hw
  exact ⟨t, row', h1, h2, run_more (hp2 13 _ rfl) rfl e (by rw [refLt_tup, refLtL_cons, refLt_eT, refLtL_cons, refLt_int, refLtL_nil]; rfl)⟩
end
end Zi
set_option maxRecDepth 100000
/-! shared functions: what they compute -/
namespace Zi
open PySem L2
def k_MOST_INSTANCES : D := .int (500)
/-- 4000 0 clause, 1 k, 2 literal, 3 later -/
noncomputable def c_is_needed (G : GF) : MS := (mSeq (mSet 2 (mOp ixF (mVar 0) (mVar 1)))
    (mSeq (mIfS (mAndT (mNotT (mTru (mOp ixF (mVar 2) (mC (.int 0))))) (mBool (mOpO fEq (oD (mOp ixF (mVar 2) (mC (.int 1)))) (oD (mOp ixF (mVar 2) (mC (.int 2))))))) (mRet (mC (.bl false))) mSkip)
    (mSeq (mFor (mSrc (mSl (mVar 0) (mSoI (mOp fAdd (mVar 1) (mC (.int 1)))) mNoI)) (mgN 3) (mIfS (mTru (mCall (G 34) (mCons (mVar 2) (mCons (mVar 3) mNil)))) (mRet (mC (.bl false))) mSkip))
    (mRet (mC (.bl true))))))
/-- 4001 0 clause, 1 k, 2 literal -/
noncomputable def c_cleaned (G : GF) : MS := (mRet (mFn1 fTupc (oN (mComp (mEnum (oD (mVar 0))) [1, 2] (mgTup 2 (mgCons (mgN 1) (mgCons (mgN 2) mgNil))) (mTru (mCall (G 4000) (mCons (mVar 0) (mCons (mVar 1) mNil)))) (mVar 2)))))
/-- 4002 0 lines, 1 number, 2 substitution, 3 variable -/
noncomputable def c_line_by (G : GF) : MS := (mSeq (mIfS (mOrT (mBool (mOp fLt (mVar 1) (mC (.int 0)))) (mBool (mOp fGe (mVar 1) (mFn1 fLen (oD (mVar 0)))))) (mRet (mC .non)) mSkip)
    (mSeq (mIfS (mNotT (mTru (mFn1 fAll (oN (mLockA 2 (mComp (mKeys (mVar 2)) [3] (mgN 3) mYes (mCall (G 20) (mCons (mOp ixX (mVar 2) (mVar 3)) mNil)))))))) (mRet (mC .non)) mSkip)
    (mRet (mCall (G 1002) (mCons (mOp ixF (mVar 0) (mVar 1)) (mCons (mVar 2) mNil))))))
/-- 4003 0 clause, 1 index -/
def c_literal_at (G : GF) : MS := (mSeq (mIfS (mOrT (mBool (mIsN (mVar 0))) (mOrT (mBool (mOp fLt (mVar 1) (mC (.int 0)))) (mBool (mOp fGe (mVar 1) (mFn1 fLen (oD (mVar 0))))))) (mRet (mC .non)) mSkip)
    (mRet (mOp ixF (mVar 0) (mVar 1))))
/-- 4004 0 clause, 1 index -/
def c_without (G : GF) : MS := (mRet (mOp fAdd (oS (mSl (mVar 0) mNoI (mSoI (mVar 1)))) (oS (mSl (mVar 0) (mSoI (mOp fAdd (mVar 1) (mC (.int 1)))) mNoI))))
/-- 4005 0 given, 1 step -/
def c_conclude_given (G : GF) : MS := (mSeq (mIfS (mOrT (mBool (mOp fNinD (mOp ixF (mVar 1) (mC (.int 1))) (mVar 0))) (mOrT (mBool (mOp fLt (mOp ixF (mVar 1) (mC (.int 2))) (mC (.int 0)))) (mBool (mOp fGe (mOp ixF (mVar 1) (mC (.int 2))) (mFn1 fLen (oD (mOp ixX (mVar 0) (mOp ixF (mVar 1) (mC (.int 1)))))))))) (mRet (mC .non)) mSkip)
    (mRet (mOp ixF (mOp ixX (mVar 0) (mOp ixF (mVar 1) (mC (.int 1)))) (mOp ixF (mVar 1) (mC (.int 2))))))
/-- 4006 0 lines, 1 step, 2 into, 3 side_index, 4 place, 5 by, 6 by_side, 7 clause, 8 other, 9 literal, 10 equation, 11 term, 12 changed -/
def c_conclude_superpose (G : GF) : MS := (mSeq (mAsg (mgTup 5 (mgCons (mgN 2) (mgCons (mgN 3) (mgCons (mgN 4) (mgCons (mgN 5) (mgCons (mgN 6) mgNil)))))) (mTup (mCons (mOp ixF (mVar 1) (mC (.int 3))) (mCons (mOp ixF (mVar 1) (mC (.int 4))) (mCons (mOp ixF (mVar 1) (mC (.int 5))) (mCons (mOp ixF (mVar 1) (mC (.int 8))) (mCons (mOp ixF (mVar 1) (mC (.int 9))) mNil)))))))
    (mSeq (mSet 7 (mCall (G 4002) (mCons (mVar 0) (mCons (mOp ixF (mVar 1) (mC (.int 1))) (mCons (mOp ixF (mVar 1) (mC (.int 2))) mNil)))))
    (mSeq (mSet 8 (mCall (G 4002) (mCons (mVar 0) (mCons (mOp ixF (mVar 1) (mC (.int 6))) (mCons (mOp ixF (mVar 1) (mC (.int 7))) mNil)))))
    (mSeq (mSet 9 (mCall (G 4003) (mCons (mVar 7) (mCons (mVar 2) mNil))))
    (mSeq (mSet 10 (mCall (G 4003) (mCons (mVar 8) (mCons (mVar 5) mNil))))
    (mSeq (mIfS (mOrT (mBool (mIsN (mVar 9))) (mOrT (mBool (mIsN (mVar 10))) (mNotT (mTru (mOp ixF (mVar 10) (mC (.int 0))))))) (mRet (mC .non)) mSkip)
    (mSeq (mIfS (mBool (mOpO fNe (oD (mCall (G 19) (mCons (mOp ixF (mVar 10) (mC (.int 1))) mNil))) (oD (mCall (G 19) (mCons (mOp ixF (mVar 10) (mC (.int 2))) mNil))))) (mRet (mC .non)) mSkip)
    (mSeq (mSet 11 (mCall (G 31) (mCons (mVar 9) (mCons (mVar 3) mNil))))
    (mSeq (mIfS (mOrT (mBool (mIsN (mCall (G 26) (mCons (mVar 11) (mCons (mVar 4) mNil))))) (mBool (mOpO fNe (oD (mCall (G 26) (mCons (mVar 11) (mCons (mVar 4) mNil)))) (oD (mCall (G 31) (mCons (mVar 10) (mCons (mVar 6) mNil))))))) (mRet (mC .non)) mSkip)
    (mSeq (mSet 12 (mCall (G 32) (mCons (mVar 9) (mCons (mVar 3) (mCons (mCall (G 30) (mCons (mVar 11) (mCons (mVar 4) (mCons (mCall (G 31) (mCons (mVar 10) (mCons (mOp fSub (mC (.int 1)) (mVar 6)) mNil))) mNil)))) mNil)))))
    (mRet (mOp fAdd (mOp fAdd (mOp fAdd (oS (mSl (mVar 7) mNoI (mSoI (mVar 2)))) (mTup (mCons (mVar 12) mNil))) (oS (mSl (mVar 7) (mSoI (mOp fAdd (mVar 2) (mC (.int 1)))) mNoI))) (mCall (G 4004) (mCons (mVar 8) (mCons (mVar 5) mNil)))))))))))))))
/-- 4007 0 lines, 1 step, 2 clause, 3 literal -/
def c_conclude_resolve (G : GF) : MS := (mSeq (mSet 2 (mCall (G 4002) (mCons (mVar 0) (mCons (mOp ixF (mVar 1) (mC (.int 1))) (mCons (mOp ixF (mVar 1) (mC (.int 2))) mNil)))))
    (mSeq (mSet 3 (mCall (G 4003) (mCons (mVar 2) (mCons (mOp ixF (mVar 1) (mC (.int 3))) mNil))))
    (mSeq (mIfS (mOrT (mBool (mIsN (mVar 3))) (mOrT (mTru (mOp ixF (mVar 3) (mC (.int 0)))) (mBool (mOpO fNe (oD (mOp ixF (mVar 3) (mC (.int 1)))) (oD (mOp ixF (mVar 3) (mC (.int 2)))))))) (mRet (mC .non)) mSkip)
    (mRet (mCall (G 4004) (mCons (mVar 2) (mCons (mOp ixF (mVar 1) (mC (.int 3))) mNil)))))))
/-- 4008 0 lines, 1 step, 2 clause, 3 first, 4 second, 5 left, 6 right -/
def c_conclude_factor (G : GF) : MS := (mSeq (mSet 2 (mCall (G 4002) (mCons (mVar 0) (mCons (mOp ixF (mVar 1) (mC (.int 1))) (mCons (mOp ixF (mVar 1) (mC (.int 2))) mNil)))))
    (mSeq (mSet 3 (mCall (G 4003) (mCons (mVar 2) (mCons (mOp ixF (mVar 1) (mC (.int 3))) mNil))))
    (mSeq (mSet 4 (mCall (G 4003) (mCons (mVar 2) (mCons (mOp ixF (mVar 1) (mC (.int 5))) mNil))))
    (mSeq (mIfS (mOrT (mBool (mIsN (mVar 3))) (mOrT (mBool (mIsN (mVar 4))) (mOrT (mBool (mOpO fEq (oD (mOp ixF (mVar 1) (mC (.int 3)))) (oD (mOp ixF (mVar 1) (mC (.int 5)))))) (mOrT (mNotT (mTru (mOp ixF (mVar 3) (mC (.int 0))))) (mNotT (mTru (mOp ixF (mVar 4) (mC (.int 0))))))))) (mRet (mC .non)) mSkip)
    (mSeq (mIfS (mBool (mOpO fNe (oD (mCall (G 31) (mCons (mVar 3) (mCons (mOp ixF (mVar 1) (mC (.int 4))) mNil)))) (oD (mCall (G 31) (mCons (mVar 4) (mCons (mOp ixF (mVar 1) (mC (.int 6))) mNil)))))) (mRet (mC .non)) mSkip)
    (mSeq (mSet 5 (mCall (G 31) (mCons (mVar 3) (mCons (mOp fSub (mC (.int 1)) (mOp ixF (mVar 1) (mC (.int 4)))) mNil))))
    (mSeq (mSet 6 (mCall (G 31) (mCons (mVar 4) (mCons (mOp fSub (mC (.int 1)) (mOp ixF (mVar 1) (mC (.int 6)))) mNil))))
    (mSeq (mIfS (mBool (mOpO fNe (oD (mCall (G 19) (mCons (mVar 5) mNil))) (oD (mCall (G 19) (mCons (mVar 6) mNil))))) (mRet (mC .non)) mSkip)
    (mRet (mOp fAdd (mOp fAdd (oS (mSl (mVar 2) mNoI (mSoI (mOp ixF (mVar 1) (mC (.int 3)))))) (mTup (mCons (mTup (mCons (mC (.bl false)) (mCons (mVar 5) (mCons (mVar 6) mNil)))) mNil))) (oS (mSl (mVar 2) (mSoI (mOp fAdd (mOp ixF (mVar 1) (mC (.int 3))) (mC (.int 1)))) mNoI))))))))))))
/-- 4009 0 given, 1 lines, 2 step, 3 clause -/
def c_conclude_unchecked (G : GF) : MS := (mSeq (mIfS (mBool (mOpO fEq (oD (mOp ixF (mVar 2) (mC (.int 0)))) (oD (mC (.str (Str.ofString "given")))))) (mRet (mCall (G 4005) (mCons (mVar 0) (mCons (mVar 2) mNil)))) mSkip)
    (mSeq (mIfS (mBool (mOpO fEq (oD (mOp ixF (mVar 2) (mC (.int 0)))) (oD (mC (.str (Str.ofString "superpose")))))) (mRet (mCall (G 4006) (mCons (mVar 1) (mCons (mVar 2) mNil)))) mSkip)
    (mSeq (mIfS (mBool (mOpO fEq (oD (mOp ixF (mVar 2) (mC (.int 0)))) (oD (mC (.str (Str.ofString "resolve")))))) (mRet (mCall (G 4007) (mCons (mVar 1) (mCons (mVar 2) mNil)))) mSkip)
    (mSeq (mIfS (mBool (mOpO fEq (oD (mOp ixF (mVar 2) (mC (.int 0)))) (oD (mC (.str (Str.ofString "factor")))))) (mRet (mCall (G 4008) (mCons (mVar 1) (mCons (mVar 2) mNil)))) mSkip)
    (mSeq (mIfS (mBool (mOpO fEq (oD (mOp ixF (mVar 2) (mC (.int 0)))) (oD (mC (.str (Str.ofString "instance")))))) (mRet (mCall (G 4002) (mCons (mVar 1) (mCons (mOp ixF (mVar 2) (mC (.int 1))) (mCons (mOp ixF (mVar 2) (mC (.int 2))) mNil))))) mSkip)
    (mSeq (mSet 3 (mCall (G 4002) (mCons (mVar 1) (mCons (mOp ixF (mVar 2) (mC (.int 1))) (mCons (mDnewK) mNil)))))
    (mSeq (mIfS (mBool (mIsN (mVar 3))) (mRet (mC .non)) mSkip)
    (mRet (mCall (G 4001) (mCons (mVar 3) mNil))))))))))
/-- 4010 0 given, 1 lines, 2 step, 3 line -/
def c_conclude (G : GF) : MS := (mSeq (mSet 3 (mCall (G 4009) (mCons (mVar 0) (mCons (mVar 1) (mCons (mVar 2) mNil)))))
    (mSeq (mIfS (mOrT (mBool (mIsN (mVar 3))) (mNotT (mTru (mCall (G 36) (mCons (mVar 3) mNil))))) (mRet (mC .non)) mSkip)
    (mRet (mVar 3))))
/-- 4011 0 _law_state_here, 1 _law_depth, 2 _law_variables, 3 _law_kind -/
def c__law_term_2 (G : GF) : MS := (mSeq (mSet 3 (mCall (G 3001) (mCons (mVar 0) (mCons (mC (.int 5)) mNil))))
    (mSeq (mIfS (mAndT (mBool (mOp fLt (mVar 3) (mC (.int 2)))) (mBool (mOp fGt (mVar 2) (mC (.int 0))))) (mRet (mCall (G 3001) (mCons (mVar 0) (mCons (mVar 2) mNil)))) mSkip)
    (mSeq (mIfS (mAndT (mBool (mOpO fEq (oD (mVar 3)) (oD (mC (.int 4))))) (mBool (mOp fGt (mVar 1) (mC (.int 0))))) (mRet (mTup (mCons (mTup (mCons (mC (.int 2)) (mCons (mC (.int 3)) (mCons (mC (.int 0)) mNil)))) (mCons (mTup (mCons (mCall (G 4011) (mCons (mVar 0) (mCons (mOp fSub (mVar 1) (mC (.int 1))) (mCons (mVar 2) mNil)))) (mCons (mCall (G 4011) (mCons (mVar 0) (mCons (mOp fSub (mVar 1) (mC (.int 1))) (mCons (mVar 2) mNil)))) mNil))) mNil)))) mSkip)
    (mSeq (mIfS (mAndT (mBool (mOp fGt (mVar 3) (mC (.int 1)))) (mBool (mOp fGt (mVar 1) (mC (.int 0))))) (mRet (mTup (mCons (mTup (mCons (mC (.int 2)) (mCons (mC (.int 2)) (mCons (mC (.int 0)) mNil)))) (mCons (mTup (mCons (mCall (G 4011) (mCons (mVar 0) (mCons (mOp fSub (mVar 1) (mC (.int 1))) (mCons (mVar 2) mNil)))) mNil)) mNil)))) mSkip)
    (mRet (mTup (mCons (mTup (mCons (mC (.int 2)) (mCons (mCall (G 3001) (mCons (mVar 0) (mCons (mC (.int 2)) mNil))) (mCons (mC (.int 0)) mNil)))) (mCons (mTup mNil) mNil))))))))
/-- 4012 0 _law_state_here, 1 _law_depth, 2 _law_variables, 3 _law_positive, 4 _law_kind -/
def c__law_literal_2 (G : GF) : MS := (mSeq (mSet 3 (mOpO fEq (oD (mCall (G 3001) (mCons (mVar 0) (mCons (mC (.int 2)) mNil)))) (oD (mC (.int 0)))))
    (mSeq (mSet 4 (mCall (G 3001) (mCons (mVar 0) (mCons (mC (.int 4)) mNil))))
    (mSeq (mIfS (mBool (mOpO fEq (oD (mVar 4)) (oD (mC (.int 0))))) (mRet (mTup (mCons (mVar 3) (mCons (mCall (G 4011) (mCons (mVar 0) (mCons (mVar 1) (mCons (mVar 2) mNil)))) (mCons (mCall (G 4011) (mCons (mVar 0) (mCons (mVar 1) (mCons (mVar 2) mNil)))) mNil))))) mSkip)
    (mSeq (mIfS (mBool (mOpO fEq (oD (mVar 4)) (oD (mC (.int 1))))) (mRet (mTup (mCons (mVar 3) (mCons (mTup (mCons (mTup (mCons (mC (.int 1)) (mCons (mC (.int 4)) (mCons (mC (.int 0)) mNil)))) (mCons (mTup mNil) mNil))) (mCons (mTup (mCons (mTup (mCons (mC (.int 0)) (mCons (mC (.int 0)) (mCons (mC (.int 0)) mNil)))) (mCons (mTup mNil) mNil))) mNil))))) mSkip)
    (mRet (mTup (mCons (mVar 3) (mCons (mTup (mCons (mTup (mCons (mC (.int 1)) (mCons (mC (.int 5)) (mCons (mC (.int 0)) mNil)))) (mCons (mTup (mCons (mCall (G 4011) (mCons (mVar 0) (mCons (mVar 1) (mCons (mVar 2) mNil)))) mNil)) mNil))) (mCons (mTup (mCons (mTup (mCons (mC (.int 0)) (mCons (mC (.int 0)) (mCons (mC (.int 0)) mNil)))) (mCons (mTup mNil) mNil))) mNil)))))))))
/-- 4013 0 _law_state_here, 1 _law_most, 2 _law_depth, 3 _law_variables, 4 _law_literals, 5 _law_k -/
noncomputable def c__law_clause_2 (G : GF) : MS := (mSeq (mSet 4 (mAlloc (mLst mNil)))
    (mSeq (mFor (mRng1 (mCall (G 3001) (mCons (mVar 0) (mCons (mOp fAdd (mVar 1) (mC (.int 1))) mNil)))) (mgN 5) (mDrop (mApp (mVar 4) (mCall (G 4012) (mCons (mVar 0) (mCons (mVar 2) (mCons (mVar 3) mNil)))))))
    (mRet (mFn1 fTupc (oD (mVar 4))))))
/-- 4014 0 _law_term_here, 1 _law_substitution_here, 2 _law_argument -/
noncomputable def c__law_put_2 (G : GF) : MS := (mSeq (mIfS (mTru (mIsI "int" (oD (mVar 0)))) (mRet (mGet2 (mVar 1) (mVar 0) (mVar 0))) mSkip)
    (mRet (mTup (mCons (mOp ixF (mVar 0) (mC (.int 0))) (mCons (mFn1 fTupc (oN (mComp (mSrc (oD (mOp ixF (mVar 0) (mC (.int 1))))) [2] (mgN 2) mYes (mCall (G 4014) (mCons (mVar 2) (mCons (mVar 1) mNil)))))) mNil)))))
/-- 4015 0 _law_clause_here, 1 _law_substitution_here, 2 _law_literals, 3 _law_literal_here -/
noncomputable def c__law_put_clause_2 (G : GF) : MS := (mSeq (mSet 2 (mAlloc (mLst mNil)))
    (mSeq (mFor (mSrc (oD (mVar 0))) (mgN 3) (mDrop (mApp (mVar 2) (mTup (mCons (mOp ixF (mVar 3) (mC (.int 0))) (mCons (mCall (G 4014) (mCons (mOp ixF (mVar 3) (mC (.int 1))) (mCons (mVar 1) mNil))) (mCons (mCall (G 4014) (mCons (mOp ixF (mVar 3) (mC (.int 2))) (mCons (mVar 1) mNil))) mNil)))))))
    (mRet (mFn1 fTupc (oD (mVar 2))))))
/-- 4016 0 _law_term_here, 1 _law_place, 2 _law_found, 3 _law_k -/
noncomputable def c__law_places_2 (G : GF) : MS := (mSeq (mDrop (mApp (mVar 2) (mVar 1)))
    (mIfS (mNotT (mTru (mIsI "int" (oD (mVar 0))))) (mFor (mRng1 (mFn1 fLen (oD (mOp ixF (mVar 0) (mC (.int 1)))))) (mgN 3) (mDrop (mCall (G 4016) (mCons (mOp ixF (mOp ixF (mVar 0) (mC (.int 1))) (mVar 3)) (mCons (mOp fAdd (mVar 1) (mTup (mCons (mVar 3) mNil))) (mCons (mVar 2) mNil)))))) mSkip))
/-- 4017 0 _law_state_here, 1 _law_variables, 2 _law_substitution_here, 3 _law_k -/
noncomputable def c__law_substitution_2 (G : GF) : MS := (mSeq (mSet 2 (mDnewK))
    (mSeq (mFor (mRng1 (mCall (G 3001) (mCons (mVar 0) (mCons (mC (.int 3)) mNil)))) (mgN 3) (mIfS (mBool (mOpO fEq (oD (mCall (G 3001) (mCons (mVar 0) (mCons (mC (.int 12)) mNil)))) (oD (mC (.int 0))))) (mSetD (mVar 2) (mCall (G 3001) (mCons (mVar 0) (mCons (mVar 1) mNil))) (mTup (mCons (mTup (mCons (mC (.int 1)) (mCons (mC (.int 4)) (mCons (mC (.int 0)) mNil)))) (mCons (mTup mNil) mNil)))) (mSetD (mVar 2) (mCall (G 3001) (mCons (mVar 0) (mCons (mVar 1) mNil))) (mCall (G 4011) (mCons (mVar 0) (mCons (mC (.int 1)) (mCons (mVar 1) mNil)))))))
    (mRet (mVar 2))))
/-- 4018 0 _law_state_here, 1 _law_kind, 2 _law_term_here, 3 _law_atom_here -/
def c__law_rich_clause (G : GF) : MS := (mSeq (mSet 1 (mCall (G 3001) (mCons (mVar 0) (mCons (mC (.int 5)) mNil))))
    (mSeq (mIfS (mBool (mOpO fEq (oD (mVar 1)) (oD (mC (.int 0))))) (mRet (mTup (mCons (mTup (mCons (mC (.bl true)) (mCons (mCall (G 4011) (mCons (mVar 0) (mCons (mC (.int 1)) (mCons (mC (.int 2)) mNil)))) (mCons (mCall (G 4011) (mCons (mVar 0) (mCons (mC (.int 1)) (mCons (mC (.int 2)) mNil)))) mNil)))) mNil))) mSkip)
    (mSeq (mIfS (mBool (mOpO fEq (oD (mVar 1)) (oD (mC (.int 1))))) (mSeq (mSet 2 (mCall (G 4011) (mCons (mVar 0) (mCons (mC (.int 1)) (mCons (mC (.int 2)) mNil)))))
    (mRet (mTup (mCons (mTup (mCons (mC (.bl false)) (mCons (mVar 2) (mCons (mVar 2) mNil)))) (mCons (mTup (mCons (mC (.bl true)) (mCons (mTup (mCons (mTup (mCons (mC (.int 1)) (mCons (mC (.int 5)) (mCons (mC (.int 0)) mNil)))) (mCons (mTup (mCons (mVar 2) mNil)) mNil))) (mCons (mTup (mCons (mTup (mCons (mC (.int 0)) (mCons (mC (.int 0)) (mCons (mC (.int 0)) mNil)))) (mCons (mTup mNil) mNil))) mNil)))) mNil))))) mSkip)
    (mSeq (mIfS (mBool (mOpO fEq (oD (mVar 1)) (oD (mC (.int 2))))) (mSeq (mSet 2 (mCall (G 4011) (mCons (mVar 0) (mCons (mC (.int 1)) (mCons (mC (.int 2)) mNil)))))
    (mSeq (mSet 3 (mTup (mCons (mTup (mCons (mC (.int 1)) (mCons (mC (.int 5)) (mCons (mC (.int 0)) mNil)))) (mCons (mTup (mCons (mVar 2) mNil)) mNil))))
    (mRet (mTup (mCons (mTup (mCons (mC (.bl true)) (mCons (mVar 3) (mCons (mTup (mCons (mTup (mCons (mC (.int 0)) (mCons (mC (.int 0)) (mCons (mC (.int 0)) mNil)))) (mCons (mTup mNil) mNil))) mNil)))) (mCons (mTup (mCons (mOpO fEq (oD (mCall (G 3001) (mCons (mVar 0) (mCons (mC (.int 2)) mNil)))) (oD (mC (.int 0)))) (mCons (mVar 3) (mCons (mTup (mCons (mTup (mCons (mC (.int 0)) (mCons (mC (.int 0)) (mCons (mC (.int 0)) mNil)))) (mCons (mTup mNil) mNil))) mNil)))) mNil)))))) mSkip)
    (mRet (mCall (G 4013) (mCons (mVar 0) (mCons (mC (.int 3)) (mCons (mC (.int 1)) (mCons (mC (.int 2)) mNil))))))))))
/-- 4019 0 given, 1 steps, 2 lines, 3 step, 4 line -/
noncomputable def c_check (G : GF) : MS := (mSeq (mSet 2 (mAlloc (mLst mNil)))
    (mSeq (mFor (mSrc (oD (mVar 1))) (mgN 3) (mSeq (mSet 4 (mCall (G 4010) (mCons (mVar 0) (mCons (mVar 2) (mCons (mVar 3) mNil)))))
    (mSeq (mIfS (mBool (mIsN (mVar 4))) (mRet (mVar 2)) mSkip)
    (mDrop (mApp (mVar 2) (mVar 4))))))
    (mRet (mVar 2))))
/-- 4020 0 given, 1 steps, 2 lines -/
def c_refutes (G : GF) : MS := (mSeq (mSet 2 (mCall (G 4019) (mCons (mVar 0) (mCons (mVar 1) mNil))))
    (mRet (mAnd (mOp fGt (mFn1 fLen (oD (mVar 2))) (mC (.int 0))) (mAnd (mOpO fEq (oD (mFn1 fLen (oD (mVar 2)))) (oD (mFn1 fLen (oD (mVar 1))))) (mOpO fEq (oD (mFn1 fLen (oD (mOp ixF (mVar 2) (mNeg (mC (.int 1))))))) (oD (mC (.int 0))))))))
noncomputable def lZl4 : List Fb := [mkFb 2 4 c_is_needed,
  mkFb 1 3 c_cleaned,
  mkFb 3 4 c_line_by,
  mkFb 2 2 c_literal_at,
  mkFb 2 2 c_without,
  mkFb 2 2 c_conclude_given,
  mkFb 2 13 c_conclude_superpose,
  mkFb 2 4 c_conclude_resolve,
  mkFb 2 7 c_conclude_factor,
  mkFb 3 4 c_conclude_unchecked,
  mkFb 3 4 c_conclude,
  mkFb 3 4 c__law_term_2,
  mkFb 3 5 c__law_literal_2,
  mkFb 4 6 c__law_clause_2,
  mkFb 2 3 c__law_put_2,
  mkFb 2 4 c__law_put_clause_2,
  mkFb 3 4 c__law_places_2,
  mkFb 2 4 c__law_substitution_2,
  mkFb 1 4 c__law_rich_clause,
  mkFb 2 5 c_check,
  mkFb 2 3 c_refutes]
end Zi
set_option maxRecDepth 100000
set_option maxHeartbeats 4000000

namespace Lk19
open PySem PySem.Spec PyProof.Rows L2 Zi
/-! ### the text -/
def topS (i : Nat) : Stmt := PySem.Challenge.pw_lastproof_k19_whole_unifying_and_matchin.main.body.getD i (.Pass ⟨0, 0, 0, 0⟩)
abbrev s_is_variable : Stmt := topS 1
abbrev s_occurrences : Stmt := topS 2
abbrev s_put : Stmt := topS 4
abbrev s_bind : Stmt := topS 6
abbrev s_unify : Stmt := topS 7
abbrev s_extends : Stmt := topS 9
abbrev s_match : Stmt := topS 10
abbrev s__law_cell : Stmt := topS 12
abbrev s__law_symbol : Stmt := topS 13
abbrev s__law_term : Stmt := topS 14
abbrev s__law_ground : Stmt := topS 15
abbrev s__law_ground_substitution : Stmt := topS 16
abbrev s__law_is_variable : Stmt := topS 17
abbrev s__law_variables : Stmt := topS 18
abbrev s__law_put : Stmt := topS 19
abbrev s__law_pairs : Stmt := topS 20
abbrev s_law : Stmt := topS 21
abbrev N_is_variable : List Str := ["term"]
abbrev P_is_variable : List Str := ["term"]
theorem sc_is_variable : FnScope N_is_variable P_is_variable (defScope s_is_variable) := ⟨rfl, rfl, rfl, by decide +kernel, rfl, by decide +kernel, by decide +kernel⟩
abbrev N_occurrences : List Str := ["term", "variable", "total", "part"]
abbrev P_occurrences : List Str := ["term", "variable"]
theorem sc_occurrences : FnScope N_occurrences P_occurrences (defScope s_occurrences) := ⟨rfl, rfl, rfl, by decide +kernel, rfl, by decide +kernel, by decide +kernel⟩
abbrev N_put : List Str := ["term", "substitution", "part"]
abbrev P_put : List Str := ["term", "substitution"]
theorem sc_put : FnScope N_put P_put (defScope s_put) := ⟨rfl, rfl, rfl, by decide +kernel, rfl, by decide +kernel, by decide +kernel⟩
abbrev N_bind : List Str := ["found", "variable", "term", "step", "new", "key", "old"]
abbrev P_bind : List Str := ["found", "variable", "term"]
theorem sc_bind : FnScope N_bind P_bind (defScope s_bind) := ⟨rfl, rfl, rfl, by decide +kernel, rfl, by decide +kernel, by decide +kernel⟩
abbrev N_unify : List Str := ["pairs", "waiting", "found", "first", "second", "step", "one", "other"]
abbrev P_unify : List Str := ["pairs"]
theorem sc_unify : FnScope N_unify P_unify (defScope s_unify) := ⟨rfl, rfl, rfl, by decide +kernel, rfl, by decide +kernel, by decide +kernel⟩
abbrev N_extends : List Str := ["pattern", "term", "found", "one", "other"]
abbrev P_extends : List Str := ["pattern", "term", "found"]
theorem sc_extends : FnScope N_extends P_extends (defScope s_extends) := ⟨rfl, rfl, rfl, by decide +kernel, rfl, by decide +kernel, by decide +kernel⟩
abbrev N_match : List Str := ["pattern", "term", "told", "found"]
abbrev P_match : List Str := ["pattern", "term", "told"]
theorem sc_match : FnScope N_match P_match (defScope s_match) := ⟨rfl, rfl, rfl, by decide +kernel, rfl, by decide +kernel, by decide +kernel⟩
abbrev N__law_cell : List Str := ["_law_script", "_law_k", "_law_cell_here", "_law_low", "_law_mid", "_law_high"]
abbrev P__law_cell : List Str := ["_law_script", "_law_k"]
theorem sc__law_cell : FnScope N__law_cell P__law_cell (defScope s__law_cell) := ⟨rfl, rfl, rfl, by decide +kernel, rfl, by decide +kernel, by decide +kernel⟩
abbrev N__law_symbol : List Str := ["_law_n", "_law_symbols"]
abbrev P__law_symbol : List Str := ["_law_n"]
theorem sc__law_symbol : FnScope N__law_symbol P__law_symbol (defScope s__law_symbol) := ⟨rfl, rfl, rfl, by decide +kernel, rfl, by decide +kernel, by decide +kernel⟩
abbrev N__law_term : List Str := ["_law_row", "_law_deep", "_law_kind", "_law_many", "_law_symbol_here", "_law_parts", "_law_k", "_law_found"]
abbrev P__law_term : List Str := ["_law_row", "_law_deep"]
theorem sc__law_term : FnScope N__law_term P__law_term (defScope s__law_term) := ⟨rfl, rfl, rfl, by decide +kernel, rfl, by decide +kernel, by decide +kernel⟩
abbrev N__law_ground : List Str := ["_law_row", "_law_deep", "_law_many", "_law_symbol_here", "_law_parts", "_law_k", "_law_found"]
abbrev P__law_ground : List Str := ["_law_row", "_law_deep"]
theorem sc__law_ground : FnScope N__law_ground P__law_ground (defScope s__law_ground) := ⟨rfl, rfl, rfl, by decide +kernel, rfl, by decide +kernel, by decide +kernel⟩
abbrev N__law_ground_substitution : List Str := ["_law_row", "_law_many", "_law_deep", "_law_told", "_law_variable", "_law_found"]
abbrev P__law_ground_substitution : List Str := ["_law_row", "_law_many", "_law_deep"]
theorem sc__law_ground_substitution : FnScope N__law_ground_substitution P__law_ground_substitution (defScope s__law_ground_substitution) := ⟨rfl, rfl, rfl, by decide +kernel, rfl, by decide +kernel, by decide +kernel⟩
abbrev N__law_is_variable : List Str := ["_law_term_here"]
abbrev P__law_is_variable : List Str := ["_law_term_here"]
theorem sc__law_is_variable : FnScope N__law_is_variable P__law_is_variable (defScope s__law_is_variable) := ⟨rfl, rfl, rfl, by decide +kernel, rfl, by decide +kernel, by decide +kernel⟩
abbrev N__law_variables : List Str := ["_law_term_here", "_law_found", "_law_part"]
abbrev P__law_variables : List Str := ["_law_term_here", "_law_found"]
theorem sc__law_variables : FnScope N__law_variables P__law_variables (defScope s__law_variables) := ⟨rfl, rfl, rfl, by decide +kernel, rfl, by decide +kernel, by decide +kernel⟩
abbrev N__law_put : List Str := ["_law_term_here", "_law_told", "_law_pair", "_law_part"]
abbrev P__law_put : List Str := ["_law_term_here", "_law_told"]
theorem sc__law_put : FnScope N__law_put P__law_put (defScope s__law_put) := ⟨rfl, rfl, rfl, by decide +kernel, rfl, by decide +kernel, by decide +kernel⟩
abbrev N__law_pairs : List Str := ["_law_told", "_law_key"]
abbrev P__law_pairs : List Str := ["_law_told"]
theorem sc__law_pairs : FnScope N__law_pairs P__law_pairs (defScope s__law_pairs) := ⟨rfl, rfl, rfl, by decide +kernel, rfl, by decide +kernel, by decide +kernel⟩
abbrev N_law : List Str := ["_law_script", "_law_pattern", "_law_plain", "_law_term_here", "_law_matched", "_law_found", "_law_result", "_law_pair"]
abbrev P_law : List Str := ["_law_script"]
theorem sc_law : FnScope N_law P_law (defScope s_law) := ⟨rfl, rfl, rfl, by decide +kernel, rfl, by decide +kernel, by decide +kernel⟩
/-! ### what the functions compute -/
noncomputable def m__law_ground_substitution (G : GF) : MS := (mSeq (mSet 3 (mAlloc (mLst mNil)))
    (mSeq (mFor (mRng1 (mVar 1)) (mgN 4) (mSeq (mSet 5 (mCall (G 2012) (mCons (mVar 0) (mCons (mVar 2) mNil))))
    (mSeq (mDrop (mApp (mVar 3) (mTup (mCons (mVar 4) (mCons (mOp ixF (mVar 5) (mC (.int 0))) mNil)))))
    (mSet 0 (mOp ixF (mVar 5) (mC (.int 1)))))))
    (mRet (mVar 3))))
noncomputable def m_law (G : GF) : MS := (mSeq (mSet 1 (mOp ixF (mCall (G 12) (mCons (mCall (G 2) (mCons (mVar 0) (mCons (mC (.int 0)) mNil))) (mCons (mC (.int 2)) mNil))) (mC (.int 0))))
    (mSeq (mSet 2 (mOpO fEq (oD (mOp fMod (mCall (G 2) (mCons (mVar 0) (mCons (mC (.int 1)) mNil))) (mC (.int 2)))) (oD (mC (.int 0)))))
    (mSeq (mSet 3 (mCall (G 1005) (mCons (mOp ixF (mCall (G 12) (mCons (mCall (G 2) (mCons (mVar 0) (mCons (mC (.int 2)) mNil))) (mCons (mC (.int 2)) mNil))) (mC (.int 0))) (mCons (mAlloc (mLst (mCons (mTup (mCons (mC (.int 0)) (mCons (mC (.int 5)) mNil))) (mCons (mTup (mCons (mC (.int 1)) (mCons (mC (.int 6)) mNil))) (mCons (mTup (mCons (mC (.int 2)) (mCons (mC (.int 7)) mNil))) mNil))))) mNil))))
    (mSeq (mIfS (mTru (mVar 2)) (mSet 3 (mOp ixF (mCall (G 2012) (mCons (mCall (G 2) (mCons (mVar 0) (mCons (mC (.int 2)) mNil))) (mCons (mC (.int 2)) mNil))) (mC (.int 0)))) mSkip)
    (mSeq (mIfS (mBool (mOpO fEq (oD (mOp fMod (mCall (G 2) (mCons (mVar 0) (mCons (mC (.int 3)) mNil))) (mC (.int 4)))) (oD (mC (.int 0))))) (mSet 3 (mCall (G 1005) (mCons (mVar 1) (mCons (mCall (G 9000) (mCons (mCall (G 2) (mCons (mVar 0) (mCons (mC (.int 2)) mNil))) (mCons (mC (.int 3)) (mCons (mC (.int 1)) mNil)))) mNil)))) mSkip)
    (mSeq (mSet 4 (mCall (G 2017) (mCons (mVar 1) (mCons (mVar 3) (mCons (mDnewK) mNil)))))
    (mSeq (mSet 5 (mCall (G 5000) (mCons (mAlloc (mLst (mCons (mTup (mCons (mVar 1) (mCons (mVar 3) mNil))) mNil))) mNil)))
    (mSeq (mIfS (mAndT (mBool (mNotN (mVar 4))) (mBool (mIsN (mVar 5)))) (mRet (mC (.bl false))) mSkip)
    (mSeq (mIfS (mBool (mOpO fNe (oD (mCall (G 15) (mCons (mVar 3) (mCons (mAlloc (mLst mNil)) mNil)))) (oN (mLst mNil)))) (mRet (mC (.bl true))) mSkip)
    (mSeq (mIfS (mOrT (mBool (mIsN (mVar 5))) (mBool (mIsN (mVar 4)))) (mRet (mAnd (mIsN (mVar 5)) (mIsN (mVar 4)))) mSkip)
    (mSeq (mSet 6 (mCall (G 1007) (mCons (mVar 5) mNil)))
    (mSeq (mFor (mSrc (oD (mCall (G 1007) (mCons (mVar 4) mNil)))) (mgN 7) (mIfS (mBool (mOpO fNe (oD (mCall (G 1005) (mCons (mOp ixF (mVar 7) (mC (.int 0))) (mCons (mVar 6) mNil)))) (oD (mOp ixF (mVar 7) (mC (.int 1)))))) (mRet (mC (.bl false))) mSkip))
    (mRet (mOpO fEq (oD (mFn1 fLen (oD (mVar 6)))) (oD (mFn1 fLen (oD (mCall (G 1007) (mCons (mVar 4) mNil)))))))))))))))))))
noncomputable def own : List Fb := [mkFb 3 6 m__law_ground_substitution,
  mkFb 1 8 m_law]
noncomputable def prog (i : Nat) : Option Fb := bif Nat.blt i 1000 then lZl0[i - 0]? else (bif Nat.blt i 2000 then lZl1[i - 1000]? else (bif Nat.blt i 3000 then lZl2[i - 2000]? else (bif Nat.blt i 4000 then lZl3[i - 3000]? else (bif Nat.blt i 5000 then lZl4[i - 4000]? else (bif Nat.blt i 6000 then lZl5[i - 5000]? else (own[i - 9000]?))))))
theorem hp0 : ∀ j fb, lZl0[j]? = some fb → prog (0 + j) = some fb := fun j fb h => by
  have hj : j < 1000 := Nat.lt_of_lt_of_le (List.getElem?_eq_some_iff.mp h).1 (by decide)
  unfold prog
  rw [show Nat.blt (0 + j) 1000 = true from by rw [Nat.blt_eq]; omega, cond_true, Nat.add_sub_cancel_left]
  exact h
theorem hp1 : ∀ j fb, lZl1[j]? = some fb → prog (1000 + j) = some fb := fun j fb h => by
  have hj : j < 1000 := Nat.lt_of_lt_of_le (List.getElem?_eq_some_iff.mp h).1 (by decide)
  unfold prog
  rw [show Nat.blt (1000 + j) 1000 = false from by rw [Bool.eq_false_iff]; intro z; rw [Nat.blt_eq] at z; omega, cond_false]
  rw [show Nat.blt (1000 + j) 2000 = true from by rw [Nat.blt_eq]; omega, cond_true, Nat.add_sub_cancel_left]
  exact h
theorem hp2 : ∀ j fb, lZl2[j]? = some fb → prog (2000 + j) = some fb := fun j fb h => by
  have hj : j < 1000 := Nat.lt_of_lt_of_le (List.getElem?_eq_some_iff.mp h).1 (by decide)
  unfold prog
  rw [show Nat.blt (2000 + j) 1000 = false from by rw [Bool.eq_false_iff]; intro z; rw [Nat.blt_eq] at z; omega, cond_false]
  rw [show Nat.blt (2000 + j) 2000 = false from by rw [Bool.eq_false_iff]; intro z; rw [Nat.blt_eq] at z; omega, cond_false]
  rw [show Nat.blt (2000 + j) 3000 = true from by rw [Nat.blt_eq]; omega, cond_true, Nat.add_sub_cancel_left]
  exact h
theorem hp3 : ∀ j fb, lZl3[j]? = some fb → prog (3000 + j) = some fb := fun j fb h => by
  have hj : j < 1000 := Nat.lt_of_lt_of_le (List.getElem?_eq_some_iff.mp h).1 (by decide)
  unfold prog
  rw [show Nat.blt (3000 + j) 1000 = false from by rw [Bool.eq_false_iff]; intro z; rw [Nat.blt_eq] at z; omega, cond_false]
  rw [show Nat.blt (3000 + j) 2000 = false from by rw [Bool.eq_false_iff]; intro z; rw [Nat.blt_eq] at z; omega, cond_false]
  rw [show Nat.blt (3000 + j) 3000 = false from by rw [Bool.eq_false_iff]; intro z; rw [Nat.blt_eq] at z; omega, cond_false]
  rw [show Nat.blt (3000 + j) 4000 = true from by rw [Nat.blt_eq]; omega, cond_true, Nat.add_sub_cancel_left]
  exact h
theorem hp4 : ∀ j fb, lZl4[j]? = some fb → prog (4000 + j) = some fb := fun j fb h => by
  have hj : j < 1000 := Nat.lt_of_lt_of_le (List.getElem?_eq_some_iff.mp h).1 (by decide)
  unfold prog
  rw [show Nat.blt (4000 + j) 1000 = false from by rw [Bool.eq_false_iff]; intro z; rw [Nat.blt_eq] at z; omega, cond_false]
  rw [show Nat.blt (4000 + j) 2000 = false from by rw [Bool.eq_false_iff]; intro z; rw [Nat.blt_eq] at z; omega, cond_false]
  rw [show Nat.blt (4000 + j) 3000 = false from by rw [Bool.eq_false_iff]; intro z; rw [Nat.blt_eq] at z; omega, cond_false]
  rw [show Nat.blt (4000 + j) 4000 = false from by rw [Bool.eq_false_iff]; intro z; rw [Nat.blt_eq] at z; omega, cond_false]
  rw [show Nat.blt (4000 + j) 5000 = true from by rw [Nat.blt_eq]; omega, cond_true, Nat.add_sub_cancel_left]
  exact h
theorem hp5 : ∀ j fb, lZl5[j]? = some fb → prog (5000 + j) = some fb := fun j fb h => by
  have hj : j < 1000 := Nat.lt_of_lt_of_le (List.getElem?_eq_some_iff.mp h).1 (by decide)
  unfold prog
  rw [show Nat.blt (5000 + j) 1000 = false from by rw [Bool.eq_false_iff]; intro z; rw [Nat.blt_eq] at z; omega, cond_false]
  rw [show Nat.blt (5000 + j) 2000 = false from by rw [Bool.eq_false_iff]; intro z; rw [Nat.blt_eq] at z; omega, cond_false]
  rw [show Nat.blt (5000 + j) 3000 = false from by rw [Bool.eq_false_iff]; intro z; rw [Nat.blt_eq] at z; omega, cond_false]
  rw [show Nat.blt (5000 + j) 4000 = false from by rw [Bool.eq_false_iff]; intro z; rw [Nat.blt_eq] at z; omega, cond_false]
  rw [show Nat.blt (5000 + j) 5000 = false from by rw [Bool.eq_false_iff]; intro z; rw [Nat.blt_eq] at z; omega, cond_false]
  rw [show Nat.blt (5000 + j) 6000 = true from by rw [Nat.blt_eq]; omega, cond_true, Nat.add_sub_cancel_left]
  exact h
/-! ### that they do -/
structure Txt (K : PySem.W.Frag) (mg : Str → Option Value) where
  f_is_variable : Addr
  fd_is_variable : FuncData
  F_is_variable : Fun K "is_variable" "is_variable" s_is_variable f_is_variable fd_is_variable
  g_is_variable : mg "is_variable" = some (.ref f_is_variable)
  b_is_variable : Binds K fd_is_variable P_is_variable []
  f_occurrences : Addr
  fd_occurrences : FuncData
  F_occurrences : Fun K "occurrences" "occurrences" s_occurrences f_occurrences fd_occurrences
  g_occurrences : mg "occurrences" = some (.ref f_occurrences)
  b_occurrences : Binds K fd_occurrences P_occurrences []
  f_put : Addr
  fd_put : FuncData
  F_put : Fun K "put" "put" s_put f_put fd_put
  g_put : mg "put" = some (.ref f_put)
  b_put : Binds K fd_put P_put []
  f_bind : Addr
  fd_bind : FuncData
  F_bind : Fun K "bind" "bind" s_bind f_bind fd_bind
  g_bind : mg "bind" = some (.ref f_bind)
  b_bind : Binds K fd_bind P_bind []
  f_unify : Addr
  fd_unify : FuncData
  F_unify : Fun K "unify" "unify" s_unify f_unify fd_unify
  g_unify : mg "unify" = some (.ref f_unify)
  b_unify : Binds K fd_unify P_unify []
  f_extends : Addr
  fd_extends : FuncData
  F_extends : Fun K "extends" "extends" s_extends f_extends fd_extends
  g_extends : mg "extends" = some (.ref f_extends)
  b_extends : Binds K fd_extends P_extends []
  f_match : Addr
  fd_match : FuncData
  F_match : Fun K "match" "match" s_match f_match fd_match
  g_match : mg "match" = some (.ref f_match)
  b_match : Binds K fd_match P_match []
  f__law_cell : Addr
  fd__law_cell : FuncData
  F__law_cell : Fun K "_law_cell" "_law_cell" s__law_cell f__law_cell fd__law_cell
  g__law_cell : mg "_law_cell" = some (.ref f__law_cell)
  b__law_cell : Binds K fd__law_cell P__law_cell []
  f__law_symbol : Addr
  fd__law_symbol : FuncData
  F__law_symbol : Fun K "_law_symbol" "_law_symbol" s__law_symbol f__law_symbol fd__law_symbol
  g__law_symbol : mg "_law_symbol" = some (.ref f__law_symbol)
  b__law_symbol : Binds K fd__law_symbol P__law_symbol []
  f__law_term : Addr
  fd__law_term : FuncData
  F__law_term : Fun K "_law_term" "_law_term" s__law_term f__law_term fd__law_term
  g__law_term : mg "_law_term" = some (.ref f__law_term)
  b__law_term : Binds K fd__law_term P__law_term []
  f__law_ground : Addr
  fd__law_ground : FuncData
  F__law_ground : Fun K "_law_ground" "_law_ground" s__law_ground f__law_ground fd__law_ground
  g__law_ground : mg "_law_ground" = some (.ref f__law_ground)
  b__law_ground : Binds K fd__law_ground P__law_ground []
  f__law_ground_substitution : Addr
  fd__law_ground_substitution : FuncData
  F__law_ground_substitution : Fun K "_law_ground_substitution" "_law_ground_substitution" s__law_ground_substitution f__law_ground_substitution fd__law_ground_substitution
  g__law_ground_substitution : mg "_law_ground_substitution" = some (.ref f__law_ground_substitution)
  b__law_ground_substitution : Binds K fd__law_ground_substitution P__law_ground_substitution []
  f__law_is_variable : Addr
  fd__law_is_variable : FuncData
  F__law_is_variable : Fun K "_law_is_variable" "_law_is_variable" s__law_is_variable f__law_is_variable fd__law_is_variable
  g__law_is_variable : mg "_law_is_variable" = some (.ref f__law_is_variable)
  b__law_is_variable : Binds K fd__law_is_variable P__law_is_variable []
  f__law_variables : Addr
  fd__law_variables : FuncData
  F__law_variables : Fun K "_law_variables" "_law_variables" s__law_variables f__law_variables fd__law_variables
  g__law_variables : mg "_law_variables" = some (.ref f__law_variables)
  b__law_variables : Binds K fd__law_variables P__law_variables []
  f__law_put : Addr
  fd__law_put : FuncData
  F__law_put : Fun K "_law_put" "_law_put" s__law_put f__law_put fd__law_put
  g__law_put : mg "_law_put" = some (.ref f__law_put)
  b__law_put : Binds K fd__law_put P__law_put []
  f__law_pairs : Addr
  fd__law_pairs : FuncData
  F__law_pairs : Fun K "_law_pairs" "_law_pairs" s__law_pairs f__law_pairs fd__law_pairs
  g__law_pairs : mg "_law_pairs" = some (.ref f__law_pairs)
  b__law_pairs : Binds K fd__law_pairs P__law_pairs []
  f_law : Addr
  fd_law : FuncData
  F_law : Fun K "law" "law" s_law f_law fd_law
  g_law : mg "law" = some (.ref f_law)
  b_law : Binds K fd_law P_law []
  z_isinstance : mg "isinstance" = none
  z_int : mg "int" = none
  z_tuple : mg "tuple" = none
  z_list : mg "list" = none
  z_len : mg "len" = none
  z_zip : mg "zip" = none
  z_dict : mg "dict" = none
  z_range : mg "range" = none
section
variable {P : Program} {w : World} {K : PySem.W.Frag} {mg : Str → Option Value} {base : Heap}
structure All (P : Program) (w : World) (base : Heap) (T : Txt K mg) (k : Nat) : Prop where
  ok_is_variable : FnOk P w K mg base CX0 k T.f_is_variable T.fd_is_variable P_is_variable (spG ⟨K, mg⟩ (run prog k 3))
  ok_occurrences : FnOk P w K mg base CX0 k T.f_occurrences T.fd_occurrences P_occurrences (spG ⟨K, mg⟩ (run prog k 6))
  ok_put : FnOk P w K mg base CX0 k T.f_put T.fd_put P_put (spG ⟨K, mg⟩ (run prog k 1000))
  ok_bind : FnOk P w K mg base CX0 k T.f_bind T.fd_bind P_bind (spG ⟨K, mg⟩ (run prog k 2015))
  ok_unify : FnOk P w K mg base CX0 k T.f_unify T.fd_unify P_unify (spG ⟨K, mg⟩ (run prog k 5000))
  ok_extends : FnOk P w K mg base CX0 k T.f_extends T.fd_extends P_extends (spG ⟨K, mg⟩ (run prog k 2016))
  ok_match : FnOk P w K mg base CX0 k T.f_match T.fd_match P_match (spG ⟨K, mg⟩ (run prog k 2017))
  ok__law_cell : FnOk P w K mg base CX0 k T.f__law_cell T.fd__law_cell P__law_cell (spG ⟨K, mg⟩ (run prog k 2))
  ok__law_symbol : FnOk P w K mg base CX0 k T.f__law_symbol T.fd__law_symbol P__law_symbol (spG ⟨K, mg⟩ (run prog k 11))
  ok__law_term : FnOk P w K mg base CX0 k T.f__law_term T.fd__law_term P__law_term (spG ⟨K, mg⟩ (run prog k 12))
  ok__law_ground : FnOk P w K mg base CX0 k T.f__law_ground T.fd__law_ground P__law_ground (spG ⟨K, mg⟩ (run prog k 2012))
  ok__law_ground_substitution : FnOk P w K mg base CX0 k T.f__law_ground_substitution T.fd__law_ground_substitution P__law_ground_substitution (spG ⟨K, mg⟩ (run prog k 9000))
  ok__law_is_variable : FnOk P w K mg base CX0 k T.f__law_is_variable T.fd__law_is_variable P__law_is_variable (spG ⟨K, mg⟩ (run prog k 14))
  ok__law_variables : FnOk P w K mg base CX0 k T.f__law_variables T.fd__law_variables P__law_variables (spG ⟨K, mg⟩ (run prog k 15))
  ok__law_put : FnOk P w K mg base CX0 k T.f__law_put T.fd__law_put P__law_put (spG ⟨K, mg⟩ (run prog k 1005))
  ok__law_pairs : FnOk P w K mg base CX0 k T.f__law_pairs T.fd__law_pairs P__law_pairs (spG ⟨K, mg⟩ (run prog k 1007))
  ok_law : FnOk P w K mg base CX0 k T.f_law T.fd_law P_law (spG ⟨K, mg⟩ (run prog k 9001))
theorem ok_is_variable (T : Txt K mg) {k : Nat} (IH : All P w base T k) : FnOk P w K mg base CX0 (k + 1) T.f_is_variable T.fd_is_variable P_is_variable (spG ⟨K, mg⟩ (run prog (k + 1) 3)) :=
  fn_ok (nm := 3) (ms := c_is_variable) T.F_is_variable sc_is_variable rfl fun cdv A outer s H E hr =>
    (b_one (st_ret (s_isi "int" (o_d (s_var 0)) T.z_isinstance T.z_int)))
theorem ok_occurrences (T : Txt K mg) {k : Nat} (IH : All P w base T k) : FnOk P w K mg base CX0 (k + 1) T.f_occurrences T.fd_occurrences P_occurrences (spG ⟨K, mg⟩ (run prog (k + 1) 6)) :=
  fn_ok (nm := 6) (ms := c_occurrences) T.F_occurrences sc_occurrences rfl fun cdv A outer s H E hr =>
    (b_cons (st_if (t_val (s_call IH.ok_is_variable hr T.g_is_variable T.F_is_variable.kp T.b_is_variable (sa_cons (s_var 0) sa_nil))) (b_one (st_ret (s_if (t_eq (hu2 hr) (o_d (s_var 0)) (o_d (s_var 1))) s_int s_int))) b_nil)
    (b_cons (st_set (i := 2) sc_occurrences.nd s_int)
    (b_cons (st_for PassesOwn.never rfl (i_seq (o_d (s_ix (s_var 0) s_int))) (g_name 3 sc_occurrences.nd) (b_one (st_iadd (i := 2) sc_occurrences.nd (s_call IH.ok_occurrences hr T.g_occurrences T.F_occurrences.kp T.b_occurrences (sa_cons (s_var 3) (sa_cons (s_var 1) sa_nil))))))
    (b_one (st_ret (s_var 2))))))
theorem ok_put (T : Txt K mg) {k : Nat} (IH : All P w base T k) : FnOk P w K mg base CX0 (k + 1) T.f_put T.fd_put P_put (spG ⟨K, mg⟩ (run prog (k + 1) 1000)) :=
  fn_ok (nm := 1000) (ms := c_put) T.F_put sc_put rfl fun cdv A outer s H E hr =>
    (b_cons (st_if (t_val (s_call IH.ok_is_variable hr T.g_is_variable T.F_is_variable.kp T.b_is_variable (sa_cons (s_var 0) sa_nil))) (b_one (st_ret (s_get2 (hu2 hr) (s_var 1) (s_var 0) (s_var 0)))) b_nil)
    (b_one (st_ret (s_tup (sa_cons (s_ix (s_var 0) s_int) (sa_cons (s_tupc (o_n (l_comp (own := [("part", 2)]) rfl sc_put.nd (i_seq (o_d (s_ix (s_var 0) s_int))) (blkOk_by (own := [("part", 2)]) (N := N_put) (sc := defScope s_put) (by decide +kernel)) (by decide) (fun _ _ _ _ _ => (g_name 2 sc_put.nd)) (fun _ _ _ _ _ => ts_nil) (fun _ _ _ _ _ => (s_call IH.ok_put hr T.g_put T.F_put.kp T.b_put (sa_cons (s_var 2) (sa_cons (s_var 1) sa_nil)))))) T.z_tuple) sa_nil))))))
theorem ok_bind (T : Txt K mg) {k : Nat} (IH : All P w base T k) : FnOk P w K mg base CX0 (k + 1) T.f_bind T.fd_bind P_bind (spG ⟨K, mg⟩ (run prog (k + 1) 2015)) :=
  fn_ok (nm := 2015) (ms := c_bind) T.F_bind sc_bind rfl fun cdv A outer s H E hr =>
    (b_cons (st_set (i := 3) sc_bind.nd (s_disp1 (hu2 hr) (s_var 1) (s_var 2)))
    (b_cons (st_set (i := 4) sc_bind.nd s_dnewK)
    (b_cons (st_lock 0 (st_for PassesOwn.never rfl (i_items (s_var 0)) (g_tup rfl (gs_cons (g_name 5 sc_bind.nd) (gs_cons (g_name 6 sc_bind.nd) gs_nil))) (b_one (st_setD (hu2 hr) (s_var 4) (s_var 5) (s_call IH.ok_put hr T.g_put T.F_put.kp T.b_put (sa_cons (s_var 6) (sa_cons (s_var 3) sa_nil)))))))
    (b_cons (st_setD (hu2 hr) (s_var 4) (s_var 1) (s_var 2))
    (b_one (st_ret (s_var 4)))))))
theorem ok_unify (T : Txt K mg) {k : Nat} (IH : All P w base T k) : FnOk P w K mg base CX0 (k + 1) T.f_unify T.fd_unify P_unify (spG ⟨K, mg⟩ (run prog (k + 1) 5000)) :=
  fn_ok (nm := 5000) (ms := c_unify) T.F_unify sc_unify rfl fun cdv A outer s H E hr =>
    (b_cons (st_set (i := 1) sc_unify.nd (s_alloc (l_lisc (o_d (s_var 0)) T.z_list)))
    (b_cons (st_set (i := 2) sc_unify.nd s_dnewK)
    (b_cons (st_while PassesOwn.never (t_val (s_var 1)) (b_cons (st_asg (g_tup rfl (gs_cons (g_name 3 sc_unify.nd) (gs_cons (g_name 4 sc_unify.nd) gs_nil))) (s_pop (s_var 1)))
    (b_cons (st_if (t_eq (hu2 hr) (o_d (s_var 3)) (o_d (s_var 4))) (b_one st_continue) b_nil)
    (b_cons (st_if (t_w (w_and (t_val (s_call IH.ok_is_variable hr T.g_is_variable T.F_is_variable.kp T.b_is_variable (sa_cons (s_var 4) sa_nil))) (w_and1 (t_not (t_val (s_call IH.ok_is_variable hr T.g_is_variable T.F_is_variable.kp T.b_is_variable (sa_cons (s_var 3) sa_nil))))))) (b_one (st_par (i := 3) (j := 4) rfl sc_unify.nd rfl rfl (by decide) rfl rfl (sa_cons (s_var 4) (sa_cons (s_var 3) sa_nil)) (by rfl))) b_nil)
    (b_one (st_if (t_val (s_call IH.ok_is_variable hr T.g_is_variable T.F_is_variable.kp T.b_is_variable (sa_cons (s_var 3) sa_nil))) (b_cons (st_if (t_gt (s_call IH.ok_occurrences hr T.g_occurrences T.F_occurrences.kp T.b_occurrences (sa_cons (s_var 4) (sa_cons (s_var 3) sa_nil))) s_int) (b_one (st_ret s_non)) b_nil)
    (b_cons (st_set (i := 5) sc_unify.nd (s_disp1 (hu2 hr) (s_var 3) (s_var 4)))
    (b_cons (st_setL (i := 1) (own := [("one", 6), ("other", 7)]) rfl sc_unify.nd rfl rfl (sw_true rfl rfl rfl (by decide +kernel)) (i_seq (o_d (s_var 1))) (blkOk_by (own := [("one", 6), ("other", 7)]) (N := N_unify) (sc := defScope s_unify) (by decide +kernel)) (by decide) (fun _ _ _ _ _ => (g_tup rfl (gs_cons (g_name 6 sc_unify.nd) (gs_cons (g_name 7 sc_unify.nd) gs_nil)))) (fun _ _ _ _ _ => ts_nil) (fun _ _ _ _ _ => (s_tup (sa_cons (s_call IH.ok_put hr T.g_put T.F_put.kp T.b_put (sa_cons (s_var 6) (sa_cons (s_var 5) sa_nil))) (sa_cons (s_call IH.ok_put hr T.g_put T.F_put.kp T.b_put (sa_cons (s_var 7) (sa_cons (s_var 5) sa_nil))) sa_nil)))))
    (b_one (st_set (i := 2) sc_unify.nd (s_call IH.ok_bind hr T.g_bind T.F_bind.kp T.b_bind (sa_cons (s_var 2) (sa_cons (s_var 3) (sa_cons (s_var 4) sa_nil))))))))) (b_one (st_if (t_w (w_or (t_ne (hu2 hr) (o_d (s_ix (s_var 3) s_int)) (o_d (s_ix (s_var 4) s_int))) (w_or1 (t_ne (hu2 hr) (o_d (s_len (o_d (s_ix (s_var 3) s_int)) T.z_len)) (o_d (s_len (o_d (s_ix (s_var 4) s_int)) T.z_len)))))) (b_one (st_ret s_non)) (b_one (st_set (i := 1) sc_unify.nd (s_alloc (l_cat (o_d (s_var 1)) (o_n (l_lzip rfl (s_ix (s_var 3) s_int) (s_ix (s_var 4) s_int) T.z_list T.z_zip))))))))))))))
    (b_one (st_ret (s_var 2))))))
theorem ok_extends (T : Txt K mg) {k : Nat} (IH : All P w base T k) : FnOk P w K mg base CX0 (k + 1) T.f_extends T.fd_extends P_extends (spG ⟨K, mg⟩ (run prog (k + 1) 2016)) :=
  fn_ok (nm := 2016) (ms := c_extends) T.F_extends sc_extends rfl fun cdv A outer s H E hr =>
    (b_cons (st_if (t_val (s_call IH.ok_is_variable hr T.g_is_variable T.F_is_variable.kp T.b_is_variable (sa_cons (s_var 0) sa_nil))) (b_cons (st_if (t_inD (hu2 hr) (s_var 0) (s_var 2)) (b_one (st_ret (s_eq (hu2 hr) (o_d (s_ixX (hu2 hr) (s_var 2) (s_var 0))) (o_d (s_var 1))))) b_nil)
    (b_cons (st_setD (hu2 hr) (s_var 2) (s_var 0) (s_var 1))
    (b_one (st_ret s_bl)))) b_nil)
    (b_cons (st_if (t_w (w_or (t_val (s_call IH.ok_is_variable hr T.g_is_variable T.F_is_variable.kp T.b_is_variable (sa_cons (s_var 1) sa_nil))) (w_or (t_ne (hu2 hr) (o_d (s_ix (s_var 0) s_int)) (o_d (s_ix (s_var 1) s_int))) (w_or1 (t_ne (hu2 hr) (o_d (s_len (o_d (s_ix (s_var 0) s_int)) T.z_len)) (o_d (s_len (o_d (s_ix (s_var 1) s_int)) T.z_len))))))) (b_one (st_ret s_bl)) b_nil)
    (b_cons (st_for PassesOwn.never rfl (i_zip (o_d (s_ix (s_var 0) s_int)) (o_d (s_ix (s_var 1) s_int)) T.z_zip) (g_tup rfl (gs_cons (g_name 3 sc_extends.nd) (gs_cons (g_name 4 sc_extends.nd) gs_nil))) (b_one (st_if (t_not (t_val (s_call IH.ok_extends hr T.g_extends T.F_extends.kp T.b_extends (sa_cons (s_var 3) (sa_cons (s_var 4) (sa_cons (s_var 2) sa_nil)))))) (b_one (st_ret s_bl)) b_nil)))
    (b_one (st_ret s_bl)))))
theorem ok_match (T : Txt K mg) {k : Nat} (IH : All P w base T k) : FnOk P w K mg base CX0 (k + 1) T.f_match T.fd_match P_match (spG ⟨K, mg⟩ (run prog (k + 1) 2017)) :=
  fn_ok (nm := 2017) (ms := c_match) T.F_match sc_match rfl fun cdv A outer s H E hr =>
    (b_cons (st_set (i := 3) sc_match.nd (s_dcopy (s_var 2) T.z_dict))
    (b_cons (st_if (t_val (s_call IH.ok_extends hr T.g_extends T.F_extends.kp T.b_extends (sa_cons (s_var 0) (sa_cons (s_var 1) (sa_cons (s_var 3) sa_nil))))) (b_one (st_ret (s_var 3))) b_nil)
    (b_one (st_ret s_non))))
theorem ok__law_cell (T : Txt K mg) {k : Nat} (IH : All P w base T k) : FnOk P w K mg base CX0 (k + 1) T.f__law_cell T.fd__law_cell P__law_cell (spG ⟨K, mg⟩ (run prog (k + 1) 2)) :=
  fn_ok (nm := 2) (ms := c__law_cell) T.F__law_cell sc__law_cell rfl fun cdv A outer s H E hr =>
    (b_cons (st_set (i := 2) sc__law_cell.nd (s_add (s_mul s_int (s_var 1)) s_int))
    (b_cons (st_if (t_lt (s_var 1) (s_len (o_d (s_var 0)) T.z_len)) (b_one (st_set (i := 2) sc__law_cell.nd (s_ix (s_var 0) (s_var 1)))) b_nil)
    (b_cons (st_if (t_lt (s_var 2) s_int) (b_one (st_set (i := 2) sc__law_cell.nd (s_sub s_int (s_mul s_int (s_var 2))))) b_nil)
    (b_cons (st_if (t_lt (s_var 2) s_int) (b_cons (st_set (i := 3) sc__law_cell.nd (s_mod (s_intc (o_d (s_add (s_add (s_mul (s_var 2) s_int) (s_mul (s_var 1) s_int)) s_int)) T.z_int) s_int))
    (b_cons (st_set (i := 4) sc__law_cell.nd (s_mod (s_intc (o_d (s_add (s_add (s_mul (s_var 3) s_int) (s_mul (s_var 1) s_int)) s_int)) T.z_int) s_int))
    (b_cons (st_set (i := 5) sc__law_cell.nd (s_mod (s_intc (o_d (s_add (s_add (s_mul (s_var 4) s_int) (s_var 3)) s_int)) T.z_int) s_int))
    (b_one (st_set (i := 2) sc__law_cell.nd (s_add (s_mul (s_add (s_mul (s_var 5) s_int) (s_var 4)) s_int) (s_var 3))))))) b_nil)
    (b_one (st_ret (s_var 2)))))))
theorem ok__law_symbol (T : Txt K mg) {k : Nat} (IH : All P w base T k) : FnOk P w K mg base CX0 (k + 1) T.f__law_symbol T.fd__law_symbol P__law_symbol (spG ⟨K, mg⟩ (run prog (k + 1) 11)) :=
  fn_ok (nm := 11) (ms := c__law_symbol) T.F__law_symbol sc__law_symbol rfl fun cdv A outer s H E hr =>
    (b_cons (st_set (i := 1) sc__law_symbol.nd (s_alloc (l_lst (sa_cons (s_tup (sa_cons s_int (sa_cons s_int (sa_cons s_int sa_nil)))) (sa_cons (s_tup (sa_cons s_int (sa_cons s_int (sa_cons s_int sa_nil)))) (sa_cons (s_tup (sa_cons s_int (sa_cons s_int (sa_cons s_int sa_nil)))) (sa_cons (s_tup (sa_cons s_int (sa_cons s_int (sa_cons s_int sa_nil)))) (sa_cons (s_tup (sa_cons s_int (sa_cons s_int (sa_cons s_int sa_nil)))) sa_nil))))))))
    (b_one (st_ret (s_ix (s_var 1) (s_mod (s_intc (o_d (s_var 0)) T.z_int) s_int)))))
theorem ok__law_term (T : Txt K mg) {k : Nat} (IH : All P w base T k) : FnOk P w K mg base CX0 (k + 1) T.f__law_term T.fd__law_term P__law_term (spG ⟨K, mg⟩ (run prog (k + 1) 12)) :=
  fn_ok (nm := 12) (ms := c__law_term) T.F__law_term sc__law_term rfl fun cdv A outer s H E hr =>
    (b_cons (st_set (i := 2) sc__law_term.nd (s_mod (s_intc (o_d (s_var 0)) T.z_int) s_int))
    (b_cons (st_set (i := 0) sc__law_term.nd (s_div (s_var 0) s_int))
    (b_cons (st_if (t_lt (s_var 2) s_int) (b_one (st_ret (s_tup (sa_cons (s_mod (s_intc (o_d (s_var 0)) T.z_int) s_int) (sa_cons (s_div (s_var 0) s_int) sa_nil))))) b_nil)
    (b_cons (st_set (i := 3) sc__law_term.nd (s_mod (s_intc (o_d (s_var 0)) T.z_int) s_int))
    (b_cons (st_set (i := 0) sc__law_term.nd (s_div (s_var 0) s_int))
    (b_cons (st_if (t_eq (hu2 hr) (o_d (s_var 1)) (o_d s_int)) (b_one (st_set (i := 3) sc__law_term.nd s_int)) b_nil)
    (b_cons (st_set (i := 4) sc__law_term.nd (s_call IH.ok__law_symbol hr T.g__law_symbol T.F__law_symbol.kp T.b__law_symbol (sa_cons (s_mod (s_intc (o_d (s_var 0)) T.z_int) s_int) sa_nil)))
    (b_cons (st_set (i := 0) sc__law_term.nd (s_div (s_var 0) s_int))
    (b_cons (st_set (i := 5) sc__law_term.nd (s_alloc (l_lst sa_nil)))
    (b_cons (st_for PassesOwn.never rfl (i_rng1 (s_var 3) T.z_range) (g_name 6 sc__law_term.nd) (b_cons (st_set (i := 7) sc__law_term.nd (s_call IH.ok__law_term hr T.g__law_term T.F__law_term.kp T.b__law_term (sa_cons (s_var 0) (sa_cons (s_sub (s_var 1) s_int) sa_nil))))
    (b_cons (st_expr (s_app (s_var 5) (s_ix (s_var 7) s_int)))
    (b_one (st_set (i := 0) sc__law_term.nd (s_ix (s_var 7) s_int))))))
    (b_one (st_ret (s_tup (sa_cons (s_tup (sa_cons (s_var 4) (sa_cons (s_tupc (o_d (s_var 5)) T.z_tuple) sa_nil))) (sa_cons (s_var 0) sa_nil)))))))))))))))
theorem ok__law_ground (T : Txt K mg) {k : Nat} (IH : All P w base T k) : FnOk P w K mg base CX0 (k + 1) T.f__law_ground T.fd__law_ground P__law_ground (spG ⟨K, mg⟩ (run prog (k + 1) 2012)) :=
  fn_ok (nm := 2012) (ms := c__law_ground) T.F__law_ground sc__law_ground rfl fun cdv A outer s H E hr =>
    (b_cons (st_set (i := 2) sc__law_ground.nd (s_mod (s_intc (o_d (s_var 0)) T.z_int) s_int))
    (b_cons (st_set (i := 0) sc__law_ground.nd (s_div (s_var 0) s_int))
    (b_cons (st_if (t_eq (hu2 hr) (o_d (s_var 1)) (o_d s_int)) (b_one (st_set (i := 2) sc__law_ground.nd s_int)) b_nil)
    (b_cons (st_set (i := 3) sc__law_ground.nd (s_call IH.ok__law_symbol hr T.g__law_symbol T.F__law_symbol.kp T.b__law_symbol (sa_cons (s_mod (s_intc (o_d (s_var 0)) T.z_int) s_int) sa_nil)))
    (b_cons (st_set (i := 0) sc__law_ground.nd (s_div (s_var 0) s_int))
    (b_cons (st_set (i := 4) sc__law_ground.nd (s_alloc (l_lst sa_nil)))
    (b_cons (st_for PassesOwn.never rfl (i_rng1 (s_var 2) T.z_range) (g_name 5 sc__law_ground.nd) (b_cons (st_set (i := 6) sc__law_ground.nd (s_call IH.ok__law_ground hr T.g__law_ground T.F__law_ground.kp T.b__law_ground (sa_cons (s_var 0) (sa_cons (s_sub (s_var 1) s_int) sa_nil))))
    (b_cons (st_expr (s_app (s_var 4) (s_ix (s_var 6) s_int)))
    (b_one (st_set (i := 0) sc__law_ground.nd (s_ix (s_var 6) s_int))))))
    (b_one (st_ret (s_tup (sa_cons (s_tup (sa_cons (s_var 3) (sa_cons (s_tupc (o_d (s_var 4)) T.z_tuple) sa_nil))) (sa_cons (s_var 0) sa_nil))))))))))))
theorem ok__law_ground_substitution (T : Txt K mg) {k : Nat} (IH : All P w base T k) : FnOk P w K mg base CX0 (k + 1) T.f__law_ground_substitution T.fd__law_ground_substitution P__law_ground_substitution (spG ⟨K, mg⟩ (run prog (k + 1) 9000)) :=
  fn_ok (nm := 9000) (ms := m__law_ground_substitution) T.F__law_ground_substitution sc__law_ground_substitution rfl fun cdv A outer s H E hr =>
    (b_cons (st_set (i := 3) sc__law_ground_substitution.nd (s_alloc (l_lst sa_nil)))
    (b_cons (st_for PassesOwn.never rfl (i_rng1 (s_var 1) T.z_range) (g_name 4 sc__law_ground_substitution.nd) (b_cons (st_set (i := 5) sc__law_ground_substitution.nd (s_call IH.ok__law_ground hr T.g__law_ground T.F__law_ground.kp T.b__law_ground (sa_cons (s_var 0) (sa_cons (s_var 2) sa_nil))))
    (b_cons (st_expr (s_app (s_var 3) (s_tup (sa_cons (s_var 4) (sa_cons (s_ix (s_var 5) s_int) sa_nil)))))
    (b_one (st_set (i := 0) sc__law_ground_substitution.nd (s_ix (s_var 5) s_int))))))
    (b_one (st_ret (s_var 3)))))
theorem ok__law_is_variable (T : Txt K mg) {k : Nat} (IH : All P w base T k) : FnOk P w K mg base CX0 (k + 1) T.f__law_is_variable T.fd__law_is_variable P__law_is_variable (spG ⟨K, mg⟩ (run prog (k + 1) 14)) :=
  fn_ok (nm := 14) (ms := c__law_is_variable) T.F__law_is_variable sc__law_is_variable rfl fun cdv A outer s H E hr =>
    (b_one (st_ret (s_isi "int" (o_d (s_var 0)) T.z_isinstance T.z_int)))
theorem ok__law_variables (T : Txt K mg) {k : Nat} (IH : All P w base T k) : FnOk P w K mg base CX0 (k + 1) T.f__law_variables T.fd__law_variables P__law_variables (spG ⟨K, mg⟩ (run prog (k + 1) 15)) :=
  fn_ok (nm := 15) (ms := c__law_variables) T.F__law_variables sc__law_variables rfl fun cdv A outer s H E hr =>
    (b_cons (st_if (t_val (s_call IH.ok__law_is_variable hr T.g__law_is_variable T.F__law_is_variable.kp T.b__law_is_variable (sa_cons (s_var 0) sa_nil))) (b_cons (st_if (t_nin (hu2 hr) (o_d (s_var 0)) (o_d (s_var 1))) (b_one (st_set (i := 1) sc__law_variables.nd (s_alloc (l_cat (o_d (s_var 1)) (o_n (l_lst (sa_cons (s_var 0) sa_nil))))))) b_nil)
    (b_one (st_ret (s_var 1)))) b_nil)
    (b_cons (st_for PassesOwn.never rfl (i_seq (o_d (s_ix (s_var 0) s_int))) (g_name 2 sc__law_variables.nd) (b_one (st_set (i := 1) sc__law_variables.nd (s_call IH.ok__law_variables hr T.g__law_variables T.F__law_variables.kp T.b__law_variables (sa_cons (s_var 2) (sa_cons (s_var 1) sa_nil))))))
    (b_one (st_ret (s_var 1)))))
theorem ok__law_put (T : Txt K mg) {k : Nat} (IH : All P w base T k) : FnOk P w K mg base CX0 (k + 1) T.f__law_put T.fd__law_put P__law_put (spG ⟨K, mg⟩ (run prog (k + 1) 1005)) :=
  fn_ok (nm := 1005) (ms := c__law_put) T.F__law_put sc__law_put rfl fun cdv A outer s H E hr =>
    (b_cons (st_if (t_val (s_call IH.ok__law_is_variable hr T.g__law_is_variable T.F__law_is_variable.kp T.b__law_is_variable (sa_cons (s_var 0) sa_nil))) (b_cons (st_for PassesOwn.never rfl (i_seq (o_d (s_var 1))) (g_name 2 sc__law_put.nd) (b_one (st_if (t_eq (hu2 hr) (o_d (s_ix (s_var 2) s_int)) (o_d (s_var 0))) (b_one (st_ret (s_ix (s_var 2) s_int))) b_nil)))
    (b_one (st_ret (s_var 0)))) b_nil)
    (b_one (st_ret (s_tup (sa_cons (s_ix (s_var 0) s_int) (sa_cons (s_tupc (o_n (l_comp (own := [("_law_part", 3)]) rfl sc__law_put.nd (i_seq (o_d (s_ix (s_var 0) s_int))) (blkOk_by (own := [("_law_part", 3)]) (N := N__law_put) (sc := defScope s__law_put) (by decide +kernel)) (by decide) (fun _ _ _ _ _ => (g_name 3 sc__law_put.nd)) (fun _ _ _ _ _ => ts_nil) (fun _ _ _ _ _ => (s_call IH.ok__law_put hr T.g__law_put T.F__law_put.kp T.b__law_put (sa_cons (s_var 3) (sa_cons (s_var 1) sa_nil)))))) T.z_tuple) sa_nil))))))
theorem ok__law_pairs (T : Txt K mg) {k : Nat} (IH : All P w base T k) : FnOk P w K mg base CX0 (k + 1) T.f__law_pairs T.fd__law_pairs P__law_pairs (spG ⟨K, mg⟩ (run prog (k + 1) 1007)) :=
  fn_ok (nm := 1007) (ms := c__law_pairs) T.F__law_pairs sc__law_pairs rfl fun cdv A outer s H E hr =>
    (b_one (st_ret (s_alloc (l_lock 0 (l_comp (own := [("_law_key", 1)]) rfl sc__law_pairs.nd (i_keys (s_var 0)) (blkOk_by (own := [("_law_key", 1)]) (N := N__law_pairs) (sc := defScope s__law_pairs) (by decide +kernel)) (by decide) (fun _ _ _ _ _ => (g_name 1 sc__law_pairs.nd)) (fun _ _ _ _ _ => ts_nil) (fun _ _ _ _ _ => (s_tup (sa_cons (s_var 1) (sa_cons (s_ixX (hu2 hr) (s_var 0) (s_var 1)) sa_nil)))))))))
theorem ok_law (T : Txt K mg) {k : Nat} (IH : All P w base T k) : FnOk P w K mg base CX0 (k + 1) T.f_law T.fd_law P_law (spG ⟨K, mg⟩ (run prog (k + 1) 9001)) :=
  fn_ok (nm := 9001) (ms := m_law) T.F_law sc_law rfl fun cdv A outer s H E hr =>
    (b_cons (st_set (i := 1) sc_law.nd (s_ix (s_call IH.ok__law_term hr T.g__law_term T.F__law_term.kp T.b__law_term (sa_cons (s_call IH.ok__law_cell hr T.g__law_cell T.F__law_cell.kp T.b__law_cell (sa_cons (s_var 0) (sa_cons s_int sa_nil))) (sa_cons s_int sa_nil))) s_int))
    (b_cons (st_set (i := 2) sc_law.nd (s_eq (hu2 hr) (o_d (s_mod (s_call IH.ok__law_cell hr T.g__law_cell T.F__law_cell.kp T.b__law_cell (sa_cons (s_var 0) (sa_cons s_int sa_nil))) s_int)) (o_d s_int)))
    (b_cons (st_set (i := 3) sc_law.nd (s_call IH.ok__law_put hr T.g__law_put T.F__law_put.kp T.b__law_put (sa_cons (s_ix (s_call IH.ok__law_term hr T.g__law_term T.F__law_term.kp T.b__law_term (sa_cons (s_call IH.ok__law_cell hr T.g__law_cell T.F__law_cell.kp T.b__law_cell (sa_cons (s_var 0) (sa_cons s_int sa_nil))) (sa_cons s_int sa_nil))) s_int) (sa_cons (s_alloc (l_lst (sa_cons (s_tup (sa_cons s_int (sa_cons s_int sa_nil))) (sa_cons (s_tup (sa_cons s_int (sa_cons s_int sa_nil))) (sa_cons (s_tup (sa_cons s_int (sa_cons s_int sa_nil))) sa_nil))))) sa_nil))))
    (b_cons (st_if (t_val (s_var 2)) (b_one (st_set (i := 3) sc_law.nd (s_ix (s_call IH.ok__law_ground hr T.g__law_ground T.F__law_ground.kp T.b__law_ground (sa_cons (s_call IH.ok__law_cell hr T.g__law_cell T.F__law_cell.kp T.b__law_cell (sa_cons (s_var 0) (sa_cons s_int sa_nil))) (sa_cons s_int sa_nil))) s_int))) b_nil)
    (b_cons (st_if (t_eq (hu2 hr) (o_d (s_mod (s_call IH.ok__law_cell hr T.g__law_cell T.F__law_cell.kp T.b__law_cell (sa_cons (s_var 0) (sa_cons s_int sa_nil))) s_int)) (o_d s_int)) (b_one (st_set (i := 3) sc_law.nd (s_call IH.ok__law_put hr T.g__law_put T.F__law_put.kp T.b__law_put (sa_cons (s_var 1) (sa_cons (s_call IH.ok__law_ground_substitution hr T.g__law_ground_substitution T.F__law_ground_substitution.kp T.b__law_ground_substitution (sa_cons (s_call IH.ok__law_cell hr T.g__law_cell T.F__law_cell.kp T.b__law_cell (sa_cons (s_var 0) (sa_cons s_int sa_nil))) (sa_cons s_int (sa_cons s_int sa_nil)))) sa_nil))))) b_nil)
    (b_cons (st_set (i := 4) sc_law.nd (s_call IH.ok_match hr T.g_match T.F_match.kp T.b_match (sa_cons (s_var 1) (sa_cons (s_var 3) (sa_cons s_dnewK sa_nil)))))
    (b_cons (st_set (i := 5) sc_law.nd (s_call IH.ok_unify hr T.g_unify T.F_unify.kp T.b_unify (sa_cons (s_alloc (l_lst (sa_cons (s_tup (sa_cons (s_var 1) (sa_cons (s_var 3) sa_nil))) sa_nil))) sa_nil)))
    (b_cons (st_if (t_w (w_and (t_notN (s_var 4)) (w_and1 (t_isN (s_var 5))))) (b_one (st_ret s_bl)) b_nil)
    (b_cons (st_if (t_ne (hu2 hr) (o_d (s_call IH.ok__law_variables hr T.g__law_variables T.F__law_variables.kp T.b__law_variables (sa_cons (s_var 3) (sa_cons (s_alloc (l_lst sa_nil)) sa_nil)))) (o_n (l_lst sa_nil))) (b_one (st_ret s_bl)) b_nil)
    (b_cons (st_if (t_w (w_or (t_isN (s_var 5)) (w_or1 (t_isN (s_var 4))))) (b_one (st_ret (s_and (s_isN (s_var 5)) (s_one (s_isN (s_var 4)))))) b_nil)
    (b_cons (st_set (i := 6) sc_law.nd (s_call IH.ok__law_pairs hr T.g__law_pairs T.F__law_pairs.kp T.b__law_pairs (sa_cons (s_var 5) sa_nil)))
    (b_cons (st_for PassesOwn.never rfl (i_seq (o_d (s_call IH.ok__law_pairs hr T.g__law_pairs T.F__law_pairs.kp T.b__law_pairs (sa_cons (s_var 4) sa_nil)))) (g_name 7 sc_law.nd) (b_one (st_if (t_ne (hu2 hr) (o_d (s_call IH.ok__law_put hr T.g__law_put T.F__law_put.kp T.b__law_put (sa_cons (s_ix (s_var 7) s_int) (sa_cons (s_var 6) sa_nil)))) (o_d (s_ix (s_var 7) s_int))) (b_one (st_ret s_bl)) b_nil)))
    (b_one (st_ret (s_eq (hu2 hr) (o_d (s_len (o_d (s_var 6)) T.z_len)) (o_d (s_len (o_d (s_call IH.ok__law_pairs hr T.g__law_pairs T.F__law_pairs.kp T.b__law_pairs (sa_cons (s_var 4) sa_nil))) T.z_len)))))))))))))))))
theorem all_ok (T : Txt K mg) : ∀ k, All P w base T k
  | 0 => ⟨fn_zero, fn_zero, fn_zero, fn_zero, fn_zero, fn_zero, fn_zero, fn_zero, fn_zero, fn_zero, fn_zero, fn_zero, fn_zero, fn_zero, fn_zero, fn_zero, fn_zero⟩
  | k + 1 => have IH := all_ok T k
    ⟨ok_is_variable T IH, ok_occurrences T IH, ok_put T IH, ok_bind T IH, ok_unify T IH, ok_extends T IH, ok_match T IH, ok__law_cell T IH, ok__law_symbol T IH, ok__law_term T IH, ok__law_ground T IH, ok__law_ground_substitution T IH, ok__law_is_variable T IH, ok__law_variables T IH, ok__law_put T IH, ok__law_pairs T IH, ok_law T IH⟩
end
theorem all_mk {l : PySem.W.OpenLaw} {w : World} {K : PySem.W.Frag} {h : Heap} {mg : Str → Option Value} {fa : Addr} (X : K.In h) (G : h.Ns mainGlobals mg) (hfa : mg "law" = some (.ref fa))
    {f0 : Addr} {od0 an0 : Option Addr} {sl0 : Array (Option Value)} {oc0 kV0 dc0 pm0 cd0 ct0 : Value}
    (a0 : PySem.W.nsIn K mainGlobals "is_variable" = some (some (.ref f0))) (l0 : K.lookup f0 = some ⟨oc0, od0, .func (PySem.W.fnOf "is_variable" "is_variable" (defArgs s_is_variable) (defBody s_is_variable) (defScope s_is_variable) .none kV0 dc0 pm0 an0 cd0 ct0), sl0⟩) (c0 : PySem.W.codeIn K cd0 "is_variable" = true) (k0 : PySem.W.keepIn K (.ref f0) = true)
    {f1 : Addr} {od1 an1 : Option Addr} {sl1 : Array (Option Value)} {oc1 kV1 dc1 pm1 cd1 ct1 : Value}
    (a1 : PySem.W.nsIn K mainGlobals "occurrences" = some (some (.ref f1))) (l1 : K.lookup f1 = some ⟨oc1, od1, .func (PySem.W.fnOf "occurrences" "occurrences" (defArgs s_occurrences) (defBody s_occurrences) (defScope s_occurrences) .none kV1 dc1 pm1 an1 cd1 ct1), sl1⟩) (c1 : PySem.W.codeIn K cd1 "occurrences" = true) (k1 : PySem.W.keepIn K (.ref f1) = true)
    {f2 : Addr} {od2 an2 : Option Addr} {sl2 : Array (Option Value)} {oc2 kV2 dc2 pm2 cd2 ct2 : Value}
    (a2 : PySem.W.nsIn K mainGlobals "put" = some (some (.ref f2))) (l2 : K.lookup f2 = some ⟨oc2, od2, .func (PySem.W.fnOf "put" "put" (defArgs s_put) (defBody s_put) (defScope s_put) .none kV2 dc2 pm2 an2 cd2 ct2), sl2⟩) (c2 : PySem.W.codeIn K cd2 "put" = true) (k2 : PySem.W.keepIn K (.ref f2) = true)
    {f3 : Addr} {od3 an3 : Option Addr} {sl3 : Array (Option Value)} {oc3 kV3 dc3 pm3 cd3 ct3 : Value}
    (a3 : PySem.W.nsIn K mainGlobals "bind" = some (some (.ref f3))) (l3 : K.lookup f3 = some ⟨oc3, od3, .func (PySem.W.fnOf "bind" "bind" (defArgs s_bind) (defBody s_bind) (defScope s_bind) .none kV3 dc3 pm3 an3 cd3 ct3), sl3⟩) (c3 : PySem.W.codeIn K cd3 "bind" = true) (k3 : PySem.W.keepIn K (.ref f3) = true)
    {f4 : Addr} {od4 an4 : Option Addr} {sl4 : Array (Option Value)} {oc4 kV4 dc4 pm4 cd4 ct4 : Value}
    (a4 : PySem.W.nsIn K mainGlobals "unify" = some (some (.ref f4))) (l4 : K.lookup f4 = some ⟨oc4, od4, .func (PySem.W.fnOf "unify" "unify" (defArgs s_unify) (defBody s_unify) (defScope s_unify) .none kV4 dc4 pm4 an4 cd4 ct4), sl4⟩) (c4 : PySem.W.codeIn K cd4 "unify" = true) (k4 : PySem.W.keepIn K (.ref f4) = true)
    {f5 : Addr} {od5 an5 : Option Addr} {sl5 : Array (Option Value)} {oc5 kV5 dc5 pm5 cd5 ct5 : Value}
    (a5 : PySem.W.nsIn K mainGlobals "extends" = some (some (.ref f5))) (l5 : K.lookup f5 = some ⟨oc5, od5, .func (PySem.W.fnOf "extends" "extends" (defArgs s_extends) (defBody s_extends) (defScope s_extends) .none kV5 dc5 pm5 an5 cd5 ct5), sl5⟩) (c5 : PySem.W.codeIn K cd5 "extends" = true) (k5 : PySem.W.keepIn K (.ref f5) = true)
    {f6 : Addr} {od6 an6 : Option Addr} {sl6 : Array (Option Value)} {oc6 kV6 dc6 pm6 cd6 ct6 : Value}
    (a6 : PySem.W.nsIn K mainGlobals "match" = some (some (.ref f6))) (l6 : K.lookup f6 = some ⟨oc6, od6, .func (PySem.W.fnOf "match" "match" (defArgs s_match) (defBody s_match) (defScope s_match) .none kV6 dc6 pm6 an6 cd6 ct6), sl6⟩) (c6 : PySem.W.codeIn K cd6 "match" = true) (k6 : PySem.W.keepIn K (.ref f6) = true)
    {f7 : Addr} {od7 an7 : Option Addr} {sl7 : Array (Option Value)} {oc7 kV7 dc7 pm7 cd7 ct7 : Value}
    (a7 : PySem.W.nsIn K mainGlobals "_law_cell" = some (some (.ref f7))) (l7 : K.lookup f7 = some ⟨oc7, od7, .func (PySem.W.fnOf "_law_cell" "_law_cell" (defArgs s__law_cell) (defBody s__law_cell) (defScope s__law_cell) .none kV7 dc7 pm7 an7 cd7 ct7), sl7⟩) (c7 : PySem.W.codeIn K cd7 "_law_cell" = true) (k7 : PySem.W.keepIn K (.ref f7) = true)
    {f8 : Addr} {od8 an8 : Option Addr} {sl8 : Array (Option Value)} {oc8 kV8 dc8 pm8 cd8 ct8 : Value}
    (a8 : PySem.W.nsIn K mainGlobals "_law_symbol" = some (some (.ref f8))) (l8 : K.lookup f8 = some ⟨oc8, od8, .func (PySem.W.fnOf "_law_symbol" "_law_symbol" (defArgs s__law_symbol) (defBody s__law_symbol) (defScope s__law_symbol) .none kV8 dc8 pm8 an8 cd8 ct8), sl8⟩) (c8 : PySem.W.codeIn K cd8 "_law_symbol" = true) (k8 : PySem.W.keepIn K (.ref f8) = true)
    {f9 : Addr} {od9 an9 : Option Addr} {sl9 : Array (Option Value)} {oc9 kV9 dc9 pm9 cd9 ct9 : Value}
    (a9 : PySem.W.nsIn K mainGlobals "_law_term" = some (some (.ref f9))) (l9 : K.lookup f9 = some ⟨oc9, od9, .func (PySem.W.fnOf "_law_term" "_law_term" (defArgs s__law_term) (defBody s__law_term) (defScope s__law_term) .none kV9 dc9 pm9 an9 cd9 ct9), sl9⟩) (c9 : PySem.W.codeIn K cd9 "_law_term" = true) (k9 : PySem.W.keepIn K (.ref f9) = true)
    {f10 : Addr} {od10 an10 : Option Addr} {sl10 : Array (Option Value)} {oc10 kV10 dc10 pm10 cd10 ct10 : Value}
    (a10 : PySem.W.nsIn K mainGlobals "_law_ground" = some (some (.ref f10))) (l10 : K.lookup f10 = some ⟨oc10, od10, .func (PySem.W.fnOf "_law_ground" "_law_ground" (defArgs s__law_ground) (defBody s__law_ground) (defScope s__law_ground) .none kV10 dc10 pm10 an10 cd10 ct10), sl10⟩) (c10 : PySem.W.codeIn K cd10 "_law_ground" = true) (k10 : PySem.W.keepIn K (.ref f10) = true)
    {f11 : Addr} {od11 an11 : Option Addr} {sl11 : Array (Option Value)} {oc11 kV11 dc11 pm11 cd11 ct11 : Value}
    (a11 : PySem.W.nsIn K mainGlobals "_law_ground_substitution" = some (some (.ref f11))) (l11 : K.lookup f11 = some ⟨oc11, od11, .func (PySem.W.fnOf "_law_ground_substitution" "_law_ground_substitution" (defArgs s__law_ground_substitution) (defBody s__law_ground_substitution) (defScope s__law_ground_substitution) .none kV11 dc11 pm11 an11 cd11 ct11), sl11⟩) (c11 : PySem.W.codeIn K cd11 "_law_ground_substitution" = true) (k11 : PySem.W.keepIn K (.ref f11) = true)
    {f12 : Addr} {od12 an12 : Option Addr} {sl12 : Array (Option Value)} {oc12 kV12 dc12 pm12 cd12 ct12 : Value}
    (a12 : PySem.W.nsIn K mainGlobals "_law_is_variable" = some (some (.ref f12))) (l12 : K.lookup f12 = some ⟨oc12, od12, .func (PySem.W.fnOf "_law_is_variable" "_law_is_variable" (defArgs s__law_is_variable) (defBody s__law_is_variable) (defScope s__law_is_variable) .none kV12 dc12 pm12 an12 cd12 ct12), sl12⟩) (c12 : PySem.W.codeIn K cd12 "_law_is_variable" = true) (k12 : PySem.W.keepIn K (.ref f12) = true)
    {f13 : Addr} {od13 an13 : Option Addr} {sl13 : Array (Option Value)} {oc13 kV13 dc13 pm13 cd13 ct13 : Value}
    (a13 : PySem.W.nsIn K mainGlobals "_law_variables" = some (some (.ref f13))) (l13 : K.lookup f13 = some ⟨oc13, od13, .func (PySem.W.fnOf "_law_variables" "_law_variables" (defArgs s__law_variables) (defBody s__law_variables) (defScope s__law_variables) .none kV13 dc13 pm13 an13 cd13 ct13), sl13⟩) (c13 : PySem.W.codeIn K cd13 "_law_variables" = true) (k13 : PySem.W.keepIn K (.ref f13) = true)
    {f14 : Addr} {od14 an14 : Option Addr} {sl14 : Array (Option Value)} {oc14 kV14 dc14 pm14 cd14 ct14 : Value}
    (a14 : PySem.W.nsIn K mainGlobals "_law_put" = some (some (.ref f14))) (l14 : K.lookup f14 = some ⟨oc14, od14, .func (PySem.W.fnOf "_law_put" "_law_put" (defArgs s__law_put) (defBody s__law_put) (defScope s__law_put) .none kV14 dc14 pm14 an14 cd14 ct14), sl14⟩) (c14 : PySem.W.codeIn K cd14 "_law_put" = true) (k14 : PySem.W.keepIn K (.ref f14) = true)
    {f15 : Addr} {od15 an15 : Option Addr} {sl15 : Array (Option Value)} {oc15 kV15 dc15 pm15 cd15 ct15 : Value}
    (a15 : PySem.W.nsIn K mainGlobals "_law_pairs" = some (some (.ref f15))) (l15 : K.lookup f15 = some ⟨oc15, od15, .func (PySem.W.fnOf "_law_pairs" "_law_pairs" (defArgs s__law_pairs) (defBody s__law_pairs) (defScope s__law_pairs) .none kV15 dc15 pm15 an15 cd15 ct15), sl15⟩) (c15 : PySem.W.codeIn K cd15 "_law_pairs" = true) (k15 : PySem.W.keepIn K (.ref f15) = true)
    {f16 : Addr} {od16 an16 : Option Addr} {sl16 : Array (Option Value)} {oc16 kV16 dc16 pm16 cd16 ct16 : Value}
    (a16 : PySem.W.nsIn K mainGlobals "law" = some (some (.ref f16))) (l16 : K.lookup f16 = some ⟨oc16, od16, .func (PySem.W.fnOf "law" "law" (defArgs s_law) (defBody s_law) (defScope s_law) .none kV16 dc16 pm16 an16 cd16 ct16), sl16⟩) (c16 : PySem.W.codeIn K cd16 "law" = true) (k16 : PySem.W.keepIn K (.ref f16) = true)
    (z_isinstance : PySem.W.nsIn K mainGlobals "isinstance" = some none)
    (z_int : PySem.W.nsIn K mainGlobals "int" = some none)
    (z_tuple : PySem.W.nsIn K mainGlobals "tuple" = some none)
    (z_list : PySem.W.nsIn K mainGlobals "list" = some none)
    (z_len : PySem.W.nsIn K mainGlobals "len" = some none)
    (z_zip : PySem.W.nsIn K mainGlobals "zip" = some none)
    (z_dict : PySem.W.nsIn K mainGlobals "dict" = some none)
    (z_range : PySem.W.nsIn K mainGlobals "range" = some none)
    : ∃ fd : FuncData, (∀ (s : Shared) (v : Value), BindsTo s fd ⟨[v], []⟩ [("_law_script", v)]) ∧ ∀ base : Heap, K.In base → base.Ns mainGlobals mg → FnOk l.prog w K mg base CX0 230 fa fd P_law (spLaw K (run prog 230 9001)) := by
  have e := hfa.symm.trans (PySem.W.mg_of X G a16)
  cases e
  have F0 := fun_mk (st := s_is_variable) l0 c0 k0
  have F1 := fun_mk (st := s_occurrences) l1 c1 k1
  have F2 := fun_mk (st := s_put) l2 c2 k2
  have F3 := fun_mk (st := s_bind) l3 c3 k3
  have F4 := fun_mk (st := s_unify) l4 c4 k4
  have F5 := fun_mk (st := s_extends) l5 c5 k5
  have F6 := fun_mk (st := s_match) l6 c6 k6
  have F7 := fun_mk (st := s__law_cell) l7 c7 k7
  have F8 := fun_mk (st := s__law_symbol) l8 c8 k8
  have F9 := fun_mk (st := s__law_term) l9 c9 k9
  have F10 := fun_mk (st := s__law_ground) l10 c10 k10
  have F11 := fun_mk (st := s__law_ground_substitution) l11 c11 k11
  have F12 := fun_mk (st := s__law_is_variable) l12 c12 k12
  have F13 := fun_mk (st := s__law_variables) l13 c13 k13
  have F14 := fun_mk (st := s__law_put) l14 c14 k14
  have F15 := fun_mk (st := s__law_pairs) l15 c15 k15
  have F16 := fun_mk (st := s_law) l16 c16 k16
  let T : Txt K mg := { f_is_variable := _, fd_is_variable := _, F_is_variable := F0, g_is_variable := PySem.W.mg_of X G a0, b_is_variable := F0.binds (ps := P_is_variable) (fun _ _ _ _ _ _ us hl => match us, hl with | [_], _ => rfl), f_occurrences := _, fd_occurrences := _, F_occurrences := F1, g_occurrences := PySem.W.mg_of X G a1, b_occurrences := F1.binds (ps := P_occurrences) (fun _ _ _ _ _ _ us hl => match us, hl with | [_, _], _ => rfl), f_put := _, fd_put := _, F_put := F2, g_put := PySem.W.mg_of X G a2, b_put := F2.binds (ps := P_put) (fun _ _ _ _ _ _ us hl => match us, hl with | [_, _], _ => rfl), f_bind := _, fd_bind := _, F_bind := F3, g_bind := PySem.W.mg_of X G a3, b_bind := F3.binds (ps := P_bind) (fun _ _ _ _ _ _ us hl => match us, hl with | [_, _, _], _ => rfl), f_unify := _, fd_unify := _, F_unify := F4, g_unify := PySem.W.mg_of X G a4, b_unify := F4.binds (ps := P_unify) (fun _ _ _ _ _ _ us hl => match us, hl with | [_], _ => rfl), f_extends := _, fd_extends := _, F_extends := F5, g_extends := PySem.W.mg_of X G a5, b_extends := F5.binds (ps := P_extends) (fun _ _ _ _ _ _ us hl => match us, hl with | [_, _, _], _ => rfl), f_match := _, fd_match := _, F_match := F6, g_match := PySem.W.mg_of X G a6, b_match := F6.binds (ps := P_match) (fun _ _ _ _ _ _ us hl => match us, hl with | [_, _, _], _ => rfl), f__law_cell := _, fd__law_cell := _, F__law_cell := F7, g__law_cell := PySem.W.mg_of X G a7, b__law_cell := F7.binds (ps := P__law_cell) (fun _ _ _ _ _ _ us hl => match us, hl with | [_, _], _ => rfl), f__law_symbol := _, fd__law_symbol := _, F__law_symbol := F8, g__law_symbol := PySem.W.mg_of X G a8, b__law_symbol := F8.binds (ps := P__law_symbol) (fun _ _ _ _ _ _ us hl => match us, hl with | [_], _ => rfl), f__law_term := _, fd__law_term := _, F__law_term := F9, g__law_term := PySem.W.mg_of X G a9, b__law_term := F9.binds (ps := P__law_term) (fun _ _ _ _ _ _ us hl => match us, hl with | [_, _], _ => rfl), f__law_ground := _, fd__law_ground := _, F__law_ground := F10, g__law_ground := PySem.W.mg_of X G a10, b__law_ground := F10.binds (ps := P__law_ground) (fun _ _ _ _ _ _ us hl => match us, hl with | [_, _], _ => rfl), f__law_ground_substitution := _, fd__law_ground_substitution := _, F__law_ground_substitution := F11, g__law_ground_substitution := PySem.W.mg_of X G a11, b__law_ground_substitution := F11.binds (ps := P__law_ground_substitution) (fun _ _ _ _ _ _ us hl => match us, hl with | [_, _, _], _ => rfl), f__law_is_variable := _, fd__law_is_variable := _, F__law_is_variable := F12, g__law_is_variable := PySem.W.mg_of X G a12, b__law_is_variable := F12.binds (ps := P__law_is_variable) (fun _ _ _ _ _ _ us hl => match us, hl with | [_], _ => rfl), f__law_variables := _, fd__law_variables := _, F__law_variables := F13, g__law_variables := PySem.W.mg_of X G a13, b__law_variables := F13.binds (ps := P__law_variables) (fun _ _ _ _ _ _ us hl => match us, hl with | [_, _], _ => rfl), f__law_put := _, fd__law_put := _, F__law_put := F14, g__law_put := PySem.W.mg_of X G a14, b__law_put := F14.binds (ps := P__law_put) (fun _ _ _ _ _ _ us hl => match us, hl with | [_, _], _ => rfl), f__law_pairs := _, fd__law_pairs := _, F__law_pairs := F15, g__law_pairs := PySem.W.mg_of X G a15, b__law_pairs := F15.binds (ps := P__law_pairs) (fun _ _ _ _ _ _ us hl => match us, hl with | [_], _ => rfl), f_law := _, fd_law := _, F_law := F16, g_law := PySem.W.mg_of X G a16, b_law := F16.binds (ps := P_law) (fun _ _ _ _ _ _ us hl => match us, hl with | [_], _ => rfl), z_isinstance := PySem.W.mg_none_of X G z_isinstance, z_int := PySem.W.mg_none_of X G z_int, z_tuple := PySem.W.mg_none_of X G z_tuple, z_list := PySem.W.mg_none_of X G z_list, z_len := PySem.W.mg_none_of X G z_len, z_zip := PySem.W.mg_none_of X G z_zip, z_dict := PySem.W.mg_none_of X G z_dict, z_range := PySem.W.mg_none_of X G z_range }
  exact ⟨T.fd_law, fun s v => .of_eq rfl, fun base _ _ => (all_ok T 230).ok_law.imp law_imp⟩
end Lk19
set_option maxRecDepth 100000
set_option maxHeartbeats 1000000
namespace Lk19
open PySem L2 Zi
local macro_rules | `(tactic| walk_at "dec") => `(tactic| first | decide | omega | assumption)
local macro_rules | `(tactic| walk_at "g1") => `(tactic| first
  | ((with_reducible apply wp_var); (focus (exact rfl)))
  | with_reducible refine wp_c ?_
  | with_reducible refine wp_op ?_
  | with_reducible refine wp_oD ?_
  | with_reducible refine wp_cons ?_
  | with_reducible refine wp_nil ?_
  | ((with_reducible refine nxt_nx ?_); (try dsimp only [List.set_cons_zero, List.set_cons_succ]))
  | with_reducible refine wp_seq ?_
  | with_reducible refine wp_set ?_
  | with_reducible refine wp_ret ?_
  | with_reducible refine nxt_rt ?_
  | with_reducible refine wp_call ?_
  | with_reducible refine wp_opO ?_
  | with_reducible refine wp_bool ?_
  | with_reducible refine isB_bl ?_
  | with_reducible refine wp_ifS ?_
  | with_reducible refine way_t ?_
  | with_reducible refine way_f ?_
  | with_reducible refine way_not ?_
  | ((with_reducible apply wf_ixT); (focus (first | exact atI_0 | exact atI_1 | exact atI_2 | exact atI_3 | exact atI_4 | exact atI_5 | exact atI_6 | exact atI_7 | exact atI_8 | exact atI_9 | assumption)))
  | with_reducible refine wp_fn1 ?_
  | with_reducible refine wf_int ?_
  | with_reducible refine wf_add ?_
  | with_reducible refine wf_sub ?_
  | ((with_reducible refine wf_mod ?_ ?_); (focus (exact modC_r (by walk_at "dec"))))
  | ((with_reducible refine wf_div ?_ ?_); (focus (exact divC_r (by walk_at "dec"))))
  | ((with_reducible refine wf_mul ?_ ?_); (focus (exact mulC_r (by walk_at "dec"))))
  | ((with_reducible refine wf_mul ?_ ?_); (focus (exact mulC_l (by walk_at "dec"))))
  | with_reducible refine wf_eqI ?_
  | with_reducible refine wf_neI ?_
  | ((with_reducible refine wf_pow ?_ ?_); (focus (decide)))
  | with_reducible refine wf_lt ?_
  | with_reducible refine wf_le ?_
  | with_reducible refine wf_gt ?_
  | with_reducible refine wf_ge ?_
  | with_reducible refine wf_eqB ?_
  | with_reducible refine wf_neB ?_
  | with_reducible refine wp_tup ?_
  | ((with_reducible refine shrt_of ?_ ?_); (focus (exact Nat.le_of_ble_eq_true (by exact rfl))))
  | with_reducible refine wp_tru ?_
  | with_reducible refine tru_bl ?_
  | with_reducible refine tru_int ?_
  | with_reducible refine tru_non ?_
  | with_reducible refine tru_tup ?_
  | ((with_reducible apply tru_lst); (focus (first | assumption | exact last_get)))
  | with_reducible refine wp_notT ?_
  | with_reducible refine wp_andT ?_
  | with_reducible refine wp_orT ?_
  | with_reducible refine wp_and ?_
  | with_reducible refine wp_or ?_
  | with_reducible refine wp_not ?_
  | with_reducible refine wp_if ?_
  | with_reducible refine wp_skip ?_
  | with_reducible refine wp_drop ?_
  | with_reducible refine wp_break ?_
  | with_reducible refine wp_cont ?_
  | with_reducible refine nxt_bk ?_
  | with_reducible refine nxt_ct ?_
  | with_reducible refine wp_alloc ?_
  | with_reducible refine wp_lst ?_
  | with_reducible refine wp_oN ?_
  | with_reducible refine wp_oS ?_
  | with_reducible refine valO_d ?_
  | with_reducible refine valO_n ?_
  | with_reducible refine wp_setL ?_
  | with_reducible refine wf_lenT ?_
  | with_reducible refine wf_lenN ?_
  | with_reducible refine wf_lenS ?_
  | ((with_reducible apply wf_lenL); (focus (first | assumption | exact last_get)))
  | with_reducible refine wf_tupcT ?_
  | with_reducible refine wf_tupcN ?_
  | ((with_reducible apply wf_tupcL); (focus (first | assumption | exact last_get)))
  | with_reducible refine wp_for ?_
  | with_reducible refine wp_src ?_
  | with_reducible refine src_tupK ?_
  | with_reducible refine src_nK ?_
  | with_reducible refine src_slK ?_
  | ((with_reducible apply src_lstK); (focus (first | assumption | exact last_get)))
  | with_reducible refine wp_asg ?_
  | with_reducible refine wl_n ?_
  | ((with_reducible refine wl_tup ?_ ?_); (focus (exact rfl)))
  | with_reducible refine wl_cons ?_
  | with_reducible refine wl_nil ?_
  | ((with_reducible apply wp_aug); (focus (exact rfl)))
  | with_reducible refine wf_iadd ?_
  | with_reducible refine wp_isN ?_
  | with_reducible refine wp_notN ?_
  | with_reducible refine wp_isI ?_
  | ((with_reducible apply isI_t); (focus (exact rfl)); (focus (decide)))
  | ((with_reducible apply isI_f); (focus (exact rfl)); (focus (decide)))
  | with_reducible refine loopK_nx ?_
  | with_reducible refine loopK_ct ?_
  | with_reducible refine loopK_bk ?_
  | with_reducible refine loopK_rt ?_
  | with_reducible refine wp_enum ?_
  | with_reducible refine wp_lisc ?_
  | with_reducible refine wp_comp ?_
  | with_reducible refine wp_neg ?_
  | with_reducible refine wp_dnewK ?_
  | with_reducible refine wp_dnewT ?_
  | with_reducible refine wp_get2 ?_
  | with_reducible refine wp_get1 ?_
  | with_reducible refine wp_setD ?_
  | with_reducible refine wp_app ?_
  | with_reducible refine wp_rev ?_
  | with_reducible refine wp_dcopy ?_
  | with_reducible exact ⟨rfl, rfl⟩)
local macro_rules | `(tactic| walk_at "g2") => `(tactic| first
  | walk_at "g1"
  | with_reducible refine wf_ixA0 ?_
  | with_reducible refine wf_ixA1 ?_
  | with_reducible refine wf_ixS0 ?_
  | with_reducible refine wf_ixS1 ?_
  | with_reducible refine wf_ixS2 ?_
  | with_reducible refine wf_ixL0 ?_
  | with_reducible refine wf_ixL1 ?_
  | with_reducible refine wf_ixL2 ?_
  | ((with_reducible refine wf_eqT ?_ ?_ ?_); (focus (walk_at "dec")); (focus (walk_at "dec")))
  | ((with_reducible refine wf_neT ?_ ?_ ?_); (focus (walk_at "dec")); (focus (walk_at "dec")))
  | ((with_reducible refine wf_eqLs ?_ ?_ ?_); (focus (assumption)); (focus (assumption)))
  | ((with_reducible refine wf_neLs ?_ ?_ ?_); (focus (assumption)); (focus (assumption)))
  | ((with_reducible refine wf_eqL ?_ ?_ ?_ ?_ ?_); (focus (walk_at "dec")); (focus (walk_at "dec")); (focus (walk_at "dec")); (focus (walk_at "dec")))
  | ((with_reducible refine wf_neL ?_ ?_ ?_ ?_ ?_); (focus (walk_at "dec")); (focus (walk_at "dec")); (focus (walk_at "dec")); (focus (walk_at "dec")))
  | with_reducible refine way_eq lseq_self ?_
  | with_reducible refine way_eq leq_self ?_
  | with_reducible refine way_eq (teq_self _) ?_
  | with_reducible refine isI_vi ?_
  | with_reducible refine isI_vb ?_
  | with_reducible refine isI_vt ?_
  | ((with_reducible refine wp_eq (r_isvar ?_ _) ?_); (focus (assumption)))
  | ((with_reducible refine wp_eq (r_lisvar ?_ _) ?_); (focus (assumption)))
  | ((with_reducible refine wp_eq (r_lint ?_ _) ?_); (focus (assumption)))
  | ((with_reducible refine wp_eq (run_cell ?_ _ _ ?_ _) ?_); (focus (exact rfl)); (focus (walk_at "dec"))))
local macro_rules | `(tactic| walk_at "go2") => `(tactic| repeat' (walk_at "g2"))
local macro_rules | `(tactic| walk_at "go") => `(tactic| repeat' (walk_at "g1"))
local macro_rules | `(tactic| walk_at "g3") => `(tactic| first
  | with_reducible refine wp_andP ?_
  | with_reducible refine wp_orP ?_
  | with_reducible refine wp_andB ?_
  | with_reducible refine wp_orB ?_
  | with_reducible refine ⟨rfl, rfl, ?_⟩
  | walk_at "g2")
local macro_rules | `(tactic| walk_at "go3") => `(tactic| repeat' (walk_at "g3"))

theorem ok_has {P : Int → Prop} {Q : Int → Int → Int → Nat → Prop} {t : Tm} {x : Int} (h : Tm.Ok P Q t) : t.has x → P x := by
  induction h with
  | v hi => intro hx; rw [has_v] at hx; subst hx; exact hi
  | ap _ _ ih =>
    intro hx
    obtain ⟨t, ht, hx⟩ := has_ap.mp hx
    exact ih t ht hx
theorem put_size {B : Int} (hB : 1 ≤ B) {s : List (Int × Tm)} (hs : ∀ p ∈ s, p.2.size ≤ B) (t : Tm) : (t.put s).size ≤ t.size * B := by
  induction t using Tm.ind with
  | hv i =>
    show ((subOf s i).getD (.v i)).size ≤ (Tm.v i).size * B
    simp only [Tm.size, Int.one_mul]
    cases e : subOf s i with
    | none => simpa [Tm.size] using hB
    | some w => exact hs _ (suIn e)
  | ha a b c ts ih =>
    rw [put_ap, sz_ap, sz_ap, Int.add_mul, Int.one_mul]
    have : sizes (ts.map (Tm.put s)) ≤ sizes ts * B := by
      clear hs
      induction ts with
      | nil => simp [sizes]
      | cons t ts ih2 =>
        have h1 := ih t (by simp)
        have h2 := ih2 fun u hu => ih u (List.mem_cons_of_mem _ hu)
        simp only [List.map_cons, sizes, Int.add_mul]
        omega
    omega
theorem sb_inj {θ θ' : Int → Tm} {x : Int} (t : Tm) : t.sb θ = t.sb θ' → t.has x → θ x = θ' x := by
  induction t using Tm.ind with
  | hv i => intro h hx; rw [has_v] at hx; subst hx; rw [sb_v, sb_v] at h; exact h
  | ha a b c ts ih =>
    intro h hx
    obtain ⟨t, ht, hx⟩ := has_ap.mp hx
    rw [sb_ap, sb_ap] at h
    simp only [Tm.ap.injEq, true_and] at h
    exact ih t ht (List.map_inj_left.mp h t ht) hx
theorem mtz_keys {x : Int} : ∀ {ps : List (Tm × Tm)} (ih : ∀ p ∈ ps, ∀ s s2, mt p.1 p.2 s = some s2 → x ∈ s2.map (·.1) → x ∈ s.map (·.1) ∨ p.1.has x) {s s2 : Sb}, mtz ps s = some s2 → x ∈ s2.map (·.1) → x ∈ s.map (·.1) ∨ ∃ p ∈ ps, p.1.has x
  | [], _, s, s2, h, hx => by cases h; exact .inl hx
  | p :: ps, ih, s, s2, h, hx => by
    rw [mtz] at h
    obtain ⟨s1, h1, h2⟩ := Option.bind_eq_some_iff.mp h
    rcases mtz_keys (fun q hq => ih q (List.mem_cons_of_mem _ hq)) h2 hx with h3 | ⟨q, hq, h3⟩
    · rcases ih p (by simp) s s1 h1 h3 with h4 | h4
      · exact .inl h4
      · exact .inr ⟨p, by simp, h4⟩
    · exact .inr ⟨q, List.mem_cons_of_mem _ hq, h3⟩
theorem mt_keys {x : Int} (t : Tm) : ∀ (u : Tm) (s s2 : Sb), mt t u s = some s2 → x ∈ s2.map (·.1) → x ∈ s.map (·.1) ∨ t.has x := by
  induction t using Tm.ind with
  | hv i =>
    intro u s s2 h hx
    cases e : subOf s i with
    | some w =>
      rw [mt_some e] at h
      split at h
      · cases h; exact .inl hx
      · cases h
    | none =>
      rw [mt_none e] at h
      cases h
      rw [List.map_append] at hx
      rcases List.mem_append.mp hx with hx | hx
      · exact .inl hx
      · right; rw [has_v]; simp only [List.map_cons, List.map_nil, List.mem_singleton] at hx; exact hx.symm
  | ha a b c ts ih =>
    intro u s s2 h hx
    cases u with
    | v i => rw [Zi.mt] at h; cases h
    | ap d e f us =>
      by_cases hc : (a, b, c) = (d, e, f) ∧ ts.length = us.length
      · rw [mt_ap hc] at h
        rcases mtz_keys (x := x) (fun p hp s s2 h hx => ih p.1 (List.of_mem_zip hp).1 p.2 s s2 h hx) h hx with h1 | ⟨p, hp, h1⟩
        · exact .inl h1
        · exact .inr (has_ap.mpr ⟨p.1, (List.of_mem_zip hp).1, h1⟩)
      · rw [mt_ne hc] at h; cases h
theorem mtz_com {θ : Int → Tm} : ∀ {ps : List (Tm × Tm)} (ih : ∀ p ∈ ps, ∀ s : Sb, (∀ q ∈ s, θ q.1 = q.2) → ∃ s2, mt p.1 p.2 s = some s2 ∧ ∀ q ∈ s2, θ q.1 = q.2) {s : Sb}, (∀ q ∈ s, θ q.1 = q.2) → ∃ s2, mtz ps s = some s2 ∧ ∀ q ∈ s2, θ q.1 = q.2
  | [], _, s, h => ⟨s, rfl, h⟩
  | p :: ps, ih, s, h => by
    obtain ⟨s1, h1, h2⟩ := ih p (by simp) s h
    obtain ⟨s2, h3, h4⟩ := mtz_com (fun q hq => ih q (List.mem_cons_of_mem _ hq)) h2
    exact ⟨s2, by rw [mtz, h1]; exact h3, h4⟩
theorem mt_com {θ : Int → Tm} (t : Tm) : ∀ s : Sb, (∀ q ∈ s, θ q.1 = q.2) → ∃ s2, mt t (t.sb θ) s = some s2 ∧ ∀ q ∈ s2, θ q.1 = q.2 := by
  induction t using Tm.ind with
  | hv i =>
    intro s h
    rw [sb_v]
    cases e : subOf s i with
    | some w =>
      have := h _ (suIn e)
      simp only at this
      rw [mt_some e, ← this, teq_self]
      exact ⟨s, rfl, h⟩
    | none =>
      rw [mt_none e]
      refine ⟨_, rfl, fun q hq => ?_⟩
      rcases List.mem_append.mp hq with hq | hq
      · exact h q hq
      · rw [List.mem_singleton] at hq; subst hq; rfl
  | ha a b c ts ih =>
    intro s h
    rw [sb_ap, mt_ap ⟨rfl, by rw [List.length_map]⟩]
    refine mtz_com (fun p hp s h => ?_) h
    rw [List.zip_map_right, List.mem_map] at hp
    obtain ⟨q, hq, rfl⟩ := hp
    have hq1 : q.1 = q.2 := by
      have hz := List.mem_iff_getElem.mp hq
      obtain ⟨i, hi, e⟩ := hz
      rw [List.getElem_zip] at e
      rw [← e]
    have := ih q.1 (List.of_mem_zip hq).1 s h
    simpa [← hq1] using this
theorem gr_key {s : Sb} {p u : Tm} (h : p.put s = u) (hu : ∀ x, ¬ u.has x) {x : Int} (hx : p.has x) : x ∈ s.map (·.1) := by
  cases e : subOf s x with
  | some w => exact List.mem_map.mpr ⟨_, suIn e, rfl⟩
  | none =>
    exfalso
    refine hu x ?_
    rw [← h, put_sb, has_sb]
    exact ⟨x, hx, by show ((subOf s x).getD (.v x)).has x; rw [e]; exact has_v.mpr rfl⟩
structure UOk (u : Tm) : Prop where
  wd : u.Wd 2
  sz : u.size ≤ 21
  hg : u.hgt ≤ 8
  vs : ∀ x, u.has x → x ∈ ([5, 6, 7] : List Int)
theorem gr_has {u : Tm} (h : u.gr) : ∀ x, ¬ u.has x := fun x z => by have := (has_occ' u).mp z; have := h x; omega
theorem UOk.of {H : Nat} {B : Int} {u : Tm} (h : TG H B u) (h1 : H ≤ 8) (h2 : B ≤ 21) : UOk u := ⟨h.t2.wd, Int.le_trans h.t2.size h2, Nat.le_trans h.t2.hgt h1, fun x hx => (gr_has h.gr x hx).elim⟩
def s0 : List (Int × Tm) := [(0, .v 5), (1, .v 6), (2, .v 7)]
section
variable {k : Nat} {S : Sto} {Q : D → Sto → Prop}
theorem wf_neLn {r : Nat} {vs : List Int} (hr : S[r]? = some (.lst (vs.map D.int))) (q : Q (.bl (!vs.isEmpty)) S) : wp (fNe (.d (.ref r)) (.n []) S) Q := by
  refine wp_eq ?_ q
  show (snapO S (.d (.ref r))).bind _ = _
  rw [show snapO S (.d (.ref r)) = some (.list (vs.map PyData.int)) from snap_lst hr (allS_ints vs), show snapO S (.n []) = some (.list []) from rfl]
  cases vs <;> simp [PyData.eqv, PyData.eqvAll]
theorem r_gsub {row : Int} (hrow : 0 ≤ row) (S : Sto) : ∃ s : List (Int × Tm), s.map (·.1) = [0, 1, 2] ∧ (∀ p ∈ s, TG 2 3 p.2) ∧ run prog (k + 20) 9000 [.int row, .int 3, .int 1] S = some (.ref S.length, S ++ [.lst (s.map ePr)]) := by
  have hp := hp0
  have out : wp (m__law_ground_substitution (run prog (k + 19)) [some (.int row), some (.int 3), some (.int 1), none, none, none] S) fun f S1 => ∃ s : List (Int × Tm), s.map (·.1) = [0, 1, 2] ∧ (∀ p ∈ s, TG 2 3 p.2) ∧ f = .rt (.ref S.length) ∧ S1 = S ++ [.lst (s.map ePr)] := by
    unfold m__law_ground_substitution
    walk_at "go2"
    refine wp_rngN ?_
    walk_at "go2"
    refine ⟨3, rfl, by omega, ?_⟩
    refine wp_inv D.int [0, 1, 2] (fun dn l S' => ∃ (s : List (Int × Tm)) (rw : Int) (o4 o5 : Option D), s.map (·.1) = dn ∧ (∀ p ∈ s, TG 2 3 p.2) ∧ 0 ≤ rw ∧ l = [some (.int rw), some (.int 3), some (.int 1), some (.ref S.length), o4, o5] ∧ S' = S ++ [.lst (s.map ePr)]) rfl ⟨[], row, none, none, rfl, by simp, hrow, rfl, rfl⟩ (fun _ _ _ _ => trivial) ?_ ?_
    · rintro dn x rest l S' hall ⟨s, rw1, o4, o5, h1, h2, h3, rfl, rfl⟩
      obtain ⟨g, w, f, h4, e⟩ := r_ground hp0 hp2 1 (k := k + 17) (by omega) h3 (S ++ [Cell.lst (s.map ePr)])
      rw [show bdT 1 = 3 by decide] at f
      have hl := congrArg List.length h1
      have hl2 := congrArg List.length hall
      rw [List.length_map] at hl
      simp only [List.length_append, List.length_cons, List.length_nil] at hl2
      walk_at "go2"
      refine wp_eq e ?_
      walk_at "go2"
      refine ⟨S.length, _, rfl, last_get, ?_⟩
      walk_at "go2"
      refine ⟨_, last_get, by rw [List.length_map]; omega, ?_⟩
      rw [last_set]
      walk_at "go2"
      refine ⟨s ++ [(x, g)], w, _, _, by rw [List.map_append, h1]; rfl, fun p hp => ?_, h4, rfl, by rw [List.map_append]; rfl⟩
      rcases List.mem_append.mp hp with hp | hp
      · exact h2 p hp
      · rw [List.mem_singleton] at hp; subst hp; exact f
    · rintro l S' ⟨s, rw1, o4, o5, h1, h2, h3, rfl, rfl⟩
      walk_at "go2"
      exact ⟨s, h1, h2, rfl, rfl⟩
  obtain ⟨f, S1, e, s, h1, h2, rfl, rfl⟩ := out
  exact ⟨s, h1, h2, run_own (c := .lst (s.map ePr)) (prog := prog) (k := k + 19) (n := 3) (j := 6) (i := 9000) (ms := m__law_ground_substitution) rfl rfl (refLtL_prs _) ⟨_, _, e, _, _, rfl, rfl, Nat.le_refl _, last_get⟩⟩
theorem law_true (ns : List Int) (_ : ns.length ≤ 63) : ∃ S', run prog 230 9001 [.sl ns] [] = some (.bl true, S') := by
  have hp := hp0
  have n0 := cellV_nn ns (j := 0) (by decide)
  have n1 := cellV_nn ns (j := 1) (by decide)
  have n2 := cellV_nn ns (j := 2) (by decide)
  have n3 := cellV_nn ns (j := 3) (by decide)
  have b2 : bdT 2 = 7 := by decide
  have out : wp (m_law (run prog 229) [some (.sl ns), none, none, none, none, none, none, none] []) fun f S1 => ∃ T, f = .rt (.bl true) ∧ S1 = [] ++ T := by
    obtain ⟨p, _, fp, _, e1⟩ := r_term hp0 2 (k := 227) (by omega) n0 ([] : Sto)
    obtain ⟨q, _, fq, _, e2⟩ := r_term hp0 2 (k := 227) (by omega) n2 ([] : Sto)
    have pw : p.Wd 2 := fp.ok.wd (fun a b c m z => z.2)
    have qw : q.Wd 2 := fq.ok.wd (fun a b c m z => z.2)
    have ps := fp.size; have qs := fq.size; have ph := fp.hgt; have qh := fq.hgt
    rw [b2] at ps qs
    have pv : ∀ x, p.has x → x ∈ ([0, 1, 2] : List Int) := fun x hx => by
      have := ok_has fp.ok hx
      simp only [List.mem_cons, List.not_mem_nil, or_false]; omega
    have qv : ∀ x, q.has x → x ∈ ([0, 1, 2] : List Int) := fun x hx => by
      have := ok_has fq.ok hx
      simp only [List.mem_cons, List.not_mem_nil, or_false]; omega
    have hu0 : UOk (q.put s0) := by
      obtain ⟨z1, z2⟩ := size_ren (s := s0) q fun p hp => by
        simp only [s0, List.mem_cons, List.not_mem_nil, or_false] at hp
        rcases hp with rfl | rfl | rfl <;> exact ⟨_, rfl⟩
      refine ⟨Tm.Wd.put (fun p hp => ?_) qw, by omega, by omega, fun x hx => ?_⟩
      · simp only [s0, List.mem_cons, List.not_mem_nil, or_false] at hp
        rcases hp with rfl | rfl | rfl <;> exact .v _
      · rw [put_sb, has_sb] at hx
        obtain ⟨y, h1, h2⟩ := hx
        have h3 := qv y h1
        simp only [List.mem_cons, List.not_mem_nil, or_false] at h3
        rcases h3 with rfl | rfl | rfl
        · rw [show asF s0 0 = .v 5 from rfl, has_v] at h2; subst h2; simp
        · rw [show asF s0 1 = .v 6 from rfl, has_v] at h2; subst h2; simp
        · rw [show asF s0 2 = .v 7 from rfl, has_v] at h2; subst h2; simp
    unfold m_law
    walk_at "go2"
    refine wp_eq e1 ?_
    walk_at "go2"
    refine wp_eq e2 ?_
    walk_at "go2"
    rw [show [D.tup [D.int 0, D.int 5], .tup [.int 1, .int 6], .tup [.int 2, .int 7]] = s0.map ePr from by simp [s0, ePr, eT_v]]
    refine wp_eq (r_lput hp0 hp1 q (k := 227) (by omega) (Wd.mono (by decide) qw) _ last_get) ?_
    walk_at "go2"
    refine way_cut (fun f S' => ∃ u o2, UOk u ∧ f = .nx [some (.sl ns), some (eT p), o2, some (eT u), none, none, none, none] ∧ S' = [] ++ [Cell.lst (s0.map ePr)]) (way_of (fun hb => ?_) fun hb => ?_) ?_
    · obtain ⟨g, _, fg, _, e3⟩ := r_ground hp0 hp2 2 (k := 227) (by omega) n2 ([] ++ [Cell.lst (s0.map ePr)])
      walk_at "go2"
      refine wp_eq e3 ?_
      walk_at "go2"
      exact ⟨g, _, .of fg (by omega) (by omega), rfl, rfl⟩
    · walk_at "go2"
      exact ⟨_, _, hu0, rfl, rfl⟩
    rintro f S' ⟨u1, o2, hu1, rfl, rfl⟩
    walk_at "go2"
    refine way_cut (fun f S' => ∃ u, UOk u ∧ f = .nx [some (.sl ns), some (eT p), o2, some (eT u), none, none, none, none]) (way_dec (fun hb => ?_) fun hb => ?_) ?_
    · obtain ⟨s, hs1, hs2, e3⟩ := r_gsub (k := 209) n2 ([] ++ [Cell.lst (s0.map ePr)])
      walk_at "go2"
      refine wp_eq e3 ?_
      walk_at "go2"
      refine wp_eq (r_lput hp0 hp1 p (k := 227) (by omega) (Wd.mono (by decide) pw) _ last_get) ?_
      walk_at "go2"
      have z1 := put_size (B := 3) (by omega) (fun q hq => (hs2 q hq).t2.size) p
      have z2 := put_hgt (m := 2) (fun q hq => (hs2 q hq).t2.hgt) p
      refine ⟨p.put s, ⟨Tm.Wd.put (fun q hq => (hs2 q hq).t2.wd) pw, by omega, by omega, fun x hx => ?_⟩, rfl⟩
      exfalso
      rw [put_sb, has_sb] at hx
      obtain ⟨y, h1, h2⟩ := hx
      have h3 := pv y h1
      rw [← hs1] at h3
      obtain ⟨r, hr, rfl⟩ := List.mem_map.mp h3
      have h4 : (asF s r.1) = r.2 := by
        show (subOf s r.1).getD (.v r.1) = r.2
        rw [subOf_nd (by rw [hs1]; decide) hr]; rfl
      rw [h4] at h2
      exact gr_has (hs2 r hr).gr _ h2
    · walk_at "go2"
      exact ⟨_, hu1, rfl⟩
    rintro f S' ⟨u, hu, rfl⟩
    clear hu1 hu0 u1 e1 e2
    have uh := hu.hg; have us := hu.sz
    have lv1 := nodup_len (p.vars []) [0, 1, 2] (vars_nodup p [] List.nodup_nil) (fun x hx => ((mem_vars _ _).mp hx).elim (fun z => by cases z) (pv x))
    have lv2 := nodup_len (u.vars []) [5, 6, 7] (vars_nodup u [] List.nodup_nil) (fun x hx => ((mem_vars _ _).mp hx).elim (fun z => by cases z) (hu.vs x))
    simp only [List.length_cons, List.length_nil] at lv1 lv2
    obtain ⟨hN, hO⟩ := nv_mk (orig := [(p, u)]) (V := p.vars [] ++ u.vars []) (fun q hq => by rw [List.mem_singleton] at hq; subst hq; exact ⟨pw, hu.wd⟩) (by simp only [szW]; omega) (by rw [List.length_append]; omega) (fun q hq x hx => by
      rw [List.mem_singleton] at hq; subst hq
      rw [List.mem_append, mem_vars, mem_vars]
      exact hx.elim (fun z => .inl (.inr z)) fun z => .inr (.inr z))
    have hv : ∀ (S4 : Sto) (o4 o5 : D) (QS : Fl → Sto → Prop), (∀ T, u.vars [] ≠ [] → QS (.rt (.bl true)) (S4 ++ T)) → (∀ T, u.vars [] = [] → QS (.nx [some (.sl ns), some (eT p), o2, some (eT u), some o4, some o5, none, none]) (S4 ++ T)) → wp ((mIfS (mBool (mOpO fNe (oD (mCall (run prog 229 15) (mCons (mVar 3) (mCons (mAlloc (mLst mNil)) mNil)))) (oN (mLst mNil)))) (mRet (mC (.bl true))) mSkip) [some (.sl ns), some (eT p), o2, some (eT u), some o4, some o5, none, none] S4) QS := fun S4 o4 o5 QS q1 q2 => by
      obtain ⟨r', T, e, g⟩ := r_lvars hp0 u (k := 227) (by omega) (S4 ++ [Cell.lst []]) S4.length [] last_get (by simp only [List.length_nil]; omega)
      walk_at "go2"
      refine wp_eq e ?_
      walk_at "go2"
      refine wf_neLn g ?_
      walk_at "go2"
      refine way_of (fun h => ?_) fun h => ?_
      · walk_at "go2"
        rw [List.append_assoc]
        exact q2 _ (by simpa using h)
      · walk_at "go2"
        rw [List.append_assoc]
        exact q1 _ (by simpa using h)
    have tail : ∀ (S2 : Sto) (o4 : D), ((∃ s2 r4, Zi.mt p u [] = some s2 ∧ SbOk p.size s2 ∧ o4 = .ref r4 ∧ S2[r4]? = some (.dK (eSub s2))) ∨ (Zi.mt p u [] = none ∧ o4 = .non)) → wp ((mSeq (mSet 5 (mCall (run prog 229 5000) (mCons (mAlloc (mLst (mCons (mTup (mCons (mVar 1) (mCons (mVar 3) mNil))) mNil))) mNil)))
    (mSeq (mIfS (mAndT (mBool (mNotN (mVar 4))) (mBool (mIsN (mVar 5)))) (mRet (mC (.bl false))) mSkip)
    (mSeq (mIfS (mBool (mOpO fNe (oD (mCall (run prog 229 15) (mCons (mVar 3) (mCons (mAlloc (mLst mNil)) mNil)))) (oN (mLst mNil)))) (mRet (mC (.bl true))) mSkip)
    (mSeq (mIfS (mOrT (mBool (mIsN (mVar 5))) (mBool (mIsN (mVar 4)))) (mRet (mAnd (mIsN (mVar 5)) (mIsN (mVar 4)))) mSkip)
    (mSeq (mSet 6 (mCall (run prog 229 1007) (mCons (mVar 5) mNil)))
    (mSeq (mFor (mSrc (oD (mCall (run prog 229 1007) (mCons (mVar 4) mNil)))) (mgN 7) (mIfS (mBool (mOpO fNe (oD (mCall (run prog 229 1005) (mCons (mOp ixF (mVar 7) (mC (.int 0))) (mCons (mVar 6) mNil)))) (oD (mOp ixF (mVar 7) (mC (.int 1)))))) (mRet (mC (.bl false))) mSkip))
    (mRet (mOpO fEq (oD (mFn1 fLen (oD (mVar 6)))) (oD (mFn1 fLen (oD (mCall (run prog 229 1007) (mCons (mVar 4) mNil))))))))))))) [some (.sl ns), some (eT p), o2, some (eT u), some o4, none, none, none] S2) fun f S1 => ∃ T, f = .rt (.bl true) ∧ S1 = [] ++ T := fun S2 o4 h4 => by
      have hun := r_unify hp0 hp1 hp2 hp5 (k := 129) (S := S2 ++ [Cell.lst ([(p, u)].map ePP)]) hN hO (by simp) (pr := .ref S2.length) (by simp only [seqO, last_get])
      have g4 : ∀ {r4 : Nat} {s2 : Sb}, S2[r4]? = some (.dK (eSub s2)) → (S2 ++ [Cell.lst ([(p, u)].map ePP)])[r4]? = some (.dK (eSub s2)) := fun h => old_get h
      refine wp_seq (wp_set ?_)
      walk_at "go2"
      rw [show [D.tup [eT p, eT u]] = [(p, u)].map ePP from rfl]
      generalize S2 ++ [Cell.lst ([(p, u)].map ePP)] = S3 at *
      rcases h4 with ⟨s2, r4, hm, hs2, rfl, hr4⟩ | ⟨hm, rfl⟩
      · have hput : p.put s2 = u := by have := (mt_put p u [] s2 hm).2 []; rwa [List.append_nil] at this
        rcases hun with ⟨f, hf, e⟩ | ⟨hf, e⟩
        · have hr4 := old_get (T := [Cell.dK (eSub f)]) (g4 hr4)
          have gf : (S3 ++ [Cell.dK (eSub f)])[S3.length]? = some (.dK (eSub f)) := last_get
          refine wp_eq e ?_
          generalize S3.length = r5 at gf ⊢
          generalize S3 ++ [Cell.dK (eSub f)] = S4 at *
          clear e
          refine nxt_nx (wp_seq (wp_ifS ?_))
          walk_at "go2"
          refine way_ne rfl ?_
          walk_at "go2"
          refine way_ne rfl (wp_skip (nxt_nx (wp_seq (hv _ _ _ _ (fun T h => ?_) fun T h => ?_))))
          · exact nxt_rt ⟨_, rfl, rfl⟩
          · have hug : ∀ x, ¬ u.has x := fun x hx => by
              have := (mem_vars (x := x) u []).mpr (.inr hx)
              rw [h] at this; cases this
            have uid : ∀ s, u.put s = u := fun s => put_id u fun i hi => (hug i hi).elim
            have hfp : p.put f = u := by have := hf.solved' (p, u) (by simp); simp only at this; rw [this, uid]
            have hr4 := old_get (T := T) hr4
            have gf := old_get (T := T) gf
            generalize S4 ++ T = S5 at *
            have k1 : ∀ x, x ∈ s2.map (·.1) ↔ x ∈ p.vars [] := fun x => by
              rw [mem_vars]
              exact ⟨fun z => .inr ((mt_keys p u [] s2 hm z).elim (fun z => by cases z) fun z => z), fun z => z.elim (fun z => by cases z) fun z => gr_key hput hug z⟩
            have k2 : ∀ x, x ∈ f.map (·.1) ↔ x ∈ p.vars [] := fun x => by
              constructor
              · intro z
                have := hf.keyV x z
                rw [h, List.append_nil] at this
                exact this
              · intro z
                exact ((mem_vars _ _).mp z).elim (fun z => by cases z) fun z => gr_key hfp hug z
            have hlen : f.length = s2.length := by
              have z1 := nodup_len _ (s2.map (·.1)) hf.nod fun x hx => (k1 x).mpr ((k2 x).mp hx)
              have z2 := nodup_len _ (f.map (·.1)) hs2.nd fun x hx => (k2 x).mpr ((k1 x).mp hx)
              rw [List.length_map, List.length_map] at z1 z2
              omega
            have hl3 : s2.length ≤ 7 := by have := hs2.ln; omega
            refine nxt_nx (wp_seq (wp_ifS ?_))
            walk_at "go2"
            refine way_ne rfl ?_
            walk_at "go2"
            refine way_ne rfl ?_
            walk_at "go2"
            refine wp_eq (r_lpairs hp1 (k := 228) hf.nod (by omega) gf) ?_
            have hr4 := old_get (T := [Cell.lst (f.map ePr)]) hr4
            have gp : (S5 ++ [Cell.lst (f.map ePr)])[S5.length]? = some (.lst (f.map ePr)) := last_get
            generalize S5.length = r6 at gp ⊢
            generalize S5 ++ [Cell.lst (f.map ePr)] = S6 at *
            walk_at "go2"
            refine wp_eq (r_lpairs hp1 (k := 228) hs2.nd (by omega) hr4) ?_
            have hr4 := old_get (T := [Cell.lst (s2.map ePr)]) hr4
            have gp := old_get (T := [Cell.lst (s2.map ePr)]) gp
            have gq : (S6 ++ [Cell.lst (s2.map ePr)])[S6.length]? = some (.lst (s2.map ePr)) := last_get
            generalize S6.length = r7 at gq ⊢
            generalize S6 ++ [Cell.lst (s2.map ePr)] = S7 at *
            walk_at "go2"
            refine wp_inv ePr s2 (fun dn l S' => S' = S7 ∧ ∃ o7, l = [some (.sl ns), some (eT p), o2, some (eT u), some (.ref r4), some (.ref r5), some (.ref r6), o7]) rfl ⟨rfl, _, rfl⟩ (fun dn l S' h => by rw [h.1]; exact gq) ?_ ?_
            · rintro dn y rest l S' hall ⟨rfl, o7, rfl⟩
              have hy : y ∈ s2 := by rw [hall]; simp
              have hyp : p.has y.1 := (mt_keys p u [] s2 hm (List.mem_map_of_mem (f := (·.1)) hy)).elim (fun z => by cases z) fun z => z
              have hE : (Tm.v y.1).put f = y.2 := by
                have z := sb_inj (θ := asF f) (θ' := asF s2) p (by rw [← put_sb, ← put_sb, hfp, hput]) hyp
                rw [put_sb, sb_v, z]
                show (subOf s2 y.1).getD (.v y.1) = y.2
                rw [subOf_nd hs2.nd hy]; rfl
              have hyh := hs2.hg y hy
              rw [show ePr y = D.tup [eT (.v y.1), eT y.2] from by rw [eT_v]; rfl]
              walk_at "go2"
              refine wp_eq (r_lput hp0 hp1 (.v y.1) (k := 227) (by simp [Tm.hgt]) (.v _) _ gp) ?_
              rw [hE]
              walk_at "go2"
              exact ⟨rfl, _, rfl⟩
            · rintro l S' ⟨rfl, o7, rfl⟩
              walk_at "go2"
              refine wp_eq (r_lpairs hp1 (k := 228) hs2.nd (by omega) hr4) ?_
              walk_at "go2"
              refine ⟨_, ?_, rfl⟩
              rw [List.length_map, List.length_map, hlen, decide_eq_true rfl]
        · exfalso
          refine hf (asF s2) (unif_one.mpr ?_)
          rw [← put_sb, ← put_sb, hput]
          refine (put_id u fun i hi => .inl (suNone.mpr fun z => ?_)).symm
          have z1 := (mt_keys p u [] s2 hm z).elim (fun z => by cases z) fun z => pv i z
          have z2 := hu.vs i hi
          simp only [List.mem_cons, List.not_mem_nil, or_false] at z1 z2
          omega
      · rcases hun with ⟨f, hf, e⟩ | ⟨hf, e⟩
        · refine wp_eq e ?_
          refine nxt_nx (wp_seq (wp_ifS ?_))
          walk_at "go2"
          refine way_eq rfl (way_f (wp_skip (nxt_nx (wp_seq (hv _ _ _ _ (fun T h => ?_) fun T h => ?_)))))
          · exact nxt_rt ⟨_, rfl, rfl⟩
          · exfalso
            have hug : ∀ x, ¬ u.has x := fun x hx => by
              have := (mem_vars (x := x) u []).mpr (.inr hx)
              rw [h] at this; cases this
            have hfp : p.put f = u := by have := hf.solved' (p, u) (by simp); simp only at this; rw [this]; exact put_id u fun i hi => (hug i hi).elim
            obtain ⟨s2, h1, _⟩ := mt_com (θ := asF f) p [] (by simp)
            rw [← put_sb, hfp, hm] at h1
            cases h1
        · refine wp_eq e ?_
          refine nxt_nx (wp_seq (wp_ifS ?_))
          walk_at "go2"
          refine way_eq rfl (way_f (wp_skip (nxt_nx (wp_seq (hv _ _ _ _ (fun T h => ?_) fun T h => ?_)))))
          · exact nxt_rt ⟨_, rfl, rfl⟩
          · refine nxt_nx (wp_seq (wp_ifS ?_))
            walk_at "go2"
            refine way_eq rfl ?_
            walk_at "go2"
            refine way_eq rfl ?_
            walk_at "go2"
            exact ⟨_, rfl, rfl⟩
    walk_at "go2"
    have hm := r_match hp0 hp2 (k := 226) (t := p) (u := u) (S := S' ++ [Cell.dK []]) (r := S'.length) (s := []) (n := 0) (by omega) (by omega) (by omega) last_get ⟨List.nodup_nil, by simp, by simp⟩ (by omega)
    cases em : Zi.mt p u [] with
    | some s2 =>
      rw [em] at hm
      refine wp_eq hm.2 ?_
      exact nxt_nx (tail _ _ (.inl ⟨s2, _, em, by have := hm.1; rwa [Int.zero_add] at this, rfl, last_get⟩))
    | none =>
      rw [em] at hm
      refine wp_eq hm ?_
      exact nxt_nx (tail _ _ (.inr ⟨em, rfl⟩))
  obtain ⟨f, S1, e, T, rfl, rfl⟩ := out
  exact ⟨_, run_more (prog := prog) (n := 1) (j := 8) (ms := m_law) (i := 9001) (T := _) rfl rfl e (refLt_bl _)⟩
end
end Lk19
set_option maxRecDepth 100000
open PySem PySem.W PyProof.Rows
set_option maxHeartbeats 0 in
theorem PySem.Challenge.cw_lastproof_k19_whole_unifying_and_matchin_holds : PySem.Challenge.rw_lastproof_k19_whole_unifying_and_matchin.Holds := by
  w_on; o_law; k_head; (case hw => w_witness2)
  k_fill
  refine L2.walk_of (l := PySem.Challenge.rw_lastproof_k19_whole_unifying_and_matchin) (n := 63) (k := 230) (x := "_law_script") (CX := fun _ => L2.CX0) (sp := fun w => Zi.spLaw _ (Zi.run Lk19.prog 230 9001)) rfl (by decide) rfl Zi.room230 (fun w h Y => PySem.W.kIn_of Y) ?F (fun _ _ a ns hl hO hS => Zi.law_sp hO hS (Lk19.law_true ns hl)) (fun _ _ _ _ _ h => h)
  case F =>
    intro w mg fa h KX G hmg
    refine' Lk19.all_mk KX G hmg ?a0 ?l0 ?c0 ?k0 ?a1 ?l1 ?c1 ?k1 ?a2 ?l2 ?c2 ?k2 ?a3 ?l3 ?c3 ?k3 ?a4 ?l4 ?c4 ?k4 ?a5 ?l5 ?c5 ?k5 ?a6 ?l6 ?c6 ?k6 ?a7 ?l7 ?c7 ?k7 ?a8 ?l8 ?c8 ?k8 ?a9 ?l9 ?c9 ?k9 ?a10 ?l10 ?c10 ?k10 ?a11 ?l11 ?c11 ?k11 ?a12 ?l12 ?c12 ?k12 ?a13 ?l13 ?c13 ?k13 ?a14 ?l14 ?c14 ?k14 ?a15 ?l15 ?c15 ?k15 ?a16 ?l16 ?c16 ?k16 ?z_isinstance ?z_int ?z_tuple ?z_list ?z_len ?z_zip ?z_dict ?z_range
    (case a0 => k_is); (case l0 => k_is); (case c0 => k_is); (case k0 => k_is); (case a1 => k_is); (case l1 => k_is); (case c1 => k_is); (case k1 => k_is); (case a2 => k_is); (case l2 => k_is); (case c2 => k_is); (case k2 => k_is); (case a3 => k_is); (case l3 => k_is); (case c3 => k_is); (case k3 => k_is); (case a4 => k_is); (case l4 => k_is); (case c4 => k_is); (case k4 => k_is); (case a5 => k_is); (case l5 => k_is); (case c5 => k_is); (case k5 => k_is); (case a6 => k_is); (case l6 => k_is); (case c6 => k_is); (case k6 => k_is); (case a7 => k_is); (case l7 => k_is); (case c7 => k_is); (case k7 => k_is); (case a8 => k_is); (case l8 => k_is); (case c8 => k_is); (case k8 => k_is); (case a9 => k_is); (case l9 => k_is); (case c9 => k_is); (case k9 => k_is); (case a10 => k_is); (case l10 => k_is); (case c10 => k_is); (case k10 => k_is); (case a11 => k_is); (case l11 => k_is); (case c11 => k_is); (case k11 => k_is); (case a12 => k_is); (case l12 => k_is); (case c12 => k_is); (case k12 => k_is); (case a13 => k_is); (case l13 => k_is); (case c13 => k_is); (case k13 => k_is); (case a14 => k_is); (case l14 => k_is); (case c14 => k_is); (case k14 => k_is); (case a15 => k_is); (case l15 => k_is); (case c15 => k_is); (case k15 => k_is); (case a16 => k_is); (case l16 => k_is); (case c16 => k_is); (case k16 => k_is); (case z_isinstance => k_is); (case z_int => k_is); (case z_tuple => k_is); (case z_list => k_is); (case z_len => k_is); (case z_zip => k_is); (case z_dict => k_is); (case z_range => k_is)
