import PyProof.Rows.All
import HandS.ForMost
import HandS.IsInst
import HandS.Flow
import HandS.Zip
import HandS.Wide
import HandS.TupAny
import HandS.EndTab
import HandS.Nested
import HandS.Dict
import HandS.More
import HandS.Lambda
import HandS.NoneIn
import KE.GoesEnum
import HandS.Iter
import HandS.DeepEq
import HandS.FStr
import HandS.Text
import PyProof.StrOps2
import PyProof.FitsInt
import PyProof.FitsReplace
import PyProof.StrLawsChain
import PyProof.Rows.ReprOcc
import PyProof.Rows.StrBin
import KE.KIntText
import KE.DataFind
import HandS.TupLe
import HandS.DictComp
import HandS.SortKw
import PyProof.WalkInts
import PyProof.MinMaxWalk
import HandS.Conv
import HandS.Zip0
import HandS.Keys
import KE.KDictItemsList
import KE.KDictZip
import PySem.Challenge.RW_lastproof_k21_texts_are_read_back
import Wide.All
set_option Elab.async false
set_option linter.all false
set_option maxRecDepth 100000
namespace Zi
open PySem PySem.Spec PyProof.Rows L2
abbrev NK := List Int × Int
def nHash (k : NK) : Int := reduceHash (Builtin.Tuple.tupleHashOf [reduceHash (Builtin.Tuple.tupleHashOf (k.1.map hashInt)), hashInt k.2])
section
variable (P : Program) (w : World)
/-- the tuple at a is the key k: a tuple of ints and an int -/
def NIs (h : Heap) (k : NK) (a : Addr) : Prop := ∃ (o : Obj) (b : Addr) (t : Tok) (n : Nat), h.get? a = some o ∧ o.cls = .type "tuple" ∧ o.data = .seq #[.ref b, .int k.2 t] n ∧ IsTupleKey (intKind P w) h k.1 b
variable {P w}
theorem NIs.inj {h : Heap} {a : Addr} {x y : NK} (hx : NIs P w h x a) (hy : NIs P w h y a) : x = y := by
  obtain ⟨o, b, t, n, ho, _, hd, hi⟩ := hx
  obtain ⟨o', b', t', n', ho', _, hd', hi'⟩ := hy
  obtain rfl : o = o' := Option.some.inj (ho.symm.trans ho')
  rw [hd] at hd'
  simp only [Data.seq.injEq] at hd'
  obtain ⟨h1, _⟩ := hd'
  have h2 := congrArg Array.toList h1
  simp only [List.cons.injEq, Value.ref.injEq, Value.int.injEq, and_true] at h2
  obtain ⟨rfl, h3, _⟩ := h2
  exact Prod.ext (hi.inj hi') h3
theorem NIs.keeps {h h' : Heap} {k : NK} {a d : Addr} {o : Obj} {es ep} (x : NIs P w h k a) (ho : h.get? d = some o) (hd : o.data = .dict es ep) (hs : Heap.SameBut d h h') : NIs P w h' k a := by
  obtain ⟨o', b, t, n, ho', hc, hd', hi⟩ := x
  have hne : a ≠ d := by
    rintro rfl
    obtain rfl : o' = o := Option.some.inj (ho'.symm.trans ho)
    rw [hd] at hd'; exact nomatch hd'
  exact ⟨o', b, t, n, (hs.2 a hne).trans ho', hc, hd', hi.keeps ho hd hs⟩
variable {A : Around} {E : Value → Shared → Prop} {s : Shared}
end
/-- its entries -/
def nEnt (x : NK × Addr × Value) : DictEntry := ⟨nHash x.1, .ref x.2.1, x.2.2⟩
abbrev NE := List (NK × Addr × V)
abbrev NX : NE → List (NK × Addr × Value) → Prop := Paired fun p q => p.1 = q.1 ∧ p.2.1 = q.2.1 ∧ RelV p.2.2 q.2.2
/-- a dict keyed by such pairs -/
def nO (a : Addr) (es : NE) : HO := .ext fun h => (a == sysModules) = false ∧ ∃ xs, NX es xs ∧ ∃ o ents ep, h.get? a = some o ∧ o.ExactDict ∧ o.data = .dict ents ep ∧ ents.toList = xs.map nEnt
/-- the tracked tuple at b is the key k -/
def NTup (H : Hp) (b : Addr) (k : NK) : Prop := ∃ c, H b = some (.tup [.ref c, .int k.2]) ∧ H c = some (.tup (k.1.map V.int))
abbrev NT (H : Hp) : List (NK × V) → NE → Prop := Paired fun p q => p.1 = q.1 ∧ NTup H q.2.1 p.1 ∧ p.2 = q.2.2
theorem NTup.keeps {H H' : Hp} {b : Addr} {k : NK} (ht : ∀ b ys, H b = some (.tup ys) → H' b = some (.tup ys)) (h : NTup H b k) : NTup H' b k := let ⟨c, h1, h2⟩ := h; ⟨c, ht _ _ h1, ht _ _ h2⟩
theorem NT.keeps {H H' : Hp} {kvs : List (NK × V)} {xs : NE} (r : NT H kvs xs) (ht : ∀ b ys, H b = some (.tup ys) → H' b = some (.tup ys)) : NT H' kvs xs :=
  Paired.mapP r fun _ _ z => ⟨z.1, z.2.1.keeps ht, z.2.2⟩
def storedN (es : NE) (k : NK) (b : Addr) (v : V) : NE := if (es.any fun x => decide (x.1 = k)) = true then es.map (fun x => if x.1 = k then (x.1, x.2.1, v) else x) else es ++ [(k, b, v)]
theorem NT.any {H : Hp} {kvs : List (NK × V)} {xs : NE} (r : NT H kvs xs) (k : NK) : (kvs.any fun x => decide (x.1 = k)) = xs.any fun x => decide (x.1 = k) := by
  induction r with
  | nil => rfl
  | cons h t ih => rw [List.any_cons, List.any_cons, ih, h.1]
theorem NX.any {es : NE} {xs : List (NK × Addr × Value)} (r : NX es xs) (k : NK) : (es.any fun x => decide (x.1 = k)) = (atKey xs k).isSome := by
  induction r with
  | nil => rfl
  | @cons p q ps qs h t ih =>
    rw [List.any_cons, ih, h.1]
    by_cases e : q.1 = k
    · simp [atKey, List.find?_cons, e]
    · simp [atKey, List.find?_cons, e]
theorem NT.put {H : Hp} {kvs : List (NK × V)} {es : NE} (r : NT H kvs es) (k : NK) {b : Addr} {y : V} (hb : NTup H b k) : NT H (putK kvs k y) (storedN es k b y) := by
  unfold putK storedN
  rw [r.any k]
  split
  · rename_i hh; clear hh
    induction r with
    | nil => exact .nil
    | @cons p q ps qs h t ih =>
      rw [List.map_cons, List.map_cons]
      refine .cons ?_ ih
      obtain ⟨h1, h2, h3⟩ := h
      by_cases e : p.1 = k
      · rw [if_pos e, if_pos (h1.symm.trans e)]; exact ⟨h1, h2, rfl⟩
      · rw [if_neg e, if_neg (fun z => e (h1.trans z))]; exact ⟨h1, h2, h3⟩
  · exact Paired.snoc r ⟨rfl, hb, rfl⟩
theorem NT.val {H : Hp} {kvs : List (NK × V)} {es : NE} {xs : List (NK × Addr × Value)} (r : NT H kvs es) (x : NX es xs) (k : NK) : RelO (valV kvs k) ((atKey xs k).map (·.2)) := by
  induction r generalizing xs with
  | nil => cases x; exact True.intro
  | @cons p q ps qs h t ih =>
    cases x with
    | @cons _ z _ zs hz tz =>
    obtain ⟨h1, _, h2⟩ := h
    obtain ⟨z1, _, z2⟩ := hz
    by_cases e : p.1 = k
    · have e' : z.1 = k := z1.symm.trans (h1.symm.trans e)
      have b : atKey (z :: zs) k = some z.2 := by simp [atKey, List.find?_cons, e']
      rw [valV_pos e, b, h2]; exact z2
    · have e' : ¬ z.1 = k := fun y => e (h1.trans (z1.trans y))
      have b : atKey (z :: zs) k = atKey zs k := by simp [atKey, List.find?_cons, e']
      rw [valV_neg e, b]; exact ih tz
theorem relV_ex (v : V) : ∃ u, RelV v u := by
  cases v with
  | non => exact ⟨_, rfl⟩
  | bl b => exact ⟨_, rfl⟩
  | int i => exact ⟨_, 0, rfl⟩
  | str x => exact ⟨_, 0, rfl⟩
  | byt b => exact ⟨_, 0, rfl⟩
  | flt b => exact ⟨_, 0, rfl⟩
  | ref a => exact ⟨_, rfl⟩
  | ty n => exact ⟨_, rfl⟩
theorem NX.ex : ∀ es : NE, ∃ xs, NX es xs
  | [] => ⟨[], .nil⟩
  | (k, b, v) :: es => by
    obtain ⟨xs, h⟩ := NX.ex es
    obtain ⟨u, hu⟩ := relV_ex v
    exact ⟨(k, b, u) :: xs, .cons ⟨rfl, rfl, hu⟩ h⟩
theorem get_rep (es : Array DictEntry) (n : Nat) (b : Addr) : (Heap.mk (Array.replicate n { cls := .type "dict", data := .dict es 0 }) {}).get? b = if b < n then some { cls := .type "dict", data := .dict es 0 } else none := by
  unfold Heap.get?
  dsimp only
  rw [Array.getElem?_replicate]
  by_cases h : b < n
  · simp only [if_pos h]
  · simp only [if_neg h]
theorem nO_ne {a : Addr} {es : NE} (ha : (a == sysModules) = false) (b : Addr) (q : Str) : nO a es ≠ LamX.CodeO b q := fun z => by
  obtain ⟨xs, hx⟩ := NX.ex es
  unfold nO LamX.CodeO at z
  have z := HO.ext.inj z
  have z := congrFun z (Heap.mk (Array.replicate (a + 1) { cls := .type "dict", data := .dict (xs.map nEnt).toArray 0 }) {})
  have z := z.mp ⟨ha, xs, hx, _, (xs.map nEnt).toArray, 0, by rw [get_rep, if_pos (Nat.lt_succ_self a)], ⟨rfl, rfl, rfl⟩, rfl, by simp⟩
  obtain ⟨oc, vs, t, h1, h2, _⟩ := z
  rw [get_rep] at h1
  split at h1
  · cases h1
    cases h2
  · cases h1
end Zi
set_option maxRecDepth 100000
namespace Zi
open PySem PySem.Spec PyProof.Rows L2
/-- a written lambda: its number among the functions, the def that makes it, its words, its parameters, the one name that it captures -/
structure LamT where
  nm : Nat
  maker : Str
  params : Arguments
  body : Expr
  scope : Scope
  ps : List Str
  fr : Str
abbrev lamQ (x : Str) : Str := x ++ ".<locals>." ++ "<lambda>"
/-- data: tuples as a whole, the script (sl), lists and dicts by their place in the store (ref), a def of the module (fn) -/
inductive D where
  | non | bl (b : Bool) | int (i : Int) | str (x : Str) | tup (xs : List D) | sl (ns : List Int) | ref (n : Nat) | fn (x : Str)
  /-- a tuple that is a constant of the module -/
  | ktup (xs : List D)
/-- the written part and the module's names -/
structure Wr where
  K : PySem.W.Frag
  mg : Str → Option Value
  base : Heap
/-- known, whatever it is -/
def anyO : HO := .ext fun _ => True
/-- the lambda's object stands at f, its captured cell at c -/
def LamO (H : Hp) (t : LamT) (f c : Addr) (o : Obj) : Prop := ∃ (pm ctv : Value) (c' : Addr) (cl : List (Str × Addr)), o = PySem.W.kla_obj "<lambda>" (lamQ t.maker) t.params t.body t.scope cl pm c' ctv ∧
  cl.lookup t.fr = some c ∧ (∀ y d, cl.lookup y = some d → y = t.fr) ∧ H c' = some (LamX.CodeO c' (lamQ t.maker))
/-- the table of the code object of the def x -/
def TabOf (g : Wr) (x : Str) (a : Addr) : Prop := ∃ (f c : Addr) (o : Obj) (fd : FuncData), g.mg x = some (.ref f) ∧ g.K.lookup f = some o ∧ o.data = .func fd ∧ fd.code = .ref c ∧ LamX.TabB g.base g.mg c a
/-- the script's list: locked, or an object of the module -/
def Scr (K : PySem.W.Frag) (H : Hp) (a : Addr) (ns : List Int) : Prop :=
  (∃ o, H a = some (.frz o (.lst (ns.map V.int)))) ∨
    ∃ (o : Obj) (its : Array Value) (n : Nat), K.lookup a = some o ∧ o.cls = .type "list" ∧ o.dict = none ∧ o.data = .seq its n ∧ its.size ≤ sizeLine ∧ Vals (ns.map V.int) its.toList
theorem Scr.sq {K : PySem.W.Frag} {H : Hp} {a : Addr} {ns : List Int} (h : Scr K H a ns) : SqL K H a (ns.map V.int) := by
  rcases h with h | h
  · exact .inl (.inr h)
  · exact .inr h
mutual
inductive RD (g : Wr) (ρ : List Addr) (H : Hp) : D → V → Prop
  | non : RD g ρ H .non .non
  | bl (b : Bool) : RD g ρ H (.bl b) (.bl b)
  | int (i : Int) : RD g ρ H (.int i) (.int i)
  | str (x : Str) : RD g ρ H (.str x) (.str x)
  | tup {ds : List D} {a : Addr} {vs : List V} : H a = some (.tup vs) → RDs g ρ H ds vs → RD g ρ H (.tup ds) (.ref a)
  | sl {ns : List Int} {a : Addr} : Scr g.K H a ns → RD g ρ H (.sl ns) (.ref a)
  | ref {n : Nat} {a : Addr} : ρ[n]? = some a → RD g ρ H (.ref n) (.ref a)
  | fn {x : Str} {f : Addr} : g.mg x = some (.ref f) → RD g ρ H (.fn x) (.ref f)
  | ktup {ds : List D} {a : Addr} {vs : List V} : SqT g.K H a vs → RDs g ρ H ds vs → RD g ρ H (.ktup ds) (.ref a)
inductive RDs (g : Wr) (ρ : List Addr) (H : Hp) : List D → List V → Prop
  | nil : RDs g ρ H [] []
  | cons {d : D} {v : V} {ds : List D} {vs : List V} : RD g ρ H d v → RDs g ρ H ds vs → RDs g ρ H (d :: ds) (v :: vs)
end
/-- what the relation leans on: tuples, the script, the store's places -/
structure Sub0 (g : Wr) (ρ : List Addr) (H : Hp) (ρ' : List Addr) (H' : Hp) : Prop where
  pre : ∀ (n : Nat) (a : Addr), ρ[n]? = some a → ρ'[n]? = some a
  tup : ∀ a xs, SqT g.K H a xs → SqT g.K H' a xs
  scr : ∀ a ns, Scr g.K H a ns → Scr g.K H' a ns
  ht : ∀ (a : Addr) (xs : List V), H a = some (.tup xs) → H' a = some (.tup xs)
/-- .. and the cells of the store -/
structure Sub (g : Wr) (ρ : List Addr) (H : Hp) (ρ' : List Addr) (H' : Hp) : Prop extends Sub0 g ρ H ρ' H' where
  lz : ∀ (a x : Addr) (o : Obj), H a = some (.frz o (.own x)) → H' a = some (.frz o (.own x))
  co : ∀ (a : Addr) (q : Str), H a = some (LamX.CodeO a q) → H' a = some (LamX.CodeO a q)
  ow : ∀ (a x : Addr), H a = some (.own x) → H' a = some (.own x)
theorem LamO.mono {H H' : Hp} {t : LamT} {f c : Addr} {o : Obj} (hc : ∀ (a : Addr) (q : Str), H a = some (LamX.CodeO a q) → H' a = some (LamX.CodeO a q)) (h : LamO H t f c o) : LamO H' t f c o := by
  obtain ⟨pm, ctv, c', cl, h2, h3, h4, h5⟩ := h
  exact ⟨pm, ctv, c', cl, h2, h3, h4, hc _ _ h5⟩
section
variable {g : Wr} {ρ ρ' : List Addr} {H H' : Hp}
mutual
theorem RD.mono0 (s : Sub0 g ρ H ρ' H') : ∀ {d : D} {v : V}, RD g ρ H d v → RD g ρ' H' d v
  | _, _, .non => .non
  | _, _, .bl b => .bl b
  | _, _, .int i => .int i
  | _, _, .str x => .str x
  | _, _, .tup h hs => .tup (s.ht _ _ h) (RDs.mono0 s hs)
  | _, _, .ktup h hs => .ktup (s.tup _ _ h) (RDs.mono0 s hs)
  | _, _, .sl h => .sl (s.scr _ _ h)
  | _, _, .ref h => .ref (s.pre _ _ h)
  | _, _, .fn h => .fn h
theorem RDs.mono0 (s : Sub0 g ρ H ρ' H') : ∀ {ds : List D} {vs : List V}, RDs g ρ H ds vs → RDs g ρ' H' ds vs
  | _, _, .nil => .nil
  | _, _, .cons h hs => .cons (RD.mono0 s h) (RDs.mono0 s hs)
end
theorem RD.mono (s : Sub g ρ H ρ' H') {d : D} {v : V} (h : RD g ρ H d v) : RD g ρ' H' d v := h.mono0 s.toSub0
theorem RDs.mono (s : Sub g ρ H ρ' H') {ds : List D} {vs : List V} (h : RDs g ρ H ds vs) : RDs g ρ' H' ds vs := h.mono0 s.toSub0
theorem RDs.length : ∀ {ds : List D} {vs : List V}, RDs g ρ H ds vs → ds.length = vs.length
  | _, _, .nil => rfl
  | _, _, .cons _ hs => congrArg (· + 1) (RDs.length hs)
theorem RDs.get : ∀ {ds : List D} {vs : List V} {i : Nat} {d : D}, RDs g ρ H ds vs → ds[i]? = some d → ∃ v, vs[i]? = some v ∧ RD g ρ H d v
  | _, _, _, _, .nil, e => by simp at e
  | _, _, 0, _, .cons h _, e => by simp at e; subst e; exact ⟨_, rfl, h⟩
  | _, _, i + 1, _, .cons _ hs, e => by
    obtain ⟨v, h1, h2⟩ := RDs.get (i := i) hs (by simpa using e)
    exact ⟨v, by simpa using h1, h2⟩
theorem RDs.append : ∀ {ds es : List D} {vs ws : List V}, RDs g ρ H ds vs → RDs g ρ H es ws → RDs g ρ H (ds ++ es) (vs ++ ws)
  | _, _, _, _, .nil, h => h
  | _, _, _, _, .cons a b, h => .cons a (RDs.append b h)
theorem RDs.take : ∀ {ds : List D} {vs : List V} (n : Nat), RDs g ρ H ds vs → RDs g ρ H (ds.take n) (vs.take n)
  | _, _, 0, _ => .nil
  | _, _, _ + 1, .nil => .nil
  | _, _, n + 1, .cons a b => .cons a (RDs.take n b)
theorem RDs.drop : ∀ {ds : List D} {vs : List V} (n : Nat), RDs g ρ H ds vs → RDs g ρ H (ds.drop n) (vs.drop n)
  | _, _, 0, h => h
  | _, _, _ + 1, .nil => .nil
  | _, _, n + 1, .cons _ b => RDs.drop n b
theorem RDs.set {d : D} {v : V} (r : RD g ρ H d v) : ∀ {ds : List D} {vs : List V} (i : Nat), RDs g ρ H ds vs → RDs g ρ H (ds.set i d) (vs.set i v)
  | _, _, _, .nil => .nil
  | _, _, 0, .cons _ b => .cons r b
  | _, _, i + 1, .cons a b => .cons a (RDs.set r i b)
theorem RDs.ints : ∀ {ns : List Int}, RDs g ρ H (ns.map D.int) (ns.map V.int)
  | [] => .nil
  | n :: ns => .cons (.int n) RDs.ints
theorem RDs.dropLast : ∀ {ds : List D} {vs : List V}, RDs g ρ H ds vs → RDs g ρ H ds.dropLast vs.dropLast
  | _, _, .nil => .nil
  | _, _, .cons _ .nil => .nil
  | _, _, .cons a (.cons b c) => .cons a (RDs.dropLast (.cons b c))
theorem RDs.reverse : ∀ {ds : List D} {vs : List V}, RDs g ρ H ds vs → RDs g ρ H ds.reverse vs.reverse
  | _, _, .nil => .nil
  | _, _, .cons a b => by
    rw [List.reverse_cons, List.reverse_cons]
    exact RDs.append (RDs.reverse b) (.cons a .nil)
theorem RDs.eraseIdx : ∀ {ds : List D} {vs : List V} (i : Nat), RDs g ρ H ds vs → RDs g ρ H (ds.eraseIdx i) (vs.eraseIdx i)
  | _, _, _, .nil => .nil
  | _, _, 0, .cons _ b => b
  | _, _, i + 1, .cons a b => .cons a (RDs.eraseIdx i b)
end
/-- what stands at a place of the store -/
inductive Cell where
  | lst (xs : List D) | dK (kvs : List (Key × D)) | dT (kvs : List (List Key × D))
  /-- a dict that a loop walks -/
  | lk (kvs : List (Key × D))
  | lkT (kvs : List (List Key × D))
  /-- a lambda handed to a def, with what its captured name holds (live: it may be called); the table of a def's code object; an instance -/
  | lamb (t : LamT) (d : D) (live : Bool) | tab (x : Str) | ins (c : Str) (fs : List (Str × D))
  /-- a dict keyed by pairs of a tuple of ints and an int -/
  | dN (kvs : List (NK × D))
  | lkN (kvs : List (NK × D))
abbrev Sto := List Cell
/-- pairs of a dict -/
inductive RDk {κ : Type} (g : Wr) (ρ : List Addr) (H : Hp) : List (κ × D) → List (κ × V) → Prop
  | nil : RDk g ρ H [] []
  | cons {k : κ} {d : D} {v : V} {ds : List (κ × D)} {vs : List (κ × V)} : RD g ρ H d v → RDk g ρ H ds vs → RDk g ρ H ((k, d) :: ds) ((k, v) :: vs)
inductive CellR (g : Wr) (ρ : List Addr) (H : Hp) : Addr → Cell → HO → Prop
  | lst {a : Addr} {xs : List D} {vs : List V} : RDs g ρ H xs vs → CellR g ρ H a (.lst xs) (.lst vs)
  | dK {a : Addr} {xs : List (Key × D)} {vs : List (Key × V)} : RDk g ρ H xs vs → CellR g ρ H a (.dK xs) (.dK vs)
  | dT {a : Addr} {xs : List (List Key × D)} {vs : List (List Key × V)} : RDk g ρ H xs vs → CellR g ρ H a (.dT xs) (.dT vs)
  | lk {a : Addr} {xs : List (Key × D)} {vs : List (Key × V)} {o : Obj} : RDk g ρ H xs vs → CellR g ρ H a (.lk xs) (.frz o (.dK vs))
  | lkT {a : Addr} {xs : List (List Key × D)} {vs : List (List Key × V)} {o : Obj} : RDk g ρ H xs vs → CellR g ρ H a (.lkT xs) (.frz o (.dT vs))
  | lamb {a c : Addr} {t : LamT} {d : D} {o : Obj} {l : Bool} : LamO H t a c o → (l = true → ∃ oc u v, H c = some (.frz oc (.own a)) ∧ oc.data = .cell (some u) ∧ RelV v u ∧ RD g ρ H d v) → CellR g ρ H a (.lamb t d l) (.frz o anyO)
  | tab {a : Addr} {x : Str} {ps : Array Value} : TabOf g x a → TriplesOk ps.toList → (∀ (pos : Pos) (cv : Value), codeAmong pos ps.toList = some cv → ∃ c, cv = .ref c ∧ H c = some (LamX.CodeO c (lamQ x))) → CellR g ρ H a (.tab x) (.tbl ps)
  | ins {a : Addr} {x : Str} {C dx : Addr} {fs : List (Str × D)} {vs : List (Str × V)} : g.mg x = some (.ref C) → H dx = some (.own a) → RDk g ρ H fs vs → CellR g ρ H a (.ins x fs) (.ins C dx vs)
  | dN {a : Addr} {xs : List (NK × D)} {vs : List (NK × V)} {es : NE} : RDk g ρ H xs vs → NT H vs es → (es.map (·.1)).Nodup → (a == sysModules) = false → CellR g ρ H a (.dN xs) (nO a es)
  | lkN {a : Addr} {xs : List (NK × D)} {vs : List (NK × V)} {es : NE} {o : Obj} : RDk g ρ H xs vs → NT H vs es → (es.map (·.1)).Nodup → (a == sysModules) = false → CellR g ρ H a (.lkN xs) (.frz o (nO a es))
section
variable {g : Wr} {ρ ρ' : List Addr} {H H' : Hp}
theorem RDk.mono0 {κ : Type} (s : Sub0 g ρ H ρ' H') : ∀ {xs : List (κ × D)} {vs : List (κ × V)}, RDk g ρ H xs vs → RDk g ρ' H' xs vs
  | _, _, .nil => .nil
  | _, _, .cons h hs => .cons (h.mono0 s) (RDk.mono0 s hs)
theorem RDk.mono {κ : Type} (s : Sub g ρ H ρ' H') {xs : List (κ × D)} {vs : List (κ × V)} (h : RDk g ρ H xs vs) : RDk g ρ' H' xs vs := h.mono0 s.toSub0
theorem CellR.mono (s : Sub g ρ H ρ' H') {a : Addr} {c : Cell} {o : HO} (h : CellR g ρ H a c o) : CellR g ρ' H' a c o := by
  cases h with
  | lst h => exact .lst (h.mono s)
  | dK h => exact .dK (h.mono s)
  | dT h => exact .dT (h.mono s)
  | lk h => exact .lk (h.mono s)
  | lkT h => exact .lkT (h.mono s)
  | lamb h1 h2 => exact .lamb (h1.mono s.co) fun e => let ⟨oc, u, v, a1, a2, a3, a4⟩ := h2 e; ⟨oc, u, v, s.lz _ _ _ a1, a2, a3, a4.mono s⟩
  | tab h1 h2 h3 => exact .tab h1 h2 fun pos cv e => let ⟨c, e1, e2⟩ := h3 pos cv e; ⟨c, e1, s.co _ _ e2⟩
  | ins h1 h2 h3 => exact .ins h1 (s.ow _ _ h2) (h3.mono s)
  | dN h1 h2 h3 h4 => exact .dN (h1.mono s) (h2.keeps s.ht) h3 h4
  | lkN h1 h2 h3 h4 => exact .lkN (h1.mono s) (h2.keeps s.ht) h3 h4
/-- no cell is a tuple or a locked sequence -/
theorem CellR.notT {a : Addr} {c : Cell} {o : HO} (h : CellR g ρ H a c o) : (∀ xs, o ≠ .tup xs) ∧ (∀ ob xs, o ≠ .frz ob (.tup xs)) ∧ ∀ ob xs, o ≠ .frz ob (.lst xs) := by
  cases h <;> exact ⟨(fun _ z => by (try unfold nO at z); cases z), (fun _ _ z => by (try unfold nO at z); cases z), (fun _ _ z => by (try unfold nO at z); cases z)⟩
theorem CellR.notE {a : Addr} {c : Cell} {o : HO} (h : CellR g ρ H a c o) : (∀ b q, o ≠ LamX.CodeO b q) ∧ (∀ x, o ≠ .own x) ∧ ∀ ob x, o ≠ .frz ob (.own x) := by
  cases h <;> first
    | exact ⟨(fun _ _ z => by unfold LamX.CodeO at z; cases z), (fun _ z => by cases z), (fun _ _ z => by (try unfold anyO at z); (try unfold nO at z); cases z)⟩
    | (rename_i h4; exact ⟨fun b q => nO_ne h4 b q, (fun _ z => by unfold nO at z; cases z), (fun _ _ z => by unfold nO at z; cases z)⟩)
/-- a cell that is not locked -/
def Cell.free : Cell → Bool
  | .lk _ => false
  | .lkT _ => false
  | .lkN _ => false
  | .lamb _ _ _ => false
  | _ => true
theorem CellR.notF {a : Addr} {c : Cell} {o : HO} (h : CellR g ρ H a c o) (hf : c.free = true) : ∀ ob u, o ≠ .frz ob u := by
  cases h <;> first
    | exact absurd hf Bool.false_ne_true
    | exact (fun _ _ z => by (try unfold nO at z); cases z)
end
/-- the store lies in the heap, its places at ρ -/
structure Sim (g : Wr) (ρ : List Addr) (S : Sto) (H : Hp) : Prop where
  len : ρ.length = S.length
  nd : ρ.Nodup
  cell : ∀ (n : Nat) (a : Addr) (c : Cell), ρ[n]? = some a → S[n]? = some c → ∃ o, H a = some o ∧ CellR g ρ H a c o
/-- what one may know behind a step: the places stay, what the store does not hold stays, and the store has not taken it -/
structure Ext (ρ : List Addr) (H : Hp) (ρ' : List Addr) (H' : Hp) : Prop where
  pre : ∀ (n : Nat) (a : Addr), ρ[n]? = some a → ρ'[n]? = some a
  fr : ∀ a o, a ∉ ρ → H a = some o → H' a = some o ∧ a ∉ ρ'
  fz : ∀ a o u, H a = some (.frz o u) → H' a = some (.frz o u)
section
variable {g : Wr} {ρ ρ' ρ1 : List Addr} {S S' : Sto} {H H' H1 : Hp}
theorem Ext.refl : Ext ρ H ρ H := ⟨fun _ _ h => h, fun _ _ n h => ⟨h, n⟩, fun _ _ _ h => h⟩
theorem Ext.trans (a : Ext ρ H ρ1 H1) (b : Ext ρ1 H1 ρ' H') : Ext ρ H ρ' H' :=
  ⟨fun n x h => b.pre n x (a.pre n x h), fun x o n h => let ⟨h1, n1⟩ := a.fr x o n h; b.fr x o n1 h1, fun x o u h => b.fz x o u (a.fz x o u h)⟩
theorem Sim.at (s : Sim g ρ S H) {a : Addr} (h : a ∈ ρ) : ∃ c o, H a = some o ∧ CellR g ρ H a c o := by
  obtain ⟨n, hn, e⟩ := List.mem_iff_getElem.mp h
  have e1 : ρ[n]? = some a := by rw [List.getElem?_eq_getElem hn, e]
  have hS : n < S.length := by rw [← s.len]; exact hn
  obtain ⟨o, h1, h2⟩ := s.cell n a S[n] e1 (List.getElem?_eq_getElem hS)
  exact ⟨_, o, h1, h2⟩
theorem Sim.notin (s : Sim g ρ S H) {a : Addr} {o : HO} (h : H a = some o) (hn : (∃ xs, o = .tup xs) ∨ (∃ ob xs, o = .frz ob (.tup xs)) ∨ ∃ ob xs, o = .frz ob (.lst xs)) : a ∉ ρ := fun z => by
  obtain ⟨c, o', h1, h2⟩ := s.at z
  rw [h] at h1
  cases h1
  rcases hn with ⟨xs, e⟩ | ⟨ob, u, e⟩ | ⟨ob, u, e⟩
  · exact h2.notT.1 xs e
  · exact h2.notT.2.1 ob u e
  · exact h2.notT.2.2 ob u e
theorem Sim.notinE (s : Sim g ρ S H) {a : Addr} {o : HO} (h : H a = some o) (hn : (∃ b q, o = LamX.CodeO b q) ∨ (∃ x, o = .own x) ∨ ∃ ob x, o = .frz ob (.own x)) : a ∉ ρ := fun z => by
  obtain ⟨c, o', h1, h2⟩ := s.at z
  rw [h] at h1
  cases h1
  rcases hn with ⟨b, q, e⟩ | ⟨x, e⟩ | ⟨ob, x, e⟩
  · exact h2.notE.1 b q e
  · exact h2.notE.2.1 x e
  · exact h2.notE.2.2 ob x e
theorem Sim.fresh (s : Sim g ρ S H) {a : Addr} (h : H a = none) : a ∉ ρ := fun z => by
  obtain ⟨c, o', h1, h2⟩ := s.at z
  rw [h] at h1
  cases h1
/-- all that is known stays known -/
theorem Ext.sub (e : Ext ρ H ρ' H') (s : Sim g ρ S H) : Sub g ρ H ρ' H' := by
  refine ⟨⟨e.pre, fun a xs h => ?_, fun a ns h => ?_, fun a xs h => (e.fr a _ (s.notin h (.inl ⟨_, rfl⟩)) h).1⟩, fun a x o h => e.fz a o _ h, fun a q h => (e.fr a _ (s.notinE h (.inl ⟨_, _, rfl⟩)) h).1, fun a x h => (e.fr a _ (s.notinE h (.inr (.inl ⟨_, rfl⟩))) h).1⟩
  · rcases h with (h | ⟨o, h⟩) | h
    · exact .inl (.inl (e.fr a _ (s.notin h (.inl ⟨_, rfl⟩)) h).1)
    · exact .inl (.inr ⟨o, e.fz a _ _ h⟩)
    · exact .inr h
  · rcases h with ⟨o, h⟩ | h
    · exact .inl ⟨o, e.fz a _ _ h⟩
    · exact .inr h
theorem Ext.rd (e : Ext ρ H ρ' H') (s : Sim g ρ S H) {d : D} {v : V} (h : RD g ρ H d v) : RD g ρ' H' d v := h.mono (e.sub s)
theorem Ext.rds (e : Ext ρ H ρ' H') (s : Sim g ρ S H) {d : List D} {v : List V} (h : RDs g ρ H d v) : RDs g ρ' H' d v := h.mono (e.sub s)
/-- an object that the store does not hold is laid -/
theorem Ext.new {p : Addr} {o : HO} (h : H p = none) : Ext ρ H ρ (upd H p o) := ⟨fun _ _ h => h, fun a x n e => ⟨by
  rw [upd_ne (ne_of_none e h)]; exact e, n⟩, fun a x u e => by rw [upd_ne (ne_of_none e h)]; exact e⟩
theorem Sim.other (s : Sim g ρ S H) {p : Addr} {o : HO} (hp : p ∉ ρ) (h : H p = none) : Sim g ρ S (upd H p o) := by
  have e : Ext ρ H ρ (upd H p o) := Ext.new h
  have sb := e.sub s
  refine ⟨s.len, s.nd, fun n a c h1 h2 => ?_⟩
  obtain ⟨o', h3, h4⟩ := s.cell n a c h1 h2
  exact ⟨o', by rw [upd_ne (ne_of_none h3 h)]; exact h3, h4.mono sb⟩
/-- a cell is changed -/
theorem Sim.upd (s : Sim g ρ S H) {n : Nat} {a : Addr} {c c0 : Cell} {o : HO} (hn : ρ[n]? = some a) (h0 : S[n]? = some c0) (hf : c0.free = true) (r : CellR g ρ H a c o) : Ext ρ H ρ (L2.upd H a o) ∧ Sim g ρ (S.set n c) (L2.upd H a o) := by
  have ha : a ∈ ρ := List.mem_of_getElem? hn
  obtain ⟨o0, ho0, hr0⟩ := s.cell n a c0 hn h0
  have e : Ext ρ H ρ (L2.upd H a o) := ⟨fun _ _ h => h, fun b x nb eb => ⟨by
    have hne : b ≠ a := fun z => nb (by rw [z]; exact ha)
    rw [upd_ne hne]; exact eb, nb⟩, fun b x u eb => by
    have hne : b ≠ a := fun z => by
      rw [z, ho0] at eb
      exact hr0.notF hf _ _ (Option.some.inj eb)
    rw [upd_ne hne]; exact eb⟩
  have sb := e.sub s
  refine ⟨e, by simp [s.len], s.nd, fun m b d h1 h2 => ?_⟩
  by_cases hm : m = n
  · subst hm
    rw [hn] at h1
    cases h1
    have hl : m < S.length := by rw [← s.len]; exact (List.getElem?_eq_some_iff.mp hn).1
    rw [List.getElem?_set_self hl] at h2
    cases h2
    exact ⟨o, upd_same, r.mono sb⟩
  · rw [List.getElem?_set_ne (Ne.symm hm)] at h2
    have nb : b ≠ a := fun z => by
      subst z
      obtain ⟨l1, e1⟩ := List.getElem?_eq_some_iff.mp h1
      obtain ⟨l2, e2⟩ := List.getElem?_eq_some_iff.mp hn
      exact hm ((List.getElem_inj s.nd).mp (e1.trans e2.symm))
    obtain ⟨o', h3, h4⟩ := s.cell m b d h1 h2
    exact ⟨o', by rw [upd_ne nb]; exact h3, h4.mono sb⟩
end
abbrev Lo := List (Option D)
structure LocR (g : Wr) (ρ : List Addr) (H : Hp) (l : Lo) (σ : L2.St) : Prop where
  len : l.length = σ.length
  val : ∀ (i : Nat) (d : D), l[i]? = some (some d) → ∃ v, σ[i]? = some (some v) ∧ RD g ρ H d v
section
variable {g : Wr} {ρ ρ' : List Addr} {H H' : Hp} {l : Lo} {σ : L2.St} {S : Sto}
theorem LocR.mono (s : Sub g ρ H ρ' H') (h : LocR g ρ H l σ) : LocR g ρ' H' l σ := ⟨h.len, fun i d e => let ⟨v, h1, h2⟩ := h.val i d e; ⟨v, h1, h2.mono s⟩⟩
theorem Ext.loc (e : Ext ρ H ρ' H') (s : Sim g ρ S H) (h : LocR g ρ H l σ) : LocR g ρ' H' l σ := h.mono (e.sub s)
theorem LocR.set (h : LocR g ρ H l σ) {i : Nat} {d : D} {v : V} (r : RD g ρ H d v) : LocR g ρ H (l.set i (some d)) (σ.set i (some v)) := by
  refine ⟨by simp [h.len], fun j d' e => ?_⟩
  by_cases hj : j = i
  · subst hj
    have hl : j < l.length := by
      have := (List.getElem?_eq_some_iff.mp e).1
      simpa using this
    rw [List.getElem?_set_self hl] at e
    cases e
    exact ⟨v, by rw [List.getElem?_set_self (by rw [← h.len]; exact hl)], r⟩
  · rw [List.getElem?_set_ne (Ne.symm hj)] at e
    obtain ⟨w, h1, h2⟩ := h.val j d' e
    exact ⟨w, by rw [List.getElem?_set_ne (Ne.symm hj)]; exact h1, h2⟩
theorem LocR.setN (h : LocR g ρ H l σ) {i : Nat} : LocR g ρ H (l.set i none) (σ.set i none) := by
  refine ⟨by simp [h.len], fun j d' e => ?_⟩
  by_cases hj : j = i
  · subst hj
    have hl : j < l.length := by
      have := (List.getElem?_eq_some_iff.mp e).1
      simpa using this
    rw [List.getElem?_set_self hl] at e
    cases e
  · rw [List.getElem?_set_ne (Ne.symm hj)] at e
    obtain ⟨w, h1, h2⟩ := h.val j d' e
    exact ⟨w, by rw [List.getElem?_set_ne (Ne.symm hj)]; exact h1, h2⟩
theorem LocR.start_of {ds : List D} {vs : List V} (r : RDs g ρ H ds vs) (N : List Str) : LocR g ρ H (ds.map some ++ List.replicate (N.length - ds.length) none) (L2.start N vs) := by
  have hl := r.length
  refine ⟨by unfold L2.start; simp [hl], fun i d e => ?_⟩
  by_cases hi : i < ds.length
  · rw [List.getElem?_append_left (by simpa using hi), List.getElem?_map] at e
    cases e1 : ds[i]? with
    | none => rw [e1] at e; cases e
    | some d1 =>
      rw [e1] at e
      cases e
      obtain ⟨v, h1, h2⟩ := r.get e1
      refine ⟨v, ?_, h2⟩
      unfold L2.start
      rw [List.getElem?_append_left (by simpa [← hl] using hi), List.getElem?_map, h1]
      rfl
  · rw [List.getElem?_append_right (by simpa using hi), List.getElem?_replicate] at e
    split at e <;> cases e
end
abbrev M := Lo → Sto → Option (D × Sto)
abbrev MA := Lo → Sto → Option (List D × Sto)
abbrev MT := Lo → Sto → Option (Bool × Sto)
inductive Fl where
  | nx (l : Lo) | rt (d : D) | bk (l : Lo) | ct (l : Lo)
abbrev MS := Lo → Sto → Option (Fl × Sto)
def Cx.g (X : Cx) : Wr := ⟨X.K, X.mg, X.base⟩
/-- the reading by the function -/
def tM (g : Wr) (m : M) : TE := fun σ H Q => ∃ ρ l S d S', Sim g ρ S H ∧ LocR g ρ H l σ ∧ m l S = some (d, S') ∧
  ∀ ρ' v H', Ext ρ H ρ' H' → Sim g ρ' S' H' → RD g ρ' H' d v → Q v H'
def tMA (g : Wr) (m : MA) : TA := fun σ H Q => ∃ ρ l S ds S', Sim g ρ S H ∧ LocR g ρ H l σ ∧ m l S = some (ds, S') ∧
  ∀ ρ' vs H', Ext ρ H ρ' H' → Sim g ρ' S' H' → RDs g ρ' H' ds vs → Q vs H'
def tMT (g : Wr) (m : MT) : TT := fun σ H Q => ∃ ρ l S b S', Sim g ρ S H ∧ LocR g ρ H l σ ∧ m l S = some (b, S') ∧
  ∀ ρ' H', Ext ρ H ρ' H' → Sim g ρ' S' H' → Q b H'
def FlR (g : Wr) (ρ : List Addr) (H : Hp) (f : Fl) (E : Ends) : Prop := match f with
  | .nx l => ∀ σ, LocR g ρ H l σ → E.nx σ H
  | .rt d => ∀ v, RD g ρ H d v → E.rt v H
  | .bk l => ∀ σ, LocR g ρ H l σ → E.bk σ H
  | .ct l => ∀ σ, LocR g ρ H l σ → E.ct σ H
def tMS (g : Wr) (m : MS) : TS := fun E σ H => ∃ ρ l S f S', Sim g ρ S H ∧ LocR g ρ H l σ ∧ m l S = some (f, S') ∧
  ∀ ρ' H', Ext ρ H ρ' H' → Sim g ρ' S' H' → FlR g ρ' H' f E
def Snd (X : Cx) (e : Expr) (m : M) : Prop := PE X e (tM (Cx.g X) m)
def SndA (X : Cx) (es : List Expr) (m : MA) : Prop := PA X es (tMA (Cx.g X) m)
def SndT (X : Cx) (e : Expr) (m : MT) : Prop := PT X e (tMT (Cx.g X) m)
def SndW (X : Cx) (e : Expr) (m : MT) : Prop := PW X e (tMT (Cx.g X) m)
def SndS (X : Cx) (st : Stmt) (m : MS) : Prop := PS X st (tMS (Cx.g X) m)
def SndB (X : Cx) (st : List Stmt) (m : MS) : Prop := PSs X st (tMS (Cx.g X) m)
theorem pe_imp {X : Cx} {e : Expr} {t t' : TE} (h : PE X e t) (w : ∀ σ H Q, t' σ H Q → t σ H Q) : PE X e t' := ⟨fun pins s σ H Q I q => h.run pins s σ H Q I (w σ H Q q)⟩
theorem pt_imp {X : Cx} {e : Expr} {t t' : TT} (h : PT X e t) (w : ∀ σ H Q, t' σ H Q → t σ H Q) : PT X e t' := ⟨fun pins s σ H Q I q => h.run pins s σ H Q I (w σ H Q q)⟩
theorem pw_imp {X : Cx} {e : Expr} {t t' : TT} (h : PW X e t) (w : ∀ σ H Q, t' σ H Q → t σ H Q) : PW X e t' := ⟨fun wh pins s σ H Q I q => h.run wh pins s σ H Q I (w σ H Q q)⟩
theorem pa_imp {X : Cx} {e : List Expr} {t t' : TA} (h : PA X e t) (w : ∀ σ H Q, t' σ H Q → t σ H Q) : PA X e t' := ⟨fun pos pins s σ H Q I q => h.run pos pins s σ H Q I (w σ H Q q)⟩
theorem ps_imp {X : Cx} {e : Stmt} {t t' : TS} (h : PS X e t) (w : ∀ D σ H, t' D σ H → t D σ H) : PS X e t' := ⟨fun pins s σ H D I q => h.run pins s σ H D I (w D σ H q)⟩
theorem pss_imp {X : Cx} {e : List Stmt} {t t' : TS} (h : PSs X e t) (w : ∀ D σ H, t' D σ H → t D σ H) : PSs X e t' := ⟨fun pins s σ H D I q => h.run pins s σ H D I (w D σ H q)⟩
section
variable {X : Cx} {pos : Pos}
def mVar (i : Nat) : M := fun l S => match l[i]? with
  | some (some d) => some (d, S)
  | _ => none
theorem s_var (i : Nat) {x : Str} (hN : X.N[i]? = some x := by rfl) (hv : Vis X.env.scope x := by first | exact Or.inl rfl | exact Or.inr (Or.inl rfl) | exact Or.inr (Or.inr rfl)) (hd : (x == ("__debug__" : Str)) = false := by decide)
    (hcd : (x == ("__classdict__" : Str)) = false := by decide) : Snd X (.Name x pos) (mVar i) := by
  refine pe_imp (pe_var (i := i) hN hv hd hcd) fun σ H Q h => ?_
  obtain ⟨ρ, l, S, d, S', hs, hl, hm, q⟩ := h
  unfold mVar at hm
  split at hm
  · rename_i d' e
    cases hm
    obtain ⟨v, h1, h2⟩ := hl.val i d e
    exact ⟨v, h1, q ρ v H Ext.refl hs h2⟩
  · cases hm
def mC (d : D) : M := fun _ S => some (d, S)
theorem s_int {i j} : Snd X (.Constant (.int i) j pos) (mC (.int i)) := pe_imp pe_int fun σ H Q h => by
  obtain ⟨ρ, l, S, d, S', hs, hl, hm, q⟩ := h
  cases hm
  exact q ρ _ H Ext.refl hs (.int i)
theorem s_bl {b j} : Snd X (.Constant (.bool b) j pos) (mC (.bl b)) := pe_imp pe_bl fun σ H Q h => by
  obtain ⟨ρ, l, S, d, S', hs, hl, hm, q⟩ := h
  cases hm
  exact q ρ _ H Ext.refl hs (.bl b)
theorem s_non {j} : Snd X (.Constant .none j pos) (mC .non) := pe_imp pe_non fun σ H Q h => by
  obtain ⟨ρ, l, S, d, S', hs, hl, hm, q⟩ := h
  cases hm
  exact q ρ _ H Ext.refl hs .non
theorem s_str {x j} : Snd X (.Constant (.str x) j pos) (mC (.str x)) := pe_imp pe_str fun σ H Q h => by
  obtain ⟨ρ, l, S, d, S', hs, hl, hm, q⟩ := h
  cases hm
  exact q ρ _ H Ext.refl hs (.str x)
/-- a constant of the module -/
theorem s_glob {x : Str} {d : D} {v : V} {u : Value} (hg : Gl X x) (hm : X.mg x = some u) (r : RelV v u) (rd : ∀ ρ H, RD (Cx.g X) ρ H d v) (hd : (x == ("__debug__" : Str)) = false := by decide) : Snd X (.Name x pos) (mC d) :=
  pe_imp (pe_glob hg hm r hd) fun σ H Q h => by
  obtain ⟨ρ, l, S, d, S', hs, hl, hm, q⟩ := h
  cases hm
  exact q ρ _ H Ext.refl hs (rd _ _)
/-- two-place operations -/
abbrev OpF := D → D → Sto → Option (D × Sto)
def OpOk (g : Wr) (r : R2) (f : OpF) : Prop := ∀ ρ S H x y v u z S' Q, Sim g ρ S H → RD g ρ H x v → RD g ρ H y u → f x y S = some (z, S') →
  (∀ ρ' w H', Ext ρ H ρ' H' → Sim g ρ' S' H' → RD g ρ' H' z w → Q w H') → r v u H Q
def mOp (f : OpF) (a b : M) : M := fun l S => (a l S).bind fun p => (b l p.2).bind fun q => f p.1 q.1 q.2
theorem bind2 {α β : Type} {o : Option α} {f : α → Option β} {y : β} (h : o.bind f = some y) : ∃ x, o = some x ∧ f x = some y := Option.bind_eq_some_iff.mp h
theorem tOp_of {g : Wr} {r : R2} {f : OpF} {ma mb : M} (hf : OpOk g r f) {σ : L2.St} {H : Hp} {Q : VK} (h : tM g (mOp f ma mb) σ H Q) : tOp r (tM g ma) (tM g mb) σ H Q := by
  obtain ⟨ρ, l, S, d, S', hs, hl, hm, q⟩ := h
  obtain ⟨⟨x, S1⟩, e1, hm⟩ := bind2 hm
  obtain ⟨⟨y, S2⟩, e2, hm⟩ := bind2 hm
  refine ⟨ρ, l, S, x, S1, hs, hl, e1, fun ρ1 v H1 x1 s1 r1 => ?_⟩
  refine ⟨ρ1, l, S1, y, S2, s1, x1.loc hs hl, e2, fun ρ2 u H2 x2 s2 r2 => ?_⟩
  exact hf ρ2 S2 H2 x y v u d S' Q s2 (x2.rd s1 r1) r2 hm fun ρ3 w H3 x3 s3 r3 => q ρ3 w H3 ((x1.trans x2).trans x3) s3 r3
theorem s_op {op : Operator} {r : R2} {f : OpF} {a b : Expr} {ma mb : M} (ho : OpR X (binaryOp op) r) (hf : OpOk (Cx.g X) r f) (ha : Snd X a ma) (hb : Snd X b mb) : Snd X (.BinOp a op b pos) (mOp f ma mb) :=
  pe_imp (pe_op ho ha hb) fun _ _ _ h => tOp_of hf h
theorem s_cmp {op : CmpOp} {r : R2} {f : OpF} {a b : Expr} {ma mb : M} (ho : OpR X (compareOp op) r) (hf : OpOk (Cx.g X) r f) (ha : Snd X a ma) (hb : Snd X b mb) (hm : behindInMarks op b = false) : Snd X (.Compare a [op] [b] pos) (mOp f ma mb) :=
  pe_imp (pe_cmpR ho ha hb hm) fun _ _ _ h => tOp_of hf h
/-- a comparison as a test -/
def mBool (m : M) : MT := fun l S => (m l S).bind fun p => match p.1 with
  | .bl b => some (b, p.2)
  | _ => none
theorem tTest_of {g : Wr} {t : TE} {m : M} (h : ∀ σ H Q, tM g m σ H Q → t σ H Q) {σ : L2.St} {H : Hp} {Q : Bool → Hp → Prop} (hm : tMT g (mBool m) σ H Q) : tTest t σ H Q := by
  obtain ⟨ρ, l, S, b, S', hs, hl, hm, q⟩ := hm
  obtain ⟨⟨x, S1⟩, e1, hm⟩ := bind2 hm
  refine h σ H _ ⟨ρ, l, S, x, S1, hs, hl, e1, fun ρ1 v H1 x1 s1 r1 => ?_⟩
  cases x <;> first
    | (cases hm; cases r1; exact ⟨_, rfl, q ρ1 H1 x1 s1⟩)
    | (simp at hm)
theorem t_cmp {op : CmpOp} {r : R2} {f : OpF} {a b : Expr} {ma mb : M} (ho : OpR X (compareOp op) r) (hf : OpOk (Cx.g X) r f) (ha : Snd X a ma) (hb : Snd X b mb) (hm : behindInMarks op b = false) : SndT X (.Compare a [op] [b] pos) (mBool (mOp f ma mb)) :=
  pt_imp (pt_cmpR ho ha hb hm) fun _ _ _ h => tTest_of (fun _ _ _ h => tOp_of hf h) h
def mNil : MA := fun _ S => some ([], S)
def mCons (a : M) (r : MA) : MA := fun l S => (a l S).bind fun p => (r l p.2).bind fun q => some (p.1 :: q.1, q.2)
theorem sa_nil : SndA X [] mNil := pa_imp pa_nil fun σ H Q h => by
  obtain ⟨ρ, l, S, d, S', hs, hl, hm, q⟩ := h
  cases hm
  exact q ρ [] H Ext.refl hs .nil
theorem sa_cons {e : Expr} {es : List Expr} {a : M} {r : MA} (ha : Snd X e a) (hr : SndA X es r) (hs : starEach (e :: es) X.env = (false, eval e X.env) :: starEach es X.env := by rfl) : SndA X (e :: es) (mCons a r) := pa_imp (pa_cons ha hr hs) fun σ H Q h => by
  obtain ⟨ρ, l, S, d, S', hs, hl, hm, q⟩ := h
  obtain ⟨⟨x, S1⟩, e1, hm⟩ := bind2 hm
  obtain ⟨⟨y, S2⟩, e2, hm⟩ := bind2 hm
  cases hm
  refine ⟨ρ, l, S, x, S1, hs, hl, e1, fun ρ1 v H1 x1 s1 r1 => ?_⟩
  refine ⟨ρ1, l, S1, y, S2, s1, x1.loc hs hl, e2, fun ρ2 u H2 x2 s2 r2 => ?_⟩
  exact q ρ2 _ H2 (x1.trans x2) s2 (.cons (x2.rd s1 r1) r2)
def mTup (m : MA) : M := fun l S => (m l S).bind fun p => if p.1.length ≤ 1000 then some (.tup p.1, p.2) else none
theorem le_line {n k : Nat} (h : n ≤ k) (hk : k ≤ 16777216) : n ≤ sizeLine := by rw [sizeLine_eq]; omega
theorem s_tup {es : List Expr} {m : MA} {x1} (h : SndA X es m) : Snd X (.Tuple es x1 pos) (mTup m) := pe_imp (pe_tup h) fun σ H Q h => by
  obtain ⟨ρ, l, S, d, S', hs, hl, hm, q⟩ := h
  obtain ⟨⟨x, S1⟩, e1, hm⟩ := bind2 hm
  dsimp only at hm
  split at hm
  · rename_i hz
    cases hm
    refine ⟨ρ, l, S, x, _, hs, hl, e1, fun ρ1 vs H1 x1 s1 r1 => ⟨le_line (by rw [← r1.length]; exact hz) (by decide), fun p hp => ?_⟩⟩
    exact q ρ1 _ _ (x1.trans (Ext.new hp)) (s1.other (s1.fresh hp) hp) (.tup upd_same ((Ext.new hp).rds s1 r1))
  · cases hm
end
/-- the answer is a new list that the store does not hold -/
def tML (g : Wr) (m : MA) : TE := fun σ H Q => ∃ ρ l S ds S', Sim g ρ S H ∧ LocR g ρ H l σ ∧ m l S = some (ds, S') ∧
  ∀ ρ' p vs H', Ext ρ H ρ' H' → Sim g ρ' S' H' → H' p = some (.lst vs) → p ∉ ρ' → H p = none → RDs g ρ' H' ds vs → Q (.ref p) H'
def SndL (X : Cx) (e : Expr) (m : MA) : Prop := PE X e (tML (Cx.g X) m)
/-- the store takes it -/
def mAlloc (m : MA) : M := fun l S => (m l S).bind fun p => some (.ref p.2.length, p.2 ++ [.lst p.1])
section
variable {X : Cx} {pos : Pos}
theorem Sim.take_in {g : Wr} {ρ : List Addr} {S : Sto} {H : Hp} {p : Addr} {o : HO} {c : Cell} (s : Sim g ρ S H) (hp : H p = some o) (hn : p ∉ ρ) (r : CellR g ρ H p c o) : Sim g (ρ ++ [p]) (S ++ [c]) H := by
  have sb : Sub g ρ H (ρ ++ [p]) H := ⟨⟨fun n a e => by rw [List.getElem?_append_left (List.getElem?_eq_some_iff.mp e).1]; exact e, fun _ _ h => h, fun _ _ h => h, fun _ _ h => h⟩, fun _ _ _ h => h, fun _ _ h => h, fun _ _ h => h⟩
  refine ⟨by simp [s.len], ?_, fun n a d h1 h2 => ?_⟩
  · rw [List.nodup_append]
    refine ⟨s.nd, by simp, fun a ha b hb => ?_⟩
    rw [List.mem_singleton] at hb
    subst hb
    exact fun z => hn (z ▸ ha)
  · by_cases hlt : n < ρ.length
    · rw [List.getElem?_append_left hlt] at h1
      rw [List.getElem?_append_left (by rw [← s.len]; exact hlt)] at h2
      obtain ⟨o', h3, h4⟩ := s.cell n a d h1 h2
      exact ⟨o', h3, h4.mono sb⟩
    · have hn' : n = ρ.length := by
        have := (List.getElem?_eq_some_iff.mp h1).1
        rw [List.length_append, List.length_singleton] at this
        omega
      subst hn'
      rw [List.getElem?_append_right (Nat.le_refl _), Nat.sub_self] at h1
      rw [List.getElem?_append_right (by rw [s.len]; exact Nat.le_refl _), s.len, Nat.sub_self] at h2
      simp at h1 h2
      subst h1 h2
      exact ⟨o, hp, r.mono sb⟩
theorem Ext.take_in {ρ ρ' : List Addr} {H H' : Hp} {p : Addr} (x : Ext ρ H ρ' H') (hp : H p = none) : Ext ρ H (ρ' ++ [p]) H' := by
  refine ⟨fun n a e => ?_, fun a o n e => ?_, x.fz⟩
  · have e' := x.pre n a e
    rw [List.getElem?_append_left (List.getElem?_eq_some_iff.mp e').1]; exact e'
  · obtain ⟨h1, h2⟩ := x.fr a o n e
    refine ⟨h1, fun z => ?_⟩
    rcases List.mem_append.mp z with z | z
    · exact h2 z
    · rw [List.mem_singleton] at z
      rw [z, hp] at e
      cases e
theorem s_alloc {e : Expr} {m : MA} (h : SndL X e m) : Snd X e (mAlloc m) := pe_imp h fun σ H Q h => by
  obtain ⟨ρ, l, S, d, S', hs, hl, hm, q⟩ := h
  obtain ⟨⟨x, S1⟩, e1, hm⟩ := bind2 hm
  cases hm
  refine ⟨ρ, l, S, x, S1, hs, hl, e1, fun ρ1 p vs H1 x1 s1 hp hn hf r1 => ?_⟩
  refine q (ρ1 ++ [p]) _ H1 (x1.take_in hf) (s1.take_in hp hn (.lst r1)) (.ref ?_)
  dsimp only
  rw [← s1.len, List.getElem?_append_right (Nat.le_refl _), Nat.sub_self]
  rfl
/-- a display -/
def mLst (m : MA) : MA := fun l S => (m l S).bind fun p => if p.1.length ≤ 1000 then some p else none
theorem l_lst {es : List Expr} {m : MA} (h : SndA X es m) : SndL X (.List es pos) (mLst m) := pe_imp (pe_lst h) fun σ H Q h => by
  obtain ⟨ρ, l, S, d, S', hs, hl, hm, q⟩ := h
  obtain ⟨⟨x, S1⟩, e1, hm⟩ := bind2 hm
  dsimp only at hm
  split at hm
  · rename_i hz
    cases hm
    refine ⟨ρ, l, S, d, S', hs, hl, e1, fun ρ1 vs H1 x1 s1 r1 => ⟨le_line (by rw [← r1.length]; exact hz) (by decide), fun p hp => ?_⟩⟩
    have hp0 : H p = none := by
      cases e : H p with
      | none => rfl
      | some o =>
        by_cases hin : p ∈ ρ
        · obtain ⟨n, hn, e2⟩ := List.mem_iff_getElem.mp hin
          exact absurd (List.mem_of_getElem? (x1.pre n p (by rw [List.getElem?_eq_getElem hn, e2]))) (s1.fresh hp)
        · rw [(x1.fr p o hin e).1] at hp
          cases hp
    exact q ρ1 p vs _ (x1.trans (Ext.new hp)) (s1.other (s1.fresh hp) hp) upd_same (s1.fresh hp) hp0 ((Ext.new hp).rds s1 r1)
  · cases hm
end
theorem Ext.back {g : Wr} {ρ ρ1 : List Addr} {S1 : Sto} {H H1 : Hp} {p : Addr} (x1 : Ext ρ H ρ1 H1) (s1 : Sim g ρ1 S1 H1) (hp : H1 p = none) : H p = none := by
  cases e : H p with
  | none => rfl
  | some o =>
    by_cases hin : p ∈ ρ
    · obtain ⟨n, hn, e2⟩ := List.mem_iff_getElem.mp hin
      exact absurd (List.mem_of_getElem? (x1.pre n p (by rw [List.getElem?_eq_getElem hn, e2]))) (s1.fresh hp)
    · rw [(x1.fr p o hin e).1] at hp
      cases hp
section
variable {X : Cx} {pos : Pos}
/-- truth of data -/
def truD (d : D) (S : Sto) : Option Bool := match d with
  | .non => some false
  | .bl b => some b
  | .int i => some (i != 0)
  | .str x => if x.length ≤ 1000000 then some (x.length != 0) else none
  | .tup xs => some (!xs.isEmpty)
  | .ktup xs => some (!xs.isEmpty)
  | .sl ns => some (!ns.isEmpty)
  | .ref n => match S[n]? with
    | some (.lst xs) => some (!xs.isEmpty)
    | some (.dK xs) => some (!xs.isEmpty)
    | _ => none
  | .fn _ => none
theorem RDs.isEmpty {g : Wr} {ρ : List Addr} {H : Hp} {ds : List D} {vs : List V} (h : RDs g ρ H ds vs) : ds.isEmpty = vs.isEmpty := by cases h <;> rfl
theorem RDk.isEmpty {κ : Type} {g : Wr} {ρ : List Addr} {H : Hp} {ds : List (κ × D)} {vs : List (κ × V)} (h : RDk g ρ H ds vs) : ds.isEmpty = vs.isEmpty := by cases h <;> rfl
theorem tru_of {g : Wr} {ρ : List Addr} {S : Sto} {H : Hp} {d : D} {v : V} {b : Bool} (s : Sim g ρ S H) (r : RD g ρ H d v) (h : truD d S = some b) : TruV g.K v H b := by
  cases r with
  | non => cases h; rfl
  | bl b => cases h; rfl
  | int i => cases h; rfl
  | str x =>
    simp only [truD] at h
    split at h
    · rename_i hz
      cases h
      refine ⟨le_line hz (by decide), ?_⟩
      rw [Bool.eq_iff_iff]
      simp
    · cases h
  | tup hq hs =>
    cases h
    exact .inr (.inl ⟨_, .inl (.inl hq), by rw [hs.isEmpty]⟩)
  | ktup hq hs =>
    cases h
    exact .inr (.inl ⟨_, hq, by rw [hs.isEmpty]⟩)
  | sl hq =>
    cases h
    exact .inl ⟨_, hq.sq, by simp⟩
  | @ref n a e =>
    simp only [truD] at h
    split at h
    · rename_i xs ec
      cases h
      obtain ⟨o, h1, h2⟩ := s.cell n a _ e ec
      cases h2 with
      | lst h2 => exact .inl ⟨_, SqL.of h1, by rw [h2.isEmpty]⟩
    · rename_i xs ec
      cases h
      obtain ⟨o, h1, h2⟩ := s.cell n a _ e ec
      cases h2 with
      | dK h2 => exact .inr (.inr ⟨_, h1, by rw [h2.isEmpty]⟩)
    · cases h
  | fn e => cases h
def mTru (m : M) : MT := fun l S => (m l S).bind fun p => (truD p.1 p.2).bind fun b => some (b, p.2)
theorem t_val {a : Expr} {m : M} (h : Snd X a m) (he : ∀ whole, isTrue a X.env whole = (do let v ← whole; standAt a.pos; holding [v] (truthy v)) := by intro _; rfl) : SndT X a (mTru m) := pt_imp (pt_truth h he) fun σ H Q h => by
  obtain ⟨ρ, l, S, d, S', hs, hl, hm, q⟩ := h
  obtain ⟨⟨x, S1⟩, e1, hm⟩ := bind2 hm
  obtain ⟨b, e2, hm⟩ := bind2 hm
  cases hm
  exact ⟨ρ, l, S, x, _, hs, hl, e1, fun ρ1 v H1 x1 s1 r1 => ⟨d, tru_of s1 r1 e2, q ρ1 H1 x1 s1⟩⟩
def mNotT (m : MT) : MT := fun l S => (m l S).bind fun p => some (!p.1, p.2)
def mAndT (a b : MT) : MT := fun l S => (a l S).bind fun p => if p.1 = true then b l p.2 else some (false, p.2)
def mOrT (a b : MT) : MT := fun l S => (a l S).bind fun p => if p.1 = true then some (true, p.2) else b l p.2
theorem t_not {a : Expr} {m : MT} (h : SndT X a m) : SndT X (.UnaryOp .Not a pos) (mNotT m) := pt_imp (pt_not h) fun σ H Q h => by
  obtain ⟨ρ, l, S, d, S', hs, hl, hm, q⟩ := h
  obtain ⟨⟨x, S1⟩, e1, hm⟩ := bind2 hm
  cases hm
  exact ⟨ρ, l, S, x, _, hs, hl, e1, fun ρ1 H1 x1 s1 => q ρ1 H1 x1 s1⟩
theorem w_and1 {a : Expr} {m : MT} (h : SndT X a m) : SndW X (.BoolOp .And [a] pos) m := pw_and1 h
theorem w_or1 {a : Expr} {m : MT} (h : SndT X a m) : SndW X (.BoolOp .Or [a] pos) m := pw_or1 h
theorem w_and {a b : Expr} {rest : List Expr} {ma mb : MT} (ha : SndT X a ma) (hb : SndW X (.BoolOp .And (b :: rest) pos) mb) : SndW X (.BoolOp .And (a :: b :: rest) pos) (mAndT ma mb) := pw_imp (pw_and ha hb) fun σ H Q h => by
  obtain ⟨ρ, l, S, d, S', hs, hl, hm, q⟩ := h
  obtain ⟨⟨x, S1⟩, e1, hm⟩ := bind2 hm
  refine ⟨ρ, l, S, x, S1, hs, hl, e1, fun ρ1 H1 x1 s1 => ?_⟩
  cases x with
  | true => exact ⟨ρ1, l, S1, d, S', s1, x1.loc hs hl, hm, fun ρ2 H2 x2 s2 => q ρ2 H2 (x1.trans x2) s2⟩
  | false => cases hm; exact q ρ1 H1 x1 s1
theorem w_or {a b : Expr} {rest : List Expr} {ma mb : MT} (ha : SndT X a ma) (hb : SndW X (.BoolOp .Or (b :: rest) pos) mb) : SndW X (.BoolOp .Or (a :: b :: rest) pos) (mOrT ma mb) := pw_imp (pw_or ha hb) fun σ H Q h => by
  obtain ⟨ρ, l, S, d, S', hs, hl, hm, q⟩ := h
  obtain ⟨⟨x, S1⟩, e1, hm⟩ := bind2 hm
  refine ⟨ρ, l, S, x, S1, hs, hl, e1, fun ρ1 H1 x1 s1 => ?_⟩
  cases x with
  | false => exact ⟨ρ1, l, S1, d, S', s1, x1.loc hs hl, hm, fun ρ2 H2 x2 s2 => q ρ2 H2 (x1.trans x2) s2⟩
  | true => cases hm; exact q ρ1 H1 x1 s1
theorem t_w {a : Expr} {m : MT} (h : SndW X a m) : SndT X a m := PW.pt h
/-- and, or, not as values -/
def mAnd (a b : M) : M := fun l S => (a l S).bind fun p => (truD p.1 p.2).bind fun t => if t = true then b l p.2 else some p
def mOr (a b : M) : M := fun l S => (a l S).bind fun p => (truD p.1 p.2).bind fun t => if t = true then some p else b l p.2
def mNot (a : M) : M := fun l S => (a l S).bind fun p => (truD p.1 p.2).bind fun t => some (.bl (!t), p.2)
theorem s_not {a : Expr} {ma : M} (ha : Snd X a ma) : Snd X (.UnaryOp .Not a pos) (mNot ma) := pe_imp (pe_notT ha) fun σ H Q h => by
  obtain ⟨ρ, l, S, d, S', hs, hl, hm, q⟩ := h
  obtain ⟨⟨x, S1⟩, e1, hm⟩ := bind2 hm
  obtain ⟨t, e2, hm⟩ := bind2 hm
  cases hm
  exact ⟨ρ, l, S, x, _, hs, hl, e1, fun ρ1 v H1 x1 s1 r1 => ⟨t, tru_of s1 r1 e2, q ρ1 _ H1 x1 s1 (.bl _)⟩⟩
/-- a if t else b -/
def mIf (t : MT) (a b : M) : M := fun l S => (t l S).bind fun p => if p.1 = true then a l p.2 else b l p.2
theorem s_if {c a b : Expr} {t : MT} {ma mb : M} (hc : SndT X c t) (ha : Snd X a ma) (hb : Snd X b mb) : Snd X (.IfExp c a b pos) (mIf t ma mb) := pe_imp (pe_ifExp hc ha hb) fun σ H Q h => by
  obtain ⟨ρ, l, S, d, S', hs, hl, hm, q⟩ := h
  obtain ⟨⟨x, S1⟩, e1, hm⟩ := bind2 hm
  refine ⟨ρ, l, S, x, S1, hs, hl, e1, fun ρ1 H1 x1 s1 => ?_⟩
  cases x with
  | false => exact ⟨ρ1, l, S1, d, S', s1, x1.loc hs hl, hm, fun ρ2 v2 H2 x2 s2 => q ρ2 v2 H2 (x1.trans x2) s2⟩
  | true => exact ⟨ρ1, l, S1, d, S', s1, x1.loc hs hl, hm, fun ρ2 v2 H2 x2 s2 => q ρ2 v2 H2 (x1.trans x2) s2⟩
end
section
variable {X : Cx} {pos : Pos}
def mSkip : MS := fun l S => some (.nx l, S)
def mSeq (a b : MS) : MS := fun l S => (a l S).bind fun p => match p.1 with
  | .nx l1 => b l1 p.2
  | f => some (f, p.2)
theorem b_nil : SndB X [] mSkip := pss_imp pss_nil fun E σ H h => by
  obtain ⟨ρ, l, S, d, S', hs, hl, hm, q⟩ := h
  cases hm
  exact q ρ H Ext.refl hs σ hl
theorem b_cons {st : Stmt} {rest : List Stmt} {a b : MS} (h1 : SndS X st a) (h2 : SndB X rest b) : SndB X (st :: rest) (mSeq a b) := pss_imp (pss_cons h1 h2) fun E σ H h => by
  obtain ⟨ρ, l, S, d, S', hs, hl, hm, q⟩ := h
  obtain ⟨⟨x, S1⟩, e1, hm⟩ := bind2 hm
  refine ⟨ρ, l, S, x, S1, hs, hl, e1, fun ρ1 H1 x1 s1 => ?_⟩
  cases x with
  | nx l1 => exact fun σ1 hl1 => ⟨ρ1, l1, S1, d, S', s1, hl1, hm, fun ρ2 H2 x2 s2 => q ρ2 H2 (x1.trans x2) s2⟩
  | rt v => cases hm; exact q ρ1 H1 x1 s1
  | bk v => cases hm; exact q ρ1 H1 x1 s1
  | ct v => cases hm; exact q ρ1 H1 x1 s1
theorem b_one {st : Stmt} {a : MS} (h1 : SndS X st a) : SndB X [st] a := pss_one h1
def mRet (m : M) : MS := fun l S => (m l S).bind fun p => some (.rt p.1, p.2)
theorem st_ret {e : Expr} {m : M} (h : Snd X e m) : SndS X (.Return (some e) pos) (mRet m) := ps_imp (ps_ret h) fun E σ H h => by
  obtain ⟨ρ, l, S, d, S', hs, hl, hm, q⟩ := h
  obtain ⟨⟨x, S1⟩, e1, hm⟩ := bind2 hm
  cases hm
  exact ⟨ρ, l, S, x, _, hs, hl, e1, fun ρ1 v H1 x1 s1 r1 => q ρ1 H1 x1 s1 v r1⟩
def mSet (i : Nat) (m : M) : MS := fun l S => (m l S).bind fun p => some (.nx (l.set i (some p.1)), p.2)
theorem st_set {i : Nat} {x : Str} {e : Expr} {m : M} {pos' : Pos} (hN : X.N.Nodup) (h : Snd X e m) (hi : X.N[i]? = some x := by rfl) (hx : L2.Loc X.env.scope x := by first | exact .inl rfl | exact .inr rfl) (hs : swapsWith e (some (.Name x pos')) pos.line X.env = pure false := by rfl) (hf : X.fn x = true ∨ X.env.scope.names.lookup x = some .local := by first | exact .inl rfl | exact .inr rfl | assumption) :
    SndS X (.Assign [.Name x pos'] e pos) (mSet i m) := ps_imp (ps_set hN hi hx h hs hf) fun E σ H h => by
  obtain ⟨ρ, l, S, d, S', hs, hl, hm, q⟩ := h
  obtain ⟨⟨x, S1⟩, e1, hm⟩ := bind2 hm
  cases hm
  exact ⟨ρ, l, S, x, _, hs, hl, e1, fun ρ1 v H1 x1 s1 r1 => q ρ1 H1 x1 s1 _ ((x1.loc hs hl).set r1)⟩
def mDrop (m : M) : MS := fun l S => (m l S).bind fun p => some (.nx l, p.2)
theorem st_expr {e : Expr} {m : M} (h : Snd X e m) (hs : swapsWith e none pos.line X.env = pure false := by rfl) : SndS X (.Expr e pos) (mDrop m) := ps_imp (ps_expr h hs) fun E σ H h => by
  obtain ⟨ρ, l, S, d, S', hs, hl, hm, q⟩ := h
  obtain ⟨⟨x, S1⟩, e1, hm⟩ := bind2 hm
  cases hm
  exact ⟨ρ, l, S, x, _, hs, hl, e1, fun ρ1 v H1 x1 s1 r1 => q ρ1 H1 x1 s1 _ (x1.loc hs hl)⟩
def mIfS (t : MT) (a b : MS) : MS := fun l S => (t l S).bind fun p => if p.1 = true then a l p.2 else b l p.2
theorem st_if {c : Expr} {a b : List Stmt} {t : MT} {ma mb : MS} (hc : SndT X c t) (ha : SndB X a ma) (hb : SndB X b mb) : SndS X (.If c a b pos) (mIfS t ma mb) := ps_imp (ps_if hc ha hb) fun E σ H h => by
  obtain ⟨ρ, l, S, d, S', hs, hl, hm, q⟩ := h
  obtain ⟨⟨x, S1⟩, e1, hm⟩ := bind2 hm
  refine ⟨ρ, l, S, x, S1, hs, hl, e1, fun ρ1 H1 x1 s1 => ?_⟩
  cases x with
  | false => exact ⟨ρ1, l, S1, d, S', s1, x1.loc hs hl, hm, fun ρ2 H2 x2 s2 => q ρ2 H2 (x1.trans x2) s2⟩
  | true => exact ⟨ρ1, l, S1, d, S', s1, x1.loc hs hl, hm, fun ρ2 H2 x2 s2 => q ρ2 H2 (x1.trans x2) s2⟩
def mBreak : MS := fun l S => some (.bk l, S)
def mCont : MS := fun l S => some (.ct l, S)
/-- code that is not come to -/
def mNever : MS := fun _ _ => none
theorem st_never {st : Stmt} : SndS X st mNever := ps_imp ps_never fun E σ H h => by
  obtain ⟨ρ, l, S, d, S', hs, hl, hm, q⟩ := h
  cases hm
end
end Zi
set_option maxRecDepth 100000
namespace Zi
open PySem PySem.Spec PyProof.Rows L2
def allS (f : D → Option PyData) : List D → Option (List PyData)
  | [] => some []
  | d :: ds => (f d).bind fun x => (allS f ds).bind fun r => some (x :: r)
def snap : Nat → Sto → D → Option PyData
  | 0, _, _ => none
  | n + 1, S, d => match d with
    | .non => some .none
    | .bl b => some (.bool b)
    | .int i => some (.int i)
    | .str x => if PyData.canLay0 (.str x) = true then some (.str x) else none
    | .tup xs => (allS (snap n S) xs).bind fun r => some (.tuple r)
    | .ktup xs => (allS (snap n S) xs).bind fun r => some (.tuple r)
    | .sl ns => some (.list (ns.map PyData.int))
    | .ref k => match S[k]? with
      | some (.lst xs) => (allS (snap n S) xs).bind fun r => some (.list r)
      | _ => none
    | .fn _ => none
/-- a value, or the items of a new list that the store does not hold -/
inductive O where
  | d (d : D) | n (ds : List D)
abbrev MO := Lo → Sto → Option (O × Sto)
def snapO (S : Sto) : O → Option PyData
  | .d d => snap 190 S d
  | .n ds => (allS (snap 189 S) ds).bind fun r => some (.list r)
/-- H₀: the heap ahead -/
inductive OR (g : Wr) (ρ : List Addr) (H : Hp) (H₀ : Hp) : O → V → Prop
  | d {d : D} {v : V} : RD g ρ H d v → OR g ρ H H₀ (.d d) v
  | n {ds : List D} {p : Addr} {vs : List V} : H p = some (.lst vs) → p ∉ ρ → H₀ p = none → RDs g ρ H ds vs → OR g ρ H H₀ (.n ds) (.ref p)
theorem OR.ext {g : Wr} {ρ ρ' : List Addr} {S : Sto} {H H' H₀ : Hp} (x : Ext ρ H ρ' H') (s : Sim g ρ S H) {o : O} {v : V} (h : OR g ρ H H₀ o v) : OR g ρ' H' H₀ o v := by
  cases h with
  | d h => exact .d (x.rd s h)
  | n h1 h2 h3 h4 =>
    obtain ⟨e1, e2⟩ := x.fr _ _ h2 h1
    exact .n e1 e2 h3 (x.rds s h4)
theorem OR.back {g : Wr} {ρ0 ρ : List Addr} {S : Sto} {H H' H₀ : Hp} (x : Ext ρ0 H ρ H₀) (s0 : Sim g ρ S H₀) {ρ' : List Addr} {o : O} {v : V} (h : OR g ρ' H' H₀ o v) : OR g ρ' H' H o v := by
  cases h with
  | d h => exact .d h
  | n h1 h2 h3 h4 => exact .n h1 h2 (x.back s0 h3) h4
def tMO (g : Wr) (m : MO) : TE := fun σ H Q => ∃ ρ l S o S', Sim g ρ S H ∧ LocR g ρ H l σ ∧ m l S = some (o, S') ∧
  ∀ ρ' v H', Ext ρ H ρ' H' → Sim g ρ' S' H' → OR g ρ' H' H o v → Q v H'
def SndO (X : Cx) (e : Expr) (m : MO) : Prop := PE X e (tMO (Cx.g X) m)
def oD (m : M) : MO := fun l S => (m l S).bind fun p => some (.d p.1, p.2)
def oN (m : MA) : MO := fun l S => (m l S).bind fun p => some (.n p.1, p.2)
def oS (m : MO) : M := fun l S => (m l S).bind fun p => match p.1 with
  | .d d => some (d, p.2)
  | .n ds => some (.ref p.2.length, p.2 ++ [.lst ds])
section
variable {X : Cx} {pos : Pos} {e : Expr}
theorem o_d {m : M} (h : Snd X e m) : SndO X e (oD m) := pe_imp h fun σ H Q h => by
  obtain ⟨ρ, l, S, o, S', hs, hl, hm, q⟩ := h
  obtain ⟨⟨x, S1⟩, e1, hm⟩ := bind2 hm
  cases hm
  exact ⟨ρ, l, S, x, _, hs, hl, e1, fun ρ1 v H1 x1 s1 r1 => q ρ1 v H1 x1 s1 (.d r1)⟩
theorem o_n {m : MA} (h : SndL X e m) : SndO X e (oN m) := pe_imp h fun σ H Q h => by
  obtain ⟨ρ, l, S, o, S', hs, hl, hm, q⟩ := h
  obtain ⟨⟨x, S1⟩, e1, hm⟩ := bind2 hm
  cases hm
  exact ⟨ρ, l, S, x, _, hs, hl, e1, fun ρ1 p vs H1 x1 s1 hp hn hf r1 => q ρ1 _ H1 x1 s1 (.n hp hn hf r1)⟩
theorem s_o {m : MO} (h : SndO X e m) : Snd X e (oS m) := pe_imp h fun σ H Q h => by
  obtain ⟨ρ, l, S, o, S', hs, hl, hm, q⟩ := h
  obtain ⟨⟨x, S1⟩, e1, hm⟩ := bind2 hm
  cases x with
  | d d =>
    cases hm
    refine ⟨ρ, l, S, .d o, _, hs, hl, e1, fun ρ1 v H1 x1 s1 r1 => ?_⟩
    cases r1 with
    | d r1 => exact q ρ1 v H1 x1 s1 r1
  | n ds =>
    cases hm
    refine ⟨ρ, l, S, .n ds, _, hs, hl, e1, fun ρ1 v H1 x1 s1 r1 => ?_⟩
    cases r1 with
    | @n _ p vs hp hn hf r1 =>
      refine q (ρ1 ++ [p]) _ H1 (x1.take_in hf) (s1.take_in hp hn (.lst r1)) (.ref ?_)
      dsimp only
      rw [← s1.len, List.getElem?_append_right (Nat.le_refl _), Nat.sub_self]
      rfl
end
section
variable {g : Wr} {ρ : List Addr} {S : Sto} {H : Hp}
theorem dp_ints : ∀ ns : List Int, DpAll g.K H (ns.map V.int) (ns.map PyData.int)
  | [] => .nil
  | n :: ns => .cons (.int n) (dp_ints ns)
theorem lay_ints : ∀ ns : List Int, PyData.canLayAll0 (ns.map PyData.int) = true
  | [] => by simp [PyData.canLayAll0]
  | n :: ns => by simp [PyData.canLayAll0, PyData.canLay0, lay_ints ns]
theorem depth_ints : ∀ ns : List Int, PyData.depthAll (ns.map PyData.int) = 0
  | [] => by simp [PyData.depthAll]
  | n :: ns => by simp [PyData.depthAll, PyData.depth, depth_ints ns]
theorem allS_ok {f : D → Option PyData} {n : Nat} (hf : ∀ d v p, RD g ρ H d v → f d = some p → Dp g.K H v p ∧ p.canLay0 = true ∧ p.depth ≤ n) :
    ∀ {ds : List D} {vs : List V} {ps : List PyData}, RDs g ρ H ds vs → allS f ds = some ps → DpAll g.K H vs ps ∧ PyData.canLayAll0 ps = true ∧ PyData.depthAll ps ≤ n
  | _, _, _, .nil, h => by
    cases h
    exact ⟨.nil, by simp [PyData.canLayAll0], by simp [PyData.depthAll]⟩
  | _, _, _, .cons r rs, h => by
    obtain ⟨p, e1, h⟩ := bind2 h
    obtain ⟨ps, e2, h⟩ := bind2 h
    cases h
    obtain ⟨a1, a2, a3⟩ := hf _ _ _ r e1
    obtain ⟨b1, b2, b3⟩ := allS_ok hf rs e2
    refine ⟨.cons a1 b1, by simp [PyData.canLayAll0, a2, b2], ?_⟩
    simp only [PyData.depthAll]
    omega
theorem snap_ok (s : Sim g ρ S H) : ∀ (n : Nat) (d : D) (v : V) (p : PyData), RD g ρ H d v → snap n S d = some p → Dp g.K H v p ∧ p.canLay0 = true ∧ p.depth ≤ n
  | 0, _, _, _, _, h => by cases h
  | n + 1, d, v, p, r, h => by
    cases r with
    | non => cases h; exact ⟨.non, by simp [PyData.canLay0], by simp [PyData.depth]⟩
    | bl b => cases h; exact ⟨.bl b, by simp [PyData.canLay0], by simp [PyData.depth]⟩
    | int i => cases h; exact ⟨.int i, by simp [PyData.canLay0], by simp [PyData.depth]⟩
    | str x =>
      simp only [snap] at h
      split at h
      · rename_i hx
        cases h
        exact ⟨.str x, hx, by simp [PyData.depth]⟩
      · cases h
    | tup hq hs =>
      obtain ⟨ps, e1, h⟩ := bind2 (show (allS (snap n S) _).bind _ = some p from h)
      cases h
      obtain ⟨b1, b2, b3⟩ := allS_ok (fun d v p => snap_ok s n d v p) hs e1
      refine ⟨.tup (.inl (.inl hq)) b1, by simp only [PyData.canLay0]; exact b2, ?_⟩
      simp only [PyData.depth]
      omega
    | ktup hq hs =>
      obtain ⟨ps, e1, h⟩ := bind2 (show (allS (snap n S) _).bind _ = some p from h)
      cases h
      obtain ⟨b1, b2, b3⟩ := allS_ok (fun d v p => snap_ok s n d v p) hs e1
      refine ⟨.tup hq b1, by simp only [PyData.canLay0]; exact b2, ?_⟩
      simp only [PyData.depth]
      omega
    | @sl ns a hq =>
      cases h
      refine ⟨.lst hq.sq (dp_ints _), by simp only [PyData.canLay0]; exact lay_ints _, ?_⟩
      simp only [PyData.depth, depth_ints]
      omega
    | @ref k a e =>
      simp only [snap] at h
      split at h
      · rename_i xs ec
        obtain ⟨ps, e1, h⟩ := bind2 h
        cases h
        obtain ⟨o, h1, h2⟩ := s.cell k a _ e ec
        cases h2 with
        | lst h2 =>
          obtain ⟨b1, b2, b3⟩ := allS_ok (fun d v p => snap_ok s n d v p) h2 e1
          refine ⟨.lst (SqL.of h1) b1, by simp only [PyData.canLay0]; exact b2, ?_⟩
          simp only [PyData.depth]
          omega
      · cases h
    | fn e => cases h
theorem snapO_ok (s : Sim g ρ S H) {H₀ : Hp} {o : O} {v : V} {p : PyData} (r : OR g ρ H H₀ o v) (h : snapO S o = some p) : Dp g.K H v p ∧ p.canLay0 = true ∧ p.depth ≤ 190 := by
  cases r with
  | d r => exact snap_ok s 190 _ _ _ r h
  | n h1 h2 h3 h4 =>
    obtain ⟨ps, e1, h⟩ := bind2 h
    cases h
    obtain ⟨b1, b2, b3⟩ := allS_ok (fun d v p => snap_ok s 189 d v p) h4 e1
    refine ⟨.lst (SqL.of h1) b1, by simp only [PyData.canLay0]; exact b2, ?_⟩
    simp only [PyData.depth]
    omega
end
def rDat (K : PySem.W.Frag) (f : PyData → PyData → Bool) : R2 := fun x y H Q => ∃ d e, Dp K H x d ∧ Dp K H y e ∧ d.canLay0 = true ∧ e.canLay0 = true ∧ d.depth ≤ 190 ∧ e.depth ≤ 190 ∧ Q (.bl (f d e)) H
section
variable {X : Cx} {pos : Pos}
theorem op_eqX (hu : X.A.units + 200 < cLine) : OpR X (compareOp .Eq) (rDat X.K PyData.eqv) := by
  intro pins s σ H x y v u Q I rx ry h
  obtain ⟨d, e, hd, he, ld, le, pd, pe, q⟩ := h
  obtain ⟨as, r1⟩ := Dp.reads I d x v hd rx
  obtain ⟨bs, r2⟩ := Dp.reads I e y u he ry
  exact SeqAt.compareEq_reads r1 r2 ld le (by have := Nat.min_le_left d.depth e.depth; omega) ⟨.bl _, H, I, rfl, q⟩
theorem op_neX (hu : X.A.units + 200 < cLine) : OpR X (compareOp .NotEq) (rDat X.K fun d e => !PyData.eqv d e) := by
  intro pins s σ H x y v u Q I rx ry h
  obtain ⟨d, e, hd, he, ld, le, pd, pe, q⟩ := h
  obtain ⟨as, r1⟩ := Dp.reads I d x v hd rx
  obtain ⟨bs, r2⟩ := Dp.reads I e y u he ry
  exact SeqAt.compareNe_reads r1 r2 ld le (by have := Nat.min_le_left d.depth e.depth; omega) ⟨.bl _, H, I, rfl, q⟩
end
/-- two-place operations over O -/
abbrev OpG := O → O → Sto → Option (D × Sto)
def OpOkO (g : Wr) (r : R2) (f : OpG) : Prop := ∀ ρ S H H₀ x y v u z S' Q, Sim g ρ S H → OR g ρ H H₀ x v → OR g ρ H H₀ y u → f x y S = some (z, S') →
  (∀ ρ' w H', Ext ρ H ρ' H' → Sim g ρ' S' H' → RD g ρ' H' z w → Q w H') → r v u H Q
def mOpO (f : OpG) (a b : MO) : M := fun l S => (a l S).bind fun p => (b l p.2).bind fun q => f p.1 q.1 q.2
theorem tOpO_of {g : Wr} {r : R2} {f : OpG} {ma mb : MO} (hf : OpOkO g r f) {σ : L2.St} {H : Hp} {Q : VK} (h : tM g (mOpO f ma mb) σ H Q) : tOp r (tMO g ma) (tMO g mb) σ H Q := by
  obtain ⟨ρ, l, S, d, S', hs, hl, hm, q⟩ := h
  obtain ⟨⟨x, S1⟩, e1, hm⟩ := bind2 hm
  obtain ⟨⟨y, S2⟩, e2, hm⟩ := bind2 hm
  refine ⟨ρ, l, S, x, S1, hs, hl, e1, fun ρ1 v H1 x1 s1 r1 => ?_⟩
  refine ⟨ρ1, l, S1, y, S2, s1, x1.loc hs hl, e2, fun ρ2 u H2 x2 s2 r2 => ?_⟩
  exact hf ρ2 S2 H2 H x y v u d S' Q s2 (r1.ext x2 s1) (r2.back x1 s1) hm fun ρ3 w H3 x3 s3 r3 => q ρ3 w H3 ((x1.trans x2).trans x3) s3 r3
section
variable {X : Cx} {pos : Pos}
theorem s_cmpO {op : CmpOp} {r : R2} {f : OpG} {a b : Expr} {ma mb : MO} (ho : OpR X (compareOp op) r) (hf : OpOkO (Cx.g X) r f) (ha : SndO X a ma) (hb : SndO X b mb) (hm : behindInMarks op b = false) : Snd X (.Compare a [op] [b] pos) (mOpO f ma mb) :=
  pe_imp (pe_cmpR ho ha hb hm) fun _ _ _ h => tOpO_of hf h
theorem t_cmpO {op : CmpOp} {r : R2} {f : OpG} {a b : Expr} {ma mb : MO} (ho : OpR X (compareOp op) r) (hf : OpOkO (Cx.g X) r f) (ha : SndO X a ma) (hb : SndO X b mb) (hm : behindInMarks op b = false) : SndT X (.Compare a [op] [b] pos) (mBool (mOpO f ma mb)) :=
  pt_imp (pt_cmpR ho ha hb hm) fun _ _ _ h => tTest_of (fun _ _ _ h => tOpO_of hf h) h
def fDat (f : PyData → PyData → Bool) : OpG := fun x y S => (snapO S x).bind fun p => (snapO S y).bind fun q => some (.bl (f p q), S)
theorem dat_ok {g : Wr} {f : PyData → PyData → Bool} : OpOkO g (rDat g.K f) (fDat f) := fun ρ S H H₀ x y v u z S' Q s rx ry h q => by
  obtain ⟨p, e1, h⟩ := bind2 h
  obtain ⟨p', e2, h⟩ := bind2 h
  cases h
  obtain ⟨a1, a2, a3⟩ := snapO_ok s rx e1
  obtain ⟨b1, b2, b3⟩ := snapO_ok s ry e2
  exact ⟨p, p', a1, b1, a2, b2, a3, b3, q ρ _ H Ext.refl s (.bl _)⟩
def fEq : OpG := fDat PyData.eqv
def fNe : OpG := fDat fun d e => !PyData.eqv d e
theorem s_eq {a b : Expr} {ma mb : MO} (hu : X.A.units + 200 < cLine) (ha : SndO X a ma) (hb : SndO X b mb) : Snd X (.Compare a [.Eq] [b] pos) (mOpO fEq ma mb) := s_cmpO (op_eqX hu) dat_ok ha hb (nomark b)
theorem t_eq {a b : Expr} {ma mb : MO} (hu : X.A.units + 200 < cLine) (ha : SndO X a ma) (hb : SndO X b mb) : SndT X (.Compare a [.Eq] [b] pos) (mBool (mOpO fEq ma mb)) := t_cmpO (op_eqX hu) dat_ok ha hb (nomark b)
theorem t_ne {a b : Expr} {ma mb : MO} (hu : X.A.units + 200 < cLine) (ha : SndO X a ma) (hb : SndO X b mb) : SndT X (.Compare a [.NotEq] [b] pos) (mBool (mOpO fNe ma mb)) := t_cmpO (op_neX hu) dat_ok ha hb (nomark b)
end
def fI (C : Int → Int → Bool) (f : Int → Int → D) : OpF := fun x y S => match x, y with
  | .int i, .int j => if C i j = true then some (f i j, S) else none
  | _, _ => none
theorem fI_ok {g : Wr} {C : Int → Int → Bool} {P : Int → Int → Prop} {f : Int → Int → D} {fv : Int → Int → V} (hC : ∀ i j, C i j = true → P i j) (hf : ∀ ρ H i j, RD g ρ H (f i j) (fv i j)) : OpOk g (rI P fv) (fI C f) := fun ρ S H x y v u z S' Q s rx ry h q => by
  cases rx <;> first
    | (cases ry <;> first
        | (rename_i i j
           simp only [fI] at h
           split at h
           · rename_i hc
             cases h
             exact ⟨i, j, rfl, rfl, hC i j hc, q ρ _ H Ext.refl s (hf _ _ _ _)⟩
           · cases h)
        | cases h)
    | cases h
def fI0 (f : Int → Int → D) : OpF := fun x y S => match x, y with
  | .int i, .int j => some (f i j, S)
  | _, _ => none
theorem fI0_ok {g : Wr} {f : Int → Int → D} {fv : Int → Int → V} (hf : ∀ ρ H i j, RD g ρ H (f i j) (fv i j)) : OpOk g (rI0 fv) (fI0 f) := fun ρ S H x y v u z S' Q s rx ry h q => by
  cases rx <;> first
    | (cases ry <;> first
        | (rename_i i j
           cases h
           exact ⟨i, j, rfl, rfl, q ρ _ H Ext.refl s (hf _ _ _ _)⟩)
        | cases h)
    | cases h
def fSub : OpF := fI0 fun i j => .int (i - j)
def mulC (i j : Int) : Bool := decide ((-(2 ^ 64) < i ∧ i < 2 ^ 64) ∨ (-(2 ^ 64) < j ∧ j < 2 ^ 64))
def fMul : OpF := fI mulC fun i j => .int (i * j)
def divC (_ j : Int) : Bool := decide (0 < j ∧ j < 2 ^ 64)
def fDiv : OpF := fI divC fun i j => .int (i / j)
def modC (_ j : Int) : Bool := decide (0 < j)
def fMod : OpF := fI modC fun i j => .int (i % j)
def powC (i j : Int) : Bool := decide (0 ≤ j ∧ j ≤ 1000000 ∧ i.natAbs < 2 ^ 64)
def fPow : OpF := fI powC fun i j => .int (i ^ j.toNat)
def fLt : OpF := fI0 fun i j => .bl (decide (i < j))
def fLe : OpF := fI0 fun i j => .bl (decide (i ≤ j))
def fGt : OpF := fI0 fun i j => .bl (decide (j < i))
def fGe : OpF := fI0 fun i j => .bl (decide (j ≤ i))
/-- +: ints, texts, tuples -/
def fAdd : OpF := fun x y S => match x, y with
  | .int i, .int j => some (.int (i + j), S)
  | .str i, .str j => if i.length + j.length ≤ 1000000 then some (.str (i ++ j), S) else none
  | .tup xs, .tup ys => if xs.length + ys.length ≤ 1000000 then some (.tup (xs ++ ys), S) else none
  | _, _ => none
def rAddX (K : PySem.W.Frag) : R2 := fun x y H Q => rI0 (fun i j => .int (i + j)) x y H Q ∨ ((∃ i j, x = .str i ∧ y = .str j ∧ i.length + j.length ≤ sizeLine ∧ Q (.str (i ++ j)) H) ∨ rCatA K x y H Q)
theorem add_ok {g : Wr} : OpOk g (rAddX g.K) fAdd := fun ρ S H x y v u z S' Q s rx ry h q => by
  cases rx with
  | int i =>
    cases ry with
    | int j => cases h; exact .inl ⟨i, j, rfl, rfl, q ρ _ H Ext.refl s (.int _)⟩
    | _ => cases h
  | str i =>
    cases ry with
    | str j =>
      simp only [fAdd] at h
      split at h
      · rename_i hz
        cases h
        exact .inr (.inl ⟨i, j, rfl, rfl, le_line hz (by decide), q ρ _ H Ext.refl s (.str _)⟩)
      · cases h
    | _ => cases h
  | @tup xs a vs h1 r1 =>
    cases ry with
    | @tup ys b us h2 r2 =>
      simp only [fAdd] at h
      split at h
      · rename_i hz
        cases h
        have hz' : vs.length + us.length ≤ sizeLine := le_line (by rw [← r1.length, ← r2.length]; exact hz) (by decide)
        refine .inr (.inr ⟨a, b, vs, us, rfl, rfl, .inl (.inl h1), .inl (.inl h2), hz', fun e => ?_, fun _ e => ?_, fun _ _ p hp => ?_⟩)
        · subst e
          cases r1
          exact q ρ _ H Ext.refl s (.tup h2 r2)
        · subst e
          cases r2
          rw [List.append_nil] at q
          exact q ρ _ H Ext.refl s (.tup h1 r1)
        · exact q ρ _ _ (Ext.new hp) (s.other (s.fresh hp) hp) (.tup upd_same (RDs.append ((Ext.new hp).rds s r1) ((Ext.new hp).rds s r2)))
      · cases h
    | _ => cases h
  | _ => cases h
section
variable {X : Cx} {pos : Pos} {a b : Expr} {ma mb : M}
theorem mul_c {i j : Int} (h : mulC i j = true) : CMul i j := by
  have h' : (-(2 ^ 64) < i ∧ i < 2 ^ 64) ∨ (-(2 ^ 64) < j ∧ j < 2 ^ 64) := of_decide_eq_true h
  exact h'
theorem pow_c {i j : Int} (h : powC i j = true) : CPow i j := by
  have h' : 0 ≤ j ∧ j ≤ 1000000 ∧ i.natAbs < 2 ^ 64 := of_decide_eq_true h
  exact h'
theorem op_addX : OpR X (binaryOp .Add) (rAddX X.K) := op_add.or (op_add_str.or op_catA)
theorem s_add (ha : Snd X a ma) (hb : Snd X b mb) : Snd X (.BinOp a .Add b pos) (mOp fAdd ma mb) := s_op op_addX add_ok ha hb
theorem s_sub (ha : Snd X a ma) (hb : Snd X b mb) : Snd X (.BinOp a .Sub b pos) (mOp fSub ma mb) := s_op op_sub (fI0_ok fun _ _ _ _ => .int _) ha hb
theorem s_mul (ha : Snd X a ma) (hb : Snd X b mb) : Snd X (.BinOp a .Mult b pos) (mOp fMul ma mb) := s_op op_mul (fI_ok (fun i j h => mul_c h) fun _ _ _ _ => .int _) ha hb
theorem div_wide {i j : Int} (h : divC i j = true) : CDivW i j := by
  have h' := of_decide_eq_true h
  exact wide_div (b := 64) h'.1 (by omega) (by decide) (by decide)
theorem s_div (ha : Snd X a ma) (hb : Snd X b mb) : Snd X (.BinOp a .FloorDiv b pos) (mOp fDiv ma mb) := s_op op_fdivW (fI_ok (fun i j h => div_wide h) fun _ _ _ _ => .int _) ha hb
theorem s_mod (ha : Snd X a ma) (hb : Snd X b mb) : Snd X (.BinOp a .Mod b pos) (mOp fMod ma mb) := s_op op_mod (fI_ok (fun i j h => of_decide_eq_true h) fun _ _ _ _ => .int _) ha hb
theorem s_pow (ha : Snd X a ma) (hb : Snd X b mb) : Snd X (.BinOp a .Pow b pos) (mOp fPow ma mb) := s_op op_pow (fI_ok (fun i j h => pow_c h) fun _ _ _ _ => .int _) ha hb
theorem t_lt (ha : Snd X a ma) (hb : Snd X b mb) : SndT X (.Compare a [.Lt] [b] pos) (mBool (mOp fLt ma mb)) := t_cmp op_lt (fI0_ok fun _ _ _ _ => .bl _) ha hb (nomark b)
theorem s_gt (ha : Snd X a ma) (hb : Snd X b mb) : Snd X (.Compare a [.Gt] [b] pos) (mOp fGt ma mb) := s_cmp op_gt (fI0_ok fun _ _ _ _ => .bl _) ha hb (nomark b)
theorem t_gt (ha : Snd X a ma) (hb : Snd X b mb) : SndT X (.Compare a [.Gt] [b] pos) (mBool (mOp fGt ma mb)) := t_cmp op_gt (fI0_ok fun _ _ _ _ => .bl _) ha hb (nomark b)
/-- -n -/
def mNeg (m : M) : M := fun l S => (m l S).bind fun p => match p.1 with
  | .int i => some (.int (-i), p.2)
  | _ => none
/-- is None -/
def isNon : D → Bool
  | .non => true
  | _ => false
def mIsN (m : M) : M := fun l S => (m l S).bind fun p => some (.bl (isNon p.1), p.2)
def mNotN (m : M) : M := fun l S => (m l S).bind fun p => some (.bl (!isNon p.1), p.2)
theorem RD.isNon {g : Wr} {ρ : List Addr} {H : Hp} {d : D} {v : V} (r : RD g ρ H d v) : decide (v = .non) = isNon d := by
  cases r <;> simp [Zi.isNon]
theorem t_isN {j pos'} (ha : Snd X a ma) : SndT X (.Compare a [.Is] [.Constant .none j pos'] pos) (mBool (mIsN ma)) := pt_imp (pt_cmp (pc_isN ha)) fun σ H Q h => by
  obtain ⟨ρ, l, S, d, S', hs, hl, hm, q⟩ := h
  obtain ⟨⟨x, S1⟩, e1, hm⟩ := bind2 hm
  obtain ⟨⟨y, S2⟩, e2, e1⟩ := bind2 e1
  cases e1
  cases hm
  exact ⟨ρ, l, S, y, _, hs, hl, e2, fun ρ1 v H1 x1 s1 r1 => ⟨isNon y, by rw [r1.isNon], q ρ1 H1 x1 s1⟩⟩
theorem t_notN {j pos'} (ha : Snd X a ma) : SndT X (.Compare a [.IsNot] [.Constant .none j pos'] pos) (mBool (mNotN ma)) := pt_imp (pt_cmp (pc_notN ha)) fun σ H Q h => by
  obtain ⟨ρ, l, S, d, S', hs, hl, hm, q⟩ := h
  obtain ⟨⟨x, S1⟩, e1, hm⟩ := bind2 hm
  obtain ⟨⟨y, S2⟩, e2, e1⟩ := bind2 e1
  cases e1
  cases hm
  exact ⟨ρ, l, S, y, _, hs, hl, e2, fun ρ1 v H1 x1 s1 r1 => ⟨!isNon y, by rw [r1.isNon], q ρ1 H1 x1 s1⟩⟩
end
/-- what stands in a sequence -/
def seqO (S : Sto) : O → Option (List D)
  | .n ds => some ds
  | .d (.tup ds) => some ds
  | .d (.ktup ds) => some ds
  | .d (.sl ns) => some (ns.map D.int)
  | .d (.ref k) => match S[k]? with
    | some (.lst xs) => some xs
    | _ => none
  | .d _ => none
def rInX (K : PySem.W.Frag) (f : Bool → Bool) : R2 := fun x y H Q => ∃ d ds, Dp K H x d ∧ (Dp K H y (.list ds) ∨ Dp K H y (.tuple ds)) ∧ d.canLay0 = true ∧ PyData.canLayAll0 ds = true ∧ d.depth ≤ 190 ∧ Q (.bl (f (ds.any fun z => PyData.eqv z d))) H
section
variable {X : Cx} {pos : Pos} {a b : Expr} {ma mb : MO}
theorem op_inX (hu : X.A.units + 200 < cLine) : OpR X (compareOp .In) (rInX X.K fun b => b) := by
  intro pins s σ H x y v u Q I rx ry h
  obtain ⟨d, ds, hd, he, ld, le, pd, q⟩ := h
  obtain ⟨as, r1⟩ := Dp.reads I d x v hd rx
  rcases he with he | he
  · obtain ⟨bs, r2⟩ := Dp.reads I _ y u he ry
    exact SeqAt.in_list_reads r2 r1 le ld (by have := Nat.min_le_right (PyData.depthAll ds) d.depth; omega) ⟨.bl _, H, I, rfl, q⟩
  · obtain ⟨bs, r2⟩ := Dp.reads I _ y u he ry
    exact SeqAt.in_tuple_reads r2 r1 le ld (by have := Nat.min_le_right (PyData.depthAll ds) d.depth; omega) ⟨.bl _, H, I, rfl, q⟩
theorem op_ninX (hu : X.A.units + 200 < cLine) : OpR X (compareOp .NotIn) (rInX X.K fun b => !b) := by
  intro pins s σ H x y v u Q I rx ry h
  obtain ⟨d, ds, hd, he, ld, le, pd, q⟩ := h
  obtain ⟨as, r1⟩ := Dp.reads I d x v hd rx
  rcases he with he | he
  · obtain ⟨bs, r2⟩ := Dp.reads I _ y u he ry
    exact SeqAt.notIn_list_reads r2 r1 le ld (by have := Nat.min_le_right (PyData.depthAll ds) d.depth; omega) ⟨.bl _, H, I, rfl, q⟩
  · obtain ⟨bs, r2⟩ := Dp.reads I _ y u he ry
    exact SeqAt.notIn_tuple_reads r2 r1 le ld (by have := Nat.min_le_right (PyData.depthAll ds) d.depth; omega) ⟨.bl _, H, I, rfl, q⟩
def itemsP : PyData → Option (List PyData)
  | .list xs => some xs
  | .tuple xs => some xs
  | _ => none
def fInG (f : Bool → Bool) : OpG := fun x y S => (snapO S x).bind fun p => (snapO S y).bind fun q => (itemsP q).bind fun qs => some (.bl (f (qs.any fun z => PyData.eqv z p)), S)
theorem inX_ok {g : Wr} {f : Bool → Bool} : OpOkO g (rInX g.K f) (fInG f) := fun ρ S H H₀ x y v u z S' Q s rx ry h q => by
  obtain ⟨p, e1, h⟩ := bind2 h
  obtain ⟨p', e2, h⟩ := bind2 h
  obtain ⟨qs, e3, h⟩ := bind2 h
  cases h
  obtain ⟨a1, a2, a3⟩ := snapO_ok s rx e1
  obtain ⟨b1, b2, b3⟩ := snapO_ok s ry e2
  cases p' <;> first
    | (cases e3
       exact ⟨p, _, a1, by first | exact .inl b1 | exact .inr b1, a2, by simpa [PyData.canLay0] using b2, a3, q ρ _ H Ext.refl s (.bl _)⟩)
    | cases e3
def fIn : OpG := fInG fun b => b
def fNin : OpG := fInG fun b => !b
theorem t_in (hu : X.A.units + 200 < cLine) (ha : SndO X a ma) (hb : SndO X b mb) (hm : behindInMarks .In b = false := by rfl) : SndT X (.Compare a [.In] [b] pos) (mBool (mOpO fIn ma mb)) := t_cmpO (op_inX hu) inX_ok ha hb hm
theorem t_nin (hu : X.A.units + 200 < cLine) (ha : SndO X a ma) (hb : SndO X b mb) (hm : behindInMarks .NotIn b = false := by rfl) : SndT X (.Compare a [.NotIn] [b] pos) (mBool (mOpO fNin ma mb)) := t_cmpO (op_ninX hu) inX_ok ha hb hm
end
/-- a list's, a tuple's, a text's item -/
def ixF : OpF := fun x y S => match x, y with
  | .tup ds, .int i => (atI ds i).bind fun d => some (d, S)
  | .ktup ds, .int i => (atI ds i).bind fun d => some (d, S)
  | .sl ns, .int i => (atI ns i).bind fun n => some (.int n, S)
  | .ref k, .int i => match S[k]? with
    | some (.lst xs) => (atI xs i).bind fun d => some (d, S)
    | _ => none
  | .str z, .int i => if z.length ≤ 1000000 then (atI z.cps.toList i).bind fun c => some (.str ⟨#[c]⟩, S) else none
  | _, _ => none
theorem atI_rel {g : Wr} {ρ : List Addr} {H : Hp} {ds : List D} {vs : List V} {i : Int} {d : D} (r : RDs g ρ H ds vs) (h : atI ds i = some d) : ∃ v, atI vs i = some v ∧ RD g ρ H d v := by
  unfold atI at h ⊢
  rw [← r.length]
  obtain ⟨j, e1, e2⟩ := bind2 h
  obtain ⟨v, h1, h2⟩ := r.get e2
  exact ⟨v, by rw [e1]; exact h1, h2⟩
theorem ix_ok {g : Wr} : OpOk g (rIx g.K) ixF := fun ρ S H x y v u z S' Q s rx ry h q => by
  cases rx with
  | tup h1 r1 =>
    cases ry with
    | int i =>
      obtain ⟨d, e1, h⟩ := bind2 h
      cases h
      obtain ⟨w, h2, h3⟩ := atI_rel r1 e1
      exact .inr (.inl ⟨_, _, i, w, rfl, rfl, .inl (.inl h1), h2, q ρ w H Ext.refl s h3⟩)
    | _ => cases h
  | ktup h1 r1 =>
    cases ry with
    | int i =>
      obtain ⟨d, e1, h⟩ := bind2 h
      cases h
      obtain ⟨w, h2, h3⟩ := atI_rel r1 e1
      exact .inr (.inl ⟨_, _, i, w, rfl, rfl, h1, h2, q ρ w H Ext.refl s h3⟩)
    | _ => cases h
  | @sl ns a h1 =>
    cases ry with
    | int i =>
      obtain ⟨d, e1, h⟩ := bind2 h
      cases h
      refine .inl ⟨_, _, i, .int d, rfl, rfl, h1.sq, ?_, q ρ _ H Ext.refl s (.int d)⟩
      unfold atI at e1 ⊢
      obtain ⟨j, e3, e2⟩ := bind2 e1
      rw [List.length_map, e3]
      show (ns.map V.int)[j]? = _
      rw [List.getElem?_map, e2]
      rfl
    | _ => cases h
  | @ref k a e =>
    cases ry with
    | int i =>
      simp only [ixF] at h
      split at h
      · rename_i xs ec
        obtain ⟨d, e1, h⟩ := bind2 h
        cases h
        obtain ⟨o, h1, h2⟩ := s.cell k a _ e ec
        cases h2 with
        | lst h2 =>
          obtain ⟨w, h3, h4⟩ := atI_rel h2 e1
          exact .inl ⟨_, _, i, w, rfl, rfl, SqL.of h1, h3, q ρ w H Ext.refl s h4⟩
      · cases h
    | _ => cases h
  | str z =>
    cases ry with
    | int i =>
      simp only [ixF] at h
      split at h
      · rename_i hz
        obtain ⟨d, e1, h⟩ := bind2 h
        cases h
        exact .inr (.inr ⟨z, i, d, rfl, rfl, le_line hz (by decide), e1, q ρ _ H Ext.refl s (.str _)⟩)
      · cases h
    | _ => cases h
  | _ => cases h
section
variable {X : Cx} {pos : Pos} {a b : Expr} {ma mb : M}
theorem s_ix (ha : Snd X a ma) (hb : Snd X b mb) (hs : PlainIx b := by exact fun _ _ => rfl) : Snd X (.Subscript a b pos) (mOp ixF ma mb) := pe_imp (pe_ix ix_seq ha hb hs) fun _ _ _ h => tOp_of ix_ok h
end
abbrev MOpt := Lo → Sto → Option (Option Int × Sto)
def tMI? (g : Wr) (m : MOpt) : TO := fun σ H Q => ∃ ρ l S o S', Sim g ρ S H ∧ LocR g ρ H l σ ∧ m l S = some (o, S') ∧ ∀ ρ' H', Ext ρ H ρ' H' → Sim g ρ' S' H' → Q o H'
def SndI? (X : Cx) (e : Option Expr) (m : MOpt) : Prop := PO X e (tMI? (Cx.g X) m)
def mNoI : MOpt := fun _ S => some (none, S)
def mSoI (m : M) : MOpt := fun l S => (m l S).bind fun p => match p.1 with
  | .int i => some (some i, p.2)
  | _ => none
section
variable {X : Cx} {pos : Pos} {a b : Expr} {ma : M} {lo hi : Option Expr} {ml mh : MOpt} {p2 : Pos}
theorem po_imp {e : Option Expr} {t t' : TO} (h : PO X e t) (w : ∀ σ H Q, t' σ H Q → t σ H Q) : PO X e t' := ⟨fun pins s σ H Q I q => h.run pins s σ H Q I (w σ H Q q)⟩
theorem i_none : SndI? X none mNoI := po_imp po_none fun σ H Q h => by
  obtain ⟨ρ, l, S, d, S', hs, hl, hm, q⟩ := h
  cases hm
  exact q ρ H Ext.refl hs
theorem i_some {e : Expr} {m : M} (h : Snd X e m) : SndI? X (some e) (mSoI m) := po_imp (po_some h) fun σ H Q h => by
  obtain ⟨ρ, l, S, d, S', hs, hl, hm, q⟩ := h
  obtain ⟨⟨x, S1⟩, e1, hm⟩ := bind2 hm
  refine ⟨ρ, l, S, x, S1, hs, hl, e1, fun ρ1 v H1 x1 s1 r1 => ?_⟩
  cases r1 <;> first
    | (cases hm; exact ⟨_, rfl, q ρ1 H1 x1 s1⟩)
    | cases hm
/-- the items from lo to hi -/
def cutD {α : Type} (xs : List α) (lo hi : Option Int) : List α := (xs.drop (HT.sIx xs.length 0 lo)).take (HT.sIx xs.length xs.length hi - HT.sIx xs.length 0 lo)
def slF (x : D) (lo hi : Option Int) (S : Sto) : Option O := match x with
  | .tup ds => some (.d (.tup (cutD ds lo hi)))
  | .sl ns => some (.n ((cutD ns lo hi).map D.int))
  | .ref k => match S[k]? with
    | some (.lst xs) => some (.n (cutD xs lo hi))
    | _ => none
  | .str z => if z.length ≤ 1000000 then some (.d (.str (cutS z lo hi))) else none
  | _ => none
def mSl (a : M) (lo hi : MOpt) : MO := fun l S => (a l S).bind fun p => (lo l p.2).bind fun q => (hi l q.2).bind fun r => (slF p.1 q.1 r.1 r.2).bind fun o => some (o, r.2)
theorem RDs.cut {g : Wr} {ρ : List Addr} {H : Hp} {ds : List D} {vs : List V} (r : RDs g ρ H ds vs) (lo hi : Option Int) : RDs g ρ H (cutD ds lo hi) (cutV vs lo hi) := by
  unfold cutD cutV
  rw [← r.length]
  exact (r.drop _).take _
theorem cut_map {α β : Type} (f : α → β) (xs : List α) (lo hi : Option Int) : cutD (xs.map f) lo hi = (cutD xs lo hi).map f := by
  unfold cutD
  rw [List.length_map, List.map_take, List.map_drop]
theorem o_sl (ha : Snd X a ma) (hl : SndI? X lo ml) (hh : SndI? X hi mh) : SndO X (.Subscript a (.Slice lo hi none p2) pos) (mSl ma ml mh) :=
  pe_imp (pe_slice (sl_list.or (sl_tupA.or sl_str)) ha hl hh) fun σ H Q h => by
  obtain ⟨ρ, l, S, o, S', hs, hl, hm, q⟩ := h
  obtain ⟨⟨x, S1⟩, e1, hm⟩ := bind2 hm
  obtain ⟨⟨y, S2⟩, e2, hm⟩ := bind2 hm
  obtain ⟨⟨z, S3⟩, e3, hm⟩ := bind2 hm
  obtain ⟨o', e4, hm⟩ := bind2 hm
  cases hm
  refine ⟨ρ, l, S, x, S1, hs, hl, e1, fun ρ1 v H1 x1 s1 r1 => ?_⟩
  refine ⟨ρ1, l, S1, y, S2, s1, x1.loc hs hl, e2, fun ρ2 H2 x2 s2 => ?_⟩
  refine ⟨ρ2, l, S2, z, S3, s2, x2.loc s1 (x1.loc hs hl), e3, fun ρ3 H3 x3 s3 => ?_⟩
  have xx := (x1.trans x2).trans x3
  have r3 := (x2.trans x3).rd s1 r1
  dsimp only at e4
  cases r3 with
  | @tup ds b vs h1 r =>
    cases e4
    refine .inr (.inl ⟨b, vs, rfl, .inl (.inl h1), fun hw => ?_, fun hw p hp => ?_⟩)
    · have e : cutD ds y z = ds := by
        unfold cutD
        rw [r.length]
        rw [hw.1, hw.2, List.drop_zero, Nat.sub_zero, ← r.length, List.take_length]
      rw [e] at q
      exact q ρ3 _ H3 xx s3 (.d (.tup h1 r))
    · exact q ρ3 _ _ (xx.trans (Ext.new hp)) (s3.other (s3.fresh hp) hp) (.d (.tup upd_same ((Ext.new hp).rds s3 (r.cut y z))))
  | @sl ns b h1 =>
    cases e4
    refine .inl ⟨b, _, rfl, h1.sq, fun p hp => ?_⟩
    refine q ρ3 _ _ (xx.trans (Ext.new hp)) (s3.other (s3.fresh hp) hp) (.n upd_same (s3.fresh hp) (xx.back s3 hp) ?_)
    have hc : cutV (ns.map V.int) y z = (cutD ns y z).map V.int := cut_map V.int ns y z
    rw [hc]
    exact RDs.ints
  | @ref k b e =>
    simp only [slF] at e4
    split at e4
    · rename_i xs ec
      cases e4
      obtain ⟨o, h1, h2⟩ := s3.cell k b _ e ec
      cases h2 with
      | lst h2 =>
        refine .inl ⟨b, _, rfl, SqL.of h1, fun p hp => ?_⟩
        exact q ρ3 _ _ (xx.trans (Ext.new hp)) (s3.other (s3.fresh hp) hp) (.n upd_same (s3.fresh hp) (xx.back s3 hp) ((Ext.new hp).rds s3 (h2.cut y z)))
    · cases e4
  | str w =>
    simp only [slF] at e4
    split at e4
    · rename_i hz
      cases e4
      exact .inr (.inr ⟨w, rfl, le_line hz (by decide), q ρ3 _ H3 xx s3 (.d (.str _))⟩)
    · cases e4
  | _ => cases e4
end
end Zi
set_option maxRecDepth 100000
namespace Zi
open PySem PySem.Spec PyProof.Rows L2
abbrev MG := D → Lo → Sto → Option Lo
abbrev MGs := List D → Lo → Sto → Option Lo
/-- all slots but these are as they were -/
def SameO (is : List Nat) (σ σ' : L2.St) : Prop := σ'.length = σ.length ∧ ∀ j, j ∉ is → σ'[j]? = σ[j]?
def tMG (g : Wr) (is : List Nat) (m : MG) : TG := fun v σ H Q => ∃ ρ l S d l', Sim g ρ S H ∧ LocR g ρ H l σ ∧ RD g ρ H d v ∧ m d l S = some l' ∧ ∀ σ', LocR g ρ H l' σ' → SameO is σ σ' → Q σ' H
def tMGs (g : Wr) (is : List Nat) (m : MGs) : TGs := fun vs σ H Q => ∃ ρ l S ds l', Sim g ρ S H ∧ LocR g ρ H l σ ∧ RDs g ρ H ds vs ∧ m ds l S = some l' ∧ ∀ σ', LocR g ρ H l' σ' → SameO is σ σ' → Q σ' H
def SndG (X : Cx) (e : Expr) (is : List Nat) (m : MG) : Prop := PG X e (tMG (Cx.g X) is m)
def SndGs (X : Cx) (es : List Expr) (is : List Nat) (m : MGs) : Prop := PGs X es (tMGs (Cx.g X) is m)
theorem pg_imp {X : Cx} {e : Expr} {t t' : TG} (h : PG X e t) (w : ∀ v σ H Q, t' v σ H Q → t v σ H Q) : PG X e t' := ⟨fun pins s σ H v u Q I r q => h.run pins s σ H v u Q I r (w v σ H Q q)⟩
theorem pgs_imp {X : Cx} {e : List Expr} {t t' : TGs} (h : PGs X e t) (w : ∀ v σ H Q, t' v σ H Q → t v σ H Q) : PGs X e t' := ⟨fun pins s σ H v u Q I r q => h.run pins s σ H v u Q I r (w v σ H Q q)⟩
theorem pg_or {X : Cx} {e : Expr} {t t' : TG} (h : PG X e t) (h' : PG X e t') : PG X e (fun v σ H Q => t v σ H Q ∨ t' v σ H Q) := ⟨fun pins s σ H v u Q I r q => by
  rcases q with q | q
  · exact h.run pins s σ H v u Q I r q
  · exact h'.run pins s σ H v u Q I r q⟩
section
variable {X : Cx} {pos : Pos}
def mgN (i : Nat) : MG := fun d l _ => some (l.set i (some d))
theorem g_name (i : Nat) {x : Str} (hN : X.N.Nodup) (hi : X.N[i]? = some x := by rfl) (hx : L2.Loc X.env.scope x := by first | exact .inl rfl | exact .inr rfl) (hf : X.fn x = true ∨ X.env.scope.names.lookup x = some .local := by first | exact .inl rfl | exact .inr rfl | assumption) : SndG X (.Name x pos) [i] (mgN i) :=
  pg_imp (pg_name hN hi hx hf) fun v σ H Q h => by
  obtain ⟨ρ, l, S, d, l', hs, hl, hr, hm, q⟩ := h
  cases hm
  exact q _ (hl.set hr) ⟨by simp, fun j hj => List.getElem?_set_ne (fun z => hj (by simp [z]))⟩
def mgNil : MGs := fun ds l _ => match ds with
  | [] => some l
  | _ => none
def mgCons (m : MG) (r : MGs) : MGs := fun ds l S => match ds with
  | d :: es => (m d l S).bind fun l1 => r es l1 S
  | [] => none
theorem gs_nil : SndGs X [] [] mgNil := pgs_imp pgs_nil fun v σ H Q h => by
  obtain ⟨ρ, l, S, ds, l', hs, hl, hr, hm, q⟩ := h
  cases hr with
  | nil => cases hm; exact ⟨rfl, q σ hl ⟨rfl, fun _ _ => rfl⟩⟩
  | cons => cases hm
theorem gs_cons {e : Expr} {es : List Expr} {is js : List Nat} {m : MG} {r : MGs} (h1 : SndG X e is m) (h2 : SndGs X es js r) (hs : (assignEach (e :: es) X.env).map (·.2) = assign e X.env :: (assignEach es X.env).map (·.2) := by rfl) : SndGs X (e :: es) (is ++ js) (mgCons m r) :=
  pgs_imp (pgs_cons h1 h2 hs) fun v σ H Q h => by
  obtain ⟨ρ, l, S, ds, l', hs, hl, hr, hm, q⟩ := h
  cases hr with
  | nil => cases hm
  | cons r1 r2 =>
    obtain ⟨l1, e1, hm⟩ := bind2 hm
    exact ⟨_, _, rfl, ρ, l, S, _, l1, hs, hl, r1, e1, fun σ1 hl1 so1 => ⟨ρ, l1, S, _, l', hs, hl1, r2, hm, fun σ2 hl2 so2 => q σ2 hl2 ⟨so2.1.trans so1.1, fun j hj => by
      rw [List.mem_append, not_or] at hj
      exact (so2.2 j hj.2).trans (so1.2 j hj.1)⟩⟩⟩
def mgTup (n : Nat) (r : MGs) : MG := fun d l S => (seqO S (.d d)).bind fun ds => if ds.length = n then r ds l S else none
theorem g_tup {es : List Expr} {k : Nat} {n : Nat} {is : List Nat} {r : MGs} (hc : X.calm = true) (h : SndGs X es is r) (hn : (assignEach es X.env).length = n := by rfl) (hst : (assignEach es X.env).findIdx? (·.1) = none := by rfl) : SndG X (.Tuple es k pos) is (mgTup n r) :=
  pg_imp (pg_or (pg_tup hc h hn hst) (pg_unl hc h hn hst)) fun v σ H Q h => by
  obtain ⟨ρ, l, S, d, l', hs, hl, hr, hm, q⟩ := h
  obtain ⟨ds, e1, hm2⟩ := bind2 hm
  split at hm2
  · rename_i hlen
    cases hr with
    | tup h1 r1 =>
      cases e1
      exact .inl ⟨_, _, rfl, .inl (.inl h1), by rw [← r1.length]; exact hlen, ρ, l, S, _, l', hs, hl, r1, hm2, q⟩
    | ktup h1 r1 =>
      cases e1
      exact .inl ⟨_, _, rfl, h1, by rw [← r1.length]; exact hlen, ρ, l, S, _, l', hs, hl, r1, hm2, q⟩
    | sl h1 =>
      cases e1
      exact .inr ⟨_, _, rfl, h1.sq, by simpa using hlen, ρ, l, S, _, l', hs, hl, RDs.ints, hm2, q⟩
    | @ref k a e =>
      simp only [seqO] at e1
      split at e1
      · rename_i xs ec
        cases e1
        obtain ⟨o, h1, h2⟩ := hs.cell k a _ e ec
        cases h2 with
        | lst h2 => exact .inr ⟨_, _, rfl, SqL.of h1, by rw [← h2.length]; exact hlen, ρ, l, S, _, l', hs, hl, h2, hm2, q⟩
      · cases e1
    | _ => cases e1
  · cases hm2
/-- target = e -/
def mAsg (tg : MG) (m : M) : MS := fun l S => (m l S).bind fun p => (tg p.1 l p.2).bind fun l1 => some (.nx l1, p.2)
/-- a, b = e1, e2 with plain local names -/
def mPar (i j : Nat) (m : MA) : MS := fun l S => (m l S).bind fun p => match p.1 with
  | [x, y] => some (.nx ((l.set i (some x)).set j (some y)), p.2)
  | _ => none
/-- x += e -/
def mAug (i : Nat) (f : OpF) (m : M) : MS := fun l S => match l[i]? with
  | some (some d) => (m l S).bind fun p => (f d p.1 p.2).bind fun r => some (.nx (l.set i (some r.1)), r.2)
  | _ => none
theorem st_aug {i : Nat} {x : Str} {e : Expr} {m : M} {op : Operator} {r : R2} {f : OpF} {pos' : Pos} (ho : OpR X (inplaceOp op) r) (hf : OpOk (Cx.g X) r f) (hN : X.N.Nodup) (h : Snd X e m) (hi : X.N[i]? = some x := by rfl) (hx : L2.Loc X.env.scope x := by first | exact .inl rfl | exact .inr rfl)
    (hfn : X.fn x = true ∨ X.env.scope.names.lookup x = some .local := by first | exact .inl rfl | exact .inr rfl | assumption) : SndS X (.AugAssign (.Name x pos') op e pos) (mAug i f m) := ps_imp (ps_aug hN hi hx h ho hfn) fun E σ H h => by
  obtain ⟨ρ, l, S, d, S', hs, hl, hm, q⟩ := h
  unfold mAug at hm
  split at hm
  · rename_i d0 e0
    obtain ⟨⟨x, S1⟩, e1, hm⟩ := bind2 hm
    obtain ⟨⟨y, S2⟩, e2, hm⟩ := bind2 hm
    cases hm
    obtain ⟨v, h1, h2⟩ := hl.val i d0 e0
    refine ⟨v, h1, ρ, l, S, x, S1, hs, hl, e1, fun ρ1 u H1 x1 s1 r1 => ?_⟩
    refine hf ρ1 S1 H1 d0 x v u y S2 _ s1 (x1.rd hs h2) r1 e2 fun ρ2 w H2 x2 s2 r2 => ?_
    exact q ρ2 H2 (x1.trans x2) s2 _ (((x1.trans x2).loc hs hl).set r2)
  · cases hm
theorem iop_addX : OpR X (inplaceOp .Add) (fun x y H Q => rI0 (fun i j => .int (i + j)) x y H Q ∨ (∃ i j, x = .str i ∧ y = .str j ∧ i.length + j.length ≤ sizeLine ∧ Q (.str (i ++ j)) H)) := iop_add.or iop_add_str
def fIadd : OpF := fun x y S => match x, y with
  | .int i, .int j => some (.int (i + j), S)
  | .str i, .str j => if i.length + j.length ≤ 1000000 then some (.str (i ++ j), S) else none
  | _, _ => none
theorem iadd_ok {g : Wr} : OpOk g (fun x y H Q => rI0 (fun i j => .int (i + j)) x y H Q ∨ (∃ i j, x = .str i ∧ y = .str j ∧ i.length + j.length ≤ sizeLine ∧ Q (.str (i ++ j)) H)) fIadd := fun ρ S H x y v u z S' Q s rx ry h q => by
  cases rx with
  | int i =>
    cases ry with
    | int j => cases h; exact .inl ⟨i, j, rfl, rfl, q ρ _ H Ext.refl s (.int _)⟩
    | _ => cases h
  | str i =>
    cases ry with
    | str j =>
      simp only [fIadd] at h
      split at h
      · rename_i hz
        cases h
        exact .inr ⟨i, j, rfl, rfl, le_line hz (by decide), q ρ _ H Ext.refl s (.str _)⟩
      · cases h
    | _ => cases h
  | _ => cases h
theorem st_iadd {i : Nat} {x : Str} {e : Expr} {m : M} {pos' : Pos} (hN : X.N.Nodup) (h : Snd X e m) (hi : X.N[i]? = some x := by rfl) (hx : L2.Loc X.env.scope x := by first | exact .inl rfl | exact .inr rfl)
    (hfn : X.fn x = true ∨ X.env.scope.names.lookup x = some .local := by first | exact .inl rfl | exact .inr rfl | assumption) : SndS X (.AugAssign (.Name x pos') .Add e pos) (mAug i fIadd m) := st_aug iop_addX iadd_ok hN h hi hx hfn
end
structure Src where
  ds : List D
  ok : Sto → Prop
structure SrcR (g : Wr) (ρ0 : List Addr) (H0 : Hp) (s : Src) (J : It) : Prop where
  go : ∀ i d ρ S H, s.ds[i]? = some d → Ext ρ0 H0 ρ H → Sim g ρ S H → s.ok S → J.go i H ∧ ∀ x H', J.yld i H x H' → Ext ρ H ρ H' ∧ Sim g ρ S H' ∧ RD g ρ H' d x
  stop : ∀ ρ S H, Ext ρ0 H0 ρ H → Sim g ρ S H → s.ok S → J.stop s.ds.length H
abbrev MI := Lo → Sto → Option (Src × Sto)
def tMI (g : Wr) (m : MI) : TI := fun σ H R => ∃ ρ l S s S', Sim g ρ S H ∧ LocR g ρ H l σ ∧ m l S = some (s, S') ∧ ∀ ρ' H' J, Ext ρ H ρ' H' → Sim g ρ' S' H' → SrcR g ρ' H' s J → R J H'
def SndI (X : Cx) (tg e : Expr) (m : MI) : Prop := PI X tg e (tMI (Cx.g X) m)
theorem pi_imp {X : Cx} {tg e : Expr} {t t' : TI} (h : PI X tg e t) (w : ∀ σ H R, t' σ H R → t σ H R) : PI X tg e t' := ⟨fun pins s σ H R I q => h.run pins s σ H R I (w σ H R q)⟩
/-- a list or a tuple -/
def iSeq (K : PySem.W.Frag) (tl : TE) : TI := fun σ H R => tl σ H fun x H1 => ∃ a, x = .ref a ∧ (((∃ xs, SqL K H1 a xs) ∧ R (Itl K a) H1) ∨ ((∃ xs, SqT K H1 a xs) ∧ R (Itt K a) H1))
theorem pi_seq {X : Cx} {tg l : Expr} {tl : TE} (hl : PE X l tl) : PI X tg l (iSeq X.K tl) := ⟨fun pins s σ H R I h => thn (hl.run pins s σ H _ I h) fun v s1 ⟨x, H1, I1, r1, q1⟩ => by
  obtain ⟨a, ex, q1⟩ := q1
  subst ex
  cases r1
  have fresh : ∀ b ∈ [s1.heap.objs.size], FpOk X pins H1 b := fun b hb => by
    rw [List.mem_singleton] at hb
    subst hb
    exact I1.fpOk (Nat.le_refl _) (I1.hok.fresh (Nat.le_refl _))
  rcases q1 with ⟨⟨xs, hq⟩, q⟩ | ⟨⟨xs, hq⟩, q⟩
  · obtain ⟨its, rv, p, hz⟩ := I1.list hq
    exact wpAny_pyIter_list p.isList ⟨_, [s1.heap.objs.size], _, _, H1, rfl, I1.kept (t' := s1.toks) (fun b o e => Heap.get?_push_of_some _ e), turn_list a _, ⟨_, Heap.get?_push_size _ rfl, rfl, rfl⟩, fresh, q⟩
  · obtain ⟨its, rv, p, hz⟩ := I1.tuple hq
    exact wpAny_pyIter_tuple (show s1.heap.IsTuple a its.toArray from p) ⟨_, [s1.heap.objs.size], _, _, H1, rfl, I1.kept (t' := s1.toks) (fun b o e => Heap.get?_push_of_some _ e), turn_tuple a _, ⟨_, Heap.get?_push_size _ rfl, rfl, rfl⟩, fresh, q⟩⟩
def srcO (S : Sto) : O → Option Src
  | .n ds => some ⟨ds, fun _ => True⟩
  | .d (.tup ds) => some ⟨ds, fun _ => True⟩
  | .d (.ktup ds) => some ⟨ds, fun _ => True⟩
  | .d (.sl ns) => some ⟨ns.map D.int, fun _ => True⟩
  | .d (.ref k) => match S[k]? with
    | some (.lst xs) => some ⟨xs, fun S' => S'[k]? = some (.lst xs)⟩
    | _ => none
  | .d _ => none
def mSrc (m : MO) : MI := fun l S => (m l S).bind fun p => (srcO p.2 p.1).bind fun s => some (s, p.2)
section
variable {g : Wr} {ρ : List Addr} {S : Sto} {H : Hp}
/-- what walks a standing list's items -/
theorem src_lst {a : Addr} {s : Src} (hq : ∀ ρ' S' H', Ext ρ H ρ' H' → Sim g ρ' S' H' → s.ok S' → ∃ vs, SqL g.K H' a vs ∧ RDs g ρ' H' s.ds vs) : SrcR g ρ H s (Itl g.K a) where
  go := fun i d ρ' S' H' hd x sm ok => by
    obtain ⟨vs, h1, h2⟩ := hq ρ' S' H' x sm ok
    obtain ⟨v, h3, h4⟩ := h2.get hd
    refine ⟨⟨vs, v, h1, h3⟩, fun y H2 hy => ?_⟩
    obtain ⟨e, hy⟩ := hy
    subst e
    have e2 := (hy vs h1).symm.trans h3
    cases e2
    exact ⟨Ext.refl, sm, h4⟩
  stop := fun ρ' S' H' x sm ok => by
    obtain ⟨vs, h1, h2⟩ := hq ρ' S' H' x sm ok
    exact ⟨vs, h1, by rw [h2.length]; exact Nat.le_refl _⟩
theorem src_tup {a : Addr} {s : Src} (hq : ∀ ρ' S' H', Ext ρ H ρ' H' → Sim g ρ' S' H' → s.ok S' → ∃ vs, SqT g.K H' a vs ∧ RDs g ρ' H' s.ds vs) : SrcR g ρ H s (Itt g.K a) where
  go := fun i d ρ' S' H' hd x sm ok => by
    obtain ⟨vs, h1, h2⟩ := hq ρ' S' H' x sm ok
    obtain ⟨v, h3, h4⟩ := h2.get hd
    refine ⟨⟨vs, v, h1, h3⟩, fun y H2 hy => ?_⟩
    obtain ⟨e, hy⟩ := hy
    subst e
    have e2 := (hy vs h1).symm.trans h3
    cases e2
    exact ⟨Ext.refl, sm, h4⟩
  stop := fun ρ' S' H' x sm ok => by
    obtain ⟨vs, h1, h2⟩ := hq ρ' S' H' x sm ok
    exact ⟨vs, h1, by rw [h2.length]; exact Nat.le_refl _⟩
/-- the items of a sequence through all steps -/
theorem seq_stays (sm : Sim g ρ S H) {o : O} {v : V} {H₀ : Hp} {s : Src} (r : OR g ρ H H₀ o v) (h : srcO S o = some s) : s.ok S ∧ ∃ a, v = .ref a ∧
    ((∀ ρ' S' H', Ext ρ H ρ' H' → Sim g ρ' S' H' → s.ok S' → ∃ vs, SqL g.K H' a vs ∧ RDs g ρ' H' s.ds vs) ∨ (∀ ρ' S' H', Ext ρ H ρ' H' → Sim g ρ' S' H' → s.ok S' → ∃ vs, SqT g.K H' a vs ∧ RDs g ρ' H' s.ds vs)) := by
  cases r with
  | n h1 h2 h3 h4 =>
    cases h
    exact ⟨trivial, _, rfl, .inl fun ρ' S' H' x _ _ => ⟨_, SqL.of (x.fr _ _ h2 h1).1, x.rds sm h4⟩⟩
  | d r =>
    cases r with
    | tup h1 r1 =>
      cases h
      exact ⟨trivial, _, rfl, .inr fun ρ' S' H' x _ _ => ⟨_, (x.sub sm).tup _ _ (.inl (.inl h1)), x.rds sm r1⟩⟩
    | ktup h1 r1 =>
      cases h
      exact ⟨trivial, _, rfl, .inr fun ρ' S' H' x _ _ => ⟨_, (x.sub sm).tup _ _ h1, x.rds sm r1⟩⟩
    | sl h1 =>
      cases h
      exact ⟨trivial, _, rfl, .inl fun ρ' S' H' x _ _ => ⟨_, ((x.sub sm).scr _ _ h1).sq, RDs.ints⟩⟩
    | @ref k a e =>
      simp only [srcO] at h
      split at h
      · rename_i xs ec
        cases h
        refine ⟨ec, a, rfl, .inl fun ρ' S' H' x s' ok => ?_⟩
        obtain ⟨o, h1, h2⟩ := s'.cell k a _ (x.pre _ _ e) ok
        cases h2 with
        | lst h2 => exact ⟨_, SqL.of h1, h2⟩
      · cases h
    | _ => cases h
end
section
variable {X : Cx} {tg e : Expr} {pos p : Pos}
theorem i_seq {m : MO} (h : SndO X e m) : SndI X tg e (mSrc m) := pi_imp (pi_seq h) fun σ H R h => by
  obtain ⟨ρ, l, S, s, S', hs, hl, hm, q⟩ := h
  obtain ⟨⟨o, S1⟩, e1, hm⟩ := bind2 hm
  obtain ⟨s1, e2, hm⟩ := bind2 hm
  cases hm
  refine ⟨ρ, l, S, o, _, hs, hl, e1, fun ρ1 v H1 x1 sm r1 => ?_⟩
  obtain ⟨ok, a, ev, hq⟩ := seq_stays sm r1 e2
  subst ev
  rcases hq with hq | hq
  · obtain ⟨vs, h1, _⟩ := hq ρ1 S1 H1 Ext.refl sm ok
    exact ⟨a, rfl, .inl ⟨⟨vs, h1⟩, q ρ1 H1 _ x1 sm (src_lst hq)⟩⟩
  · obtain ⟨vs, h1, _⟩ := hq ρ1 S1 H1 Ext.refl sm ok
    exact ⟨a, rfl, .inr ⟨⟨vs, h1⟩, q ρ1 H1 _ x1 sm (src_tup hq)⟩⟩
/-- range -/
def rangeD (lo : Int) (n : Nat) : List D := (List.range n).map fun k => D.int (lo + (k : Nat))
theorem src_rng {g : Wr} {ρ : List Addr} {H : Hp} {lo : Int} {n : Nat} : SrcR g ρ H ⟨rangeD lo n, fun _ => True⟩ (Itr lo n) where
  go := fun i d ρ' S' H' hd x sm ok => by
    have hd' : (rangeD lo n)[i]? = some d := hd
    unfold rangeD at hd'
    rw [List.getElem?_map] at hd'
    by_cases hi : i < n
    · rw [List.getElem?_range hi] at hd'
      cases hd'
      refine ⟨hi, fun y H2 hy => ?_⟩
      obtain ⟨e1, e2⟩ := hy
      subst e1 e2
      exact ⟨Ext.refl, sm, .int _⟩
    · rw [List.getElem?_eq_none (by simpa using hi)] at hd'
      cases hd'
  stop := fun ρ' S' H' x sm ok => by
    show n ≤ (rangeD lo n).length
    unfold rangeD
    simp
def mRng1 (m : M) : MI := fun l S => (m l S).bind fun p => match p.1 with
  | .int j => if -(2 ^ 62) ≤ j ∧ j < 2 ^ 62 then some (⟨rangeD 0 j.toNat, fun _ => True⟩, p.2) else none
  | _ => none
theorem i_rng1 {a : Expr} {m : M} (h : Snd X a m) (hm : X.mg "range" = none) (hg : Gl X "range" := by rfl) (hs : starEach [a] X.env = [(false, eval a X.env)] := by rfl) (hs' : starEach (a :: []) X.env = (false, eval a X.env) :: starEach [] X.env := by rfl) : SndI X tg (.Call (.Name "range" p) [a] [] pos) (mRng1 m) :=
  pi_imp (pi_range1 hg hm (sa_cons h sa_nil hs') hs) fun σ H R h => by
  obtain ⟨ρ, l, S, s, S', hs, hl, hm, q⟩ := h
  obtain ⟨⟨x, S1⟩, e1, hm⟩ := bind2 hm
  refine ⟨ρ, l, S, [x], S1, hs, hl, by unfold mCons; rw [e1]; rfl, fun ρ1 vs H1 x1 s1 r1 => ?_⟩
  cases r1 with
  | cons r1 r2 =>
    cases r2
    cases r1 <;> first
      | (rename_i i
         dsimp only at hm
         split at hm
         · rename_i hb
           cases hm
           exact ⟨i, rfl, hb.1, hb.2, q ρ1 H1 _ x1 s1 src_rng⟩
         · cases hm)
      | cases hm
end
open Classical in
noncomputable def forL (ok : Sto → Prop) (tg : MG) (body : MS) : List D → MS
  | [] => fun l S => if ok S then some (.nx l, S) else none
  | d :: ds => fun l S => if ok S then (tg d l S).bind fun l1 => (body l1 S).bind fun p => match p.1 with
      | .nx l2 => forL ok tg body ds l2 p.2
      | .ct l2 => forL ok tg body ds l2 p.2
      | .bk l2 => some (.nx l2, p.2)
      | .rt r => some (.rt r, p.2)
    else none
noncomputable def mFor (src : MI) (tg : MG) (body : MS) : MS := fun l S => (src l S).bind fun p => forL p.1.ok tg body p.1.ds l p.2
theorem drop_cons' {α : Type} {xs : List α} {i : Nat} {d : α} {r : List α} (h : xs.drop i = d :: r) : xs[i]? = some d ∧ xs.drop (i + 1) = r := by
  have hi : i < xs.length := by
    have := congrArg List.length h
    rw [List.length_drop, List.length_cons] at this
    omega
  rw [List.drop_eq_getElem_cons hi] at h
  injection h with h1 h2
  exact ⟨by rw [List.getElem?_eq_getElem hi, h1], h2⟩
theorem drop_nil' {α : Type} {xs : List α} {i : Nat} (h : xs.drop i = []) : xs.length ≤ i := List.drop_eq_nil_iff.mp h
section
variable {X : Cx} {tg e : Expr} {pos : Pos}
theorem st_for {body : List Stmt} {src : MI} {is : List Nat} {mg : MG} {mb : MS} (hp : PassesOwn (model X.prog X.w) X.A X.env X.xe) (hc : X.calm = true) (hi : SndI X tg e src) (hg : SndG X tg is mg) (hb : SndB X body mb)
    (hs : ∀ x, foldedSetIterable e X.env x = pure x := by intro _; rfl) : SndS X (.For tg e body [] pos) (mFor src mg mb) := ps_imp (ps_for hp hc hi hg hb hs) fun E σ H h => by
  obtain ⟨ρ, l, S, f, S', hs, hl, hm, q⟩ := h
  obtain ⟨⟨s, S1⟩, e1, hm⟩ := bind2 hm
  refine ⟨ρ, l, S, s, S1, hs, hl, e1, fun ρ1 H1 J x1 s1 sr => ?_⟩
  refine ⟨fun i m σ H => ∃ ρi li Si, Ext ρ1 H1 ρi H ∧ Sim (Cx.g X) ρi Si H ∧ LocR (Cx.g X) ρi H li σ ∧ m = (s.ds.drop i).length ∧ i ≤ s.ds.length ∧ forL s.ok mg mb (s.ds.drop i) li Si = some (f, S'),
    ⟨_, ρ1, l, S1, Ext.refl, s1, x1.loc hs hl, rfl, Nat.zero_le _, hm⟩, ?_⟩
  rintro i m σi Hi ⟨ρi, li, Si, xi, si, hli, rfl, hle, hf⟩
  cases hd : s.ds.drop i with
  | nil =>
    rw [hd] at hf
    simp only [forL] at hf
    split at hf
    · rename_i ok
      cases hf
      have hi : i = s.ds.length := Nat.le_antisymm hle (drop_nil' hd)
      subst hi
      exact .inl ⟨sr.stop ρi _ Hi xi si ok, q ρi Hi (x1.trans xi) si σi hli⟩
    · cases hf
  | cons d rest =>
    rw [hd] at hf
    simp only [forL] at hf
    split at hf
    · rename_i ok
      obtain ⟨l1, e2, hf⟩ := bind2 hf
      obtain ⟨⟨f1, S2⟩, e3, hf⟩ := bind2 hf
      obtain ⟨hget, hdrop⟩ := drop_cons' hd
      obtain ⟨go, yl⟩ := sr.go i d ρi Si Hi hget xi si ok
      refine .inr ⟨go, fun σ' H' => ∃ ρ' l' S'', Ext ρ1 H1 ρ' H' ∧ Sim (Cx.g X) ρ' S'' H' ∧ LocR (Cx.g X) ρ' H' l' σ' ∧ forL s.ok mg mb rest l' S'' = some (f, S'), fun σ' H' hN => ?_, fun x H' hy => ?_⟩
      · obtain ⟨ρ', l', S'', a1, a2, a3, a4⟩ := hN
        have hlt : i < s.ds.length := (List.getElem?_eq_some_iff.mp hget).1
        exact ⟨_, by rw [List.length_cons]; exact Nat.lt_succ_self _, ρ', l', S'', a1, a2, a3, by rw [hdrop], hlt, by rw [hdrop]; exact a4⟩
      · obtain ⟨b1, b2, b3⟩ := yl x H' hy
        refine ⟨ρi, li, Si, d, l1, b2, b1.loc si hli, b3, e2, fun σ1 hl1 _ => ?_⟩
        refine ⟨ρi, l1, Si, f1, S2, b2, hl1, e3, fun ρ2 H2 x2 s2 => ?_⟩
        have xx := (xi.trans b1).trans x2
        cases f1 with
        | nx l2 => exact fun σ2 hl2 => ⟨ρ2, l2, S2, xx, s2, hl2, hf⟩
        | ct l2 => exact fun σ2 hl2 => ⟨ρ2, l2, S2, xx, s2, hl2, hf⟩
        | bk l2 => cases hf; exact fun σ2 hl2 => q ρ2 H2 (x1.trans xx) s2 σ2 hl2
        | rt r => cases hf; exact fun v r2 => q ρ2 H2 (x1.trans xx) s2 v r2
    · cases hf
end
end Zi
set_option maxRecDepth 100000
namespace Zi
open PySem PySem.Spec PyProof.Rows L2
set_option maxHeartbeats 1000000 in
theorem meets_enum1 {v : Value} {o : Obj} {H : Heap → Prop} (B : Begins v o H) :
    Meets (Builtin.«enumerate.__new__» ⟨[.type "enumerate", v], []⟩) (fun _ R s => H s.heap ∧
      R (.ok (.ret (.ref (s.heap.push o).objs.size))) { s with heap := (s.heap.push o).push { cls := .type "enumerate", data := .fields #[.none, .bool false, .ref s.heap.objs.size, rawInt 0, .none, .none] } }) :=
  .of_wp fun prog w A R s h => by
    obtain ⟨hp, g, d, tk, os⟩ := s; obtain ⟨h1, h⟩ := h
    have hs1 := sub_enumerate
    have q1 : ∀ {A' : Around} {E : Value → Shared → Prop} {Q : Value → Shared → Prop}, Q (.ref hp.objs.size) ⟨hp.push o, g, d, tk, os⟩ → wpAny (model prog w) A' (pyIter v) Q E ⟨hp, g, d, tk, os⟩ := fun q => B.iter prog w _ _ ⟨hp, g, d, tk, os⟩ _ h1 q
    wp_walk using q1
    refine wpAny_stack_any fun st => wpAny_pure ?_
    split
    · rename_i c _ _ _ _ _
      cases (c == Value.type "enumerate") <;> (wp_walk using q1; exact ⟨_, rfl, h⟩)
    · wp_walk using q1
      exact ⟨_, rfl, h⟩
section
variable {prog : Program} {w : World} {A : Around} {E : Value → Shared → Prop} {s : Shared}
theorem enum_begins1 {v : Value} {o : Obj} {H : Heap → Prop} {Q : Value → Shared → Prop} (B : Begins v o H) (h1 : H s.heap)
    (h : ∀ h', IsEnum h' (s.heap.objs.size + 1) s.heap.objs.size 0 .none → h'.get? s.heap.objs.size = some o → h'.objs.size = s.heap.objs.size + 2 → (∀ b o, s.heap.get? b = some o → h'.get? b = some o) → Q (.ref (s.heap.objs.size + 1)) { s with heap := h' }) :
    wpAny (model prog w) A (call (.type "enumerate") [v]) Q E s := by
  refine callType_new F.called_enumerate (by decide) (F.typeCall_enumerate_1 _) (F.newCall_enumerate_1 _) (fun obj => F.args_object_init_2 obj _) F.entry_enumerate_new (meets_enum1 B) ⟨h1, ?_⟩
  have hz : (s.heap.push o).objs.size = s.heap.objs.size + 1 := Heap.size_push ..
  show _ ∧ _
  rw [hz]
  have he : IsEnum ((s.heap.push o).push { cls := .type "enumerate", data := .fields #[.none, .bool false, .ref s.heap.objs.size, rawInt 0, .none, .none] }) (s.heap.objs.size + 1) s.heap.objs.size 0 .none := by
    have q := Heap.get?_push_size (s.heap.push o) (o := { cls := .type "enumerate", data := .fields #[.none, .bool false, .ref s.heap.objs.size, rawInt 0, .none, .none] }) rfl
    rw [hz] at q; exact q
  exact ⟨⟨_, he, rfl⟩, h _ he (Heap.get?_push_of_some _ (Heap.get?_push_size _ B.free)) (by rw [Heap.size_push, hz]) fun b o x => Heap.get?_push_of_some _ (Heap.get?_push_of_some _ x)⟩
end
/-- the tuple at a, each item in a new pair -/
def IteT (K : PySem.W.Frag) (a : Addr) : It :=
  ⟨fun i H => ∃ (xs : List V) (x : V), SqT K H a xs ∧ xs[i]? = some x, fun i H v H' => ∃ T x, v = .ref T ∧ H T = none ∧ H' = upd H T (.tup [.int (i : Nat), x]) ∧ ∀ xs, SqT K H a xs → xs[i]? = some x, fun i H => ∃ xs : List V, SqT K H a xs ∧ xs.length ≤ i⟩
theorem turn_enumT {P : Program} {w : World} {K : PySem.W.Frag} {elts : List Expr} {kk : Nat} {tpos : Pos} (a e it : Addr) :
    Turn P w K (.Tuple elts kk tpos) (IteT K a) [e, it] e (fun i h => (∃ old, IsEnum h e it ((i : Nat) : Int) old) ∧ h.IsTupleIter it a i ∧ e ≠ it ∧ a ≠ it ∧ e ≠ a) where
  mem := by simp
  obj := fun i h st b hb => by
    obtain ⟨⟨old, he⟩, ⟨o, ho, hc, hd⟩, _⟩ := st
    rcases (show b = e ∨ b = it by simpa using hb) with z | z
    · rw [z]; exact ⟨_, he, fun v q => nomatch q⟩
    · rw [z]; exact ⟨o, ho, fun v q => by rw [hd] at q; cases q⟩
  keep := fun i h h' st k => by
    obtain ⟨⟨old, he⟩, hi, hne⟩ := st
    exact ⟨⟨old, k e (by simp) _ he⟩, hi.at fun o q => k it (by simp) o q, hne⟩
  item := by
    intro X hP hw hK hc i pins s σ H E I hf st hg
    subst hP hw hK
    obtain ⟨⟨old, he⟩, hit, hne, hai, hea⟩ := st
    obtain ⟨xs, x, hq, hx⟩ := hg
    obtain ⟨its, rv, p, hz⟩ := I.tuple hq
    obtain ⟨u, hu, ru⟩ := rv.get hx
    have hel : e < s.heap.objs.size := Heap.lt_size he
    have hil : it < s.heap.objs.size := by obtain ⟨_, q, _⟩ := hit; exact Heap.lt_size q
    have hlt : i < its.toArray.size := by
      obtain ⟨hh, _⟩ := List.getElem?_eq_some_iff.mp hu
      simpa using hh
    have DD := Draws.tuple (prog := X.prog) (w := X.w) (A := X.A.in1) (show X.A.in1.handled = none from I.ok.hd hc) it a hai its.toArray
    refine wpAny_pyNext_enum_itemD DD he ⟨hit, p⟩ hlt hne (by simp [hne, hea]) fun x' h' tk hPx ho hst' hT hsz hk => ?_
    have hxu : x' = u := by
      have e1 : its.toArray[i]? = some x' := hPx
      rw [List.getElem?_toArray, hu] at e1
      cases e1; rfl
    subst hxu
    refine ⟨_, rfl, wpAny_letOwnedTupleGo_enum (s := { s with heap := h', toks := tk + 1 }) ho fun h'' he' sb => ?_⟩
    have hT2 : h''.get? s.heap.objs.size = some { cls := .type "tuple", data := .seq #[.int i tk, x'] } := (sb.2 _ (Nat.ne_of_gt hel)).trans hT
    have new : ObjOk X.prog X.w (upd H s.heap.objs.size (.tup [.int (i : Nat), x])) h'' s.heap.objs.size (.tup [.int (i : Nat), x]) :=
      ⟨by show 2 ≤ sizeLine; decide, [.int i tk, x'], .cons ⟨_, rfl⟩ (.cons ru .nil), ⟨_, hT2, rfl, _, rfl⟩⟩
    have I1 : Inv X pins σ (upd H s.heap.objs.size (.tup [.int (i : Nat), x])) { s with heap := h'', toks := tk + 1 } :=
      I.turnedNew (ch := [e, it]) (fun b ob hb q => (sb.2 b (fun z => hb (by simp [z]))).trans (hk b ob (fun z => hb (by simp [z])) (fun z => hb (by simp [z])) q)) hf (Nat.le_refl _) new
    refine ⟨.ref s.heap.objs.size, _, I1, rfl, ⟨_, x, rfl, I.hok.fresh (Nat.le_refl _), rfl, fun ys hy => by rw [I.tuple_inj hy hq]; exact hx⟩, ⟨⟨x', ?_⟩, hst'.1.at fun o q => (sb.2 it (Ne.symm hne)).trans q, hne, hai, hea⟩, fun b hb => ?_⟩
    · rw [show ((i + 1 : Nat) : Int) = (i : Int) + 1 by omega]; exact he'
    · have hb' : b < s.heap.objs.size := by
        rcases (show b = e ∨ b = it by simpa using hb) with z | z
        · rw [z]; exact hel
        · rw [z]; exact hil
      rw [upd_ne (Nat.ne_of_lt hb')]
      exact (hf b hb).1
  done := by
    intro X hP hw hK hc i pins s σ H E I hf st hg
    subst hP hw hK
    obtain ⟨⟨old, he⟩, hit, hne, hai, hea⟩ := st
    obtain ⟨xs, hq, hx⟩ := hg
    obtain ⟨its, rv, p, hz⟩ := I.tuple hq
    obtain ⟨f0, f1, f2, f3, f4, f5⟩ := hf it (by simp)
    have hl := rv.length
    by_cases hi : i = its.toArray.size
    · subst hi
      have DD := Draws.tuple (prog := X.prog) (w := X.w) (A := X.A.in1) (show X.A.in1.handled = none from I.ok.hd hc) it a hai its.toArray
      exact wpAny_pyNext_enum_endD DD he ⟨hit, p⟩ fun h' eb => ⟨rfl, I.turned (t' := s.toks) (fun b o hb q => eb b o hb q) f0 f1 f3 f4 f5⟩
    · have hT : s.TypeIs (.ref e) "enumerate" := ⟨_, he, rfl⟩
      unfold pyNext
      refine wpAny_bind (wpAny_attempt (wpAny_callSpecial?_slot (name := Str.ofString "__next__") hT F.slot_enumerate_next (wpAny_call_entry F.slot_enumerate_next hT F.entry_enumerate_next ?_ (F.args_enumerate_next_1 _))))
      show wpAny _ _ (field (.ref e) 2 >>= _) _ _ _
      refine wpAny_bind (wpAny_field he rfl (x := .ref it) rfl ?_)
      refine wpAny_bind (wpAny_nextOf_tuple_end (show X.A.in1.handled = none from I.ok.hd hc) hit p (by rw [List.getElem?_toArray]; exact List.getElem?_eq_none (by omega)) fun h' x' he' hx' => ?_)
      obtain ⟨o, ho, hcl⟩ := hx'
      refine wpAny_bind (wpAny_isInstance (T := "StopIteration") (b := true) ⟨o, ho, hcl⟩ isSubtype_stop ?_)
      exact wpAny_pure ⟨rfl, I.turned (t' := s.toks) (fun b o hb q => he' b o hb q) f0 f1 f3 f4 f5⟩
  self := fun A i s Q E st h => let ⟨⟨_, he⟩, _⟩ := st; wpAny_pyIter_enum he h
/-- enumerate(list or tuple) -/
def iEnumX (K : PySem.W.Frag) (ta : TA) : TI := fun σ H R => ta σ H fun vs H1 => ∃ a, vs = [.ref a] ∧ (((∃ xs, SqL K H1 a xs) ∧ R (Ite K a) H1) ∨ ((∃ xs, SqT K H1 a xs) ∧ R (IteT K a) H1))
theorem pi_enumX {X : Cx} {e : Expr} {ta : TA} {p pos tpos : Pos} {elts : List Expr} {kk : Nat} (hg : Gl X "enumerate") (hm : X.mg "enumerate" = none) (ha : PA X [e] ta) (hs : starEach [e] X.env = [(false, eval e X.env)]) :
    PI X (.Tuple elts kk tpos) (.Call (.Name "enumerate" p) [e] [] pos) (iEnumX X.K ta) := by
  refine ⟨fun pins s σ H R I h => Call_ (ld_blt I hg hm boot_enumerate (PyProof.Rows.callWith_type1 (thn (ha.run pos pins s σ H _ I h) fun us s1 ⟨vs, H1, I1, r1, q1⟩ => ?_) hs rfl))⟩
  obtain ⟨a, ex, q1⟩ := q1
  subst ex
  cases r1 with
  | cons r rr =>
    cases rr
    cases r
    have fresh : ∀ b ∈ [s1.heap.objs.size + 1, s1.heap.objs.size], FpOk X pins H1 b := fun b hb => by
      have hle : s1.heap.objs.size ≤ b := by
        rcases (show b = s1.heap.objs.size + 1 ∨ b = s1.heap.objs.size by simpa using hb) with z | z
        · rw [z]; exact Nat.le_add_right _ _
        · rw [z]; exact Nat.le_refl _
      exact I1.fpOk hle (I1.hok.fresh hle)
    rcases q1 with ⟨⟨xs, hq⟩, q⟩ | ⟨⟨xs, hq⟩, q⟩
    · obtain ⟨its, rv, p', hz⟩ := I1.list hq
      refine call_enumerate_list p'.isList fun h' he hit hsz hk => wpAny_pyIter_enum he ?_
      exact ⟨s1.heap.objs.size + 1, [s1.heap.objs.size + 1, s1.heap.objs.size], _, _, H1, rfl, I1.kept (t' := s1.toks) hk, turn_enum a (s1.heap.objs.size + 1) s1.heap.objs.size, ⟨⟨.none, he⟩, hit, Nat.succ_ne_self _⟩, fresh, q⟩
    · obtain ⟨its, rv, p', hz⟩ := I1.tuple hq
      obtain ⟨o', ho', _⟩ := id p'
      have hlt : a < s1.heap.objs.size := Heap.lt_size ho'
      refine enum_begins1 (begins_tuple a its.toArray) p' fun h' he hit hsz hk => wpAny_pyIter_enum he ?_
      exact ⟨s1.heap.objs.size + 1, [s1.heap.objs.size + 1, s1.heap.objs.size], _, _, H1, rfl, I1.kept (t' := s1.toks) hk, turn_enumT a (s1.heap.objs.size + 1) s1.heap.objs.size, ⟨⟨.none, he⟩, ⟨_, hit, rfl, rfl⟩, Nat.succ_ne_self _, Nat.ne_of_lt hlt, Nat.ne_of_gt (Nat.lt_succ_of_lt hlt)⟩, fresh, q⟩
def enumD : Nat → List D → List D
  | _, [] => []
  | k, d :: ds => .tup [.int (k : Nat), d] :: enumD (k + 1) ds
theorem enumD_get : ∀ (ds : List D) (k i : Nat), (enumD k ds)[i]? = (ds[i]?).map fun d => .tup [.int ((k + i : Nat) : Int), d]
  | [], _, _ => by simp [enumD]
  | d :: ds, k, 0 => by simp [enumD]
  | d :: ds, k, i + 1 => by
    show (enumD (k + 1) ds)[i]? = (ds[i]?).map _
    rw [enumD_get ds (k + 1) i, show k + 1 + i = k + (i + 1) by omega]
theorem enumD_len : ∀ (ds : List D) (k : Nat), (enumD k ds).length = ds.length
  | [], _ => rfl
  | d :: ds, k => congrArg (· + 1) (enumD_len ds (k + 1))
def mEnum (m : MO) : MI := fun l S => (m l S).bind fun p => (srcO p.2 p.1).bind fun s => some (⟨enumD 0 s.ds, s.ok⟩, p.2)
section
variable {g : Wr} {ρ : List Addr} {S : Sto} {H : Hp}
theorem src_enumL {a : Addr} {s : Src} (hq : ∀ ρ' S' H', Ext ρ H ρ' H' → Sim g ρ' S' H' → s.ok S' → ∃ vs, SqL g.K H' a vs ∧ RDs g ρ' H' s.ds vs) : SrcR g ρ H ⟨enumD 0 s.ds, s.ok⟩ (Ite g.K a) where
  go := fun i d ρ' S' H' hd x sm ok => by
    obtain ⟨vs, h1, h2⟩ := hq ρ' S' H' x sm ok
    have hd' : (enumD 0 s.ds)[i]? = some d := hd
    rw [enumD_get, Nat.zero_add] at hd'
    obtain ⟨d0, e0, e1⟩ := Option.map_eq_some_iff.mp hd'
    subst e1
    obtain ⟨v, h3, h4⟩ := h2.get e0
    refine ⟨⟨vs, v, h1, h3⟩, fun y H2 hy => ?_⟩
    obtain ⟨T, x', rfl, hT, rfl, hy⟩ := hy
    have e2 := (hy vs h1).symm.trans h3
    cases e2
    exact ⟨Ext.new hT, sm.other (sm.fresh hT) hT, .tup upd_same (.cons (.int _) (.cons ((Ext.new hT).rd sm h4) .nil))⟩
  stop := fun ρ' S' H' x sm ok => by
    obtain ⟨vs, h1, h2⟩ := hq ρ' S' H' x sm ok
    exact ⟨vs, h1, by show vs.length ≤ (enumD 0 s.ds).length; rw [enumD_len, h2.length]; exact Nat.le_refl _⟩
theorem src_enumT {a : Addr} {s : Src} (hq : ∀ ρ' S' H', Ext ρ H ρ' H' → Sim g ρ' S' H' → s.ok S' → ∃ vs, SqT g.K H' a vs ∧ RDs g ρ' H' s.ds vs) : SrcR g ρ H ⟨enumD 0 s.ds, s.ok⟩ (IteT g.K a) where
  go := fun i d ρ' S' H' hd x sm ok => by
    obtain ⟨vs, h1, h2⟩ := hq ρ' S' H' x sm ok
    have hd' : (enumD 0 s.ds)[i]? = some d := hd
    rw [enumD_get, Nat.zero_add] at hd'
    obtain ⟨d0, e0, e1⟩ := Option.map_eq_some_iff.mp hd'
    subst e1
    obtain ⟨v, h3, h4⟩ := h2.get e0
    refine ⟨⟨vs, v, h1, h3⟩, fun y H2 hy => ?_⟩
    obtain ⟨T, x', rfl, hT, rfl, hy⟩ := hy
    have e2 := (hy vs h1).symm.trans h3
    cases e2
    exact ⟨Ext.new hT, sm.other (sm.fresh hT) hT, .tup upd_same (.cons (.int _) (.cons ((Ext.new hT).rd sm h4) .nil))⟩
  stop := fun ρ' S' H' x sm ok => by
    obtain ⟨vs, h1, h2⟩ := hq ρ' S' H' x sm ok
    exact ⟨vs, h1, by show vs.length ≤ (enumD 0 s.ds).length; rw [enumD_len, h2.length]; exact Nat.le_refl _⟩
end
section
variable {X : Cx} {e : Expr} {pos p tpos : Pos} {elts : List Expr} {kk : Nat}
theorem i_enum {m : MO} (h : SndO X e m) (hm : X.mg "enumerate" = none) (hg : Gl X "enumerate" := by rfl) (hs : starEach [e] X.env = [(false, eval e X.env)] := by rfl) (hs1 : starEach (e :: []) X.env = (false, eval e X.env) :: starEach [] X.env := by rfl) :
    SndI X (.Tuple elts kk tpos) (.Call (.Name "enumerate" p) [e] [] pos) (mEnum m) := pi_imp (pi_enumX hg hm (pa_cons h pa_nil hs1) hs) fun σ H R h => by
  obtain ⟨ρ, l, S, s, S', hs, hl, hm, q⟩ := h
  obtain ⟨⟨o, S1⟩, e1, hm⟩ := bind2 hm
  obtain ⟨s1, e2, hm⟩ := bind2 hm
  cases hm
  refine ⟨ρ, l, S, o, _, hs, hl, e1, fun ρ1 v H1 x1 sm r1 => ?_⟩
  obtain ⟨ok, a, ev, hq⟩ := seq_stays sm r1 e2
  subst ev
  rcases hq with hq | hq
  · obtain ⟨vs, h1, _⟩ := hq ρ1 S1 H1 Ext.refl sm ok
    exact ⟨a, rfl, .inl ⟨⟨vs, h1⟩, q ρ1 H1 _ x1 sm (src_enumL hq)⟩⟩
  · obtain ⟨vs, h1, _⟩ := hq ρ1 S1 H1 Ext.refl sm ok
    exact ⟨a, rfl, .inr ⟨⟨vs, h1⟩, q ρ1 H1 _ x1 sm (src_enumT hq)⟩⟩
end
def zipD : List D → List D → List D
  | d :: ds, e :: es => .tup [d, e] :: zipD ds es
  | _, _ => []
def isTup : O → Bool
  | .d (.tup _) => true
  | .d (.ktup _) => true
  | _ => false
def mZip (m m' : MO) : MI := fun l S => (m l S).bind fun p => (m' l p.2).bind fun r => if isTup p.1 = isTup r.1 then (srcO r.2 p.1).bind fun s => (srcO r.2 r.1).bind fun s' => some (⟨zipD s.ds s'.ds, fun S => s.ok S ∧ s'.ok S⟩, r.2) else none
def wipeD (l : Lo) : List Nat → Lo
  | [] => l
  | v :: vs => (wipeD l vs).set v none
theorem LocR.wipe {g : Wr} {ρ : List Addr} {H : Hp} {l : Lo} {σ : L2.St} (h : LocR g ρ H l σ) : ∀ vs : List Nat, LocR g ρ H (wipeD l vs) (wipe σ vs)
  | [] => h
  | v :: vs => (LocR.wipe h vs).setN
theorem wipe_get {σ : L2.St} {i : Nat} : ∀ {vs : List Nat}, i ∈ vs → i < σ.length → (wipe σ vs)[i]? = some none
  | [], h, _ => by simp at h
  | v :: vs, h, hl => by
    unfold L2.wipe
    by_cases hv : v = i
    · subst hv
      rw [List.getElem?_set_self (by rw [wipe_length]; exact hl)]
    · rw [List.getElem?_set_ne hv]
      exact wipe_get (by rcases List.mem_cons.mp h with z | z; exact absurd z.symm hv; exact z) hl
theorem wipe_get' {σ : L2.St} {i : Nat} : ∀ {vs : List Nat}, i ∉ vs → (wipe σ vs)[i]? = σ[i]?
  | [], _ => rfl
  | v :: vs, h => by
    rw [List.mem_cons, not_or] at h
    unfold L2.wipe
    rw [List.getElem?_set_ne (Ne.symm h.1)]
    exact wipe_get' h.2
theorem wipe_same {σ σ' : L2.St} {vs is : List Nat} (h : SameO is (wipe σ vs) σ') (hs : ∀ j ∈ is, j ∈ vs) : wipe σ' vs = wipe σ vs := by
  have hl : σ'.length = σ.length := h.1.trans (wipe_length _ _)
  refine List.ext_getElem? fun i => ?_
  by_cases hi : i ∈ vs
  · by_cases hlt : i < σ.length
    · rw [wipe_get hi hlt, wipe_get hi (by rw [hl]; exact hlt)]
    · rw [List.getElem?_eq_none (by rw [wipe_length, hl]; omega), List.getElem?_eq_none (by rw [wipe_length]; omega)]
  · rw [wipe_get' hi, h.2 i (fun z => hi (hs i z))]
open Classical in
noncomputable def compL (ok : Sto → Prop) (tg : MG) (c : MT) (elt : M) (l : Lo) : List D → Sto → Option (List D × Sto)
  | [], S => if ok S then some ([], S) else none
  | d :: ds, S => if ok S then (tg d l S).bind fun l1 => (c l1 S).bind fun b => if b.1 = true then (elt l1 b.2).bind fun r => (compL ok tg c elt l ds r.2).bind fun q => some (r.1 :: q.1, q.2) else compL ok tg c elt l ds b.2
    else none
noncomputable def mComp (src : MI) (vs : List Nat) (tg : MG) (c : MT) (elt : M) : MA := fun l S => (src l S).bind fun p => if p.1.ds.length ≤ 1000000 then compL p.1.ok tg c elt (wipeD l vs) p.1.ds p.2 else none
def mYes : MT := fun _ S => some (true, S)
def SndTs (X : Cx) (ifs : List Expr) (m : MT) : Prop := PTs X ifs (tMT (Cx.g X) m)
theorem ts_nil {X : Cx} : SndTs X [] mYes := ⟨fun pins s σ H Q I h => by
  obtain ⟨ρ, l, S, d, S', hs, hl, hm, q⟩ := h
  cases hm
  exact pts_nil.run pins s σ H Q I (q ρ H Ext.refl hs)⟩
theorem Ext.own {ρ ρ' : List Addr} {H H' : Hp} {p : Addr} {o : HO} (x : Ext ρ H ρ' H') (h : H p = none) : Ext ρ H ρ' (upd H' p o) :=
  ⟨x.pre, fun a u n e => ⟨by rw [upd_ne (ne_of_none e h)]; exact (x.fr a u n e).1, (x.fr a u n e).2⟩, fun a u w e => by rw [upd_ne (ne_of_none e h)]; exact x.fz a u w e⟩
theorem Sub.own {g : Wr} {ρ : List Addr} {H : Hp} {p : Addr} {o : HO} {vs : List V} (h : H p = some (.lst vs)) : Sub g ρ H ρ (upd H p o) := by
  have ne : ∀ a u, H a = some u → u ≠ .lst vs → a ≠ p := fun a u e q z => by
    rw [z, h] at e
    exact q (Option.some.inj e).symm
  refine ⟨⟨fun _ _ e => e, fun a xs e => ?_, fun a ns e => ?_, fun a xs e => by rw [upd_ne (ne a _ e (fun z => by cases z))]; exact e⟩, fun a x o e => by rw [upd_ne (ne a _ e (fun z => by cases z))]; exact e, fun a q e => by rw [upd_ne (ne a _ e (fun z => by unfold LamX.CodeO at z; cases z))]; exact e, fun a x e => by rw [upd_ne (ne a _ e (fun z => by cases z))]; exact e⟩
  · rcases e with (e | ⟨ob, e⟩) | e
    · exact .inl (.inl (by rw [upd_ne (ne a _ e (fun z => by cases z))]; exact e))
    · exact .inl (.inr ⟨ob, by rw [upd_ne (ne a _ e (fun z => by cases z))]; exact e⟩)
    · exact .inr e
  · rcases e with ⟨ob, e⟩ | e
    · exact .inl ⟨ob, by rw [upd_ne (ne a _ e (fun z => by cases z))]; exact e⟩
    · exact .inr e
theorem Sim.own {g : Wr} {ρ : List Addr} {S : Sto} {H : Hp} {p : Addr} {o : HO} {vs : List V} (s : Sim g ρ S H) (hn : p ∉ ρ) (h : H p = some (.lst vs)) : Sim g ρ S (L2.upd H p o) := by
  refine ⟨s.len, s.nd, fun n a c h1 h2 => ?_⟩
  obtain ⟨o', h3, h4⟩ := s.cell n a c h1 h2
  have ha : a ∈ ρ := List.mem_of_getElem? h1
  have hne : a ≠ p := fun z => hn (by rw [← z]; exact ha)
  exact ⟨o', by rw [upd_ne hne]; exact h3, h4.mono (Sub.own h)⟩
theorem comp_tLc {g : Wr} {src : MI} {vs is : List Nat} {tg : MG} {c : MT} {elt : M} (hsub : ∀ j ∈ is, j ∈ vs) {σ : L2.St} {H : Hp} {Q : VK} (h : tML g (mComp src vs tg c elt) σ H Q) : tLc (tMI g src) (tMG g is tg) (tMT g c) (tM g elt) vs σ H Q := by
  obtain ⟨ρ, l, S, ds, S', hs, hl, hm, q⟩ := h
  obtain ⟨⟨s, S1⟩, e1, hm⟩ := bind2 hm
  dsimp only at hm
  split at hm
  · rename_i hlen
    refine ⟨ρ, l, S, s, S1, hs, hl, e1, fun ρ1 H1 J x1 s1 sr D hD => ?_⟩
    have hD0 : H D = none := x1.back s1 hD
    refine ⟨fun i m Hi => ∃ ρi Si acc av rest, Ext ρ1 H1 ρi Hi ∧ Sim g ρi Si Hi ∧ D ∉ ρi ∧ Hi D = some (.lst av) ∧ RDs g ρi Hi acc av ∧ acc.length ≤ i ∧ m = (s.ds.drop i).length ∧ i ≤ s.ds.length ∧ compL s.ok tg c elt (wipeD l vs) (s.ds.drop i) Si = some (rest, S') ∧ ds = acc ++ rest,
      ⟨_, ρ1, S1, [], [], ds, Ext.new hD, s1.other (s1.fresh hD) hD, s1.fresh hD, upd_same, .nil, Nat.le_refl _, rfl, Nat.zero_le _, hm, rfl⟩, ?_⟩
    rintro i m Hi ⟨ρi, Si, acc, av, rest, xi, si, hDi, hDa, ra, hal, rfl, hle, hf, hds⟩
    have hloc : LocR g ρi Hi (wipeD l vs) (wipe σ vs) := (xi.loc s1 (x1.loc hs hl)).wipe vs
    cases hd : s.ds.drop i with
    | nil =>
      rw [hd] at hf
      simp only [compL] at hf
      split at hf
      · rename_i ok
        cases hf
        have hi : i = s.ds.length := Nat.le_antisymm hle (drop_nil' hd)
        subst hi
        rw [List.append_nil] at hds
        subst hds
        exact .inl ⟨sr.stop ρi _ Hi xi si ok, q ρi D av Hi (x1.trans xi) si hDa hDi hD0 ra⟩
      · cases hf
    | cons d rest' =>
      rw [hd] at hf
      simp only [compL] at hf
      split at hf
      · rename_i ok
        obtain ⟨l1, e2, hf⟩ := bind2 hf
        obtain ⟨⟨b, S2⟩, e3, hf⟩ := bind2 hf
        obtain ⟨hget, hdrop⟩ := drop_cons' hd
        obtain ⟨go, yl⟩ := sr.go i d ρi Si Hi hget xi si ok
        have hlt : i < s.ds.length := (List.getElem?_eq_some_iff.mp hget).1
        refine .inr ⟨go, fun H' => ∃ ρ' S'' acc' av' rr, Ext ρ1 H1 ρ' H' ∧ Sim g ρ' S'' H' ∧ D ∉ ρ' ∧ H' D = some (.lst av') ∧ RDs g ρ' H' acc' av' ∧ acc'.length ≤ i + 1 ∧ compL s.ok tg c elt (wipeD l vs) rest' S'' = some (rr, S') ∧ ds = acc' ++ rr, fun H' hN => ?_, fun x H' hy => ?_⟩
        · obtain ⟨ρ', S'', acc', av', rr, a1, a2, a3, a4, a5, a6, a7, a8⟩ := hN
          exact ⟨_, by rw [List.length_cons]; exact Nat.lt_succ_self _, ρ', S'', acc', av', rr, a1, a2, a3, a4, a5, a6, by rw [hdrop], hlt, by rw [hdrop]; exact a7, a8⟩
        · obtain ⟨b1, b2, b3⟩ := yl x H' hy
          obtain ⟨hDa', hDi'⟩ := b1.fr D _ hDi hDa
          refine ⟨ρi, wipeD l vs, Si, d, l1, b2, b1.loc si hloc, b3, e2, fun σ1 hl1 so1 => ⟨wipe_same so1 hsub, ?_⟩⟩
          refine ⟨ρi, l1, Si, b, S2, b2, hl1, e3, fun ρ2 H2 x2 s2 => ?_⟩
          obtain ⟨hDa2, hDi2⟩ := x2.fr D _ hDi' hDa'
          have ra2 := x2.rds b2 (b1.rds si ra)
          cases b with
          | true =>
            obtain ⟨⟨r, S3⟩, e4, hf⟩ := bind2 hf
            obtain ⟨⟨rr, S4⟩, e5, hf⟩ := bind2 hf
            cases hf
            refine ⟨ρ2, l1, S2, r, S3, s2, x2.loc b2 hl1, e4, fun ρ3 y H3 x3 s3 r3 => ?_⟩
            obtain ⟨hDa3, hDi3⟩ := x3.fr D _ hDi2 hDa2
            have ra3 := x3.rds s2 ra2
            have xx := ((xi.trans b1).trans x2).trans x3
            refine ⟨av, hDa3, le_line (k := 1000000) ?_ (by decide), ?_⟩
            · rw [← ra.length]
              show acc.length + 1 ≤ 1000000
              omega
            · have sb : Sub (g := g) (ρ := ρ3) (H := H3) ρ3 (upd H3 D (.lst (av ++ [y]))) := Sub.own hDa3
              exact ⟨ρ3, S3, acc ++ [r], av ++ [y], rr, xx.own hD, s3.own hDi3 hDa3, hDi3, upd_same, RDs.append (ra3.mono sb) (.cons (r3.mono sb) .nil), by rw [List.length_append]; show acc.length + 1 ≤ i + 1; omega, e5, by rw [hds, List.append_assoc]; rfl⟩
          | false => exact ⟨ρ2, S2, acc, av, rest, (xi.trans b1).trans x2, s2, hDi2, hDa2, ra2, Nat.le_succ_of_le hal, hf, hds⟩
      · cases hf
  · cases hm
section
variable {X : Cx} {pos : Pos} {elt tg iter : Expr} {ifs : List Expr} {scope : Scope} {own : List (Str × Nat)}
theorem l_comp {src : MI} {is : List Nat} {mg : MG} {c : MT} {m : M} (hc : X.calm = true) (hN : X.N.Nodup) (hi : SndI X tg iter src) (ok : BlkOk X.N X.env.scope scope own) (hsub : ∀ j ∈ is, j ∈ own.map (·.2))
    (hg : ∀ (s : Shared) (H : Hp) (C : Addr) (cl : List (Str × Addr)) (fp : List Addr), SndG (X.blk s H scope (compEnvC scope cl C X.env) fp) tg is mg) (ht : ∀ (s : Shared) (H : Hp) (C : Addr) (cl : List (Str × Addr)) (fp : List Addr), SndTs (X.blk s H scope (compEnvC scope cl C X.env) fp) ifs c)
    (he : ∀ (s : Shared) (H : Hp) (C : Addr) (cl : List (Str × Addr)) (fp : List Addr), Snd (X.blk s H scope (compEnvC scope cl C X.env) fp) elt m) (hs : ∀ x, foldedSetIterable iter X.env x = pure x := by intro _; rfl) :
    SndL X (.ListComp elt [⟨tg, iter, ifs, 0⟩] scope pos) (mComp src (own.map (·.2)) mg c m) := pe_imp (pe_lc (g := tMG (Cx.g X) is mg) (tt := tMT (Cx.g X) c) (te := tM (Cx.g X) m) hc hN hi ok hg ht he hs) fun σ H Q h => comp_tLc hsub h
/-- y = [..] -/
def mSetL (i : Nat) (m : MA) : MS := mSet i (mAlloc m)
end
end Zi
set_option maxRecDepth 100000
namespace Zi
open PySem PySem.Spec PyProof.Rows L2
section
variable {g : Wr} {ρ : List Addr} {S : Sto} {H H₀ : Hp}
/-- a list's items -/
def lisO (S : Sto) : O → Option (List D)
  | .n ds => some ds
  | .d (.sl ns) => some (ns.map D.int)
  | .d (.ref k) => match S[k]? with
    | some (.lst xs) => some xs
    | _ => none
  | .d _ => none
theorem lis_of (s : Sim g ρ S H) {o : O} {v : V} {ds : List D} (r : OR g ρ H H₀ o v) (h : lisO S o = some ds) : ∃ a vs, v = .ref a ∧ SqL g.K H a vs ∧ RDs g ρ H ds vs := by
  cases r with
  | n h1 h2 h3 h4 => cases h; exact ⟨_, _, rfl, SqL.of h1, h4⟩
  | d r =>
    cases r with
    | sl h1 => cases h; exact ⟨_, _, rfl, h1.sq, RDs.ints⟩
    | @ref k a e =>
      simp only [lisO] at h
      split at h
      · rename_i xs ec
        cases h
        obtain ⟨o, h1, h2⟩ := s.cell k a _ e ec
        cases h2 with
        | lst h2 => exact ⟨_, _, rfl, SqL.of h1, h2⟩
      · cases h
    | _ => cases h
theorem seq_of (s : Sim g ρ S H) {o : O} {v : V} {ds : List D} (r : OR g ρ H H₀ o v) (h : seqO S o = some ds) : ∃ a vs, v = .ref a ∧ (SqL g.K H a vs ∨ (SqT g.K H a vs ∧ ((o = .d (.tup ds) ∧ H a = some (.tup vs)) ∨ o = .d (.ktup ds)))) ∧ RDs g ρ H ds vs := by
  cases r with
  | n h1 h2 h3 h4 => cases h; exact ⟨_, _, rfl, .inl (SqL.of h1), h4⟩
  | d r =>
    cases r with
    | sl h1 => cases h; exact ⟨_, _, rfl, .inl h1.sq, RDs.ints⟩
    | tup h1 r1 => cases h; exact ⟨_, _, rfl, .inr ⟨.inl (.inl h1), .inl ⟨rfl, h1⟩⟩, r1⟩
    | ktup h1 r1 => cases h; exact ⟨_, _, rfl, .inr ⟨h1, .inr rfl⟩, r1⟩
    | @ref k a e =>
      simp only [seqO] at h
      split at h
      · rename_i xs ec
        cases h
        obtain ⟨o, h1, h2⟩ := s.cell k a _ e ec
        cases h2 with
        | lst h2 => exact ⟨_, _, rfl, .inl (SqL.of h1), h2⟩
      · cases h
    | _ => cases h
def allI : List D → Option (List Int)
  | [] => some []
  | .int i :: ds => (allI ds).bind fun r => some (i :: r)
  | _ :: _ => none
def allB : List D → Option (List Bool)
  | [] => some []
  | .bl i :: ds => (allB ds).bind fun r => some (i :: r)
  | _ :: _ => none
theorem allB_ok : ∀ {ds : List D} {vs : List V} {ns : List Bool}, RDs g ρ H ds vs → allB ds = some ns → vs = ns.map V.bl
  | _, _, _, .nil, h => by cases h; rfl
  | _, _, _, .cons r rs, h => by
    cases r <;> first
      | (obtain ⟨q, e1, h⟩ := bind2 h
         cases h
         rw [allB_ok rs e1]
         rfl)
      | cases h
end
/-- what a built-in makes of its argument -/
abbrev Fn1 := O → Sto → Option (D × Sto)
def Fn1Ok (g : Wr) (r : List V → Hp → VK → Prop) (f : Fn1) : Prop := ∀ ρ S H H₀ x v z S' Q, Sim g ρ S H → OR g ρ H H₀ x v → f x S = some (z, S') →
  (∀ ρ' w H', Ext ρ H ρ' H' → Sim g ρ' S' H' → RD g ρ' H' z w → Q w H') → r [v] H Q
def mFn1 (f : Fn1) (m : MO) : M := fun l S => (m l S).bind fun p => f p.1 p.2
theorem tFn1 {g : Wr} {r : List V → Hp → VK → Prop} {f : Fn1} {m : MO} (hf : Fn1Ok g r f) {σ : L2.St} {H : Hp} {Q : VK} (h : tM g (mFn1 f m) σ H Q) : tCB r (tCons (tMO g m) tNil) σ H Q := by
  obtain ⟨ρ, l, S, d, S', hs, hl, hm, q⟩ := h
  obtain ⟨⟨x, S1⟩, e1, hm⟩ := bind2 hm
  exact ⟨ρ, l, S, x, S1, hs, hl, e1, fun ρ1 v H1 x1 s1 r1 => hf ρ1 S1 H1 H x v d S' Q s1 r1 hm fun ρ2 w H2 x2 s2 r2 => q ρ2 w H2 (x1.trans x2) s2 r2⟩
section
variable {X : Cx} {x : Str} {p pos : Pos} {e : Expr} {id : String}
theorem s_callB {r : List V → Hp → VK → Prop} {f : Fn1} {m : MO} (hc : CallR X (.builtin id) r) (hf : Fn1Ok (Cx.g X) r f) (h : SndO X e m) (hm : X.mg x = none) (hv : bootBuiltins x = some (.builtin id)) (hg : Gl X x) (hn : x ≠ "__name__") (hdb : (x == ("__debug__" : Str)) = false)
    (he : starEach (e :: []) X.env = (false, eval e X.env) :: starEach [] X.env) : Snd X (.Call (.Name x p) [e] [] pos) (mFn1 f m) := pe_imp (pe_callB hc hg hm hv (pa_cons h pa_nil he) hn hdb he rfl) fun _ _ _ h => tFn1 hf h
theorem s_callT {r : List V → Hp → VK → Prop} {f : Fn1} {m : MO} (hc : CallR X (.type id) r) (hf : Fn1Ok (Cx.g X) r f) (h : SndO X e m) (hm : X.mg x = none) (hv : bootBuiltins x = some (.type id)) (hg : Gl X x) (hn : x ≠ "__name__") (hdb : (x == ("__debug__" : Str)) = false)
    (he : starEach (e :: []) X.env = (false, eval e X.env) :: starEach [] X.env) : Snd X (.Call (.Name x p) [e] [] pos) (mFn1 f m) := pe_imp (pe_callTy hc hg hm hv (pa_cons h pa_nil he) hn hdb he rfl) fun _ _ _ h => tFn1 hf h
/-- len -/
def lenO (S : Sto) : O → Option Nat
  | .d (.str z) => if z.length ≤ 1000000 then some z.length else none
  | o => (seqO S o).bind fun ds => some ds.length
def fLen : Fn1 := fun o S => (lenO S o).bind fun n => some (.int (n : Nat), S)
theorem len_ok {g : Wr} : Fn1Ok g (fun xs H Q => ∃ x n, xs = [x] ∧ LenV g.K x H n ∧ Q (.int n) H) fLen := fun ρ S H H₀ o v z S' Q s r h q => by
  obtain ⟨n, e0, h⟩ := bind2 h
  cases h
  have main : ∀ ds, seqO S o = some ds → n = ds.length → ∃ x n, [v] = [x] ∧ LenV g.K x H n ∧ Q (.int n) H := fun ds e1 e2 => by
    subst e2
    obtain ⟨a, vs, rfl, hq, rs⟩ := seq_of s r e1
    refine ⟨_, vs.length, rfl, ?_, q ρ _ H Ext.refl s (by rw [rs.length]; exact .int _)⟩
    rcases hq with hq | ⟨hq, _⟩
    · exact .inl ⟨_, hq, rfl⟩
    · exact .inr ⟨_, hq, rfl⟩
  have gen : (seqO S o).bind (fun ds => some ds.length) = some n → ∃ x n, [v] = [x] ∧ LenV g.K x H n ∧ Q (.int n) H := fun e => by
    obtain ⟨ds, e1, e2⟩ := bind2 e
    cases e2
    exact main ds e1 rfl
  cases r with
  | n h1 h2 h3 h4 => exact gen e0
  | d r =>
    cases r with
    | str w =>
      simp only [lenO] at e0
      split at e0
      · rename_i hz
        cases e0
        exact ⟨_, w.length, rfl, ⟨le_line hz (by decide), rfl⟩, q ρ _ H Ext.refl s (.int _)⟩
      · cases e0
    | _ => exact gen e0
theorem s_len {m : MO} (h : SndO X e m) (hm : X.mg "len" = none) (hg : Gl X "len" := by rfl) (he : starEach (e :: []) X.env = (false, eval e X.env) :: starEach [] X.env := by rfl) : Snd X (.Call (.Name "len" p) [e] [] pos) (mFn1 fLen m) := s_callB call_len len_ok h hm PySem.boot_len hg (by decide) (by decide) he
/-- int(n) -/
def fInt : Fn1 := fun o S => match o with
  | .d (.int i) => some (.int i, S)
  | .d (.bl b) => some (.int (if b then 1 else 0), S)
  | _ => none
theorem int_ok {g : Wr} : Fn1Ok g (fun xs H Q => (∃ i, xs = [.int i] ∧ Q (.int i) H) ∨ ∃ k, xs = [.bl k] ∧ Q (.int (if k then 1 else 0)) H) fInt := fun ρ S H H₀ o v z S' Q s r h q => by
  cases r with
  | n => cases h
  | d r =>
    cases r with
    | int i => cases h; exact .inl ⟨i, rfl, q ρ _ H Ext.refl s (.int _)⟩
    | bl b => cases h; exact .inr ⟨b, rfl, q ρ _ H Ext.refl s (.int _)⟩
    | _ => cases h
theorem s_intc {m : MO} (h : SndO X e m) (hm : X.mg "int" = none) (hg : Gl X "int" := by rfl) (he : starEach (e :: []) X.env = (false, eval e X.env) :: starEach [] X.env := by rfl) : Snd X (.Call (.Name "int" p) [e] [] pos) (mFn1 fInt m) := s_callT call_int1 int_ok h hm PyProof.Rows.boot_int hg (by decide) (by decide) he
/-- str(n) -/
def fStr : Fn1 := fun o S => match o with
  | .d (.int i) => if i.natAbs < 2 ^ 1000 then some (.str (toString i), S) else none
  | _ => none
theorem str_ok {g : Wr} : Fn1Ok g (fun xs H Q => ∃ i : Int, xs = [.int i] ∧ i.natAbs.log2 < 1920 ∧ Q (.str (toString i)) H) fStr := fun ρ S H H₀ o v z S' Q s r h q => by
  cases r with
  | n => cases h
  | d r =>
    cases r with
    | int i =>
      simp only [fStr] at h
      split at h
      · rename_i hz
        cases h
        exact ⟨i, rfl, Nat.lt_of_lt_of_le (PySem.Flt.log2_lt_of (by decide) hz) (by decide), q ρ _ H Ext.refl s (.str _)⟩
      · cases h
    | _ => cases h
theorem s_strc {m : MO} (h : SndO X e m) (hm : X.mg "str" = none) (hg : Gl X "str" := by rfl) (he : starEach (e :: []) X.env = (false, eval e X.env) :: starEach [] X.env := by rfl) : Snd X (.Call (.Name "str" p) [e] [] pos) (mFn1 fStr m) := s_callT call_str_int str_ok h hm PyProof.Rows.boot_str hg (by decide) (by decide) he
/-- tuple(list or tuple) -/
def fTupc : Fn1 := fun o S => match o with
  | .d (.ktup ds) => some (.ktup ds, S)
  | o => (seqO S o).bind fun ds => some (.tup ds, S)
theorem tupc_ok {g : Wr} : Fn1Ok g (fun xs H Q => ∃ p ys, xs = [.ref p] ∧ ((SqL g.K H p ys ∧ ∀ l, H l = none → Q (.ref l) (upd H l (.tup ys))) ∨ (SqT g.K H p ys ∧ Q (.ref p) H))) fTupc := fun ρ S H H₀ o v z S' Q s r h q => by
  have gen : (seqO S o).bind (fun ds => some (D.tup ds, S)) = some (z, S') → (∀ ds, o ≠ .d (.ktup ds)) → ∃ p ys, [v] = [V.ref p] ∧ ((SqL g.K H p ys ∧ ∀ l, H l = none → Q (.ref l) (upd H l (.tup ys))) ∨ (SqT g.K H p ys ∧ Q (.ref p) H)) := fun h hk => by
    obtain ⟨ds, e1, h⟩ := bind2 h
    cases h
    obtain ⟨a, vs, rfl, hq, rs⟩ := seq_of s r e1
    rcases hq with hq | ⟨hq, ⟨ho, hh⟩ | ho⟩
    · exact ⟨a, vs, rfl, .inl ⟨hq, fun l hl => q ρ _ _ (Ext.new hl) (s.other (s.fresh hl) hl) (.tup upd_same ((Ext.new hl).rds s rs))⟩⟩
    · exact ⟨a, vs, rfl, .inr ⟨hq, q ρ _ H Ext.refl s (.tup hh rs)⟩⟩
    · exact absurd ho (hk _)
  unfold fTupc at h
  split at h
  · cases h
    cases r with
    | d r =>
      cases r with
      | ktup hq rs => exact ⟨_, _, rfl, .inr ⟨hq, q ρ _ H Ext.refl s (.ktup hq rs)⟩⟩
  · rename_i hk
    exact gen h (fun ds e => hk ds e)
theorem s_tupc {m : MO} (h : SndO X e m) (hm : X.mg "tuple" = none) (hg : Gl X "tuple" := by rfl) (he : starEach (e :: []) X.env = (false, eval e X.env) :: starEach [] X.env := by rfl) : Snd X (.Call (.Name "tuple" p) [e] [] pos) (mFn1 fTupc m) := s_callT call_tuple_of tupc_ok h hm PyProof.Rows.boot_tuple hg (by decide) (by decide) he
/-- list(list or tuple): a new list -/
def mLisc (m : MO) : MA := fun l S => (m l S).bind fun p => (seqO p.2 p.1).bind fun ds => some (ds, p.2)
theorem l_lisc {m : MO} (h : SndO X e m) (hm : X.mg "list" = none) (hg : Gl X "list" := by rfl) (he : starEach (e :: []) X.env = (false, eval e X.env) :: starEach [] X.env := by rfl) : SndL X (.Call (.Name "list" p) [e] [] pos) (mLisc m) :=
  pe_imp (pe_callTy call_list_of hg hm PyProof.Rows.boot_list (pa_cons h pa_nil he) (by decide) (by decide) he rfl) fun σ H Q h => by
  obtain ⟨ρ, l, S, d, S', hs, hl, hm, q⟩ := h
  obtain ⟨⟨x, S1⟩, e1, hm⟩ := bind2 hm
  obtain ⟨ds, e2, hm⟩ := bind2 hm
  cases hm
  refine ⟨ρ, l, S, x, _, hs, hl, e1, fun ρ1 v H1 x1 s1 r1 => ?_⟩
  obtain ⟨a, vs, rfl, hq, rs⟩ := seq_of s1 r1 e2
  exact ⟨a, vs, rfl, hq.imp id (·.1), fun p hp => q ρ1 p vs _ (x1.trans (Ext.new hp)) (s1.other (s1.fresh hp) hp) upd_same (s1.fresh hp) (x1.back s1 hp) ((Ext.new hp).rds s1 rs)⟩
/-- sum, all, any, max of a list -/
def fSum : Fn1 := fun o S => (lisO S o).bind fun ds => (allI ds).bind fun ns => some (.int ns.sum, S)
def fAll : Fn1 := fun o S => (lisO S o).bind fun ds => (allB ds).bind fun bs => some (.bl (bs.all _root_.id), S)
theorem all_ok {g : Wr} : Fn1Ok g (rAll g.K) fAll := fun ρ S H H₀ o v z S' Q s r h q => by
  obtain ⟨ds, e1, h⟩ := bind2 h
  obtain ⟨ns, e2, h⟩ := bind2 h
  cases h
  obtain ⟨a, vs, rfl, hq, rs⟩ := lis_of s r e1
  have e := allB_ok rs e2
  subst e
  exact ⟨a, ns, rfl, hq, q ρ _ H Ext.refl s (.bl _)⟩
def fAny : Fn1 := fun o S => (lisO S o).bind fun ds => (allB ds).bind fun bs => some (.bl (bs.any _root_.id), S)
def maxI (i : Int) (ns : List Int) : Int := ns.foldl max i
theorem maxI_ge : ∀ (ns : List Int) (i : Int), i ≤ maxI i ns ∧ (∀ y ∈ ns, y ≤ maxI i ns) ∧ (maxI i ns = i ∨ maxI i ns ∈ ns)
  | [], i => ⟨Int.le_refl _, fun _ h => by simp at h, .inl rfl⟩
  | n :: ns, i => by
    obtain ⟨h1, h2, h3⟩ := maxI_ge ns (max i n)
    have e : maxI i (n :: ns) = maxI (max i n) ns := rfl
    rw [e]
    have a1 : i ≤ max i n := Int.le_max_left ..
    have a2 : n ≤ max i n := Int.le_max_right ..
    refine ⟨Int.le_trans a1 h1, fun y hy => ?_, ?_⟩
    · rcases List.mem_cons.mp hy with z | z
      · rw [z]; exact Int.le_trans a2 h1
      · exact h2 y z
    · rcases h3 with h3 | h3
      · by_cases hc : i ≤ n
        · exact .inr (by rw [h3, show max i n = n by omega]; exact List.mem_cons_self)
        · exact .inl (by rw [h3]; omega)
      · exact .inr (List.mem_cons_of_mem _ h3)
def fMax : Fn1 := fun o S => (lisO S o).bind fun ds => (allI ds).bind fun ns => match ns with
  | n :: r => some (.int (maxI n r), S)
  | [] => none
theorem boot_all' : bootBuiltins "all" = some (.builtin "all") := by decide +kernel
theorem boot_isi' : bootBuiltins "isinstance" = some (.builtin "isinstance") := by decide +kernel
theorem s_all {m : MO} (hc : X.calm = true) (h : SndO X e m) (hm : X.mg "all" = none) (hg : Gl X "all" := by rfl) (he : starEach (e :: []) X.env = (false, eval e X.env) :: starEach [] X.env := by rfl) : Snd X (.Call (.Name "all" p) [e] [] pos) (mFn1 fAll m) := s_callB (cr_all hc) all_ok h hm boot_all' hg (by decide) (by decide) he
end
section
variable {X : Cx} {p pos : Pos} {a b c : Expr} {ma mb mc : M}
def mMax2 (a b : M) : M := fun l S => (a l S).bind fun p => (b l p.2).bind fun q => match p.1, q.1 with
  | .int i, .int j => some (.int (max i j), q.2)
  | _, _ => none
end
def tyNames : List String := ["NoneType", "bool", "int", "str", "tuple", "list", "dict"]
def isTyB (t T : String) : Bool := decide (t = T) || (decide (t = "bool") && decide (T = "int"))
theorem kit_all : (tyNames.all fun t => tyNames.all fun T => decide (kitB t T = some (isTyB t T))) = true := by decide +kernel
theorem kit_at {t T : String} (h1 : t ∈ tyNames) (h2 : T ∈ tyNames) : kitB t T = some (isTyB t T) := of_decide_eq_true (List.all_eq_true.mp (List.all_eq_true.mp kit_all t h1) T h2)
def tyO (S : Sto) : O → Option String
  | .n _ => some "list"
  | .d .non => some "NoneType"
  | .d (.bl _) => some "bool"
  | .d (.int _) => some "int"
  | .d (.str _) => some "str"
  | .d (.tup _) => some "tuple"
  | .d (.ktup _) => some "tuple"
  | .d (.sl _) => some "list"
  | .d (.ref k) => match S[k]? with
    | some (.lst _) => some "list"
    | some (.dK _) => some "dict"
    | some (.dT _) => some "dict"
    | some (.lk _) => some "dict"
    | _ => none
  | .d (.fn _) => none
theorem tyO_ok {g : Wr} {ρ : List Addr} {S : Sto} {H H₀ : Hp} (s : Sim g ρ S H) {o : O} {v : V} {t : String} (r : OR g ρ H H₀ o v) (h : tyO S o = some t) : TyX g.K H v (.type t) ∧ t ∈ tyNames := by
  cases r with
  | n h1 h2 h3 h4 => cases h; exact ⟨.base (.lst h1), by decide⟩
  | d r =>
    cases r with
    | non => cases h; exact ⟨.base .non, by decide⟩
    | bl b => cases h; exact ⟨.base (.bl b), by decide⟩
    | int b => cases h; exact ⟨.base (.int b), by decide⟩
    | str b => cases h; exact ⟨.base (.str b), by decide⟩
    | tup h1 r1 => cases h; exact ⟨.base (.tup h1), by decide⟩
    | ktup h1 r1 =>
      cases h
      refine ⟨?_, by decide⟩
      rcases h1 with (h1 | ⟨o, h1⟩) | ⟨o, its, n, h1, h2, _⟩
      · exact .base (.tup h1)
      · exact .fTuple h1
      · exact .kTuple h1 h2
    | sl h1 =>
      cases h
      refine ⟨?_, by decide⟩
      rcases h1 with ⟨o, h1⟩ | ⟨o, its, n, h1, h2, _⟩
      · exact .base (.frz h1)
      · exact .kList h1 h2
    | @ref k a e =>
      cases ec : S[k]? with
      | none => simp only [tyO, ec] at h; cases h
      | some c =>
        obtain ⟨ob, h1, h2⟩ := s.cell k a _ e ec
        cases h2 with
        | lst h2 => simp only [tyO, ec] at h; cases h; exact ⟨.base (.lst h1), by decide⟩
        | dK h2 => simp only [tyO, ec] at h; cases h; exact ⟨.base (.dK h1), by decide⟩
        | dT h2 => simp only [tyO, ec] at h; cases h; exact ⟨.base (.dT h1), by decide⟩
        | lk h2 => simp only [tyO, ec] at h; cases h; exact ⟨.fDict h1, by decide⟩
        | _ => simp only [tyO, ec] at h; cases h
    | fn e => cases h
section
variable {X : Cx} {p pos p2 : Pos} {e : Expr}
def mIsI (T : String) (m : MO) : M := fun l S => (m l S).bind fun p => (tyO p.2 p.1).bind fun t => some (.bl (isTyB t T), p.2)
theorem s_isi (T : String) {x : Str} {m : MO} (h : SndO X e m) (hm : X.mg "isinstance" = none) (hT : X.mg x = none) (hb : bootBuiltins x = some (.type T) := by decide +kernel) (hin : T ∈ tyNames := by decide) (hg : Gl X "isinstance" := by rfl) (hgx : Gl X x := by rfl) (hn : x ≠ "__name__" := by decide) (hd : (x == ("__debug__" : Str)) = false := by decide)
    (he : starEach (e :: [.Name x p2]) X.env = (false, eval e X.env) :: starEach [.Name x p2] X.env := by rfl) (he2 : starEach (.Name x p2 :: []) X.env = (false, eval (.Name x p2) X.env) :: starEach [] X.env := by rfl) (hpl : (backTo pos (starEach [.Name x p2] X.env)).any (·.1) = false := by rfl) :
    Snd X (.Call (.Name "isinstance" p) [e, .Name x p2] [] pos) (mIsI T m) := pe_imp (pe_callB call_isi hg hm boot_isi' (pa_cons h (pa_cons (pe_bltn (v := .ty T) hgx hT hb rfl hn hd) pa_nil he2) he) (by decide) (by decide) he hpl) fun σ H Q h => by
  obtain ⟨ρ, l, S, d, S', hs, hl, hm, q⟩ := h
  obtain ⟨⟨x, S1⟩, e1, hm⟩ := bind2 hm
  obtain ⟨t, e2, hm⟩ := bind2 hm
  cases hm
  refine ⟨ρ, l, S, x, _, hs, hl, e1, fun ρ1 v H1 x1 s1 r1 => ?_⟩
  obtain ⟨h1, h2⟩ := tyO_ok s1 r1 e2
  exact ⟨v, .ty T, .type t, .type T, isTyB t T, rfl, .ty T, h1, kit_ty (kit_at h2 hin), q ρ1 _ H1 x1 s1 (.bl _)⟩
end
section
variable {X : Cx} {pos apos : Pos} {o e : Expr} {mo me : M}
/-- o.append(e) -/
def mApp (o e : M) : M := fun l S => (o l S).bind fun p => match p.1 with
  | .ref k => match p.2[k]? with
    | some (.lst _) => (e l p.2).bind fun r => match r.2[k]? with
      | some (.lst xs) => if xs.length < 1000000 then some (.non, r.2.set k (.lst (xs ++ [r.1]))) else none
      | _ => none
    | _ => none
  | _ => none
theorem s_app (ho : Snd X o mo) (he : Snd X e me) (hbase : attributeBase o "append" X.env (eval o X.env) = eval o X.env := by rfl)
    (hfew : ((backTo pos (starEach [e] X.env)).all (fun x => !x.1) && (backToKw pos (keywordEach [] X.env)).all (fun x => x.1.isSome) && decide (([e] : List Expr).length + ([] : List Keyword).length + (if ([] : List Keyword).isEmpty then 0 else 1) < 30)) = true := by rfl)
    (hline : (apos.endLine == pos.line) = true := by rfl) (hs : starEach (e :: []) X.env = (false, eval e X.env) :: starEach [] X.env := by rfl) : Snd X (.Call (.Attribute o "append" apos) [e] [] pos) (mApp mo me) :=
  pe_imp (pe_bm PySem.F.plainAttrs_list PySem.F.slot_list_append PySem.F.type_list_append mt_append ho (pa_cons he pa_nil hs) hbase hfew hline hs rfl) fun σ H Q h => by
  obtain ⟨ρ, l, S, d, S', hs, hl, hm, q⟩ := h
  obtain ⟨⟨x, S1⟩, e1, hm⟩ := bind2 hm
  refine ⟨ρ, l, S, x, S1, hs, hl, e1, fun ρ1 v H1 x1 s1 r1 => ?_⟩
  cases r1 with
  | @ref k a ek =>
    dsimp only at hm
    split at hm
    · rename_i ys ec
      obtain ⟨ob, h1, h2⟩ := s1.cell k a _ ek ec
      cases h2 with
      | lst h2 =>
        obtain ⟨⟨y, S2⟩, e2, hm⟩ := bind2 hm
        refine ⟨.inl ⟨rfl, _, SqL.of h1⟩, ρ1, l, S1, y, S2, s1, x1.loc hs hl, e2, fun ρ2 u H2 x2 s2 r2 => ?_⟩
        dsimp only at hm
        split at hm
        · rename_i xs ec2
          split at hm
          · rename_i hz
            cases hm
            have ek2 := x2.pre _ _ ek
            obtain ⟨ob2, h3, h4⟩ := s2.cell k a _ ek2 ec2
            cases h4 with
            | lst h4 =>
              obtain ⟨x3, s3⟩ := s2.upd (c := .lst (xs ++ [y])) ek2 ec2 rfl (.lst (RDs.append h4 (.cons r2 .nil)))
              refine ⟨a, _, u, rfl, rfl, h3, ?_, q ρ2 _ _ ((x1.trans x2).trans x3) s3 .non⟩
              rw [sizeLine_eq, ← h4.length]
              omega
          · cases hm
        · cases hm
    · cases hm
  | _ => cases hm
/-- o.reverse() -/
def mRevM (o : M) : M := fun l S => (o l S).bind fun p => match p.1 with
  | .ref k => match p.2[k]? with
    | some (.lst xs) => some (.non, p.2.set k (.lst xs.reverse))
    | _ => none
  | _ => none
/-- o.pop() -/
def mPop (o : M) : M := fun l S => (o l S).bind fun p => match p.1 with
  | .ref k => match p.2[k]? with
    | some (.lst xs) => (xs[xs.length - 1]?).bind fun d => some (d, p.2.set k (.lst xs.dropLast))
    | _ => none
  | _ => none
/-- o[i] = e, o a list -/
def setF (o i v : D) (S : Sto) : Option Sto := match o, i with
  | .ref k, .int j => match S[k]? with
    | some (.lst xs) => (ixN xs.length j).bind fun n => some (S.set k (.lst (xs.set n v)))
    | _ => none
  | _, _ => none
def mSetI (o i e : M) : MS := fun l S => (e l S).bind fun p => (o l p.2).bind fun q => (i l q.2).bind fun r => (setF q.1 r.1 p.1 r.2).bind fun S3 => some (.nx l, S3)
end
/-- what the program's functions give: by name, arguments, store -/
abbrev GF := Nat → List D → Sto → Option (D × Sto)
mutual
/-- no place of the store from n on -/
def refLt (n : Nat) : D → Bool
  | .ref k => decide (k < n)
  | .tup xs => refLtL n xs
  | .ktup xs => refLtL n xs
  | _ => true
def refLtL (n : Nat) : List D → Bool
  | [] => true
  | d :: ds => refLt n d && refLtL n ds
end
def cellLt (n : Nat) : Cell → Bool
  | .lst xs => refLtL n xs
  | .dK kvs => refLtL n (kvs.map (·.2))
  | .dT kvs => refLtL n (kvs.map (·.2))
  | .lk kvs => refLtL n (kvs.map (·.2))
  | .lkT kvs => refLtL n (kvs.map (·.2))
  | .lamb _ d l => !l || refLt n d
  | .tab _ => true
  | .ins _ fs => refLtL n (fs.map (·.2))
  | .dN kvs => refLtL n (kvs.map (·.2))
  | .lkN kvs => refLtL n (kvs.map (·.2))
open Classical in
/-- what a call leaves of its own: nothing, or the one list or dict that it hands back -/
noncomputable def fin (S : Sto) (p : D × Sto) : D × Sto :=
  if p.2.take S.length = S then
    if refLt S.length p.1 = true then (p.1, S) else
    match p.1 with
    | .ref k => match p.2[k]? with
      | some c => if cellLt S.length c = true then (.ref S.length, S ++ [c]) else p
      | none => p
    | _ => p
  else p
section
variable {g : Wr} {ρ ρ0 : List Addr} {H : Hp} {n : Nat}
mutual
theorem RD.cut (hn : ∀ (k : Nat) (a : Addr), k < n → ρ[k]? = some a → ρ0[k]? = some a) : ∀ {d : D} {v : V}, RD g ρ H d v → refLt n d = true → RD g ρ0 H d v
  | _, _, .non, _ => .non
  | _, _, .bl b, _ => .bl b
  | _, _, .int i, _ => .int i
  | _, _, .str x, _ => .str x
  | _, _, .tup h hs, e => .tup h (RDs.cutN hn hs (by simpa [refLt] using e))
  | _, _, .ktup h hs, e => .ktup h (RDs.cutN hn hs (by simpa [refLt] using e))
  | _, _, .sl h, _ => .sl h
  | _, _, .ref h, e => .ref (hn _ _ (by simpa [refLt] using e) h)
  | _, _, .fn h, _ => .fn h
theorem RDs.cutN (hn : ∀ (k : Nat) (a : Addr), k < n → ρ[k]? = some a → ρ0[k]? = some a) : ∀ {ds : List D} {vs : List V}, RDs g ρ H ds vs → refLtL n ds = true → RDs g ρ0 H ds vs
  | _, _, .nil, _ => .nil
  | _, _, .cons h hs, e => by
    have e' := Bool.and_eq_true_iff.mp (show (refLt n _ && refLtL n _) = true by simpa [refLtL] using e)
    exact .cons (RD.cut hn h e'.1) (RDs.cutN hn hs e'.2)
end
theorem RDk.cutN {κ : Type} (hn : ∀ (k : Nat) (a : Addr), k < n → ρ[k]? = some a → ρ0[k]? = some a) : ∀ {ds : List (κ × D)} {vs : List (κ × V)}, RDk g ρ H ds vs → refLtL n (ds.map (·.2)) = true → RDk g ρ0 H ds vs
  | _, _, .nil, _ => .nil
  | _, _, .cons h hs, e => by
    have e' := Bool.and_eq_true_iff.mp (show (refLt n _ && refLtL n _) = true by simpa [refLtL] using e)
    exact .cons (h.cut hn e'.1) (RDk.cutN hn hs e'.2)
theorem CellR.cut (hn : ∀ (k : Nat) (a : Addr), k < n → ρ[k]? = some a → ρ0[k]? = some a) {a : Addr} {c : Cell} {o : HO} (h : CellR g ρ H a c o) (e : cellLt n c = true) : CellR g ρ0 H a c o := by
  cases h with
  | lst h => exact .lst (h.cutN hn e)
  | dK h => exact .dK (h.cutN hn e)
  | dT h => exact .dT (h.cutN hn e)
  | lk h => exact .lk (h.cutN hn e)
  | lkT h => exact .lkT (h.cutN hn e)
  | lamb h1 h2 => exact .lamb h1 fun z => let ⟨oc, u, v, a1, a2, a3, a4⟩ := h2 z; ⟨oc, u, v, a1, a2, a3, a4.cut hn (by simpa [cellLt, z] using e)⟩
  | tab h1 h2 h3 => exact .tab h1 h2 h3
  | ins h1 h2 h3 => exact .ins h1 h2 (h3.cutN hn e)
  | dN h1 h2 h3 h4 => exact .dN (h1.cutN hn e) h2 h3 h4
  | lkN h1 h2 h3 h4 => exact .lkN (h1.cutN hn e) h2 h3 h4
/-- what a call leaves is held, too -/
theorem fin_ok {S S' : Sto} {H0 : Hp} {d : D} {v : V} (s0 : Sim g ρ0 S H0) (x : Ext ρ0 H0 ρ H) (s : Sim g ρ S' H) (r : RD g ρ H d v) : ∃ ρ', Ext ρ0 H0 ρ' H ∧ Sim g ρ' (fin S (d, S')).2 H ∧ RD g ρ' H (fin S (d, S')).1 v := by
  have same : ∃ ρ', Ext ρ0 H0 ρ' H ∧ Sim g ρ' S' H ∧ RD g ρ' H d v := ⟨ρ, x, s, r⟩
  by_cases hS : S'.take S.length = S
  · have hle : S.length ≤ S'.length := by
      have := congrArg List.length hS
      rw [List.length_take] at this
      omega
    have hpre : ∀ (k : Nat) (a : Addr), k < S.length → ρ[k]? = some a → ρ0[k]? = some a := fun k a hk e => by
      have hk0 : k < ρ0.length := by rw [s0.len]; exact hk
      have e0 := x.pre k ρ0[k] (List.getElem?_eq_getElem hk0)
      rw [e] at e0
      cases e0
      exact List.getElem?_eq_getElem hk0
    have hcell : ∀ (k : Nat) (c : Cell), S[k]? = some c → S'[k]? = some c := fun k c e => by
      have hk : k < S.length := (List.getElem?_eq_some_iff.mp e).1
      rw [← hS, List.getElem?_take_of_lt hk] at e
      exact e
    -- the store's places alone
    have sub0 : ∀ a, a ∈ ρ0 → a ∈ ρ := fun a ha => by
      obtain ⟨k, hk, e⟩ := List.mem_iff_getElem.mp ha
      exact List.mem_of_getElem? (x.pre k a (by rw [List.getElem?_eq_getElem hk, e]))
    have x0 : Ext ρ0 H0 ρ0 H := ⟨fun _ _ e => e, fun a o n e => ⟨(x.fr a o n e).1, n⟩, x.fz⟩
    have cellOf : ∀ (k : Nat) (a : Addr) (c : Cell), ρ0[k]? = some a → S[k]? = some c → ∃ o, H a = some o ∧ CellR g ρ0 H a c o := fun k a c e1 e2 => by
      obtain ⟨o, h1, h2⟩ := s.cell k a c (x.pre k a e1) (hcell k c e2)
      obtain ⟨o0, h3, h4⟩ := s0.cell k a c e1 e2
      -- the cell's own references lie in the old store
      have lt : cellLt S.length c = true := by
        have go : ∀ {d : D} {v : V}, RD g ρ0 H0 d v → refLt S.length d = true := by
          intro d v r
          exact RD.rec (motive_1 := fun d v _ => refLt S.length d = true) (motive_2 := fun ds vs _ => refLtL S.length ds = true)
            (by simp [refLt]) (fun _ => by simp [refLt]) (fun _ => by simp [refLt]) (fun _ => by simp [refLt]) (fun _ _ ih => by simp [refLt, ih]) (fun _ => by simp [refLt])
            (fun {n a} e => by
              have := (List.getElem?_eq_some_iff.mp e).1
              simp [refLt, ← s0.len, this]) (fun _ => by simp [refLt]) (fun _ _ ih => by simp [refLt, ih]) (by simp [refLtL]) (fun _ _ i1 i2 => by simp [refLtL, i1, i2]) r
        have gos : ∀ {ds : List D} {vs : List V}, RDs g ρ0 H0 ds vs → refLtL S.length ds = true := by
          intro ds
          induction ds with
          | nil => intro vs _; simp [refLtL]
          | cons d ds ih =>
            intro vs r
            cases r with
            | cons r1 r2 => simp [refLtL, go r1, ih r2]
        have gok : ∀ {κ : Type} {ds : List (κ × D)} {vs : List (κ × V)}, RDk g ρ0 H0 ds vs → refLtL S.length (ds.map (·.2)) = true := by
          intro κ ds
          induction ds with
          | nil => intro vs _; simp [refLtL]
          | cons d ds ih =>
            intro vs r
            cases r with
            | cons r1 r2 => simp [refLtL, go r1, ih r2]
        cases h4 with
        | lst h4 => exact gos h4
        | dK h4 => exact gok h4
        | dT h4 => exact gok h4
        | lk h4 => exact gok h4
        | lkT h4 => exact gok h4
        | @lamb _ _ _ _ lv _ h4 =>
          cases lv with
          | false => rfl
          | true =>
            obtain ⟨_, _, _, _, _, _, h5⟩ := h4 rfl
            simp [cellLt, go h5]
        | tab _ _ _ => rfl
        | ins _ _ h4 => exact gok h4
        | dN h4 _ _ _ => exact gok h4
        | lkN h4 _ _ _ => exact gok h4
      exact ⟨o, h1, h2.cut hpre lt⟩
    have sim0 : Sim g ρ0 S H := ⟨s0.len, s0.nd, cellOf⟩
    by_cases hr : refLt S.length d = true
    · have e : fin S (d, S') = (d, S) := by unfold fin; dsimp only; rw [if_pos hS, if_pos hr]
      rw [e]
      exact ⟨ρ0, x0, sim0, r.cut hpre hr⟩
    · cases r with
      | @ref k a ek =>
        cases ec : S'[k]? with
        | none =>
          have e : fin S (.ref k, S') = (.ref k, S') := by unfold fin; dsimp only; rw [if_pos hS, if_neg hr]; simp only [ec]
          rw [e]
          exact same
        | some c =>
          by_cases hc : cellLt S.length c = true
          · have e : fin S (.ref k, S') = (.ref S.length, S ++ [c]) := by unfold fin; dsimp only; rw [if_pos hS, if_neg hr]; simp only [ec]; rw [if_pos hc]
            rw [e]
            have hk : ¬ k < S.length := by simpa [refLt] using hr
            have ha0 : a ∉ ρ0 := fun z => by
              obtain ⟨j, hj, ej⟩ := List.mem_iff_getElem.mp z
              have e1 := x.pre j a (by rw [List.getElem?_eq_getElem hj, ej])
              obtain ⟨l1, f1⟩ := List.getElem?_eq_some_iff.mp e1
              obtain ⟨l2, f2⟩ := List.getElem?_eq_some_iff.mp ek
              have : j = k := (List.getElem_inj s.nd).mp (f1.trans f2.symm)
              rw [← this, ← s0.len] at hk
              exact hk hj
            obtain ⟨o, h1, h2⟩ := s.cell k a c ek ec
            have hfresh : H0 a = none := by
              cases e0 : H0 a with
              | none => rfl
              | some u => exact absurd (List.mem_of_getElem? ek) (x.fr a u ha0 e0).2
            refine ⟨ρ0 ++ [a], x0.take_in hfresh, sim0.take_in h1 ha0 (h2.cut hpre hc), .ref ?_⟩
            rw [← s0.len, List.getElem?_append_right (Nat.le_refl _), Nat.sub_self]
            rfl
          · have e : fin S (.ref k, S') = (.ref k, S') := by unfold fin; dsimp only; rw [if_pos hS, if_neg hr]; simp only [ec]; rw [if_neg hc]
            rw [e]
            exact same
      | @tup ds a vs h1 r1 =>
        have e : fin S (.tup ds, S') = (.tup ds, S') := by unfold fin; dsimp only; rw [if_pos hS, if_neg hr]
        rw [e]
        exact same
      | @ktup ds a vs h1 r1 =>
        have e : fin S (.ktup ds, S') = (.ktup ds, S') := by unfold fin; dsimp only; rw [if_pos hS, if_neg hr]
        rw [e]
        exact same
      | _ => exact absurd (by simp [refLt]) hr
  · have e : fin S (d, S') = (d, S') := by unfold fin; dsimp only; rw [if_neg hS]
    rw [e]
    exact same
end
end Zi
set_option maxRecDepth 100000
namespace Zi
open PySem PySem.Spec PyProof.Rows L2
/-- what a function that computes F promises -/
def spG (g : Wr) (F : List D → Sto → Option (D × Sto)) : Sp := fun vs H Q _ => ∃ ρ S ds d S', Sim g ρ S H ∧ RDs g ρ H ds vs ∧ F ds S = some (d, S') ∧ ∀ ρ' v H', Ext ρ H ρ' H' → Sim g ρ' S' H' → RD g ρ' H' d v → Q v H'
def mCall (F : List D → Sto → Option (D × Sto)) (m : MA) : M := fun l S => (m l S).bind fun p => F p.1 p.2
section
variable {X : Cx} {k : Nat} {f : Addr} {fd : FuncData} {ps : List Str} {x : Str} {p pos : Pos} {e : Expr} {es : List Expr} {F : List D → Sto → Option (D × Sto)} {m : MA}
theorem s_call (G : FnOk X.prog X.w X.K X.mg X.base CX0 k f fd ps (spG (Cx.g X) F)) (hr : Room k X.A) (hm : X.mg x = some (.ref f)) (hk : PySem.W.keepIn X.K (.ref f) = true) (hb : Binds X.K fd ps []) (ha : SndA X (e :: es) m) (hg : Gl X x := by rfl)
    (hdb : (x == ("__debug__" : Str)) = false := by decide) (he : starEach (e :: es) X.env = (false, eval e X.env) :: starEach es X.env := by rfl) (hpl : (backTo pos (starEach es X.env)).any (·.1) = false := by rfl) : Snd X (.Call (.Name x p) (e :: es) [] pos) (mCall F m) :=
  pe_imp (pe_call G hr hg hm hk hb .nil pass0 ha hdb he hpl) fun σ H Q h => by
  obtain ⟨ρ, l, S, d, S', hs, hl, hm, q⟩ := h
  obtain ⟨⟨ds, S1⟩, e1, hm⟩ := bind2 hm
  refine ⟨ρ, l, S, ds, S1, hs, hl, e1, fun ρ1 vs H1 x1 s1 r1 => ?_⟩
  show spG (Cx.g X) F (vs ++ []) H1 Q E0
  rw [List.append_nil]
  exact ⟨ρ1, S1, ds, d, S', s1, r1, hm, fun ρ2 w H2 x2 s2 r2 => q ρ2 w H2 (x1.trans x2) s2 r2⟩
end
/-- a function's value by its body -/
abbrev Fb := GF → List D → Sto → Option (D × Sto)
def flOut : Fl × Sto → Option (D × Sto)
  | (.rt d, S) => some (d, S)
  | (.nx _, S) => some (.non, S)
  | _ => none
/-- n parameters, j slots -/
def mkFb (n j : Nat) (ms : GF → MS) : Fb := fun G ds S => if ds.length = n then (ms G (ds.map some ++ List.replicate (j - n) none) S).bind flOut else none
noncomputable def run0 (prog : Nat → Option Fb) : Nat → GF
  | 0 => fun _ _ _ => none
  | k + 1 => fun f ds S => (prog f).bind fun b => (b (run0 prog k) ds S).map (fin S)
/-- .. which nothing unfolds -/
@[irreducible] noncomputable def run (prog : Nat → Option Fb) (k : Nat) : GF := run0 prog k
theorem run_is (prog : Nat → Option Fb) (k : Nat) : run prog k = run0 prog k := by unfold run; rfl
theorem run_succ {prog : Nat → Option Fb} {k i : Nat} {ds : List D} {S : Sto} : run prog (k + 1) i ds S = (prog i).bind fun b => (b (run prog k) ds S).map (fin S) := by rw [run_is, run_is]; rfl
theorem run_zero {prog : Nat → Option Fb} {i : Nat} {ds : List D} {S : Sto} : run prog 0 i ds S = none := by rw [run_is]; rfl
theorem fn_ok {P : Program} {w : World} {K : PySem.W.Frag} {mg : Str → Option Value} {base : Heap} {x qual : Str} {st : Stmt} {f : Addr} {fd : FuncData} {N ps : List Str} {k : Nat} {prog : Nat → Option Fb} {nm : Nat} {ms : GF → MS} (F : Fun K x qual st f fd) (S : FnScope N ps (defScope st))
    (hp : prog nm = some (mkFb ps.length N.length ms))
    (hbody : ∀ (cdv : Value) (A : Around) (outer : List Env) (s : Shared) (H : Hp) (E : XK), Room k (A.deeper (envOfC qual (defScope st) s.heap.objs.size f cdv)) → SndB (cxOf CX0 P w K mg base N qual (defScope st) f cdv A outer s H E).nox (defBody st) (ms (run prog k))) :
    FnOk P w K mg base CX0 (k + 1) f fd ps (spG ⟨K, mg, base⟩ (run prog (k + 1) nm)) := by
  have out : ∀ {ds : List D} {S S' : Sto} {d : D}, run prog (k + 1) nm ds S = some (d, S') → ds.length = ps.length ∧ ∃ fl S1 d0 S0, ms (run prog k) (ds.map some ++ List.replicate (N.length - ps.length) none) S = some (fl, S1) ∧ flOut (fl, S1) = some (d0, S0) ∧ (d, S') = fin S (d0, S0) := fun {ds S S' d} h => by
    rw [run_succ] at h
    obtain ⟨b, e1, h⟩ := bind2 h
    rw [hp] at e1
    cases e1
    obtain ⟨⟨d0, S0⟩, e2, e3⟩ := Option.map_eq_some_iff.mp h
    simp only [mkFb] at e2
    split at e2
    · rename_i hlen
      obtain ⟨⟨fl, S1⟩, e4, e5⟩ := bind2 e2
      exact ⟨hlen, fl, S1, d0, S0, e4, e5, e3.symm⟩
    · cases e2
  refine F.ok S (fun vs H Q E h => ?_) (fun cdv A outer s H vs Q E hr h => ?_)
  · obtain ⟨ρ, S, ds, d, S', hs, rs, hm, q⟩ := h
    rw [← rs.length]
    exact (out hm).1
  · obtain ⟨ρ, S, ds, d, S', hs, rs, hm, q⟩ := h
    obtain ⟨hlen, fl, S1, d0, S0, e1, e2, e3⟩ := out hm
    refine ⟨_, hbody cdv A outer s H E hr, ρ, _, S, fl, S1, hs, LocR.start_of rs N, by rw [hlen]; exact e1, fun ρ1 H1 x1 s1 => ?_⟩
    have done : ∀ v, RD ⟨K, mg, base⟩ ρ1 H1 d0 v → S0 = S1 → Q v H1 := fun v r e => by
      subst e
      obtain ⟨ρ2, x2, s2, r2⟩ := fin_ok hs x1 s1 r
      rw [← e3] at s2 r2
      exact q ρ2 v H1 x2 s2 r2
    cases fl with
    | rt d1 => cases e2; exact fun v r => done v r rfl
    | nx l => cases e2; exact fun σ _ => done .non .non rfl
    | bk l => cases e2
    | ct l => cases e2
theorem fn_zero {P : Program} {w : World} {K : PySem.W.Frag} {mg : Str → Option Value} {base : Heap} {f : Addr} {fd : FuncData} {ps : List Str} {prog : Nat → Option Fb} {nm : Nat} : FnOk P w K mg base CX0 0 f fd ps (spG ⟨K, mg, base⟩ (run prog 0 nm)) :=
by
  refine ⟨fun vs H Q E h => ?_, fun A outer s H args us vs Q E hr he hb hv h => ?_⟩
  · obtain ⟨ρ, S, ds, d, S', hs, rs, hm, q⟩ := h
    rw [run_zero] at hm
    cases hm
  · obtain ⟨ρ, S, ds, d, S', hs, rs, hm, q⟩ := h
    rw [run_zero] at hm
    cases hm
/-- the law's own promise at its entry -/
def spLaw (K : PySem.W.Frag) (F : List D → Sto → Option (D × Sto)) : Sp := fun vs H Q _ => ∃ a ns, vs = [.ref a] ∧ Scr K H a ns ∧ (∃ S', F [.sl ns] [] = some (.bl true, S')) ∧ ∀ H', Q (.bl true) H'
theorem law_imp {K : PySem.W.Frag} {mg : Str → Option Value} {base : Heap} {F : List D → Sto → Option (D × Sto)} : ∀ vs H Q E, spLaw K F vs H Q E → spG ⟨K, mg, base⟩ F vs H Q E := fun vs H Q E h => by
  obtain ⟨a, ns, rfl, hs, ⟨S', h⟩, q⟩ := h
  exact ⟨[], [], [.sl ns], .bl true, S', ⟨rfl, List.nodup_nil, fun n a c e => by simp at e⟩, .cons (.sl hs) .nil, h, fun ρ' v H' _ _ r => by cases r; exact q H'⟩
theorem law_sp {K : PySem.W.Frag} {F : List D → Sto → Option (D × Sto)} {H : Hp} {a : Addr} {ns : List Int} (hO : Only H) (hS : SqL K H a (ns.map V.int)) (h : ∃ S', F [.sl ns] [] = some (.bl true, S')) : spLaw K F [.ref a] H (fun v _ => v = .bl true) fun _ _ _ => False := by
  refine ⟨a, ns, rfl, ?_, h, fun _ => rfl⟩
  rcases hS with (h1 | ⟨o, h1⟩) | h1
  · rcases hO a with z | ⟨o, xs, z⟩
    · rw [h1] at z; cases z
    · rw [h1] at z; cases z
  · exact .inl ⟨o, h1⟩
  · exact .inr h1
theorem hu2 {k : Nat} {A : Around} (hr : Room k A) : A.units + 200 < cLine := by
  have h := hr.un
  omega
theorem room230 : Room 230 callerA := ⟨rfl, by decide, by decide⟩
end Zi
set_option maxRecDepth 100000
namespace Zi
open PySem PySem.Spec PyProof.Rows L2
/-- the items of a list that may be joined -/
def ownO (S : Sto) : O → Option (List D)
  | .n ds => some ds
  | .d (.ref k) => match S[k]? with
    | some (.lst xs) => some xs
    | _ => none
  | .d _ => none
def mCatL (a b : MO) : MA := fun l S => (a l S).bind fun p => (b l p.2).bind fun q => (ownO q.2 p.1).bind fun xs => (ownO q.2 q.1).bind fun ys => if xs.length + ys.length ≤ 1000000 then some (xs ++ ys, q.2) else none
def fLtT : OpF := fun x y S => match x, y with
  | .tup xs, .tup ys => (allI xs).bind fun ns => (allI ys).bind fun ms => some (.bl (HT.lexLt ns ms), S)
  | _, _ => none
def mTruO (m : MO) : MT := fun l S => (m l S).bind fun p => match p.1 with
  | .d d => (truD d p.2).bind fun b => some (b, p.2)
  | .n ds => some (!ds.isEmpty, p.2)
/-- n turns at most -/
def whileL (t : MT) (body : MS) : Nat → MS
  | 0 => fun _ _ => none
  | n + 1 => fun l S => (t l S).bind fun p => if p.1 = true then (body l p.2).bind fun r => match r.1 with
      | .nx l2 => whileL t body n l2 r.2
      | .ct l2 => whileL t body n l2 r.2
      | .bk l2 => some (.nx l2, r.2)
      | .rt d => some (.rt d, r.2)
    else some (.nx l, p.2)
theorem whileL_mono {t : MT} {body : MS} : ∀ {n : Nat} {l : Lo} {S : Sto} {r : Fl × Sto}, whileL t body n l S = some r → whileL t body (n + 1) l S = some r
  | 0, _, _, _, h => by cases h
  | n + 1, l, S, r, h => by
    obtain ⟨⟨b, S1⟩, e1, h⟩ := bind2 h
    show (t l S).bind _ = _
    rw [e1]
    cases b with
    | false => exact h
    | true =>
      obtain ⟨⟨f, S2⟩, e2, h⟩ := bind2 h
      show (body l S1).bind _ = _
      rw [e2]
      cases f with
      | nx l2 => exact whileL_mono h
      | ct l2 => exact whileL_mono h
      | bk l2 => exact h
      | rt d => exact h
theorem whileL_le {t : MT} {body : MS} {n m : Nat} {l : Lo} {S : Sto} {r : Fl × Sto} (h : whileL t body n l S = some r) (hle : n ≤ m) : whileL t body m l S = some r := by
  induction hle with
  | refl => exact h
  | step _ ih => exact whileL_mono ih
open Classical in
/-- as many turns as are wanted -/
noncomputable def mWhile (t : MT) (body : MS) : MS := fun l S => if h : ∃ n r, whileL t body n l S = some r then some h.choose_spec.choose else none
theorem mWhile_of {t : MT} {body : MS} {n : Nat} {l : Lo} {S : Sto} {r : Fl × Sto} (h : whileL t body n l S = some r) : mWhile t body l S = some r := by
  have hex : ∃ n r, whileL t body n l S = some r := ⟨n, r, h⟩
  unfold mWhile
  rw [dif_pos hex]
  have h2 := hex.choose_spec.choose_spec
  have a := whileL_le h (Nat.le_max_left n hex.choose)
  have b := whileL_le h2 (Nat.le_max_right n hex.choose)
  rw [a] at b
  exact b.symm
theorem mWhile_ex {t : MT} {body : MS} {l : Lo} {S : Sto} {r : Fl × Sto} (h : mWhile t body l S = some r) : ∃ n, whileL t body n l S = some r := by
  unfold mWhile at h
  split at h
  · rename_i hex
    cases h
    exact ⟨_, hex.choose_spec.choose_spec⟩
  · cases h
theorem st_while {X : Cx} {pos : Pos} {c : Expr} {body : List Stmt} {t : MT} {mb : MS} (hp : PassesOwn (model X.prog X.w) X.A X.env X.xe) (hc : SndT X c t) (hb : SndB X body mb) : SndS X (.While c body [] pos) (mWhile t mb) := ps_imp (ps_while hp hc hb) fun E σ H h => by
  obtain ⟨ρ, l, S, f, S', hs, hl, hm, q⟩ := h
  obtain ⟨n, hn⟩ := mWhile_ex hm
  refine ⟨fun m σ H1 => ∃ ρ1 l1 S1, Ext ρ H ρ1 H1 ∧ Sim (Cx.g X) ρ1 S1 H1 ∧ LocR (Cx.g X) ρ1 H1 l1 σ ∧ whileL t mb m l1 S1 = some (f, S'), ⟨n, ρ, l, S, Ext.refl, hs, hl, hn⟩, ?_⟩
  rintro m σ1 H1 ⟨ρ1, l1, S1, x1, s1, hl1, hm1⟩
  cases m with
  | zero => cases hm1
  | succ m =>
    obtain ⟨⟨b, S2⟩, e1, hm1⟩ := bind2 hm1
    refine ⟨ρ1, l1, S1, b, S2, s1, hl1, e1, fun ρ2 H2 x2 s2 => ?_⟩
    cases b with
    | false =>
      cases hm1
      exact q ρ2 H2 (x1.trans x2) s2 σ1 (x2.loc s1 hl1)
    | true =>
      obtain ⟨⟨f1, S3⟩, e2, hm1⟩ := bind2 hm1
      refine ⟨fun σ' H' => ∃ ρ' l' S'', Ext ρ H ρ' H' ∧ Sim (Cx.g X) ρ' S'' H' ∧ LocR (Cx.g X) ρ' H' l' σ' ∧ whileL t mb m l' S'' = some (f, S'), fun σ' H' hN => ⟨m, Nat.lt_succ_self _, hN⟩, ?_⟩
      refine ⟨ρ2, l1, S2, f1, S3, s2, x2.loc s1 hl1, e2, fun ρ3 H3 x3 s3 => ?_⟩
      have xx := (x1.trans x2).trans x3
      cases f1 with
      | nx l2 => exact fun σ3 hl3 => ⟨ρ3, l2, S3, xx, s3, hl3, hm1⟩
      | ct l2 => exact fun σ3 hl3 => ⟨ρ3, l2, S3, xx, s3, hl3, hm1⟩
      | bk l2 => cases hm1; exact fun σ3 hl3 => q ρ3 H3 xx s3 σ3 hl3
      | rt d => cases hm1; exact fun v r => q ρ3 H3 xx s3 v r
end Zi
set_option maxRecDepth 100000
namespace Zi
open PySem PySem.Spec PyProof.Rows L2
section
variable {κ : Type} [DecidableEq κ]
def valD (kvs : List (κ × D)) (k : κ) : Option D := (kvs.find? fun kv => decide (kv.1 = k)).map (·.2)
def putD (kvs : List (κ × D)) (k : κ) (v : D) : List (κ × D) :=
  if (kvs.any fun kv => decide (kv.1 = k)) = true then kvs.map (fun kv => if kv.1 = k then (kv.1, v) else kv) else kvs ++ [(k, v)]
variable {g : Wr} {ρ : List Addr} {H : Hp}
inductive OptR (g : Wr) (ρ : List Addr) (H : Hp) : Option D → Option V → Prop
  | no : OptR g ρ H none none
  | yes {d : D} {v : V} : RD g ρ H d v → OptR g ρ H (some d) (some v)
theorem OptR.isSome {d : Option D} {v : Option V} (h : OptR g ρ H d v) : d.isSome = v.isSome := by cases h <;> rfl
theorem OptR.getD {d : Option D} {v : Option V} {x : D} {y : V} (h : OptR g ρ H d v) (r : RD g ρ H x y) : RD g ρ H (d.getD x) (v.getD y) := by
  cases h with
  | no => exact r
  | yes h => exact h
theorem RDk.val {k : κ} : ∀ {ds : List (κ × D)} {vs : List (κ × V)}, RDk g ρ H ds vs → OptR g ρ H (valD ds k) (valV vs k)
  | _, _, .nil => .no
  | _, _, .cons (k := j) (d := d) (v := v) (ds := ds) (vs := vs) r rs => by
    by_cases e : j = k
    · rw [show valD ((j, d) :: ds) k = some d by simp [valD, List.find?_cons, e], show valV ((j, v) :: vs) k = some v by simp [valV, List.find?_cons, e]]
      exact .yes r
    · rw [show valD ((j, d) :: ds) k = valD ds k by simp [valD, List.find?_cons, e], show valV ((j, v) :: vs) k = valV vs k by simp [valV, List.find?_cons, e]]
      exact RDk.val rs
theorem RDk.length : ∀ {ds : List (κ × D)} {vs : List (κ × V)}, RDk g ρ H ds vs → ds.length = vs.length
  | _, _, .nil => rfl
  | _, _, .cons r rs => congrArg (· + 1) (RDk.length rs)
theorem RDk.any {k : κ} : ∀ {ds : List (κ × D)} {vs : List (κ × V)}, RDk g ρ H ds vs → (ds.any fun kv => decide (kv.1 = k)) = vs.any fun kv => decide (kv.1 = k)
  | _, _, .nil => rfl
  | _, _, .cons r rs => by simp only [List.any_cons, RDk.any rs]
theorem RDk.mapk {k : κ} {d : D} {v : V} (r : RD g ρ H d v) : ∀ {ds : List (κ × D)} {vs : List (κ × V)}, RDk g ρ H ds vs → RDk g ρ H (ds.map fun kv => if kv.1 = k then (kv.1, d) else kv) (vs.map fun kv => if kv.1 = k then (kv.1, v) else kv)
  | _, _, .nil => .nil
  | _, _, .cons (k := j) r' rs => by
    simp only [List.map_cons]
    by_cases e : j = k
    · rw [if_pos e, if_pos e]
      exact .cons r (RDk.mapk r rs)
    · rw [if_neg e, if_neg e]
      exact .cons r' (RDk.mapk r rs)
theorem RDk.snoc {k : κ} {d : D} {v : V} (r : RD g ρ H d v) : ∀ {ds : List (κ × D)} {vs : List (κ × V)}, RDk g ρ H ds vs → RDk g ρ H (ds ++ [(k, d)]) (vs ++ [(k, v)])
  | _, _, .nil => .cons r .nil
  | _, _, .cons r' rs => .cons r' (RDk.snoc r rs)
theorem RDk.put {k : κ} {d : D} {v : V} (r : RD g ρ H d v) {ds : List (κ × D)} {vs : List (κ × V)} (rs : RDk g ρ H ds vs) : RDk g ρ H (putD ds k d) (putK vs k v) := by
  unfold putD putK
  rw [RDk.any rs]
  split
  · exact RDk.mapk r rs
  · exact RDk.snoc r rs
end
def keyD : D → Option Key
  | .int i => some (.inl i)
  | .str x => some (.inr x)
  | _ => none
def keysD : List D → Option (List Key)
  | [] => some []
  | d :: ds => (keyD d).bind fun k => (keysD ds).bind fun ks => some (k :: ks)
def keyT : D → Option (List Key)
  | .tup ds => keysD ds
  | _ => none
/-- a dict that may be read -/
def dkO (S : Sto) : D → Option (List (Key × D))
  | .ref n => match S[n]? with
    | some (.dK kvs) => some kvs
    | some (.lk kvs) => some kvs
    | _ => none
  | _ => none
def dtO (S : Sto) : D → Option (List (List Key × D))
  | .ref n => match S[n]? with
    | some (.dT kvs) => some kvs
    | some (.lkT kvs) => some kvs
    | _ => none
  | _ => none
/-- what the dict x holds at y -/
def gotD (S : Sto) (x y : D) : Option (Option D) := match dkO S x with
  | some kvs => (keyD y).bind fun k => some (valD kvs k)
  | none => (dtO S x).bind fun kvs => (keyT y).bind fun k => some (valD kvs k)
def isDO (S : Sto) (x : D) : Bool := (dkO S x).isSome || (dtO S x).isSome
section
variable {X : Cx} {pos pos' apos tpos : Pos} {o i e f : Expr} {mo mi me mf : M}
/-- d[y] -/
def ixX : OpF := fun x y S => (gotD S x y).bind fun o => o.bind fun d => some (d, S)
/-- d.get(y, z) -/
def mGet2 (o i e : M) : M := fun l S => (o l S).bind fun p => if isDO p.2 p.1 = true then (i l p.2).bind fun r => (e l r.2).bind fun t => (gotD t.2 p.1 r.1).bind fun v => some (v.getD t.1, t.2) else none
/-- d.get(y) -/
def mGet1 (o i : M) : M := fun l S => (o l S).bind fun p => if isDO p.2 p.1 = true then (i l p.2).bind fun r => (gotD r.2 p.1 r.1).bind fun v => some (v.getD .non, r.2) else none
/-- {} -/
def mDnewK : M := fun _ S => some (.ref S.length, S ++ [.dK []])
def mDnewT : M := fun _ S => some (.ref S.length, S ++ [.dT []])
def setDF (o i v : D) (S : Sto) : Option Sto := match o with
  | .ref n => match S[n]? with
    | some (.dK kvs) => (keyD i).bind fun k => if kvs.length < 1000000 then some (S.set n (.dK (putD kvs k v))) else none
    | some (.dT kvs) => (keyT i).bind fun k => if kvs.length < 1000000 then some (S.set n (.dT (putD kvs k v))) else none
    | _ => none
  | _ => none
/-- d[y] = v -/
def mSetD (o i e : M) : MS := fun l S => (e l S).bind fun p => (o l p.2).bind fun q => (i l q.2).bind fun r => (setDF q.1 r.1 p.1 r.2).bind fun S3 => some (.nx l, S3)
end
section
variable {X : Cx} {pos : Pos} {a b : Expr} {ma mb : M}
/-- y in d -/
def fInD : OpF := fun y x S => (gotD S x y).bind fun o => some (.bl o.isSome, S)
def fNinD : OpF := fun y x S => (gotD S x y).bind fun o => some (.bl (!o.isSome), S)
end
end Zi
set_option maxRecDepth 100000
namespace Zi
open PySem PySem.Spec PyProof.Rows L2
def lockC : Cell → Option Cell
  | .dK k => some (.lk k)
  | .dT k => some (.lkT k)
  | .dN k => some (.lkN k)
  | _ => none
def openC : Cell → Option Cell
  | .lk k => some (.dK k)
  | .lkT k => some (.dT k)
  | .lkN k => some (.dN k)
  | _ => none
/-- the dict in slot i stands still meanwhile -/
def mLockA (i : Nat) (m : MA) : MA := fun l S => match l[i]? with
  | some (some (.ref n)) => (S[n]?).bind fun c => (lockC c).bind fun c1 => (m l (S.set n c1)).bind fun p => (p.2[n]?).bind fun c2 => (openC c2).bind fun c3 => some (p.1, p.2.set n c3)
  | _ => none
/-- .. of a statement -/
def mLockS (i : Nat) (m : MS) : MS := fun l S => match l[i]? with
  | some (some (.ref n)) => (S[n]?).bind fun c => (lockC c).bind fun c1 => (m l (S.set n c1)).bind fun p => (p.2[n]?).bind fun c2 => (openC c2).bind fun c3 => some (p.1, p.2.set n c3)
  | _ => none
def keyOfD : Key → D
  | .inl i => .int i
  | .inr x => .str x
theorem NT.at {H : Hp} : ∀ {kvs : List (NK × V)} {es : NE} {i : Nat} {k : NK} {q : Addr} {v : V}, NT H kvs es → es[i]? = some (k, q, v) → NTup H q k ∧ ∃ w, kvs[i]? = some (k, w)
  | _, _, 0, k, q, v, .cons h _, e => by
    simp only [List.getElem?_cons_zero, Option.some.injEq] at e
    subst e
    obtain ⟨h1, h2, h3⟩ := h
    have h1 : _ = k := h1
    subst h1
    exact ⟨h2, _, rfl⟩
  | _, _, i + 1, k, q, v, .cons _ t, e => by
    rw [List.getElem?_cons_succ] at e ⊢
    exact NT.at t e
  | _, _, _, _, _, _, .nil, e => by simp at e
def nkD (k : NK) : D := .tup [.tup (k.1.map D.int), .int k.2]
/-- the keys of a dict that stands still -/
def mKeys (m : M) : MI := fun l S => (m l S).bind fun p => match p.1 with
  | .ref n => match p.2[n]? with
    | some (.lk kvs) => some (⟨kvs.map fun kv => keyOfD kv.1, fun S' => S'[n]? = some (.lk kvs)⟩, p.2)
    | some (.lkT kvs) => some (⟨kvs.map fun kv => D.tup (kv.1.map keyOfD), fun S' => S'[n]? = some (.lkT kvs)⟩, p.2)
    | some (.lkN kvs) => some (⟨kvs.map fun kv => nkD kv.1, fun S' => S'[n]? = some (.lkN kvs)⟩, p.2)
    | _ => none
  | _ => none
/-- its pairs -/
def mItems (m : M) : MI := fun l S => (m l S).bind fun p => match p.1 with
  | .ref n => match p.2[n]? with
    | some (.lk kvs) => some (⟨kvs.map fun kv => D.tup [keyOfD kv.1, kv.2], fun S' => S'[n]? = some (.lk kvs)⟩, p.2)
    | _ => none
  | _ => none
/-- dict(d): a copy -/
def mDcopy (m : M) : M := fun l S => (m l S).bind fun p => (dkO p.2 p.1).bind fun kvs => some (.ref p.2.length, p.2 ++ [.dK kvs])
/-- {k: v} -/
def mDisp1 (a b : M) : M := fun l S => (a l (S ++ [.dK []])).bind fun p => (b l p.2).bind fun q => match q.2[S.length]? with
  | some (.dK []) => (keyD p.1).bind fun k => some (.ref S.length, q.2.set S.length (.dK [(k, q.1)]))
  | _ => none
end Zi
namespace Zi
open PySem PySem.Spec PyProof.Rows L2
end Zi
set_option maxRecDepth 100000
namespace Zi
open PySem PySem.Spec PyProof.Rows L2
end Zi
set_option maxRecDepth 100000
namespace Zi
open PySem L2
theorem run_at {prog : Nat → Option Fb} {i : Nat} {fb : Fb} (h : prog i = some fb) (k : Nat) (ds : List D) (S : Sto) : run prog (k + 1) i ds S = (fb (run prog k) ds S).map (fin S) := by
  rw [run_succ, h]
  rfl
theorem fin_same {S : Sto} {d : D} (h : refLt S.length d = true) : fin S (d, S) = (d, S) := by
  unfold fin
  dsimp only
  rw [if_pos List.take_length, if_pos h]
theorem fin_more {S T : Sto} {d : D} (h : refLt S.length d = true) : fin S (d, S ++ T) = (d, S) := by
  unfold fin
  dsimp only
  rw [if_pos List.take_left, if_pos h]
theorem refLt_int {n : Nat} (i : Int) : refLt n (.int i) = true := by simp [refLt]
theorem refLt_bl {n : Nat} (i : Bool) : refLt n (.bl i) = true := by simp [refLt]
theorem refLt_non {n : Nat} : refLt n .non = true := by simp [refLt]
theorem refLt_str {n : Nat} (x : Str) : refLt n (.str x) = true := by simp [refLt]
theorem refLt_tup {n : Nat} (xs : List D) : refLt n (.tup xs) = refLtL n xs := by simp [refLt]
theorem refLtL_nil {n : Nat} : refLtL n [] = true := by simp [refLtL]
theorem refLtL_cons {n : Nat} (d : D) (ds : List D) : refLtL n (d :: ds) = (refLt n d && refLtL n ds) := by simp [refLtL]
theorem mulC_r {i j : Int} (h : -(2 ^ 64) < j ∧ j < 2 ^ 64) : mulC i j = true := decide_eq_true (.inr h)
theorem mulC_l {i j : Int} (h : -(2 ^ 64) < i ∧ i < 2 ^ 64) : mulC i j = true := decide_eq_true (.inl h)
theorem divC_r {i j : Int} (h : 0 < j ∧ j < 2 ^ 64) : divC i j = true := decide_eq_true h
theorem modC_r {i j : Int} (h : 0 < j) : modC i j = true := decide_eq_true h
theorem atI_nn {α : Type} {xs : List α} {i : Int} (h : 0 ≤ i) : atI xs i = xs[i.toNat]? := by
  unfold atI ixN
  rw [if_pos h]
  by_cases h1 : i < xs.length
  · rw [if_pos h1]; rfl
  · rw [if_neg h1, List.getElem?_eq_none (by omega)]; rfl
theorem atI_0 {α : Type} {x : α} {xs : List α} : atI (x :: xs) 0 = some x := by rw [atI_nn (by decide)]; rfl
theorem atI_1 {α : Type} {x y : α} {xs : List α} : atI (x :: y :: xs) 1 = some y := by rw [atI_nn (by decide)]; rfl
theorem atI_2 {α : Type} {x y z : α} {xs : List α} : atI (x :: y :: z :: xs) 2 = some z := by rw [atI_nn (by decide)]; rfl
noncomputable def c_cell : MS := (mSeq (mSet 2 (mOp fAdd (mOp fMul (mC (.int 7)) (mVar 1)) (mC (.int 3))))
    (mSeq (mIfS (mBool (mOp fLt (mVar 1) (mFn1 fLen (oD (mVar 0))))) (mSet 2 (mOp ixF (mVar 0) (mVar 1))) mSkip)
    (mSeq (mIfS (mBool (mOp fLt (mVar 2) (mC (.int 0)))) (mSet 2 (mOp fSub (mC (.int 1)) (mOp fMul (mC (.int 2)) (mVar 2)))) mSkip)
    (mSeq (mIfS (mBool (mOp fLt (mVar 2) (mC (.int 1000000000)))) (mSeq (mSet 3 (mOp fMod (mFn1 fInt (oD (mOp fAdd (mOp fAdd (mOp fMul (mVar 2) (mC (.int 48271))) (mOp fMul (mVar 1) (mC (.int 69621)))) (mC (.int 11))))) (mC (.int 2147483647))))
    (mSeq (mSet 4 (mOp fMod (mFn1 fInt (oD (mOp fAdd (mOp fAdd (mOp fMul (mVar 3) (mC (.int 16807))) (mOp fMul (mVar 1) (mC (.int 31)))) (mC (.int 1013))))) (mC (.int 2147483629))))
    (mSeq (mSet 5 (mOp fMod (mFn1 fInt (oD (mOp fAdd (mOp fAdd (mOp fMul (mVar 4) (mC (.int 39373))) (mVar 3)) (mC (.int 77))))) (mC (.int 2147483587))))
    (mSet 2 (mOp fAdd (mOp fMul (mOp fAdd (mOp fMul (mVar 5) (mC (.int 2147483647))) (mVar 4)) (mC (.int 2147483647))) (mVar 3)))))) mSkip)
    (mRet (mVar 2))))))
def cellMix (c j : Int) : Int := if c < 1000000000 then
    let low := (c * 48271 + j * 69621 + 11) % 2147483647
    let mid := (low * 16807 + j * 31 + 1013) % 2147483629
    let high := (mid * 39373 + low + 77) % 2147483587
    (high * 2147483647 + mid) * 2147483647 + low
  else c
def cellRaw (ns : List Int) (j : Int) : Int := if j < ns.length then ns.getD j.toNat 0 else 7 * j + 3
def cellAbs (c : Int) : Int := if c < 0 then 1 - 2 * c else c
/-- the j-th cell of a script -/
def cellV (ns : List Int) (j : Int) : Int := cellMix (cellAbs (cellRaw ns j)) j
theorem cellV_nn (ns : List Int) {j : Int} (hj : 0 ≤ j) : 0 ≤ cellV ns j := by
  have h0 : 0 ≤ cellAbs (cellRaw ns j) := by unfold cellAbs; split <;> omega
  unfold cellV cellMix
  split
  · dsimp only
    have a1 := Int.emod_nonneg (cellAbs (cellRaw ns j) * 48271 + j * 69621 + 11) (show (2147483647 : Int) ≠ 0 by decide)
    generalize (cellAbs (cellRaw ns j) * 48271 + j * 69621 + 11) % 2147483647 = low at *
    have a2 := Int.emod_nonneg (low * 16807 + j * 31 + 1013) (show (2147483629 : Int) ≠ 0 by decide)
    generalize (low * 16807 + j * 31 + 1013) % 2147483629 = mid at *
    have a3 := Int.emod_nonneg (mid * 39373 + low + 77) (show (2147483587 : Int) ≠ 0 by decide)
    generalize (mid * 39373 + low + 77) % 2147483587 = high at *
    omega
  · exact h0
theorem seq_ifset {t : MT} {e : M} {c : MS} {i : Nat} {l : Lo} {S : Sto} {b : Bool} {v cur : D} (ht : t l S = some (b, S)) (he : b = true → e l S = some (v, S)) (hc : l[i]? = some (some cur)) :
    mSeq (mIfS t (mSet i e) mSkip) c l S = c (l.set i (some (if b = true then v else cur))) S := by
  unfold mSeq mIfS mSet mSkip
  simp only [ht, Option.bind_some]
  cases b with
  | true => simp only [he rfl, Option.bind_some, if_true]
  | false =>
    have e1 : l.set i (some cur) = l := by
      obtain ⟨h1, h2⟩ := List.getElem?_eq_some_iff.mp hc
      rw [← h2]
      exact List.set_getElem_self h1
    simp only [Bool.false_eq_true, if_false, Option.bind_some, e1]
theorem seq_set {e : M} {c : MS} {i : Nat} {l : Lo} {S S1 : Sto} {v : D} (he : e l S = some (v, S1)) : mSeq (mSet i e) c l S = c (l.set i (some v)) S1 := by
  unfold mSeq mSet
  simp only [he, Option.bind_some]
theorem seq_ifT {t : MT} {a b c : MS} {l : Lo} {S S1 : Sto} (ht : t l S = some (true, S1)) : mSeq (mIfS t a b) c l S = mSeq a c l S1 := by
  unfold mSeq mIfS
  simp only [ht, Option.bind_some, if_true]
theorem seq_ifF {t : MT} {a b c : MS} {l : Lo} {S S1 : Sto} (ht : t l S = some (false, S1)) : mSeq (mIfS t a b) c l S = mSeq b c l S1 := by
  unfold mSeq mIfS
  simp only [ht, Option.bind_some, Bool.false_eq_true, if_false]
theorem seq_skip {c : MS} {l : Lo} {S : Sto} : mSeq mSkip c l S = c l S := rfl
theorem seq_seq {a b c : MS} {l : Lo} {S : Sto} : mSeq (mSeq a b) c l S = mSeq a (mSeq b c) l S := by
  unfold mSeq
  cases a l S with
  | none => rfl
  | some p =>
    obtain ⟨f, S1⟩ := p
    cases f <;> rfl
theorem mk_run {n j : Nat} {ms : GF → MS} {G : GF} {ds : List D} {S S1 : Sto} {d : D} (hn : ds.length = n) (h : ms G (ds.map some ++ List.replicate (j - n) none) S = some (.rt d, S1)) : mkFb n j ms G ds S = some (d, S1) := by
  unfold mkFb
  rw [if_pos hn, h]
  rfl
theorem mk_at {n j : Nat} {ms : GF → MS} {G : GF} {ds : List D} {S S1 : Sto} {d : D} (hn : ds.length = n) (h : ms G (ds.map some ++ List.replicate (j - n) none) S = some (.rt d, S1)) : (mkFb n j ms G ds S).map (fin S) = some (fin S (d, S1)) := by
  rw [mk_run hn h]
  rfl
/-- a call's value where nothing is made -/
theorem call_pure {prog : Nat → Option Fb} {i n j k : Nat} {ms : GF → MS} {ds : List D} {S : Sto} {d : D} (hp : prog i = some (mkFb n j ms)) (hn : ds.length = n) (h : ms (run prog k) (ds.map some ++ List.replicate (j - n) none) S = some (.rt d, S)) (hr : refLt S.length d = true) : run prog (k + 1) i ds S = some (d, S) := by
  rw [run_at hp, mk_at hn h, fin_same hr]
local macro_rules | `(tactic| walk_at "ev") => `(tactic| (simp only [mSeq, mSet, mRet, mIfS, mOp, mC, mVar, mBool, mFn1, oD, oN, oS, fLen, lenO, seqO, mSkip, fAdd, fMul, fI, fI0, fLt, fLe, fGt, fGe, fSub, fMod, fDiv, fInt, ixF, mNil, mCons, mTup, mCall, mLst, mAlloc, mIsN, mNotN, isNon, mNotT, mAndT, mOrT, mTru, truD, mulC_r, mulC_l, divC_r, modC_r, atI_0, atI_1, atI_2, List.length_cons, List.length_nil, Option.bind_some, List.map_cons, List.map_nil, List.cons_append, List.nil_append, List.replicate, List.getElem?_cons_zero, List.getElem?_cons_succ, List.set_cons_zero, List.set_cons_succ, if_true, decide_true, Int.reduceNeg, Int.reducePow, Int.reduceLT, Nat.reduceAdd, Nat.reduceSub, and_self, Nat.reduceLeDiff]))
set_option maxHeartbeats 1000000 in
theorem run_cell {prog : Nat → Option Fb} {i : Nat} (h : prog i = some (mkFb 2 6 fun _ => c_cell)) (k : Nat) (ns : List Int) {j : Int} (hj : 0 ≤ j) (S : Sto) : run prog (k + 1) i [.sl ns, .int j] S = some (.int (cellV ns j), S) := by
  refine call_pure h rfl ?_ (refLt_int _)
  show c_cell [some (.sl ns), some (.int j), none, none, none, none] S = _
  unfold c_cell
  rw [seq_set (v := .int (7 * j + 3)) (S1 := S) (by walk_at "ev")]
  rw [seq_ifset (b := decide (j < (ns.length : Int))) (v := .int (ns.getD j.toNat 0)) (cur := .int (7 * j + 3)) (by walk_at "ev"; rw [List.length_map]) (fun hb => by
    have hlt : j < (ns.length : Int) := of_decide_eq_true hb
    have hg : atI ns j = some (ns.getD j.toNat 0) := by
      rw [atI_nn hj, List.getD_eq_getElem?_getD, List.getElem?_eq_getElem (by omega)]
      rfl
    walk_at "ev"
    rw [hg]
    rfl) rfl]
  have e1 : (if decide (j < (ns.length : Int)) = true then D.int (ns.getD j.toNat 0) else D.int (7 * j + 3)) = .int (cellRaw ns j) := by
    unfold cellRaw
    by_cases hh : j < (ns.length : Int) <;> simp [hh]
  rw [e1]
  generalize hr : cellRaw ns j = r
  rw [seq_ifset (b := decide (r < 0)) (v := .int (1 - 2 * r)) (cur := .int r) (by walk_at "ev") (fun _ => by walk_at "ev") rfl]
  have e2 : (if decide (r < 0) = true then D.int (1 - 2 * r) else D.int r) = .int (cellAbs r) := by
    unfold cellAbs
    by_cases hh : r < 0 <;> simp [hh]
  rw [e2]
  have hc : cellV ns j = cellMix (cellAbs r) j := by rw [← hr]; rfl
  rw [hc]
  generalize cellAbs r = c
  by_cases hlt : c < 1000000000
  · rw [seq_ifT (S1 := S) (by walk_at "ev"; simp [hlt])]
    have e3 : cellMix c j = (((((c * 48271 + j * 69621 + 11) % 2147483647 * 16807 + j * 31 + 1013) % 2147483629 * 39373 + (c * 48271 + j * 69621 + 11) % 2147483647 + 77) % 2147483587) * 2147483647 + ((c * 48271 + j * 69621 + 11) % 2147483647 * 16807 + j * 31 + 1013) % 2147483629) * 2147483647 + (c * 48271 + j * 69621 + 11) % 2147483647 := by
      unfold cellMix
      rw [if_pos hlt]
    rw [e3]
    walk_at "ev"
  · rw [seq_ifF (S1 := S) (by walk_at "ev"; simp [hlt]), seq_skip]
    have e3 : cellMix c j = c := by
      unfold cellMix
      rw [if_neg hlt]
    rw [e3]
    walk_at "ev"
end Zi
set_option maxRecDepth 100000
namespace Zi
open PySem L2
theorem snap_int {n : Nat} {S : Sto} (i : Int) : snap (n + 1) S (.int i) = some (.int i) := rfl
theorem snap_bl {n : Nat} {S : Sto} (i : Bool) : snap (n + 1) S (.bl i) = some (.bool i) := rfl
theorem snap_tup {n : Nat} {S : Sto} (xs : List D) : snap (n + 1) S (.tup xs) = (allS (snap n S) xs).bind fun r => some (.tuple r) := rfl
theorem eqv_int (i j : Int) : PyData.eqv (.int i) (.int j) = decide (i = j) := by
  simp only [PyData.eqv]
  exact Bool.eq_iff_iff.mpr (by simp)
theorem eqv_bl (i j : Bool) : PyData.eqv (.bool i) (.bool j) = decide (i = j) := by
  simp only [PyData.eqv]
  exact Bool.eq_iff_iff.mpr (by simp)
theorem eqvAll_self {f : D → Option PyData} (hf : ∀ d p, f d = some p → PyData.eqv p p = true) : ∀ (ds : List D) (ps : List PyData), allS f ds = some ps → PyData.eqvAll ps ps = true
  | [], ps, h => by cases h; rfl
  | d :: ds, ps, h => by
    obtain ⟨x, e1, h⟩ := bind2 h
    obtain ⟨r, e2, h⟩ := bind2 h
    cases h
    simp only [PyData.eqvAll, hf d x e1, eqvAll_self hf ds r e2, Bool.and_self]
theorem eqv_ints : ∀ ns : List Int, PyData.eqvAll (ns.map PyData.int) (ns.map PyData.int) = true
  | [] => rfl
  | n :: ns => by simp only [List.map_cons, PyData.eqvAll, eqv_int, decide_true, eqv_ints ns, Bool.and_self]
theorem eqv_self : ∀ {n : Nat} {S : Sto} {d : D} {p : PyData}, snap n S d = some p → PyData.eqv p p = true
  | 0, _, _, _, h => by cases h
  | n + 1, S, d, p, h => by
    cases d with
    | non => cases h; rfl
    | bl b => cases h; simp [PyData.eqv]
    | int i => cases h; simp [PyData.eqv]
    | str x =>
      simp only [snap] at h
      split at h
      · cases h; simp [PyData.eqv]
      · cases h
    | tup xs =>
      obtain ⟨r, e1, h⟩ := bind2 (show (allS (snap n S) xs).bind _ = some p from h)
      cases h
      simp only [PyData.eqv]
      exact eqvAll_self (fun d p h => eqv_self h) xs r e1
    | ktup xs =>
      obtain ⟨r, e1, h⟩ := bind2 (show (allS (snap n S) xs).bind _ = some p from h)
      cases h
      simp only [PyData.eqv]
      exact eqvAll_self (fun d p h => eqv_self h) xs r e1
    | sl ns => cases h; simp only [PyData.eqv]; exact eqv_ints ns
    | ref k =>
      simp only [snap] at h
      split at h
      · obtain ⟨r, e1, h⟩ := bind2 h
        cases h
        simp only [PyData.eqv]
        exact eqvAll_self (fun d p h => eqv_self h) _ r e1
      · cases h
    | fn x => cases h
theorem fEq_int {S : Sto} (i j : Int) : fEq (.d (.int i)) (.d (.int j)) S = some (.bl (decide (i = j)), S) := by
  show some (D.bl (PyData.eqv (.int i) (.int j)), S) = _
  rw [eqv_int]
theorem fNe_int {S : Sto} (i j : Int) : fNe (.d (.int i)) (.d (.int j)) S = some (.bl (!decide (i = j)), S) := by
  show some (D.bl (!PyData.eqv (.int i) (.int j)), S) = _
  rw [eqv_int]
theorem fEq_bl {S : Sto} (i j : Bool) : fEq (.d (.bl i)) (.d (.bl j)) S = some (.bl (decide (i = j)), S) := by
  show some (D.bl (PyData.eqv (.bool i) (.bool j)), S) = _
  rw [eqv_bl]
theorem forL_nil {ok : Sto → Prop} {tg : MG} {body : MS} {l : Lo} {S : Sto} (h : ok S) : forL ok tg body [] l S = some (.nx l, S) := by
  unfold forL
  rw [if_pos h]
theorem forL_nx {ok : Sto → Prop} {tg : MG} {body : MS} {d : D} {ds : List D} {l l1 l2 : Lo} {S S1 : Sto} (h : ok S) (ht : tg d l S = some l1) (hb : body l1 S = some (.nx l2, S1)) : forL ok tg body (d :: ds) l S = forL ok tg body ds l2 S1 := by
  rw [forL]
  simp only [if_pos h, ht, hb, Option.bind_some]
theorem forL_ct {ok : Sto → Prop} {tg : MG} {body : MS} {d : D} {ds : List D} {l l1 l2 : Lo} {S S1 : Sto} (h : ok S) (ht : tg d l S = some l1) (hb : body l1 S = some (.ct l2, S1)) : forL ok tg body (d :: ds) l S = forL ok tg body ds l2 S1 := by
  rw [forL]
  simp only [if_pos h, ht, hb, Option.bind_some]
theorem forL_rt {ok : Sto → Prop} {tg : MG} {body : MS} {d r : D} {ds : List D} {l l1 : Lo} {S S1 : Sto} (h : ok S) (ht : tg d l S = some l1) (hb : body l1 S = some (.rt r, S1)) : forL ok tg body (d :: ds) l S = some (.rt r, S1) := by
  rw [forL]
  simp only [if_pos h, ht, hb, Option.bind_some]
theorem forL_bk {ok : Sto → Prop} {tg : MG} {body : MS} {d : D} {ds : List D} {l l1 l2 : Lo} {S S1 : Sto} (h : ok S) (ht : tg d l S = some l1) (hb : body l1 S = some (.bk l2, S1)) : forL ok tg body (d :: ds) l S = some (.nx l2, S1) := by
  rw [forL]
  simp only [if_pos h, ht, hb, Option.bind_some]
theorem seq_nx {a b : MS} {l l1 : Lo} {S S1 : Sto} (h : a l S = some (.nx l1, S1)) : mSeq a b l S = b l1 S1 := by
  unfold mSeq
  rw [h]
  rfl
theorem seq_rt {a b : MS} {l : Lo} {d : D} {S S1 : Sto} (h : a l S = some (.rt d, S1)) : mSeq a b l S = some (.rt d, S1) := by
  unfold mSeq
  rw [h]
  rfl
theorem for_of {src : MI} {tg : MG} {body : MS} {l : Lo} {S S1 : Sto} {s : Src} (h : src l S = some (s, S1)) : mFor src tg body l S = forL s.ok tg body s.ds l S1 := by
  unfold mFor
  rw [h]
  rfl
theorem run_step {prog : Nat → Option Fb} {i n j k : Nat} {ms : GF → MS} {ds : List D} {S S1 : Sto} {d : D} (hp : prog i = some (mkFb n j ms)) (hn : ds.length = n) (h : ms (run prog k) (ds.map some ++ List.replicate (j - n) none) S = some (.rt d, S1)) : run prog (k + 1) i ds S = some (fin S (d, S1)) := by
  rw [run_at hp, mk_at hn h]
theorem run_more {prog : Nat → Option Fb} {i n j k : Nat} {ms : GF → MS} {ds : List D} {S T : Sto} {d : D} (hp : prog i = some (mkFb n j ms)) (hn : ds.length = n) (h : ms (run prog k) (ds.map some ++ List.replicate (j - n) none) S = some (.rt d, S ++ T)) (hr : refLt S.length d = true) : run prog (k + 1) i ds S = some (d, S) := by
  rw [run_step hp hn h, fin_more hr]
end Zi
set_option maxRecDepth 100000
namespace Zi
open PySem L2
def k_TRUTH : D := .ktup [.ktup [.int (0), .int (0), .int (0)], .ktup []]
/-- 0 0 a -/
def c_answer (G : GF) : MS := (mRet (mTup (mCons (mC (.int 5)) (mCons (mVar 0) (mCons (mC (.int 0)) mNil)))))
/-- 1 0 first, 1 second -/
def c_comes_before (G : GF) : MS := (mRet (mOp fLtT (mVar 0) (mVar 1)))
/-- 2 0 _law_script, 1 _law_k, 2 _law_cell_here, 3 _law_low, 4 _law_mid, 5 _law_high -/
def c__law_cell (G : GF) : MS := (mSeq (mSet 2 (mOp fAdd (mOp fMul (mC (.int 7)) (mVar 1)) (mC (.int 3))))
    (mSeq (mIfS (mBool (mOp fLt (mVar 1) (mFn1 fLen (oD (mVar 0))))) (mSet 2 (mOp ixF (mVar 0) (mVar 1))) mSkip)
    (mSeq (mIfS (mBool (mOp fLt (mVar 2) (mC (.int 0)))) (mSet 2 (mOp fSub (mC (.int 1)) (mOp fMul (mC (.int 2)) (mVar 2)))) mSkip)
    (mSeq (mIfS (mBool (mOp fLt (mVar 2) (mC (.int 1000000000)))) (mSeq (mSet 3 (mOp fMod (mFn1 fInt (oD (mOp fAdd (mOp fAdd (mOp fMul (mVar 2) (mC (.int 48271))) (mOp fMul (mVar 1) (mC (.int 69621)))) (mC (.int 11))))) (mC (.int 2147483647))))
    (mSeq (mSet 4 (mOp fMod (mFn1 fInt (oD (mOp fAdd (mOp fAdd (mOp fMul (mVar 3) (mC (.int 16807))) (mOp fMul (mVar 1) (mC (.int 31)))) (mC (.int 1013))))) (mC (.int 2147483629))))
    (mSeq (mSet 5 (mOp fMod (mFn1 fInt (oD (mOp fAdd (mOp fAdd (mOp fMul (mVar 4) (mC (.int 39373))) (mVar 3)) (mC (.int 77))))) (mC (.int 2147483587))))
    (mSet 2 (mOp fAdd (mOp fMul (mOp fAdd (mOp fMul (mVar 5) (mC (.int 2147483647))) (mVar 4)) (mC (.int 2147483647))) (mVar 3)))))) mSkip)
    (mRet (mVar 2))))))
/-- 3 0 term -/
def c_is_variable (G : GF) : MS := (mRet (mIsI "int" (oD (mVar 0))))
/-- 4 0 term, 1 total, 2 part -/
noncomputable def c_size (G : GF) : MS := (mSeq (mIfS (mTru (mCall (G 3) (mCons (mVar 0) mNil))) (mRet (mC (.int 1))) mSkip)
    (mSeq (mSet 1 (mC (.int 1)))
    (mSeq (mFor (mSrc (oD (mOp ixF (mVar 0) (mC (.int 1))))) (mgN 2) (mAug 1 fIadd (mCall (G 4) (mCons (mVar 2) mNil))))
    (mRet (mVar 1)))))
/-- 5 0 term, 1 deepest, 2 part -/
noncomputable def c_depth (G : GF) : MS := (mSeq (mIfS (mOrT (mTru (mCall (G 3) (mCons (mVar 0) mNil))) (mNotT (mTru (mOp ixF (mVar 0) (mC (.int 1)))))) (mRet (mC (.int 0))) mSkip)
    (mSeq (mSet 1 (mC (.int 0)))
    (mSeq (mFor (mSrc (oD (mOp ixF (mVar 0) (mC (.int 1))))) (mgN 2) (mSet 1 (mMax2 (mVar 1) (mCall (G 5) (mCons (mVar 2) mNil)))))
    (mRet (mOp fAdd (mVar 1) (mC (.int 1)))))))
/-- 6 0 term, 1 variable, 2 total, 3 part -/
noncomputable def c_occurrences (G : GF) : MS := (mSeq (mIfS (mTru (mCall (G 3) (mCons (mVar 0) mNil))) (mRet (mIf (mBool (mOpO fEq (oD (mVar 0)) (oD (mVar 1)))) (mC (.int 1)) (mC (.int 0)))) mSkip)
    (mSeq (mSet 2 (mC (.int 0)))
    (mSeq (mFor (mSrc (oD (mOp ixF (mVar 0) (mC (.int 1))))) (mgN 3) (mAug 2 fIadd (mCall (G 6) (mCons (mVar 3) (mCons (mVar 1) mNil)))))
    (mRet (mVar 2)))))
/-- 7 0 term, 1 found, 2 part -/
noncomputable def c_collect (G : GF) : MS := (mIfS (mTru (mCall (G 3) (mCons (mVar 0) mNil))) (mIfS (mBool (mOpO fNin (oD (mVar 0)) (oD (mVar 1)))) (mDrop (mApp (mVar 1) (mVar 0))) mSkip) (mFor (mSrc (oD (mOp ixF (mVar 0) (mC (.int 1))))) (mgN 2) (mDrop (mCall (G 7) (mCons (mVar 2) (mCons (mVar 1) mNil))))))
/-- 8 0 term, 1 found -/
def c_variables (G : GF) : MS := (mSeq (mSet 1 (mAlloc (mLst mNil)))
    (mSeq (mDrop (mCall (G 7) (mCons (mVar 0) (mCons (mVar 1) mNil))))
    (mRet (mVar 1))))
/-- 9 0 _law_actual -/
def c__law_is_integer (G : GF) : MS := (mRet (mAnd (mIsI "int" (oD (mVar 0))) (mNot (mIsI "bool" (oD (mVar 0))))))
/-- 10 0 _law_actual, 1 _law_due -/
def c__law_is_truth (G : GF) : MS := (mRet (mAnd (mIsI "bool" (oD (mVar 0))) (mOpO fEq (oD (mVar 0)) (oD (mVar 1)))))
/-- 11 0 _law_n, 1 _law_symbols -/
def c__law_symbol (G : GF) : MS := (mSeq (mSet 1 (mAlloc (mLst (mCons (mTup (mCons (mC (.int 2)) (mCons (mC (.int 0)) (mCons (mC (.int 0)) mNil)))) (mCons (mTup (mCons (mC (.int 2)) (mCons (mC (.int 1)) (mCons (mC (.int 0)) mNil)))) (mCons (mTup (mCons (mC (.int 3)) (mCons (mC (.int 0)) (mCons (mC (.int 0)) mNil)))) (mCons (mTup (mCons (mC (.int 2)) (mCons (mC (.int 2)) (mCons (mC (.int 0)) mNil)))) (mCons (mTup (mCons (mC (.int 3)) (mCons (mC (.int 4)) (mCons (mC (.int 1)) mNil)))) mNil))))))))
    (mRet (mOp ixF (mVar 1) (mOp fMod (mFn1 fInt (oD (mVar 0))) (mC (.int 5))))))
/-- 12 0 _law_row, 1 _law_deep, 2 _law_kind, 3 _law_many, 4 _law_symbol_here, 5 _law_parts, 6 _law_k, 7 _law_found -/
noncomputable def c__law_term (G : GF) : MS := (mSeq (mSet 2 (mOp fMod (mFn1 fInt (oD (mVar 0))) (mC (.int 5))))
    (mSeq (mSet 0 (mOp fDiv (mVar 0) (mC (.int 5))))
    (mSeq (mIfS (mBool (mOp fLt (mVar 2) (mC (.int 2)))) (mRet (mTup (mCons (mOp fMod (mFn1 fInt (oD (mVar 0))) (mC (.int 3))) (mCons (mOp fDiv (mVar 0) (mC (.int 3))) mNil)))) mSkip)
    (mSeq (mSet 3 (mOp fMod (mFn1 fInt (oD (mVar 0))) (mC (.int 3))))
    (mSeq (mSet 0 (mOp fDiv (mVar 0) (mC (.int 3))))
    (mSeq (mIfS (mBool (mOpO fEq (oD (mVar 1)) (oD (mC (.int 0))))) (mSet 3 (mC (.int 0))) mSkip)
    (mSeq (mSet 4 (mCall (G 11) (mCons (mOp fMod (mFn1 fInt (oD (mVar 0))) (mC (.int 5))) mNil)))
    (mSeq (mSet 0 (mOp fDiv (mVar 0) (mC (.int 5))))
    (mSeq (mSet 5 (mAlloc (mLst mNil)))
    (mSeq (mFor (mRng1 (mVar 3)) (mgN 6) (mSeq (mSet 7 (mCall (G 12) (mCons (mVar 0) (mCons (mOp fSub (mVar 1) (mC (.int 1))) mNil))))
    (mSeq (mDrop (mApp (mVar 5) (mOp ixF (mVar 7) (mC (.int 0)))))
    (mSet 0 (mOp ixF (mVar 7) (mC (.int 1)))))))
    (mRet (mTup (mCons (mTup (mCons (mVar 4) (mCons (mFn1 fTupc (oD (mVar 5))) mNil))) (mCons (mVar 0) mNil))))))))))))))
/-- 13 0 _law_row, 1 _law_deep, 2 _law_symbols, 3 _law_symbol_here, 4 _law_many, 5 _law_parts, 6 _law_k, 7 _law_found -/
noncomputable def c__law_atom (G : GF) : MS := (mSeq (mSet 2 (mAlloc (mLst (mCons (mTup (mCons (mC (.int 1)) (mCons (mC (.int 0)) (mCons (mC (.int 0)) mNil)))) (mCons (mTup (mCons (mC (.int 1)) (mCons (mC (.int 1)) (mCons (mC (.int 0)) mNil)))) (mCons (mTup (mCons (mC (.int 4)) (mCons (mC (.int 0)) (mCons (mC (.int 0)) mNil)))) (mCons (mTup (mCons (mC (.int 1)) (mCons (mC (.int 2)) (mCons (mC (.int 0)) mNil)))) (mCons (mTup (mCons (mC (.int 5)) (mCons (mC (.int 2)) (mCons (mC (.int 0)) mNil)))) (mCons (mTup (mCons (mC (.int 0)) (mCons (mC (.int 0)) (mCons (mC (.int 0)) mNil)))) mNil)))))))))
    (mSeq (mSet 3 (mOp ixF (mVar 2) (mOp fMod (mFn1 fInt (oD (mVar 0))) (mC (.int 6)))))
    (mSeq (mSet 0 (mOp fDiv (mVar 0) (mC (.int 6))))
    (mSeq (mSet 4 (mOp fMod (mFn1 fInt (oD (mVar 0))) (mC (.int 3))))
    (mSeq (mSet 0 (mOp fDiv (mVar 0) (mC (.int 3))))
    (mSeq (mSet 5 (mAlloc (mLst mNil)))
    (mSeq (mFor (mRng1 (mVar 4)) (mgN 6) (mSeq (mSet 7 (mCall (G 12) (mCons (mVar 0) (mCons (mVar 1) mNil))))
    (mSeq (mDrop (mApp (mVar 5) (mOp ixF (mVar 7) (mC (.int 0)))))
    (mSet 0 (mOp ixF (mVar 7) (mC (.int 1)))))))
    (mRet (mTup (mCons (mTup (mCons (mVar 3) (mCons (mFn1 fTupc (oD (mVar 5))) mNil))) (mCons (mVar 0) mNil)))))))))))
/-- 14 0 _law_term_here -/
def c__law_is_variable (G : GF) : MS := (mRet (mIsI "int" (oD (mVar 0))))
/-- 15 0 _law_term_here, 1 _law_found, 2 _law_part -/
noncomputable def c__law_variables (G : GF) : MS := (mSeq (mIfS (mTru (mCall (G 14) (mCons (mVar 0) mNil))) (mSeq (mIfS (mBool (mOpO fNin (oD (mVar 0)) (oD (mVar 1)))) (mSet 1 (mAlloc (mCatL (oD (mVar 1)) (oN (mLst (mCons (mVar 0) mNil)))))) mSkip)
    (mRet (mVar 1))) mSkip)
    (mSeq (mFor (mSrc (oD (mOp ixF (mVar 0) (mC (.int 1))))) (mgN 2) (mSet 1 (mCall (G 15) (mCons (mVar 2) (mCons (mVar 1) mNil)))))
    (mRet (mVar 1))))
/-- 16 0 _law_term_here, 1 _law_variable, 2 _law_total, 3 _law_part -/
noncomputable def c__law_count (G : GF) : MS := (mSeq (mIfS (mTru (mCall (G 14) (mCons (mVar 0) mNil))) (mRet (mIf (mBool (mOpO fEq (oD (mVar 0)) (oD (mVar 1)))) (mC (.int 1)) (mC (.int 0)))) mSkip)
    (mSeq (mSet 2 (mC (.int 0)))
    (mSeq (mFor (mSrc (oD (mOp ixF (mVar 0) (mC (.int 1))))) (mgN 3) (mSet 2 (mOp fAdd (mVar 2) (mCall (G 16) (mCons (mVar 3) (mCons (mVar 1) mNil))))))
    (mRet (mVar 2)))))
/-- 17 0 _law_term_here, 1 _law_part -/
noncomputable def c__law_size (G : GF) : MS := (mSeq (mIfS (mTru (mCall (G 14) (mCons (mVar 0) mNil))) (mRet (mC (.int 1))) mSkip)
    (mRet (mOp fAdd (mC (.int 1)) (mFn1 fSum (oN (mComp (mSrc (oD (mOp ixF (mVar 0) (mC (.int 1))))) [1] (mgN 1) mYes (mCall (G 17) (mCons (mVar 1) mNil))))))))
/-- 18 0 _law_term_here, 1 _law_part -/
noncomputable def c__law_depth (G : GF) : MS := (mSeq (mIfS (mOrT (mTru (mCall (G 14) (mCons (mVar 0) mNil))) (mNotT (mTru (mOp ixF (mVar 0) (mC (.int 1)))))) (mRet (mC (.int 0))) mSkip)
    (mRet (mOp fAdd (mC (.int 1)) (mFn1 fMax (oN (mComp (mSrc (oD (mOp ixF (mVar 0) (mC (.int 1))))) [1] (mgN 1) mYes (mCall (G 18) (mCons (mVar 1) mNil))))))))
/-- 19 0 term -/
def c_is_atom (G : GF) : MS := (mRet (mAnd (mNot (mCall (G 3) (mCons (mVar 0) mNil))) (mOpO fIn (oD (mOp ixF (mOp ixF (mVar 0) (mC (.int 0))) (mC (.int 0)))) (oD (mTup (mCons (mC (.int 0)) (mCons (mC (.int 1)) (mCons (mC (.int 4)) (mCons (mC (.int 5)) mNil)))))))))
/-- 20 0 term, 1 part -/
noncomputable def c_is_individual (G : GF) : MS := (mSeq (mIfS (mTru (mCall (G 3) (mCons (mVar 0) mNil))) (mRet (mC (.bl true))) mSkip)
    (mSeq (mIfS (mBool (mOpO fNin (oD (mOp ixF (mOp ixF (mVar 0) (mC (.int 0))) (mC (.int 0)))) (oD (mTup (mCons (mC (.int 2)) (mCons (mC (.int 3)) mNil)))))) (mRet (mC (.bl false))) mSkip)
    (mSeq (mFor (mSrc (oD (mOp ixF (mVar 0) (mC (.int 1))))) (mgN 1) (mIfS (mNotT (mTru (mCall (G 20) (mCons (mVar 1) mNil)))) (mRet (mC (.bl false))) mSkip))
    (mRet (mC (.bl true))))))
/-- 21 0 term, 1 part -/
noncomputable def c_is_atomic (G : GF) : MS := (mSeq (mIfS (mNotT (mTru (mCall (G 19) (mCons (mVar 0) mNil)))) (mRet (mC (.bl false))) mSkip)
    (mSeq (mFor (mSrc (oD (mOp ixF (mVar 0) (mC (.int 1))))) (mgN 1) (mIfS (mNotT (mTru (mCall (G 20) (mCons (mVar 1) mNil)))) (mRet (mC (.bl false))) mSkip))
    (mRet (mC (.bl true)))))
/-- 22 0 _law_term_here -/
def c__law_is_atom (G : GF) : MS := (mRet (mAnd (mNot (mCall (G 14) (mCons (mVar 0) mNil))) (mAnd (mOpO fNe (oD (mOp ixF (mOp ixF (mVar 0) (mC (.int 0))) (mC (.int 0)))) (oD (mC (.int 2)))) (mOpO fNe (oD (mOp ixF (mOp ixF (mVar 0) (mC (.int 0))) (mC (.int 0)))) (oD (mC (.int 3)))))))
/-- 23 0 _law_term_here, 1 _law_part -/
noncomputable def c__law_is_individual (G : GF) : MS := (mSeq (mIfS (mTru (mCall (G 14) (mCons (mVar 0) mNil))) (mRet (mC (.bl true))) mSkip)
    (mSeq (mIfS (mAndT (mBool (mOpO fNe (oD (mOp ixF (mOp ixF (mVar 0) (mC (.int 0))) (mC (.int 0)))) (oD (mC (.int 2))))) (mBool (mOpO fNe (oD (mOp ixF (mOp ixF (mVar 0) (mC (.int 0))) (mC (.int 0)))) (oD (mC (.int 3)))))) (mRet (mC (.bl false))) mSkip)
    (mRet (mFn1 fAll (oN (mComp (mSrc (oD (mOp ixF (mVar 0) (mC (.int 1))))) [1] (mgN 1) mYes (mCall (G 23) (mCons (mVar 1) mNil))))))))
/-- 24 0 _law_term_here, 1 _law_part -/
noncomputable def c__law_is_atomic (G : GF) : MS := (mSeq (mIfS (mOrT (mTru (mCall (G 14) (mCons (mVar 0) mNil))) (mOrT (mBool (mOpO fEq (oD (mOp ixF (mOp ixF (mVar 0) (mC (.int 0))) (mC (.int 0)))) (oD (mC (.int 2))))) (mBool (mOpO fEq (oD (mOp ixF (mOp ixF (mVar 0) (mC (.int 0))) (mC (.int 0)))) (oD (mC (.int 3))))))) (mRet (mC (.bl false))) mSkip)
    (mRet (mFn1 fAll (oN (mComp (mSrc (oD (mOp ixF (mVar 0) (mC (.int 1))))) [1] (mgN 1) mYes (mCall (G 23) (mCons (mVar 1) mNil)))))))
/-- 25 0 term, 1 found, 2 k, 3 part, 4 place, 5 inner -/
noncomputable def c_places (G : GF) : MS := (mSeq (mSet 1 (mAlloc (mLst (mCons (mTup (mCons (mTup mNil) (mCons (mVar 0) mNil))) mNil))))
    (mSeq (mIfS (mNotT (mTru (mCall (G 3) (mCons (mVar 0) mNil)))) (mFor (mEnum (oD (mOp ixF (mVar 0) (mC (.int 1))))) (mgTup 2 (mgCons (mgN 2) (mgCons (mgN 3) mgNil))) (mFor (mSrc (oD (mCall (G 25) (mCons (mVar 3) mNil)))) (mgTup 2 (mgCons (mgN 4) (mgCons (mgN 5) mgNil))) (mDrop (mApp (mVar 1) (mTup (mCons (mOp fAdd (mTup (mCons (mVar 2) mNil)) (mVar 4)) (mCons (mVar 5) mNil))))))) mSkip)
    (mRet (mVar 1))))
/-- 26 0 term, 1 place, 2 here, 3 step -/
noncomputable def c_at (G : GF) : MS := (mSeq (mSet 2 (mVar 0))
    (mSeq (mFor (mSrc (oD (mVar 1))) (mgN 3) (mSeq (mIfS (mOrT (mTru (mCall (G 3) (mCons (mVar 2) mNil))) (mOrT (mBool (mOp fLt (mVar 3) (mC (.int 0)))) (mBool (mOp fGe (mVar 3) (mFn1 fLen (oD (mOp ixF (mVar 2) (mC (.int 1))))))))) (mRet (mC .non)) mSkip)
    (mSet 2 (mOp ixF (mOp ixF (mVar 2) (mC (.int 1))) (mVar 3)))))
    (mRet (mVar 2))))
/-- 27 0 _law_term_here, 1 _law_found, 2 _law_k, 3 _law_pair -/
noncomputable def c__law_places (G : GF) : MS := (mSeq (mSet 1 (mAlloc (mLst (mCons (mTup (mCons (mTup mNil) (mCons (mVar 0) mNil))) mNil))))
    (mSeq (mIfS (mNotT (mTru (mCall (G 14) (mCons (mVar 0) mNil)))) (mFor (mRng1 (mFn1 fLen (oD (mOp ixF (mVar 0) (mC (.int 1)))))) (mgN 2) (mFor (mSrc (oD (mCall (G 27) (mCons (mOp ixF (mOp ixF (mVar 0) (mC (.int 1))) (mVar 2)) mNil)))) (mgN 3) (mDrop (mApp (mVar 1) (mTup (mCons (mOp fAdd (mTup (mCons (mVar 2) mNil)) (mOp ixF (mVar 3) (mC (.int 0)))) (mCons (mOp ixF (mVar 3) (mC (.int 1))) mNil))))))) mSkip)
    (mRet (mVar 1))))
/-- 28 0 _law_row, 1 _law_steps_here, 2 _law_k -/
noncomputable def c__law_steps (G : GF) : MS := (mSeq (mSet 1 (mAlloc (mLst mNil)))
    (mSeq (mFor (mRng1 (mOp fMod (mFn1 fInt (oD (mVar 0))) (mC (.int 5)))) (mgN 2) (mSeq (mSet 0 (mOp fDiv (mVar 0) (mC (.int 5))))
    (mDrop (mApp (mVar 1) (mOp fMod (mFn1 fInt (oD (mVar 0))) (mC (.int 4)))))))
    (mRet (mFn1 fTupc (oD (mVar 1))))))
/-- 29 0 term, 1 place, 2 new, 3 step, 4 parts -/
def c_put_inside (G : GF) : MS := (mSeq (mIfS (mNotT (mTru (mVar 1))) (mRet (mVar 2)) mSkip)
    (mSeq (mSet 3 (mOp ixF (mVar 1) (mC (.int 0))))
    (mSeq (mSet 4 (mAlloc (mLisc (oD (mOp ixF (mVar 0) (mC (.int 1)))))))
    (mSeq (mSetI (mVar 4) (mVar 3) (mCall (G 29) (mCons (mOp ixF (mVar 4) (mVar 3)) (mCons (oS (mSl (mVar 1) (mSoI (mC (.int 1))) mNoI)) (mCons (mVar 2) mNil)))))
    (mRet (mTup (mCons (mOp ixF (mVar 0) (mC (.int 0))) (mCons (mFn1 fTupc (oD (mVar 4))) mNil))))))))
/-- 30 0 term, 1 place, 2 new -/
def c_put_at (G : GF) : MS := (mSeq (mIfS (mBool (mIsN (mCall (G 26) (mCons (mVar 0) (mCons (mVar 1) mNil))))) (mRet (mVar 0)) mSkip)
    (mRet (mCall (G 29) (mCons (mVar 0) (mCons (mVar 1) (mCons (mVar 2) mNil))))))
/-- 31 0 literal, 1 k -/
def c_side (G : GF) : MS := (mRet (mOp ixF (mVar 0) (mOp fAdd (mC (.int 1)) (mVar 1))))
/-- 32 0 literal, 1 k, 2 term -/
def c_with_side (G : GF) : MS := (mSeq (mIfS (mBool (mOpO fEq (oD (mVar 1)) (oD (mC (.int 0))))) (mRet (mTup (mCons (mOp ixF (mVar 0) (mC (.int 0))) (mCons (mVar 2) (mCons (mOp ixF (mVar 0) (mC (.int 2))) mNil))))) mSkip)
    (mRet (mTup (mCons (mOp ixF (mVar 0) (mC (.int 0))) (mCons (mOp ixF (mVar 0) (mC (.int 1))) (mCons (mVar 2) mNil))))))
/-- 33 0 first, 1 second -/
def c_same_sides (G : GF) : MS := (mSeq (mIfS (mAndT (mBool (mOpO fEq (oD (mOp ixF (mVar 0) (mC (.int 1)))) (oD (mOp ixF (mVar 1) (mC (.int 1)))))) (mBool (mOpO fEq (oD (mOp ixF (mVar 0) (mC (.int 2)))) (oD (mOp ixF (mVar 1) (mC (.int 2))))))) (mRet (mC (.bl true))) mSkip)
    (mRet (mAnd (mOpO fEq (oD (mOp ixF (mVar 0) (mC (.int 1)))) (oD (mOp ixF (mVar 1) (mC (.int 2))))) (mOpO fEq (oD (mOp ixF (mVar 0) (mC (.int 2)))) (oD (mOp ixF (mVar 1) (mC (.int 1))))))))
/-- 34 0 first, 1 second -/
def c_same (G : GF) : MS := (mRet (mAnd (mOpO fEq (oD (mOp ixF (mVar 0) (mC (.int 0)))) (oD (mOp ixF (mVar 1) (mC (.int 0))))) (mCall (G 33) (mCons (mVar 0) (mCons (mVar 1) mNil)))))
/-- 35 0 literal -/
def c_is_well_formed_literal (G : GF) : MS := (mSeq (mIfS (mAndT (mTru (mCall (G 20) (mCons (mOp ixF (mVar 0) (mC (.int 1))) mNil))) (mTru (mCall (G 20) (mCons (mOp ixF (mVar 0) (mC (.int 2))) mNil)))) (mRet (mC (.bl true))) mSkip)
    (mRet (mAnd (mCall (G 21) (mCons (mOp ixF (mVar 0) (mC (.int 1))) mNil)) (mOpO fEq (oD (mOp ixF (mVar 0) (mC (.int 2)))) (oD (mC k_TRUTH))))))
/-- 36 0 clause, 1 literal -/
noncomputable def c_is_well_formed (G : GF) : MS := (mSeq (mFor (mSrc (oD (mVar 0))) (mgN 1) (mIfS (mNotT (mTru (mCall (G 35) (mCons (mVar 1) mNil)))) (mRet (mC (.bl false))) mSkip))
    (mRet (mC (.bl true))))
/-- 37 0 _law_row, 1 _law_deep, 2 _law_positive, 3 _law_kind, 4 _law_found, 5 _law_left, 6 _law_right -/
def c__law_literal (G : GF) : MS := (mSeq (mSet 2 (mOpO fEq (oD (mOp fMod (mFn1 fInt (oD (mVar 0))) (mC (.int 2)))) (oD (mC (.int 0)))))
    (mSeq (mSet 3 (mOp fMod (mOp fDiv (mVar 0) (mC (.int 2))) (mC (.int 3))))
    (mSeq (mSet 0 (mOp fDiv (mVar 0) (mC (.int 6))))
    (mSeq (mIfS (mBool (mOpO fEq (oD (mVar 3)) (oD (mC (.int 0))))) (mSeq (mSet 4 (mCall (G 13) (mCons (mVar 0) (mCons (mVar 1) mNil))))
    (mRet (mTup (mCons (mTup (mCons (mVar 2) (mCons (mOp ixF (mVar 4) (mC (.int 0))) (mCons (mTup (mCons (mTup (mCons (mC (.int 0)) (mCons (mC (.int 0)) (mCons (mC (.int 0)) mNil)))) (mCons (mTup mNil) mNil))) mNil)))) (mCons (mOp ixF (mVar 4) (mC (.int 1))) mNil))))) mSkip)
    (mSeq (mSet 5 (mCall (G 12) (mCons (mVar 0) (mCons (mVar 1) mNil))))
    (mSeq (mSet 6 (mCall (G 12) (mCons (mOp ixF (mVar 5) (mC (.int 1))) (mCons (mVar 1) mNil))))
    (mRet (mTup (mCons (mTup (mCons (mVar 2) (mCons (mOp ixF (mVar 5) (mC (.int 0))) (mCons (mOp ixF (mVar 6) (mC (.int 0))) mNil)))) (mCons (mOp ixF (mVar 6) (mC (.int 1))) mNil))))))))))
/-- 38 0 _law_row, 1 _law_most, 2 _law_deep, 3 _law_many, 4 _law_literals, 5 _law_k, 6 _law_found -/
noncomputable def c__law_clause (G : GF) : MS := (mSeq (mSet 3 (mOp fMod (mFn1 fInt (oD (mVar 0))) (mOp fAdd (mVar 1) (mC (.int 1)))))
    (mSeq (mSet 0 (mOp fDiv (mVar 0) (mOp fAdd (mVar 1) (mC (.int 1)))))
    (mSeq (mSet 4 (mAlloc (mLst mNil)))
    (mSeq (mFor (mRng1 (mVar 3)) (mgN 5) (mSeq (mSet 6 (mCall (G 37) (mCons (mVar 0) (mCons (mVar 2) mNil))))
    (mSeq (mDrop (mApp (mVar 4) (mOp ixF (mVar 6) (mC (.int 0)))))
    (mSeq (mSet 0 (mOp ixF (mVar 6) (mC (.int 1))))
    (mIfS (mBool (mOpO fEq (oD (mOp fMod (mOp fDiv (mVar 0) (mC (.int 3))) (mC (.int 4)))) (oD (mC (.int 1))))) (mDrop (mApp (mVar 4) (mOp ixF (mVar 4) (mOp fMod (mFn1 fInt (oD (mVar 0))) (mFn1 fLen (oD (mVar 4))))))) mSkip)))))
    (mRet (mFn1 fTupc (oD (mVar 4))))))))
/-- 39 0 _law_first, 1 _law_second_here -/
def c__law_same (G : GF) : MS := (mSeq (mIfS (mBool (mOpO fNe (oD (mOp ixF (mVar 0) (mC (.int 0)))) (oD (mOp ixF (mVar 1) (mC (.int 0)))))) (mRet (mC (.bl false))) mSkip)
    (mSeq (mIfS (mAndT (mBool (mOpO fEq (oD (mOp ixF (mVar 0) (mC (.int 1)))) (oD (mOp ixF (mVar 1) (mC (.int 1)))))) (mBool (mOpO fEq (oD (mOp ixF (mVar 0) (mC (.int 2)))) (oD (mOp ixF (mVar 1) (mC (.int 2))))))) (mRet (mC (.bl true))) mSkip)
    (mRet (mAnd (mOpO fEq (oD (mOp ixF (mVar 0) (mC (.int 1)))) (oD (mOp ixF (mVar 1) (mC (.int 2))))) (mOpO fEq (oD (mOp ixF (mVar 0) (mC (.int 2)))) (oD (mOp ixF (mVar 1) (mC (.int 1)))))))))
noncomputable def lZl0 : List Fb := [mkFb 1 1 c_answer,
  mkFb 2 2 c_comes_before,
  mkFb 2 6 c__law_cell,
  mkFb 1 1 c_is_variable,
  mkFb 1 3 c_size,
  mkFb 1 3 c_depth,
  mkFb 2 4 c_occurrences,
  mkFb 2 3 c_collect,
  mkFb 1 2 c_variables,
  mkFb 1 1 c__law_is_integer,
  mkFb 2 2 c__law_is_truth,
  mkFb 1 2 c__law_symbol,
  mkFb 2 8 c__law_term,
  mkFb 2 8 c__law_atom,
  mkFb 1 1 c__law_is_variable,
  mkFb 2 3 c__law_variables,
  mkFb 2 4 c__law_count,
  mkFb 1 2 c__law_size,
  mkFb 1 2 c__law_depth,
  mkFb 1 1 c_is_atom,
  mkFb 1 2 c_is_individual,
  mkFb 1 2 c_is_atomic,
  mkFb 1 1 c__law_is_atom,
  mkFb 1 2 c__law_is_individual,
  mkFb 1 2 c__law_is_atomic,
  mkFb 1 6 c_places,
  mkFb 2 4 c_at,
  mkFb 1 4 c__law_places,
  mkFb 1 3 c__law_steps,
  mkFb 3 5 c_put_inside,
  mkFb 3 3 c_put_at,
  mkFb 2 2 c_side,
  mkFb 3 3 c_with_side,
  mkFb 2 2 c_same_sides,
  mkFb 2 2 c_same,
  mkFb 1 1 c_is_well_formed_literal,
  mkFb 1 2 c_is_well_formed,
  mkFb 2 7 c__law_literal,
  mkFb 3 7 c__law_clause,
  mkFb 2 2 c__law_same]
end Zi
set_option maxRecDepth 100000
set_option maxHeartbeats 1000000
namespace Zi
open PySem L2
inductive Tm where
  | v (i : Int) | ap (a b c : Int) (ts : List Tm)
theorem Tm.ind {P : Tm → Prop} (hv : ∀ i, P (.v i)) (ha : ∀ a b c ts, (∀ t ∈ ts, P t) → P (.ap a b c ts)) (t : Tm) : P t :=
  Tm.rec (motive_1 := P) (motive_2 := fun ts => ∀ t ∈ ts, P t) hv (fun a b c ts ih => ha a b c ts ih) (fun _ h => by cases h) (fun t ts h1 h2 x hx => by
    rcases List.mem_cons.mp hx with e | e
    · subst e; exact h1
    · exact h2 x e) t
def eS (a b c : Int) : D := .tup [.int a, .int b, .int c]
mutual
def eT : Tm → D
  | .v i => .int i
  | .ap a b c ts => .tup [eS a b c, .tup (eTs ts)]
def eTs : List Tm → List D
  | [] => []
  | t :: ts => eT t :: eTs ts
end
theorem eTs_map : ∀ ts, eTs ts = ts.map eT
  | [] => by simp [eTs]
  | t :: ts => by simp [eTs, eTs_map ts]
theorem eT_v (i : Int) : eT (.v i) = .int i := by simp [eT]
theorem eT_ap (a b c : Int) (ts : List Tm) : eT (.ap a b c ts) = .tup [eS a b c, .tup (ts.map eT)] := by simp [eT, eTs_map]
mutual
def Tm.hgt : Tm → Nat
  | .v _ => 0
  | .ap _ _ _ ts => hgts ts + 1
def hgts : List Tm → Nat
  | [] => 0
  | t :: ts => max t.hgt (hgts ts)
end
theorem hgts_mem : ∀ {ts : List Tm} {t : Tm}, t ∈ ts → t.hgt ≤ hgts ts
  | t' :: ts, t, h => by
    rcases List.mem_cons.mp h with e | e
    · subst e; simp only [hgts]; omega
    · have := hgts_mem e
      simp only [hgts]; omega
theorem hgts_le : ∀ {ts : List Tm} {n : Nat}, (∀ t ∈ ts, t.hgt ≤ n) → hgts ts ≤ n
  | [], _, _ => by simp [hgts]
  | t :: ts, n, h => by
    have h1 := h t (by simp)
    have h2 := hgts_le (n := n) fun x hx => h x (List.mem_cons_of_mem _ hx)
    simp only [hgts]; omega
theorem hgt_ap {a b c : Int} {ts : List Tm} : (Tm.ap a b c ts).hgt = hgts ts + 1 := by simp [Tm.hgt]
/-- every list of arguments is short -/
inductive Tm.Wd (n : Nat) : Tm → Prop
  | v (i : Int) : Tm.Wd n (.v i)
  | ap {a b c : Int} {ts : List Tm} : ts.length ≤ n → (∀ t ∈ ts, Tm.Wd n t) → Tm.Wd n (.ap a b c ts)
mutual
theorem refLt_eT {n : Nat} : ∀ t, refLt n (eT t) = true
  | .v i => by simp [eT, refLt]
  | .ap a b c ts => by simp [eT, eS, refLt, refLtL, refLt_eTs ts]
theorem refLt_eTs {n : Nat} : ∀ ts, refLtL n (eTs ts) = true
  | [] => by simp [eTs, refLtL]
  | t :: ts => by simp [eTs, refLtL, refLt_eT t, refLt_eTs ts]
end
theorem forL_inv {α : Type} {ok : Sto → Prop} {tg : MG} {body : MS} (e : α → D) (I : List α → Lo → Sto → Prop) (hok : ∀ dn l S, I dn l S → ok S) (all : List α)
    (hs : ∀ dn x rest l S, all = dn ++ x :: rest → I dn l S → ∃ l1 l2 S1, tg (e x) l S = some l1 ∧ body l1 S = some (.nx l2, S1) ∧ I (dn ++ [x]) l2 S1) : ∀ (xs dn : List α) (l : Lo) (S : Sto), all = dn ++ xs → I dn l S → ∃ l' S', forL ok tg body (xs.map e) l S = some (.nx l', S') ∧ I all l' S'
  | [], dn, l, S, ha, h => ⟨l, S, forL_nil (hok dn l S h), by rw [ha, List.append_nil]; exact h⟩
  | x :: xs, dn, l, S, ha, h => by
    obtain ⟨l1, l2, S1, h1, h2, h3⟩ := hs dn x xs l S ha h
    obtain ⟨l', S', h4, h5⟩ := forL_inv e I hok all hs xs (dn ++ [x]) l2 S1 (by rw [ha, List.append_assoc]; rfl) h3
    exact ⟨l', S', (forL_nx (hok dn l S h) h1 h2).trans h4, h5⟩
theorem compL_map {α : Type} {ok : Sto → Prop} {tg : MG} {elt : M} {l : Lo} {S : Sto} (e : α → D) (g : α → D) (hok : ok S) : ∀ (xs : List α) (_ : ∀ x ∈ xs, ∃ l1, tg (e x) l S = some l1 ∧ elt l1 S = some (g x, S)),
    compL ok tg mYes elt l (xs.map e) S = some (xs.map g, S)
  | [], _ => by
    show compL ok tg mYes elt l [] S = _
    rw [compL, if_pos hok]
    rfl
  | x :: xs, h => by
    obtain ⟨l1, h1, h2⟩ := h x (by simp)
    have ih := compL_map (ok := ok) (tg := tg) (elt := elt) (l := l) (S := S) e g hok xs fun y hy => h y (List.mem_cons_of_mem _ hy)
    show compL ok tg mYes elt l (e x :: xs.map e) S = _
    rw [compL, if_pos hok]
    simp only [h1, Option.bind_some, mYes, if_true, h2, ih, List.map_cons]
theorem comp_of {src : MI} {vs : List Nat} {tg : MG} {c : MT} {elt : M} {l : Lo} {S S1 : Sto} {s : Src} (h : src l S = some (s, S1)) (hl : s.ds.length ≤ 1000000) : mComp src vs tg c elt l S = compL s.ok tg c elt (wipeD l vs) s.ds S1 := by
  unfold mComp
  rw [h]
  simp only [Option.bind_some, if_pos hl]
theorem i62a {n : Nat} (hn : n ≤ 1000000) : (n : Int) < 4611686018427387904 := by omega
theorem i62b {n : Nat} (hn : n ≤ 1000000) : (-4611686018427387904 : Int) ≤ n := by omega
theorem i62c : (2 : Int) ^ 62 = 4611686018427387904 := by simp only [Int.reducePow]
theorem i62d {n : Nat} (hn : n ≤ 1000000) : (n : Int) < 2 ^ 62 := by rw [i62c]; exact i62a hn
theorem i62e {n : Nat} (hn : n ≤ 1000000) : -(2 ^ 62) ≤ (n : Int) := by rw [i62c]; exact i62b hn
theorem rng1_a {j : Int} {m : M} {l : Lo} {S S1 : Sto} (h : m l S = some (.int j, S1)) (e : -(2 ^ 62) ≤ j ∧ j < 2 ^ 62) : mRng1 m l S = some (⟨rangeD 0 j.toNat, fun _ => True⟩, S1) := by
  unfold mRng1
  simp only [h, Option.bind_some]
  rw [if_pos e]
theorem rng1_of {m : M} {l : Lo} {S S1 : Sto} {n : Nat} (h : m l S = some (.int (n : Nat), S1)) (hn : n ≤ 1000000) : mRng1 m l S = some (⟨rangeD 0 n, fun _ => True⟩, S1) := by
  have := rng1_a h ⟨i62e hn, i62d hn⟩
  rw [Int.toNat_natCast] at this
  exact this
theorem last_get {S : Sto} {c : Cell} : (S ++ [c])[S.length]? = some c := by
  rw [List.getElem?_append_right (Nat.le_refl _), Nat.sub_self]
  rfl
theorem last_set {S : Sto} {c d : Cell} : (S ++ [c]).set S.length d = S ++ [d] := by
  rw [List.set_append_right _ _ (Nat.le_refl _), Nat.sub_self]
  rfl
theorem old_get {S T : Sto} {r : Nat} {c : Cell} (h : S[r]? = some c) : (S ++ T)[r]? = some c := by
  rw [List.getElem?_append_left (List.getElem?_eq_some_iff.mp h).1]
  exact h
theorem snap_lst {n : Nat} {S : Sto} {r : Nat} {xs : List D} {ps : List PyData} (h : S[r]? = some (.lst xs)) (hp : allS (snap n S) xs = some ps) : snap (n + 1) S (.ref r) = some (.list ps) := by
  show (match S[r]? with
    | some (.lst xs) => (allS (snap n S) xs).bind fun r => some (PyData.list r)
    | _ => none) = _
  rw [h]
  simp only [hp, Option.bind_some]
end Zi
set_option maxRecDepth 100000
namespace Zi
open PySem L2
def wp {α : Type} (o : Option (α × Sto)) (Q : α → Sto → Prop) : Prop := ∃ a S', o = some (a, S') ∧ Q a S'
def wl (o : Option Lo) (Q : Lo → Prop) : Prop := ∃ l, o = some l ∧ Q l
section
variable {α : Type} {o : Option (α × Sto)} {Q Q' : α → Sto → Prop}
theorem wp_eq {a : α} {S' : Sto} (h : o = some (a, S')) (q : Q a S') : wp o Q := ⟨a, S', h, q⟩
theorem wp.imp (h : wp o Q) (i : ∀ a S, Q a S → Q' a S) : wp o Q' := let ⟨a, S, e, q⟩ := h; ⟨a, S, e, i a S q⟩
theorem wp.get {a : α} {S' : Sto} (h : wp o fun b S => b = a ∧ S = S') : o = some (a, S') := by
  obtain ⟨b, S, e, rfl, rfl⟩ := h
  exact e
end
section
variable {l : Lo} {S : Sto} {Q : D → Sto → Prop} {QA : List D → Sto → Prop} {QO : O → Sto → Prop} {QT : Bool → Sto → Prop} {QS : Fl → Sto → Prop} {a b c : M} {ma mb : MA} {oa ob : MO} {ta tb : MT} {sa sb : MS}
theorem wp_var {i : Nat} {d : D} (h : l[i]? = some (some d)) (q : Q d S) : wp (mVar i l S) Q := ⟨d, S, by unfold mVar; rw [h], q⟩
theorem wp_c {d : D} (q : Q d S) : wp (mC d l S) Q := ⟨d, S, rfl, q⟩
theorem wp_op {f : OpF} (h : wp (a l S) fun x S1 => wp (b l S1) fun y S2 => wp (f x y S2) Q) : wp (mOp f a b l S) Q := by
  obtain ⟨x, S1, e1, y, S2, e2, z, S3, e3, q⟩ := h
  exact ⟨z, S3, by unfold mOp; simp only [e1, Option.bind_some, e2, e3], q⟩
theorem wp_opO {f : OpG} (h : wp (oa l S) fun x S1 => wp (ob l S1) fun y S2 => wp (f x y S2) Q) : wp (mOpO f oa ob l S) Q := by
  obtain ⟨x, S1, e1, y, S2, e2, z, S3, e3, q⟩ := h
  exact ⟨z, S3, by unfold mOpO; simp only [e1, Option.bind_some, e2, e3], q⟩
theorem wp_oD (h : wp (a l S) fun x S1 => QO (.d x) S1) : wp (oD a l S) QO := by
  obtain ⟨x, S1, e1, q⟩ := h
  exact ⟨_, S1, by unfold oD; simp only [e1, Option.bind_some], q⟩
theorem wp_oN (h : wp (ma l S) fun x S1 => QO (.n x) S1) : wp (oN ma l S) QO := by
  obtain ⟨x, S1, e1, q⟩ := h
  exact ⟨_, S1, by unfold oN; simp only [e1, Option.bind_some], q⟩
/-- what stands as a value: a list just made is taken into the store -/
def valO (K : D → Sto → Prop) : O → Sto → Prop
  | .d d, S => K d S
  | .n ds, S => K (.ref S.length) (S ++ [.lst ds])
theorem valO_d {d : D} (q : Q d S) : valO Q (.d d) S := q
theorem valO_n {ds : List D} (q : Q (.ref S.length) (S ++ [.lst ds])) : valO Q (.n ds) S := q
theorem wp_oS (h : wp (oa l S) (valO Q)) : wp (oS oa l S) Q := by
  obtain ⟨x, S1, e1, q⟩ := h
  cases x with
  | d d => exact ⟨_, _, by unfold oS; simp only [e1, Option.bind_some], q⟩
  | n ds => exact ⟨_, _, by unfold oS; simp only [e1, Option.bind_some], q⟩
theorem wp_alloc (h : wp (ma l S) fun xs S1 => Q (.ref S1.length) (S1 ++ [.lst xs])) : wp (mAlloc ma l S) Q := by
  obtain ⟨x, S1, e1, q⟩ := h
  exact ⟨_, _, by unfold mAlloc; simp only [e1, Option.bind_some], q⟩
theorem wp_nil (q : QA [] S) : wp (mNil l S) QA := ⟨_, _, rfl, q⟩
theorem wp_cons (h : wp (a l S) fun x S1 => wp (ma l S1) fun xs S2 => QA (x :: xs) S2) : wp (mCons a ma l S) QA := by
  obtain ⟨x, S1, e1, y, S2, e2, q⟩ := h
  exact ⟨_, S2, by unfold mCons; simp only [e1, Option.bind_some, e2], q⟩
/-- a row of no more than a thousand -/
def shrt {α : Type} (ds : List α) (P : Prop) : Prop := ds.length ≤ 1000 ∧ P
theorem shrt_of {α : Type} {ds : List α} {P : Prop} (h : ds.length ≤ 1000) (q : P) : shrt ds P := ⟨h, q⟩
theorem wp_tup (h : wp (ma l S) fun xs S1 => shrt xs (Q (.tup xs) S1)) : wp (mTup ma l S) Q := by
  obtain ⟨x, S1, e1, h1, q⟩ := h
  exact ⟨_, S1, by unfold mTup; simp only [e1, Option.bind_some]; rw [if_pos h1], q⟩
theorem wp_lst (h : wp (ma l S) fun xs S1 => shrt xs (QA xs S1)) : wp (mLst ma l S) QA := by
  obtain ⟨x, S1, e1, h1, q⟩ := h
  exact ⟨_, S1, by unfold mLst; simp only [e1, Option.bind_some]; rw [if_pos h1], q⟩
theorem wp_fn1 {f : Fn1} (h : wp (oa l S) fun x S1 => wp (f x S1) Q) : wp (mFn1 f oa l S) Q := by
  obtain ⟨x, S1, e1, z, S3, e3, q⟩ := h
  exact ⟨z, S3, by unfold mFn1; simp only [e1, Option.bind_some, e3], q⟩
theorem wp_call {F : List D → Sto → Option (D × Sto)} (h : wp (ma l S) fun xs S1 => wp (F xs S1) Q) : wp (mCall F ma l S) Q := by
  obtain ⟨x, S1, e1, z, S3, e3, q⟩ := h
  exact ⟨z, S3, by unfold mCall; simp only [e1, Option.bind_some, e3], q⟩
theorem wp_lisc (h : wp (oa l S) fun o S1 => ∃ ds, seqO S1 o = some ds ∧ QA ds S1) : wp (mLisc oa l S) QA := by
  obtain ⟨x, S1, e1, ds, e2, q⟩ := h
  exact ⟨_, _, by unfold mLisc; simp only [e1, Option.bind_some, e2], q⟩
theorem wp_neg (h : wp (a l S) fun x S1 => ∃ i, x = .int i ∧ Q (.int (-i)) S1) : wp (mNeg a l S) Q := by
  obtain ⟨x, S1, e1, i, rfl, q⟩ := h
  exact ⟨_, S1, by unfold mNeg; simp only [e1, Option.bind_some], q⟩
theorem wp_isN (h : wp (a l S) fun x S1 => Q (.bl (isNon x)) S1) : wp (mIsN a l S) Q := by
  obtain ⟨x, S1, e1, q⟩ := h
  exact ⟨_, S1, by unfold mIsN; simp only [e1, Option.bind_some], q⟩
theorem wp_notN (h : wp (a l S) fun x S1 => Q (.bl (!isNon x)) S1) : wp (mNotN a l S) Q := by
  obtain ⟨x, S1, e1, q⟩ := h
  exact ⟨_, S1, by unfold mNotN; simp only [e1, Option.bind_some], q⟩
/-- what isinstance says -/
def tyK (S : Sto) (x : O) (T : String) (K : Bool → Prop) : Prop := ∃ t, tyO S x = some t ∧ K (isTyB t T)
theorem isI_t {T t : String} {x : O} {K : Bool → Prop} (h : tyO S x = some t) (hb : isTyB t T = true) (q : K true) : tyK S x T K := ⟨t, h, by rw [hb]; exact q⟩
theorem isI_f {T t : String} {x : O} {K : Bool → Prop} (h : tyO S x = some t) (hb : isTyB t T = false) (q : K false) : tyK S x T K := ⟨t, h, by rw [hb]; exact q⟩
theorem wp_isI {T : String} (h : wp (oa l S) fun x S1 => tyK S1 x T fun b => Q (.bl b) S1) : wp (mIsI T oa l S) Q := by
  obtain ⟨x, S1, e1, t, e2, q⟩ := h
  exact ⟨_, S1, by unfold mIsI; simp only [e1, e2, Option.bind_some], q⟩
def isB (d : D) (K : Bool → Prop) : Prop := ∃ b, d = .bl b ∧ K b
theorem isB_bl {b : Bool} {K : Bool → Prop} (q : K b) : isB (.bl b) K := ⟨b, rfl, q⟩
theorem wp_bool (h : wp (a l S) fun x S1 => isB x fun b => QT b S1) : wp (mBool a l S) QT := by
  obtain ⟨x, S1, e1, b, rfl, q⟩ := h
  exact ⟨_, S1, by unfold mBool; simp only [e1, Option.bind_some], q⟩
def tru (d : D) (S : Sto) (K : Bool → Prop) : Prop := ∃ b, truD d S = some b ∧ K b
theorem tru_bl {b : Bool} {K : Bool → Prop} (q : K b) : tru (.bl b) S K := ⟨b, rfl, q⟩
theorem tru_int {i : Int} {K : Bool → Prop} (q : K (i != 0)) : tru (.int i) S K := ⟨_, rfl, q⟩
theorem tru_non {K : Bool → Prop} (q : K false) : tru .non S K := ⟨_, rfl, q⟩
theorem tru_tup {xs : List D} {K : Bool → Prop} (q : K (!xs.isEmpty)) : tru (.tup xs) S K := ⟨_, rfl, q⟩
theorem tru_lst {r : Nat} {xs : List D} {K : Bool → Prop} (h : S[r]? = some (.lst xs)) (q : K (!xs.isEmpty)) : tru (.ref r) S K := ⟨_, by simp only [truD, h], q⟩
theorem wp_tru (h : wp (a l S) fun x S1 => tru x S1 fun b => QT b S1) : wp (mTru a l S) QT := by
  obtain ⟨x, S1, e1, b, e2, q⟩ := h
  exact ⟨_, S1, by unfold mTru; simp only [e1, e2, Option.bind_some], q⟩
theorem wp_notT (h : wp (ta l S) fun x S1 => QT (!x) S1) : wp (mNotT ta l S) QT := by
  obtain ⟨x, S1, e1, q⟩ := h
  exact ⟨_, S1, by unfold mNotT; simp only [e1, Option.bind_some], q⟩
/-- which way -/
def way (b : Bool) (P R : Prop) : Prop := (b = true → P) ∧ (b = false → R)
theorem way_t {P R : Prop} (q : P) : way true P R := ⟨fun _ => q, fun h => Bool.noConfusion h⟩
theorem way_f {P R : Prop} (q : R) : way false P R := ⟨(fun h => Bool.noConfusion h), fun _ => q⟩
theorem way_of {b : Bool} {P R : Prop} (p : b = true → P) (r : b = false → R) : way b P R := ⟨p, r⟩
theorem way_eq {b : Bool} {P R : Prop} (h : b = true) (q : P) : way b P R := ⟨fun _ => q, fun z => by rw [h] at z; cases z⟩
theorem way_ne {b : Bool} {P R : Prop} (h : b = false) (q : R) : way b P R := ⟨(fun z => by rw [h] at z; cases z), fun _ => q⟩
theorem way_dec {p : Prop} [Decidable p] {P R : Prop} (q : p → P) (r : ¬p → R) : way (decide p) P R := ⟨fun h => q (of_decide_eq_true h), fun h => r (of_decide_eq_false h)⟩
theorem way_not {b : Bool} {P R : Prop} (q : way b R P) : way (!b) P R := ⟨fun h => q.2 (by cases b <;> simp_all), fun h => q.1 (by cases b <;> simp_all)⟩
theorem wp_andT (h : wp (ta l S) fun x S1 => way x (wp (tb l S1) QT) (QT false S1)) : wp (mAndT ta tb l S) QT := by
  obtain ⟨x, S1, e1, q⟩ := h
  cases x with
  | true =>
    obtain ⟨y, S2, e2, q⟩ := q.1 rfl
    exact ⟨y, S2, by unfold mAndT; simp only [e1, Option.bind_some, if_true, e2], q⟩
  | false => exact ⟨false, S1, by unfold mAndT; simp only [e1, Option.bind_some, Bool.false_eq_true, if_false], q.2 rfl⟩
theorem wp_orT (h : wp (ta l S) fun x S1 => way x (QT true S1) (wp (tb l S1) QT)) : wp (mOrT ta tb l S) QT := by
  obtain ⟨x, S1, e1, q⟩ := h
  cases x with
  | false =>
    obtain ⟨y, S2, e2, q⟩ := q.2 rfl
    exact ⟨y, S2, by unfold mOrT; simp only [e1, Option.bind_some, Bool.false_eq_true, if_false, e2], q⟩
  | true => exact ⟨true, S1, by unfold mOrT; simp only [e1, Option.bind_some, if_true], q.1 rfl⟩
/-- both sides plain: no ways -/
theorem wp_andP (h : wp (ta l S) fun x S1 => wp (tb l S1) fun y S2 => S1 = S ∧ S2 = S ∧ QT (x && y) S) : wp (mAndT ta tb l S) QT := by
  obtain ⟨x, S1, e1, y, S2, e2, rfl, rfl, q⟩ := h
  refine ⟨x && y, S2, ?_, q⟩
  unfold mAndT
  cases x <;> simp [e1, e2]
theorem wp_orP (h : wp (ta l S) fun x S1 => wp (tb l S1) fun y S2 => S1 = S ∧ S2 = S ∧ QT (x || y) S) : wp (mOrT ta tb l S) QT := by
  obtain ⟨x, S1, e1, y, S2, e2, rfl, rfl, q⟩ := h
  refine ⟨x || y, S2, ?_, q⟩
  unfold mOrT
  cases x <;> simp [e1, e2]
theorem wp_and (h : wp (a l S) fun x S1 => tru x S1 fun t => way t (wp (b l S1) Q) (Q x S1)) : wp (mAnd a b l S) Q := by
  obtain ⟨x, S1, e1, t, e0, q⟩ := h
  cases t with
  | true =>
    obtain ⟨y, S2, e2, q⟩ := q.1 rfl
    exact ⟨y, S2, by unfold mAnd; simp only [e1, e0, Option.bind_some, if_true, e2], q⟩
  | false => exact ⟨x, S1, by unfold mAnd; simp only [e1, e0, Option.bind_some, Bool.false_eq_true, if_false], q.2 rfl⟩
theorem wp_or (h : wp (a l S) fun x S1 => tru x S1 fun t => way t (Q x S1) (wp (b l S1) Q)) : wp (mOr a b l S) Q := by
  obtain ⟨x, S1, e1, t, e0, q⟩ := h
  cases t with
  | false =>
    obtain ⟨y, S2, e2, q⟩ := q.2 rfl
    exact ⟨y, S2, by unfold mOr; simp only [e1, e0, Option.bind_some, Bool.false_eq_true, if_false, e2], q⟩
  | true => exact ⟨x, S1, by unfold mOr; simp only [e1, e0, Option.bind_some, if_true], q.1 rfl⟩
/-- bools, plain: no ways -/
theorem wp_andB (h : wp (a l S) fun x S1 => isB x fun p => wp (b l S1) fun y S2 => isB y fun q => S1 = S ∧ S2 = S ∧ Q (.bl (p && q)) S) : wp (mAnd a b l S) Q := by
  obtain ⟨x, S1, e1, p, rfl, y, S2, e2, q, rfl, rfl, rfl, z⟩ := h
  refine ⟨.bl (p && q), S2, ?_, z⟩
  unfold mAnd
  cases p <;> simp [e1, e2, truD]
theorem wp_orB (h : wp (a l S) fun x S1 => isB x fun p => wp (b l S1) fun y S2 => isB y fun q => S1 = S ∧ S2 = S ∧ Q (.bl (p || q)) S) : wp (mOr a b l S) Q := by
  obtain ⟨x, S1, e1, p, rfl, y, S2, e2, q, rfl, rfl, rfl, z⟩ := h
  refine ⟨.bl (p || q), S2, ?_, z⟩
  unfold mOr
  cases p <;> simp [e1, e2, truD]
theorem wp_not (h : wp (a l S) fun x S1 => tru x S1 fun t => Q (.bl (!t)) S1) : wp (mNot a l S) Q := by
  obtain ⟨x, S1, e1, t, e0, q⟩ := h
  exact ⟨_, S1, by unfold mNot; simp only [e1, e0, Option.bind_some], q⟩
theorem wp_if (h : wp (ta l S) fun x S1 => way x (wp (a l S1) Q) (wp (b l S1) Q)) : wp (mIf ta a b l S) Q := by
  obtain ⟨x, S1, e1, q⟩ := h
  cases x with
  | true =>
    obtain ⟨y, S2, e2, q⟩ := q.1 rfl
    exact ⟨y, S2, by unfold mIf; simp only [e1, Option.bind_some, if_true, e2], q⟩
  | false =>
    obtain ⟨y, S2, e2, q⟩ := q.2 rfl
    exact ⟨y, S2, by unfold mIf; simp only [e1, Option.bind_some, Bool.false_eq_true, if_false, e2], q⟩
def nxt (sb : MS) (Q : Fl → Sto → Prop) (f : Fl) (S : Sto) : Prop := match f with
  | .nx l => wp (sb l S) Q
  | f => Q f S
theorem nxt_nx (h : wp (sb l S) QS) : nxt sb QS (.nx l) S := h
theorem nxt_rt {d : D} (h : QS (.rt d) S) : nxt sb QS (.rt d) S := h
theorem nxt_bk (h : QS (.bk l) S) : nxt sb QS (.bk l) S := h
theorem nxt_ct (h : QS (.ct l) S) : nxt sb QS (.ct l) S := h
theorem wp_seq (h : wp (sa l S) (nxt sb QS)) : wp (mSeq sa sb l S) QS := by
  obtain ⟨f, S1, e1, q⟩ := h
  cases f with
  | nx l1 =>
    obtain ⟨g, S2, e2, q⟩ := q
    exact ⟨g, S2, by unfold mSeq; simp only [e1, Option.bind_some, e2], q⟩
  | rt d => exact ⟨_, S1, by unfold mSeq; simp only [e1, Option.bind_some], q⟩
  | bk d => exact ⟨_, S1, by unfold mSeq; simp only [e1, Option.bind_some], q⟩
  | ct d => exact ⟨_, S1, by unfold mSeq; simp only [e1, Option.bind_some], q⟩
theorem wp_skip (q : QS (.nx l) S) : wp (mSkip l S) QS := ⟨_, _, rfl, q⟩
theorem wp_break (q : QS (.bk l) S) : wp (mBreak l S) QS := ⟨_, _, rfl, q⟩
theorem wp_cont (q : QS (.ct l) S) : wp (mCont l S) QS := ⟨_, _, rfl, q⟩
theorem wp_ret (h : wp (a l S) fun x S1 => QS (.rt x) S1) : wp (mRet a l S) QS := by
  obtain ⟨x, S1, e1, q⟩ := h
  exact ⟨_, S1, by unfold mRet; simp only [e1, Option.bind_some], q⟩
theorem wp_set {i : Nat} (h : wp (a l S) fun x S1 => QS (.nx (l.set i (some x))) S1) : wp (mSet i a l S) QS := by
  obtain ⟨x, S1, e1, q⟩ := h
  exact ⟨_, S1, by unfold mSet; simp only [e1, Option.bind_some], q⟩
theorem wp_setL {i : Nat} (h : wp (ma l S) fun xs S1 => QS (.nx (l.set i (some (.ref S1.length)))) (S1 ++ [.lst xs])) : wp (mSetL i ma l S) QS := by
  obtain ⟨x, S1, e1, q⟩ := h
  exact ⟨_, _, by unfold mSetL mSet mAlloc; simp only [e1, Option.bind_some], q⟩
theorem wp_drop (h : wp (a l S) fun _ S1 => QS (.nx l) S1) : wp (mDrop a l S) QS := by
  obtain ⟨x, S1, e1, q⟩ := h
  exact ⟨_, S1, by unfold mDrop; simp only [e1, Option.bind_some], q⟩
theorem wp_ifS (h : wp (ta l S) fun x S1 => way x (wp (sa l S1) QS) (wp (sb l S1) QS)) : wp (mIfS ta sa sb l S) QS := by
  obtain ⟨x, S1, e1, q⟩ := h
  cases x with
  | true =>
    obtain ⟨y, S2, e2, q⟩ := q.1 rfl
    exact ⟨y, S2, by unfold mIfS; simp only [e1, Option.bind_some, if_true, e2], q⟩
  | false =>
    obtain ⟨y, S2, e2, q⟩ := q.2 rfl
    exact ⟨y, S2, by unfold mIfS; simp only [e1, Option.bind_some, Bool.false_eq_true, if_false, e2], q⟩
theorem wp_aug {i : Nat} {f : OpF} {d : D} (hd : l[i]? = some (some d)) (h : wp (a l S) fun x S1 => wp (f d x S1) fun r S2 => QS (.nx (l.set i (some r))) S2) : wp (mAug i f a l S) QS := by
  obtain ⟨x, S1, e1, z, S3, e3, q⟩ := h
  exact ⟨_, S3, by unfold mAug; rw [hd]; simp only [e1, Option.bind_some, e3], q⟩
theorem wp_asg {tg : MG} (h : wp (a l S) fun x S1 => wl (tg x l S1) fun l1 => QS (.nx l1) S1) : wp (mAsg tg a l S) QS := by
  obtain ⟨x, S1, e1, l1, e2, q⟩ := h
  exact ⟨_, S1, by unfold mAsg; simp only [e1, e2, Option.bind_some], q⟩
theorem wl_n {i : Nat} {d : D} {K : Lo → Prop} (q : K (l.set i (some d))) : wl (mgN i d l S) K := ⟨_, rfl, q⟩
theorem wl_tup {n : Nat} {r : MGs} {ds : List D} {K : Lo → Prop} (hn : ds.length = n) (h : wl (r ds l S) K) : wl (mgTup n r (.tup ds) l S) K := by
  obtain ⟨l1, e, q⟩ := h
  exact ⟨l1, by unfold mgTup; simp only [seqO, Option.bind_some, if_pos hn, e], q⟩
theorem wl_nil {K : Lo → Prop} (q : K l) : wl (mgNil [] l S) K := ⟨_, rfl, q⟩
theorem wl_cons {m : MG} {r : MGs} {d : D} {ds : List D} {K : Lo → Prop} (h : wl (m d l S) fun l1 => wl (r ds l1 S) K) : wl (mgCons m r (d :: ds) l S) K := by
  obtain ⟨l1, e1, l2, e2, q⟩ := h
  exact ⟨l2, by unfold mgCons; simp only [e1, Option.bind_some, e2], q⟩
theorem wf_add {i j : Int} (q : Q (.int (i + j)) S) : wp (fAdd (.int i) (.int j) S) Q := ⟨_, _, rfl, q⟩
theorem wf_iadd {i j : Int} (q : Q (.int (i + j)) S) : wp (fIadd (.int i) (.int j) S) Q := ⟨_, _, rfl, q⟩
theorem wf_sub {i j : Int} (q : Q (.int (i - j)) S) : wp (fSub (.int i) (.int j) S) Q := ⟨_, _, rfl, q⟩
theorem wf_mul {i j : Int} (h : mulC i j = true) (q : Q (.int (i * j)) S) : wp (fMul (.int i) (.int j) S) Q := ⟨_, _, by simp only [fMul, fI, h, if_true], q⟩
theorem wf_div {i j : Int} (h : divC i j = true) (q : Q (.int (i / j)) S) : wp (fDiv (.int i) (.int j) S) Q := ⟨_, _, by simp only [fDiv, fI, h, if_true], q⟩
theorem wf_mod {i j : Int} (h : modC i j = true) (q : Q (.int (i % j)) S) : wp (fMod (.int i) (.int j) S) Q := ⟨_, _, by simp only [fMod, fI, h, if_true], q⟩
theorem wf_pow {i j : Int} (h : powC i j = true) (q : Q (.int (i ^ j.toNat)) S) : wp (fPow (.int i) (.int j) S) Q := ⟨_, _, by simp only [fPow, fI, h, if_true], q⟩
theorem wf_lt {i j : Int} (q : Q (.bl (decide (i < j))) S) : wp (fLt (.int i) (.int j) S) Q := ⟨_, _, rfl, q⟩
theorem wf_le {i j : Int} (q : Q (.bl (decide (i ≤ j))) S) : wp (fLe (.int i) (.int j) S) Q := ⟨_, _, rfl, q⟩
theorem wf_gt {i j : Int} (q : Q (.bl (decide (j < i))) S) : wp (fGt (.int i) (.int j) S) Q := ⟨_, _, rfl, q⟩
theorem wf_ge {i j : Int} (q : Q (.bl (decide (j ≤ i))) S) : wp (fGe (.int i) (.int j) S) Q := ⟨_, _, rfl, q⟩
theorem wf_eqI {i j : Int} (q : Q (.bl (decide (i = j))) S) : wp (fEq (.d (.int i)) (.d (.int j)) S) Q := ⟨_, _, fEq_int i j, q⟩
theorem wf_neI {i j : Int} (q : Q (.bl (!decide (i = j))) S) : wp (fNe (.d (.int i)) (.d (.int j)) S) Q := ⟨_, _, fNe_int i j, q⟩
theorem wf_eqB {i j : Bool} (q : Q (.bl (decide (i = j))) S) : wp (fEq (.d (.bl i)) (.d (.bl j)) S) Q := ⟨_, _, fEq_bl i j, q⟩
theorem fNe_bl' {S : Sto} (i j : Bool) : fNe (.d (.bl i)) (.d (.bl j)) S = some (.bl (!decide (i = j)), S) := by
  show some (D.bl (!PyData.eqv (.bool i) (.bool j)), S) = _
  rw [eqv_bl]
theorem wf_neB {i j : Bool} (q : Q (.bl (!decide (i = j))) S) : wp (fNe (.d (.bl i)) (.d (.bl j)) S) Q := ⟨_, _, fNe_bl' i j, q⟩
theorem wf_ixT {ds : List D} {i : Int} {d : D} (h : atI ds i = some d) (q : Q d S) : wp (ixF (.tup ds) (.int i) S) Q := ⟨d, S, by simp only [ixF, h, Option.bind_some], q⟩
theorem wf_ixL {r : Nat} {xs : List D} {i : Int} {d : D} (hr : S[r]? = some (.lst xs)) (h : atI xs i = some d) (q : Q d S) : wp (ixF (.ref r) (.int i) S) Q := ⟨d, S, by simp only [ixF, hr, h, Option.bind_some], q⟩
theorem atI_3 {α : Type} {x y z u : α} {xs : List α} : atI (x :: y :: z :: u :: xs) 3 = some u := by rw [atI_nn (by decide)]; rfl
theorem atI_4 {α : Type} {x y z u v : α} {xs : List α} : atI (x :: y :: z :: u :: v :: xs) 4 = some v := by rw [atI_nn (by decide)]; rfl
theorem wf_lenT {xs : List D} (q : Q (.int (xs.length : Nat)) S) : wp (fLen (.d (.tup xs)) S) Q := ⟨_, _, rfl, q⟩
theorem wf_lenS {ns : List Int} (q : Q (.int (ns.length : Nat)) S) : wp (fLen (.d (.sl ns)) S) Q := ⟨_, _, by simp only [fLen, lenO, seqO, Option.bind_some, List.length_map], q⟩
theorem wf_lenN {xs : List D} (q : Q (.int (xs.length : Nat)) S) : wp (fLen (.n xs) S) Q := ⟨_, _, rfl, q⟩
theorem wf_lenL {r : Nat} {xs : List D} (hr : S[r]? = some (.lst xs)) (q : Q (.int (xs.length : Nat)) S) : wp (fLen (.d (.ref r)) S) Q := ⟨_, _, by simp only [fLen, lenO, seqO, hr, Option.bind_some], q⟩
theorem wf_int {i : Int} (q : Q (.int i) S) : wp (fInt (.d (.int i)) S) Q := ⟨_, _, rfl, q⟩
theorem wf_tupcT {xs : List D} (q : Q (.tup xs) S) : wp (fTupc (.d (.tup xs)) S) Q := ⟨_, _, rfl, q⟩
theorem wf_tupcN {xs : List D} (q : Q (.tup xs) S) : wp (fTupc (.n xs) S) Q := ⟨_, _, rfl, q⟩
theorem wf_tupcL {r : Nat} {xs : List D} (hr : S[r]? = some (.lst xs)) (q : Q (.tup xs) S) : wp (fTupc (.d (.ref r)) S) Q := ⟨_, _, by simp only [fTupc, seqO, hr, Option.bind_some], q⟩
/-- o.append(e) -/
theorem wp_app (h : wp (a l S) fun x S1 => ∃ r ys, x = .ref r ∧ S1[r]? = some (.lst ys) ∧ wp (b l S1) fun y S2 => ∃ xs, S2[r]? = some (.lst xs) ∧ xs.length < 1000000 ∧ Q .non (S2.set r (.lst (xs ++ [y])))) : wp (mApp a b l S) Q := by
  obtain ⟨x, S1, e1, r, ys, rfl, h1, y, S2, e2, xs, h2, h3, q⟩ := h
  exact ⟨_, _, by unfold mApp; simp only [e1, Option.bind_some, h1, e2, h2, if_pos h3], q⟩
def loopK (J : Lo → Sto → Prop) (Q : Fl → Sto → Prop) (f : Fl) (S : Sto) : Prop := match f with
  | .nx l => J l S
  | .ct l => J l S
  | .bk l => Q (.nx l) S
  | .rt d => Q (.rt d) S
theorem loopK_nx {J : Lo → Sto → Prop} (h : J l S) : loopK J QS (.nx l) S := h
theorem loopK_ct {J : Lo → Sto → Prop} (h : J l S) : loopK J QS (.ct l) S := h
theorem loopK_bk {J : Lo → Sto → Prop} (h : QS (.nx l) S) : loopK J QS (.bk l) S := h
theorem loopK_rt {J : Lo → Sto → Prop} {d : D} (h : QS (.rt d) S) : loopK J QS (.rt d) S := h
theorem wp_for {src : MI} {tg : MG} {body : MS} (h : wp (src l S) fun s S1 => wp (forL s.ok tg body s.ds l S1) QS) : wp (mFor src tg body l S) QS := by
  obtain ⟨s, S1, e1, f, S2, e2, q⟩ := h
  exact ⟨f, S2, by unfold mFor; simp only [e1, Option.bind_some, e2], q⟩
theorem wp_src {QI : Src → Sto → Prop} (h : wp (oa l S) fun o S1 => ∃ s, srcO S1 o = some s ∧ QI s S1) : wp (mSrc oa l S) QI := by
  obtain ⟨x, S1, e1, s, e2, q⟩ := h
  exact ⟨s, S1, by unfold mSrc; simp only [e1, e2, Option.bind_some], q⟩
theorem src_tupK {xs : List D} {P : Src → Prop} (q : P ⟨xs, fun _ => True⟩) : ∃ s, srcO S (.d (.tup xs)) = some s ∧ P s := ⟨_, rfl, q⟩
theorem src_nK {xs : List D} {P : Src → Prop} (q : P ⟨xs, fun _ => True⟩) : ∃ s, srcO S (.n xs) = some s ∧ P s := ⟨_, rfl, q⟩
theorem src_slK {ns : List Int} {P : Src → Prop} (q : P ⟨ns.map D.int, fun _ => True⟩) : ∃ s, srcO S (.d (.sl ns)) = some s ∧ P s := ⟨_, rfl, q⟩
theorem src_lstK {r : Nat} {xs : List D} {P : Src → Prop} (h : S[r]? = some (.lst xs)) (q : P ⟨xs, fun S' => S'[r]? = some (.lst xs)⟩) : ∃ s, srcO S (.d (.ref r)) = some s ∧ P s := ⟨_, by simp only [srcO, h], q⟩
theorem wp_rngN {QI : Src → Sto → Prop} (h : wp (a l S) fun x S1 => ∃ n : Nat, x = .int n ∧ n ≤ 1000000 ∧ QI ⟨rangeD 0 n, fun _ => True⟩ S1) : wp (mRng1 a l S) QI := by
  obtain ⟨x, S1, e1, n, rfl, hj, q⟩ := h
  refine ⟨_, S1, ?_, q⟩
  have hb : -(2 ^ 62) ≤ (n : Int) ∧ (n : Int) < 2 ^ 62 := by
    have c : (2 : Int) ^ 62 = 4611686018427387904 := by simp only [Int.reducePow]
    rw [c]; omega
  have := rng1_a (m := a) (l := l) (S := S) (S1 := S1) e1 hb
  rw [Int.toNat_natCast] at this
  exact this
theorem wp_enum {QI : Src → Sto → Prop} (h : wp (oa l S) fun o S1 => ∃ s, srcO S1 o = some s ∧ QI ⟨enumD 0 s.ds, s.ok⟩ S1) : wp (mEnum oa l S) QI := by
  obtain ⟨x, S1, e1, s, e2, q⟩ := h
  exact ⟨_, S1, by unfold mEnum; simp only [e1, e2, Option.bind_some], q⟩
/-- a walk by its invariant: what was walked -/
theorem wp_inv {α : Type} {ok : Sto → Prop} {tg : MG} {body : MS} {ds : List D} (e : α → D) (xs : List α) (I : List α → Lo → Sto → Prop) (hd : ds = xs.map e) (h0 : I [] l S) (hok : ∀ dn l S, I dn l S → ok S)
    (hs : ∀ dn x rest l S, xs = dn ++ x :: rest → I dn l S → wl (tg (e x) l S) fun l1 => wp (body l1 S) (loopK (I (dn ++ [x])) QS)) (hq : ∀ l S, I xs l S → QS (.nx l) S) : wp (forL ok tg body ds l S) QS := by
  subst hd
  have go : ∀ (ys dn : List α) (l : Lo) (S : Sto), xs = dn ++ ys → I dn l S → wp (forL ok tg body (ys.map e) l S) QS := by
    intro ys
    induction ys with
    | nil =>
      intro dn l S h1 h2
      rw [List.append_nil] at h1
      subst h1
      exact ⟨_, _, forL_nil (hok _ _ _ h2), hq _ _ h2⟩
    | cons y ys ih =>
      intro dn l S h1 h2
      obtain ⟨l1, e1, f, S1, e2, q⟩ := hs dn y ys l S h1 h2
      cases f with
      | nx l2 =>
        obtain ⟨f', S', e3, q'⟩ := ih (dn ++ [y]) l2 S1 (by rw [h1, List.append_assoc]; rfl) q
        exact ⟨f', S', (forL_nx (hok _ _ _ h2) e1 e2).trans e3, q'⟩
      | ct l2 =>
        obtain ⟨f', S', e3, q'⟩ := ih (dn ++ [y]) l2 S1 (by rw [h1, List.append_assoc]; rfl) q
        exact ⟨f', S', (forL_ct (hok _ _ _ h2) e1 e2).trans e3, q'⟩
      | bk l2 => exact ⟨_, _, forL_bk (hok _ _ _ h2) e1 e2, q⟩
      | rt d => exact ⟨_, _, forL_rt (hok _ _ _ h2) e1 e2, q⟩
  exact go xs [] l S rfl h0
theorem wp_comp {src : MI} {vs : List Nat} {tg : MG} {c : MT} {elt : M} (h : wp (src l S) fun s S1 => s.ds.length ≤ 1000000 ∧ wp (compL s.ok tg c elt (wipeD l vs) s.ds S1) QA) : wp (mComp src vs tg c elt l S) QA := by
  obtain ⟨s, S1, e1, h1, f, S2, e2, q⟩ := h
  exact ⟨f, S2, by unfold mComp; simp only [e1, Option.bind_some]; rw [if_pos h1, e2], q⟩
theorem wp_map {α : Type} {ok : Sto → Prop} {tg : MG} {elt : M} {ds : List D} (e : α → D) (xs : List α) (g : α → D) (hd : ds = xs.map e) (hok : ok S)
    (hs : ∀ x ∈ xs, wl (tg (e x) l S) fun l1 => wp (elt l1 S) fun d S' => d = g x ∧ S' = S) (hq : QA (xs.map g) S) : wp (compL ok tg mYes elt l ds S) QA := by
  subst hd
  refine ⟨_, S, ?_, hq⟩
  clear hq
  induction xs with
  | nil => rw [List.map_nil, compL, if_pos hok]; rfl
  | cons x xs ih =>
    obtain ⟨l1, e1, d, S1, e2, rfl, rfl⟩ := hs x (by simp)
    rw [List.map_cons, compL, if_pos hok]
    simp only [e1, Option.bind_some, mYes, if_true, e2, ih fun y hy => hs y (List.mem_cons_of_mem _ hy), List.map_cons]
theorem wp_mapE {α β : Type} {ok : Sto → Prop} {tg : MG} {elt : M} {ds : List D} (e : α → D) (xs : List α) (e2 : β → D) (g : α → β) (hd : ds = xs.map e) (hok : ok S)
    (hs : ∀ x ∈ xs, wl (tg (e x) l S) fun l1 => wp (elt l1 S) fun d S' => d = e2 (g x) ∧ S' = S) (hq : QA ((xs.map g).map e2) S) : wp (compL ok tg mYes elt l ds S) QA :=
  wp_map e xs (fun x => e2 (g x)) hd hok hs (by rw [List.map_map] at hq; exact hq)
end
section
variable {l : Lo} {S : Sto} {Q : D → Sto → Prop} {QA : List D → Sto → Prop} {QT : Bool → Sto → Prop} {QS : Fl → Sto → Prop} {QI : Src → Sto → Prop} {a b c : M} {ma : MA} {sa sb : MS} {oa ob : MO}
/-- the ways join -/
theorem way_cut {t : Bool} {A B : Option (Fl × Sto)} {K : Fl → Sto → Prop} (J : Fl → Sto → Prop) (h1 : way t (wp A J) (wp B J)) (h2 : ∀ f S, J f S → K f S) : way t (wp A K) (wp B K) :=
  ⟨fun h => (h1.1 h).imp h2, fun h => (h1.2 h).imp h2⟩
theorem wp_rev (h : wp (a l S) fun x S1 => ∃ r xs, x = .ref r ∧ S1[r]? = some (.lst xs) ∧ Q .non (S1.set r (.lst xs.reverse))) : wp (mRevM a l S) Q := by
  obtain ⟨x, S1, e1, r, xs, rfl, h1, q⟩ := h
  exact ⟨_, _, by unfold mRevM; simp only [e1, Option.bind_some, h1], q⟩
theorem wp_setD (h : wp (c l S) fun v S1 => wp (a l S1) fun d S2 => wp (b l S2) fun k S3 => ∃ S4, setDF d k v S3 = some S4 ∧ QS (.nx l) S4) : wp (mSetD a b c l S) QS := by
  obtain ⟨v, S1, e1, d, S2, e2, k, S3, e3, S4, e4, q⟩ := h
  exact ⟨_, _, by unfold mSetD; simp only [e1, e2, e3, e4, Option.bind_some], q⟩
theorem wp_get2 (h : wp (a l S) fun d S1 => isDO S1 d = true ∧ wp (b l S1) fun k S2 => wp (c l S2) fun z S3 => ∃ v, gotD S3 d k = some v ∧ Q (v.getD z) S3) : wp (mGet2 a b c l S) Q := by
  obtain ⟨d, S1, e1, h1, k, S2, e2, z, S3, e3, v, e4, q⟩ := h
  exact ⟨_, _, by unfold mGet2; simp only [e1, e2, e3, e4, h1, if_true, Option.bind_some], q⟩
theorem wp_get1 (h : wp (a l S) fun d S1 => isDO S1 d = true ∧ wp (b l S1) fun k S2 => ∃ v, gotD S2 d k = some v ∧ Q (v.getD .non) S2) : wp (mGet1 a b l S) Q := by
  obtain ⟨d, S1, e1, h1, k, S2, e2, v, e4, q⟩ := h
  exact ⟨_, _, by unfold mGet1; simp only [e1, e2, e4, h1, if_true, Option.bind_some], q⟩
theorem wp_dnewK (q : Q (.ref S.length) (S ++ [.dK []])) : wp (mDnewK l S) Q := ⟨_, _, rfl, q⟩
theorem wp_dnewT (q : Q (.ref S.length) (S ++ [.dT []])) : wp (mDnewT l S) Q := ⟨_, _, rfl, q⟩
theorem wp_dcopy (h : wp (a l S) fun x S1 => ∃ kvs, dkO S1 x = some kvs ∧ Q (.ref S1.length) (S1 ++ [.dK kvs])) : wp (mDcopy a l S) Q := by
  obtain ⟨x, S1, e1, kvs, e2, q⟩ := h
  exact ⟨_, _, by unfold mDcopy; simp only [e1, e2, Option.bind_some], q⟩
theorem wp_while {ta : MT} {sb : MS} (n : Nat) (I : Nat → Lo → Sto → Prop) (h0 : I n l S) (hs : ∀ m l S, I m l S → wp (ta l S) fun x S1 => way x (wp (sb l S1) (loopK (fun l S => ∃ m', m' < m ∧ I m' l S) QS)) (QS (.nx l) S1)) : wp (mWhile ta sb l S) QS := by
  have go : ∀ m l S, I m l S → ∃ f S', whileL ta sb (m + 1) l S = some (f, S') ∧ QS f S' := by
    intro m
    induction m using Nat.strongRecOn with
    | ind m ih =>
      intro l S h
      obtain ⟨x, S1, e1, q⟩ := hs m l S h
      cases x with
      | false => exact ⟨_, _, by unfold whileL; simp only [e1, Option.bind_some, Bool.false_eq_true, if_false], q.2 rfl⟩
      | true =>
        obtain ⟨f, S2, e2, q⟩ := q.1 rfl
        cases f with
        | nx l2 =>
          obtain ⟨m', hm, hI⟩ := q
          obtain ⟨f', S', e3, q'⟩ := ih m' hm l2 S2 hI
          exact ⟨f', S', by unfold whileL; simp only [e1, Option.bind_some, if_true, e2]; exact whileL_le e3 hm, q'⟩
        | ct l2 =>
          obtain ⟨m', hm, hI⟩ := q
          obtain ⟨f', S', e3, q'⟩ := ih m' hm l2 S2 hI
          exact ⟨f', S', by unfold whileL; simp only [e1, Option.bind_some, if_true, e2]; exact whileL_le e3 hm, q'⟩
        | bk l2 => exact ⟨_, _, by unfold whileL; simp only [e1, Option.bind_some, if_true, e2], q⟩
        | rt d => exact ⟨_, _, by unfold whileL; simp only [e1, Option.bind_some, if_true, e2], q⟩
  obtain ⟨f, S', e, q⟩ := go n l S h0
  exact ⟨f, S', mWhile_of e, q⟩
end
section
variable {prog : Nat → Option Fb} {i n j k : Nat} {ms : GF → MS} {ds : List D} {S S' : Sto} {d : D}
/-- a function that makes nothing -/
theorem run_pure (hp : prog i = some (mkFb n j ms)) (hn : ds.length = n) (hr : refLt S.length d = true) (h : wp (ms (run prog k) (ds.map some ++ List.replicate (j - n) none) S) fun f S1 => f = .rt d ∧ S1 = S) : run prog (k + 1) i ds S = some (d, S) :=
  call_pure hp hn h.get hr
/-- .. that leaves only rubbish -/
theorem run_rub (hp : prog i = some (mkFb n j ms)) (hn : ds.length = n) (hr : refLt S.length d = true) (h : wp (ms (run prog k) (ds.map some ++ List.replicate (j - n) none) S) fun f S1 => f = .rt d ∧ ∃ T, S1 = S ++ T) : run prog (k + 1) i ds S = some (d, S) := by
  obtain ⟨f, S1, e, rfl, T, rfl⟩ := h
  exact run_more hp hn e hr
theorem fin_any {S T : Sto} {r : Nat} {c : Cell} (h : (S ++ T)[r]? = some c) (hl : S.length ≤ r) (hr : cellLt S.length c = true) : fin S (.ref r, S ++ T) = (.ref S.length, S ++ [c]) := by
  unfold fin
  dsimp only
  rw [if_pos List.take_left, if_neg (by simp [refLt]; omega)]
  simp only [h]
  rw [if_pos hr]
/-- .. that hands back a list or dict of its own -/
theorem run_own {c : Cell} (hp : prog i = some (mkFb n j ms)) (hn : ds.length = n) (hr : cellLt S.length c = true) (h : wp (ms (run prog k) (ds.map some ++ List.replicate (j - n) none) S) fun f S1 => ∃ r T, f = .rt (.ref r) ∧ S1 = S ++ T ∧ S.length ≤ r ∧ (S ++ T)[r]? = some c) : run prog (k + 1) i ds S = some (.ref S.length, S ++ [c]) := by
  obtain ⟨f, S1, e, r, T, rfl, rfl, h1, h2⟩ := h
  rw [run_step hp hn e, fin_any h2 h1 hr]
end
end Zi
set_option maxRecDepth 100000
set_option maxHeartbeats 1000000
namespace Zi
open PySem L2
local macro_rules | `(tactic| walk_at "ev") => `(tactic| (simp only [mSeq, mSet, mRet, mIfS, mIf, mOp, mOpO, mC, mVar, mBool, mFn1, oD, oN, oS, fLen, lenO, seqO, mSkip, fAdd, fMul, fI, fI0, fLt, fLe, fGt, fGe, fSub, fMod, fDiv, fInt, ixF, mNil, mCons, mTup, mCall, mLst, mAlloc, mIsN, mNotN, isNon, mNotT, mAndT, mOrT, mTru, truD, mAsg, mgTup, mgCons, mgNil, mgN, mLisc, mIsI, tyO, isTyB, mDrop, mAug, fIadd, mMax2, mAnd, mOr, mNot, fLtT, fTupc, mulC_r, mulC_l, divC_r, modC_r, atI_0, atI_1, atI_2, fEq_int, fNe_int, fEq_bl, mSrc, srcO, eT_v, eT_ap, eS, List.length_cons, List.length_nil, Option.bind_some, Option.map_some, List.map_cons, List.map_nil, List.cons_append, List.nil_append, List.replicate, List.getElem?_cons_zero, List.getElem?_cons_succ, List.set_cons_zero, List.set_cons_succ, if_true, decide_true, Int.reduceNeg, Int.reducePow, Int.reduceLT, Nat.reduceAdd, Nat.reduceSub, and_self, Nat.reduceLeDiff, Bool.false_eq_true, if_false, Bool.not_true, Bool.not_false, Int.reduceEq, decide_false, Bool.or_false, Bool.false_or, Bool.or_true, Bool.true_or, Bool.and_true, Bool.true_and, Bool.and_false, Bool.false_and, String.reduceEq, *]))
local macro_rules | `(tactic| walk_at "step") => `(tactic| (refine (Eq.trans (seq_set (by ((try walk_at "ev"); exact rfl))) ?_); simp only [List.set_cons_zero, List.set_cons_succ]))
section
variable {prog : Nat → Option Fb} (hp : ∀ j fb, lZl0[j]? = some fb → prog (0 + j) = some fb) {k : Nat} {S : Sto}
def Tm.isV : Tm → Bool
  | .v _ => true
  | .ap _ _ _ _ => false
include hp
theorem r_isvar (t : Tm) : run prog (k + 1) 3 [eT t] S = some (.bl t.isV, S) := call_pure (hp 3 _ rfl) rfl (by
  show c_is_variable (run prog k) [some (eT t)] S = _
  unfold c_is_variable
  cases t <;> walk_at "ev" <;> simp [Tm.isV]) (refLt_bl _)
theorem r_lisvar (t : Tm) : run prog (k + 1) 14 [eT t] S = some (.bl t.isV, S) := call_pure (hp 14 _ rfl) rfl (by
  show c__law_is_variable (run prog k) [some (eT t)] S = _
  unfold c__law_is_variable
  cases t <;> walk_at "ev" <;> simp [Tm.isV]) (refLt_bl _)
omit hp
mutual
def Tm.size : Tm → Int
  | .v _ => 1
  | .ap _ _ _ ts => 1 + sizes ts
def sizes : List Tm → Int
  | [] => 0
  | t :: ts => t.size + sizes ts
end
include hp
theorem t_lisv {l : Lo} {i : Nat} {t : Tm} (h : l[i]? = some (some (eT t))) : mTru (mCall (run prog (k + 1) 14) (mCons (mVar i) mNil)) l S = some (t.isV, S) := by
  have h1 := r_lisvar hp (k := k) (S := S) t
  walk_at "ev"
omit hp
theorem src_args {l : Lo} {i : Nat} {a b c : Int} {ts : List Tm} (h : l[i]? = some (some (eT (.ap a b c ts)))) : mSrc (oD (mOp ixF (mVar i) (mC (.int 1)))) l S = some (⟨ts.map eT, fun _ => True⟩, S) := by
  walk_at "ev"
mutual
def Tm.dep : Tm → Int
  | .v _ => 0
  | .ap _ _ _ ts => if ts.isEmpty = true then 0 else deps ts + 1
def deps : List Tm → Int
  | [] => 0
  | t :: ts => max t.dep (deps ts)
def Tm.occ (x : Int) : Tm → Int
  | .v i => if i = x then 1 else 0
  | .ap _ _ _ ts => occs x ts
def occs (x : Int) : List Tm → Int
  | [] => 0
  | t :: ts => t.occ x + occs x ts
def Tm.vars : Tm → List Int → List Int
  | .v i, f => if i ∈ f then f else f ++ [i]
  | .ap _ _ _ ts, f => varsL ts f
def varsL : List Tm → List Int → List Int
  | [], f => f
  | t :: ts, f => varsL ts (t.vars f)
end
theorem orT_t {a b : MT} {l : Lo} {S S1 : Sto} (h : a l S = some (true, S1)) : mOrT a b l S = some (true, S1) := by
  unfold mOrT
  rw [h]
  rfl
theorem orT_f {a b : MT} {l : Lo} {S S1 : Sto} (h : a l S = some (false, S1)) : mOrT a b l S = b l S1 := by
  unfold mOrT
  rw [h]
  rfl
include hp
theorem r_lint (i : Int) : run prog (k + 1) 9 [.int i] S = some (.bl true, S) := call_pure (hp 9 _ rfl) rfl (by
  show c__law_is_integer (run prog k) [some (.int i)] S = _
  unfold c__law_is_integer
  walk_at "ev") (refLt_bl _)
end
end Zi
set_option maxRecDepth 100000
set_option maxHeartbeats 1000000
namespace Zi
open PySem L2
local macro_rules | `(tactic| walk_at "ev") => `(tactic| (simp only [mSeq, mSet, mRet, mIfS, mIf, mOp, mOpO, mC, mVar, mBool, mFn1, oD, oN, oS, fLen, lenO, seqO, mSkip, fAdd, fMul, fI, fI0, fLt, fLe, fGt, fGe, fSub, fMod, fDiv, fInt, ixF, mNil, mCons, mTup, mCall, mLst, mAlloc, mIsN, mNotN, isNon, mNotT, mAndT, mOrT, mTru, truD, mAsg, mgTup, mgCons, mgNil, mgN, mLisc, mIsI, tyO, isTyB, mDrop, mAug, fIadd, mMax2, mAnd, mOr, mNot, fLtT, fTupc, mApp, mulC_r, mulC_l, divC_r, modC_r, atI_0, atI_1, atI_2, fEq_int, fNe_int, fEq_bl, mSrc, srcO, eT_v, eT_ap, eS, List.length_cons, List.length_nil, Option.bind_some, Option.map_some, List.map_cons, List.map_nil, List.cons_append, List.nil_append, List.replicate, List.getElem?_cons_zero, List.getElem?_cons_succ, List.set_cons_zero, List.set_cons_succ, if_true, decide_true, Int.reduceNeg, Int.reducePow, Int.reduceLT, Nat.reduceAdd, Nat.reduceSub, and_self, Nat.reduceLeDiff, Bool.false_eq_true, if_false, Bool.not_true, Bool.not_false, Int.reduceEq, decide_false, Bool.or_false, Bool.false_or, Bool.or_true, Bool.true_or, Bool.and_true, Bool.true_and, Bool.and_false, Bool.false_and, String.reduceEq, *]))
local macro_rules | `(tactic| walk_at "step") => `(tactic| (refine (Eq.trans (seq_set (by ((try walk_at "ev"); exact rfl))) ?_); simp only [List.set_cons_zero, List.set_cons_succ]))
mutual
theorem size_pos : ∀ t : Tm, 1 ≤ t.size
  | .v _ => by simp [Tm.size]
  | .ap _ _ _ ts => by
    have := sizes_nn ts
    simp only [Tm.size]; omega
theorem sizes_nn : ∀ ts : List Tm, 0 ≤ sizes ts
  | [] => by simp [sizes]
  | t :: ts => by
    have h1 := size_pos t
    have h2 := sizes_nn ts
    simp only [sizes]; omega
theorem vars_len : ∀ (t : Tm) (f : List Int), ((t.vars f).length : Int) ≤ f.length + t.size
  | .v i, f => by
    simp only [Tm.vars, Tm.size]
    split
    · omega
    · simp
  | .ap _ _ _ ts, f => by
    have := varsL_len ts f
    simp only [Tm.vars, Tm.size]; omega
theorem varsL_len : ∀ (ts : List Tm) (f : List Int), ((varsL ts f).length : Int) ≤ f.length + sizes ts
  | [], f => by simp [varsL, sizes]
  | t :: ts, f => by
    have h1 := vars_len t f
    have h2 := varsL_len ts (t.vars f)
    simp only [varsL, sizes]; omega
end
section
variable {prog : Nat → Option Fb} (hp : ∀ j fb, lZl0[j]? = some fb → prog (0 + j) = some fb) {k : Nat} {S : Sto}
include hp
omit hp
def fiveS : List (Int × Int × Int) := [(2, 0, 0), (2, 1, 0), (3, 0, 0), (2, 2, 0), (3, 4, 1)]
inductive Tm.Ok (P : Int → Prop) (Q : Int → Int → Int → Nat → Prop) : Tm → Prop
  | v {i : Int} : P i → Tm.Ok P Q (.v i)
  | ap {a b c : Int} {ts : List Tm} : Q a b c ts.length → (∀ t ∈ ts, Tm.Ok P Q t) → Tm.Ok P Q (.ap a b c ts)
theorem Tm.Ok.wd {P : Int → Prop} {Q : Int → Int → Int → Nat → Prop} {n : Nat} (hQ : ∀ a b c m, Q a b c m → m ≤ n) {t : Tm} (h : Tm.Ok P Q t) : t.Wd n := by
  induction h with
  | v _ => exact .v _
  | ap h1 h2 ih => exact .ap (hQ _ _ _ _ h1) ih
theorem atI_lt {α : Type} {xs : List α} {i : Int} (h0 : 0 ≤ i) (h1 : i < xs.length) : ∃ x, atI xs i = some x ∧ x ∈ xs := by
  rw [atI_nn h0, List.getElem?_eq_getElem (by omega)]
  exact ⟨_, rfl, List.getElem_mem _⟩
/-- a symbol of the laws' terms -/
def SymT (a b c : Int) : Prop := (a, b, c) ∈ fiveS
include hp
theorem r_symbol {n : Int} (hn : 0 ≤ n) (S : Sto) : ∃ a b c, SymT a b c ∧ run prog (k + 1) 11 [.int n] S = some (eS a b c, S) := by
  obtain ⟨x, h1, h2⟩ := atI_lt (xs := [eS 2 0 0, eS 2 1 0, eS 3 0 0, eS 2 2 0, eS 3 4 1]) (i := n % 5) (by omega) (by simp only [List.length_cons, List.length_nil]; omega)
  have h3 : ∃ a b c, SymT a b c ∧ x = eS a b c := by
    simp only [List.mem_cons, List.not_mem_nil, or_false] at h2
    rcases h2 with e | e | e | e | e <;> exact ⟨_, _, _, by simp [SymT, fiveS], e⟩
  obtain ⟨a, b, c, h4, rfl⟩ := h3
  refine ⟨a, b, c, h4, ?_⟩
  refine run_more (T := [.lst [eS 2 0 0, eS 2 1 0, eS 3 0 0, eS 2 2 0, eS 3 4 1]]) (hp 11 _ rfl) rfl ?_ (by simp [eS, refLt, refLtL])
  show c__law_symbol (run prog k) [some (.int n), none] S = _
  unfold c__law_symbol
  rw [seq_set (v := .ref S.length) (S1 := S ++ [.lst [eS 2 0 0, eS 2 1 0, eS 3 0 0, eS 2 2 0, eS 3 4 1]]) (by walk_at "ev")]
  have h5 := last_get (S := S) (c := .lst [eS 2 0 0, eS 2 1 0, eS 3 0 0, eS 2 2 0, eS 3 4 1])
  generalize [eS 2 0 0, eS 2 1 0, eS 3 0 0, eS 2 2 0, eS 3 4 1] = L at *
  clear h2 h4
  walk_at "ev"
omit hp
def bdT : Nat → Int
  | 0 => 1
  | d + 1 => 1 + 2 * bdT d
theorem bdT_pos : ∀ d, 1 ≤ bdT d
  | 0 => by simp [bdT]
  | d + 1 => by
    have := bdT_pos d
    simp only [bdT]; omega
/-- what the laws' terms keep: variables, symbols, arguments -/
abbrev TOk : Tm → Prop := Tm.Ok (fun i => 0 ≤ i ∧ i < 3) (fun a b c n => SymT a b c ∧ n ≤ 2)
structure TermOk (d : Nat) (t : Tm) : Prop where
  ok : TOk t
  size : t.size ≤ bdT d
  hgt : t.hgt ≤ d + 1
theorem sizes_le {B : Int} : ∀ {ts : List Tm}, (∀ t ∈ ts, t.size ≤ B) → sizes ts ≤ ts.length * B
  | [], _ => by simp [sizes]
  | t :: ts, h => by
    have h1 := h t (by simp)
    have h2 := sizes_le (B := B) (ts := ts) fun x hx => h x (List.mem_cons_of_mem _ hx)
    simp only [sizes, List.length_cons]
    rw [show ((ts.length + 1 : Nat) : Int) = ts.length + 1 by omega, Int.add_mul]
    omega
include hp
omit hp in
/-- one turn of the walk that makes the arguments -/
theorem parts_turn {G : GF} {f : MA} {l : Lo} {t : Tm} {row' : Int} {ts : List Tm} {S0 : Sto} (h5 : l[5]? = some (some (.ref S0.length))) (h7 : 7 < l.length) (hl : ts.length < 1000000)
    (hc : mCall (G 12) f l (S0 ++ [.lst (ts.map eT)]) = some (.tup [eT t, .int row'], S0 ++ [.lst (ts.map eT)])) :
    mSeq (mSet 7 (mCall (G 12) f)) (mSeq (mDrop (mApp (mVar 5) (mOp ixF (mVar 7) (mC (.int 0))))) (mSet 0 (mOp ixF (mVar 7) (mC (.int 1))))) l (S0 ++ [.lst (ts.map eT)]) =
      some (.nx ((l.set 7 (some (.tup [eT t, .int row']))).set 0 (some (.int row'))), S0 ++ [.lst ((ts ++ [t]).map eT)]) := by
  rw [seq_set hc]
  have e5 : (l.set 7 (some (.tup [eT t, .int row'])))[5]? = some (some (.ref S0.length)) := by
    rw [List.getElem?_set_ne (by decide)]
    exact h5
  have e7 : (l.set 7 (some (.tup [eT t, .int row'])))[7]? = some (some (.tup [eT t, .int row'])) := List.getElem?_set_self h7
  generalize l.set 7 (some (.tup [eT t, .int row'])) = l1 at *
  have hg := last_get (S := S0) (c := .lst (ts.map eT))
  have hlen : (ts.map eT).length < 1000000 := by rw [List.length_map]; exact hl
  rw [List.map_append]
  simp only [mSeq, mDrop, mApp, mVar, mOp, mC, ixF, mSet, e5, e7, hg, Option.bind_some, atI_0, atI_1, if_pos hlen, last_set, List.map_cons, List.map_nil]
include hp
theorem r_term (d : Nat) : ∀ {k : Nat}, d ≤ k → ∀ {row : Int}, 0 ≤ row → ∀ S, ∃ t row', TermOk d t ∧ 0 ≤ row' ∧ run prog (k + 2) 12 [.int row, .int d] S = some (.tup [eT t, .int row'], S) := by
  induction d using Nat.strongRecOn with
  | ind d IH =>
    intro k hd row hrow S
    by_cases hv : row % 5 < 2
    · refine ⟨.v (row / 5 % 3), row / 5 / 3, ⟨.v ⟨by omega, by omega⟩, by have := bdT_pos d; simp only [Tm.size]; omega, by simp [Tm.hgt]⟩, by omega, ?_⟩
      refine call_pure (hp 12 _ rfl) rfl ?_ (by simp [eT, refLt, refLtL])
      show c__law_term (run prog (k + 1)) [some (.int row), some (.int d), none, none, none, none, none, none] S = _
      unfold c__law_term
      rw [seq_set (v := .int (row % 5)) (S1 := S) (by walk_at "ev"), seq_set (v := .int (row / 5)) (S1 := S) (by walk_at "ev")]
      rw [seq_ifT (S1 := S) (by walk_at "ev")]
      walk_at "ev"
    · obtain ⟨a, b, c, hsym, hs⟩ := r_symbol hp (k := k) (n := row / 5 / 3 % 5) (by omega) S
      have parts : ∃ (many : Nat), (many ≤ 2 ∧ (d = 0 → many = 0)) ∧ (if d = 0 then (0 : Int) else row / 5 % 3) = many := by
        by_cases h0 : d = 0
        · exact ⟨0, ⟨by omega, fun _ => rfl⟩, by rw [if_pos h0]; rfl⟩
        · refine ⟨(row / 5 % 3).toNat, ⟨by omega, fun h => absurd h h0⟩, ?_⟩
          rw [if_neg h0]
          omega
      obtain ⟨many, ⟨hm, hm0⟩, hmany⟩ := parts
      -- the walk
      have walk : ∀ (row1 : Int), 0 ≤ row1 → ∃ (ts : List Tm) (row' : Int) (o6 o7 : Option D), ts.length = many ∧ (∀ t ∈ ts, TermOk (d - 1) t) ∧ 0 ≤ row' ∧ mFor (mRng1 (mVar 3)) (mgN 6) (mSeq (mSet 7 (mCall (run prog (k + 1) 12) (mCons (mVar 0) (mCons (mOp fSub (mVar 1) (mC (.int 1))) mNil)))) (mSeq (mDrop (mApp (mVar 5) (mOp ixF (mVar 7) (mC (.int 0))))) (mSet 0 (mOp ixF (mVar 7) (mC (.int 1)))))) [some (.int row1), some (.int d), some (.int (row % 5)), some (.int many), some (eS a b c), some (.ref S.length), none, none] (S ++ [.lst []]) =
          some (.nx [some (.int row'), some (.int d), some (.int (row % 5)), some (.int many), some (eS a b c), some (.ref S.length), o6, o7], S ++ [.lst (ts.map eT)]) := by
        intro row1 hrow1
        have hsrc : mRng1 (mVar 3) [some (.int row1), some (.int d), some (.int (row % 5)), some (.int many), some (eS a b c), some (.ref S.length), none, none] (S ++ [.lst []]) = some (⟨rangeD 0 many, fun _ => True⟩, S ++ [.lst []]) := by
          exact rng1_of rfl (by omega)
        obtain ⟨l', S', h1, ts, row', o6, o7, h2, h3, h4, h5, h6⟩ := forL_inv (ok := fun _ => True) (tg := mgN 6) (body := mSeq (mSet 7 (mCall (run prog (k + 1) 12) (mCons (mVar 0) (mCons (mOp fSub (mVar 1) (mC (.int 1))) mNil)))) (mSeq (mDrop (mApp (mVar 5) (mOp ixF (mVar 7) (mC (.int 0))))) (mSet 0 (mOp ixF (mVar 7) (mC (.int 1)))))) (fun k : Nat => D.int (0 + (k : Nat)))
          (fun dn l S' => ∃ (ts : List Tm) (row' : Int) (o6 o7 : Option D), ts.length = dn.length ∧ (∀ t ∈ ts, TermOk (d - 1) t) ∧ 0 ≤ row' ∧ l = [some (.int row'), some (.int d), some (.int (row % 5)), some (.int many), some (eS a b c), some (.ref S.length), o6, o7] ∧ S' = S ++ [.lst (ts.map eT)]) (fun _ _ _ _ => trivial) (List.range many)
          (fun dn x rest l S' hall ⟨ts, row', o6, o7, h2, h3, h4, h5, h6⟩ => by
            subst h5 h6
            have hlen := congrArg List.length hall
            rw [List.length_range, List.length_append, List.length_cons] at hlen
            obtain ⟨d, rfl⟩ : ∃ d', d = d' + 1 := ⟨d - 1, by
              have : d ≠ 0 := fun h => by have := hm0 h; omega
              omega⟩
            obtain ⟨k, rfl⟩ : ∃ k', k = k' + 1 := ⟨k - 1, by omega⟩
            obtain ⟨t, row2, g1, g2, g3⟩ := IH d (by omega) (k := k) (by omega) h4 (S ++ [.lst (ts.map eT)])
            refine ⟨_, _, _, rfl, parts_turn (S0 := S) (ts := ts) (t := t) (row' := row2) rfl (by simp only [mgN, List.length_set, List.length_cons, List.length_nil]; omega) (by omega) ?_, ts ++ [t], row2, some (.int (0 + (x : Nat))), some (.tup [eT t, .int row2]), by rw [List.length_append, List.length_append, h2]; rfl, ?_, g2, rfl, rfl⟩
            · have e1 : ((d + 1 : Nat) : Int) - 1 = (d : Nat) := by omega
              simp only [mCall, mCons, mNil, mVar, mOp, mC, fSub, fI0, mgN, List.set_cons_zero, List.set_cons_succ, List.getElem?_cons_zero, List.getElem?_cons_succ, Option.bind_some, e1, g3]
            · intro t' ht'
              rcases List.mem_append.mp ht' with z | z
              · exact h3 t' z
              · rw [List.mem_singleton] at z
                subst z
                exact g1) (List.range many) [] [some (.int row1), some (.int d), some (.int (row % 5)), some (.int many), some (eS a b c), some (.ref S.length), none, none] (S ++ [.lst []]) rfl ⟨[], row1, none, none, rfl, (fun _ h => by cases h), hrow1, rfl, rfl⟩
        subst h5 h6
        refine ⟨ts, row', o6, o7, by rw [h2, List.length_range], h3, h4, ?_⟩
        rw [for_of hsrc]
        exact h1
      obtain ⟨ts, row', o6, o7, h2, h3, h4, h5⟩ := walk (row / 5 / 3 / 5) (by omega)
      refine ⟨.ap a b c ts, row', ⟨.ap ⟨hsym, by omega⟩ fun t ht => (h3 t ht).ok, ?_, ?_⟩, h4, ?_⟩
      · cases d with
        | zero =>
          have : ts = [] := List.length_eq_zero_iff.mp (by have := hm0 rfl; omega)
          subst this
          simp [Tm.size, sizes, bdT]
        | succ d =>
          have z1 := sizes_le (B := bdT d) (ts := ts) fun t ht => (h3 t ht).size
          have z2 := bdT_pos d
          simp only [Tm.size, bdT]
          have z3 : (ts.length : Int) * bdT d ≤ 2 * bdT d := Int.mul_le_mul_of_nonneg_right (by omega) (by omega)
          omega
      · rw [hgt_ap]
        cases d with
        | zero =>
          have : ts = [] := List.length_eq_zero_iff.mp (by have := hm0 rfl; omega)
          subst this
          simp [hgts]
        | succ d =>
          have := hgts_le (ts := ts) (n := d + 1) fun t ht => (h3 t ht).hgt
          omega
      · refine run_more (T := [.lst (ts.map eT)]) (hp 12 _ rfl) rfl ?_ (by rw [refLt_tup, refLtL_cons, refLt_eT, refLtL_cons, refLt_int, refLtL_nil]; rfl)
        show c__law_term (run prog (k + 1)) [some (.int row), some (.int d), none, none, none, none, none, none] S = _
        unfold c__law_term
        rw [seq_set (v := .int (row % 5)) (S1 := S) (by clear walk hs; walk_at "ev"), seq_set (v := .int (row / 5)) (S1 := S) (by clear walk hs; walk_at "ev")]
        rw [seq_ifF (S1 := S) (by clear walk hs; walk_at "ev"), seq_skip]
        rw [seq_set (v := .int (row / 5 % 3)) (S1 := S) (by clear walk hs; walk_at "ev"), seq_set (v := .int (row / 5 / 3)) (S1 := S) (by clear walk hs; walk_at "ev")]
        rw [seq_ifset (b := decide ((d : Int) = 0)) (v := .int 0) (cur := .int (row / 5 % 3)) (by clear walk hs hmany h5; walk_at "ev") (fun _ => by rfl) rfl]
        have e1 : (if decide ((d : Int) = 0) = true then D.int 0 else D.int (row / 5 % 3)) = .int many := by
          rw [← hmany]
          by_cases h0 : d = 0
          · simp [h0]
          · have : ¬(d : Int) = 0 := by omega
            simp [h0, this]
        rw [e1]
        rw [seq_set (v := eS a b c) (S1 := S) (by clear walk hmany h5; walk_at "ev"), seq_set (v := .int (row / 5 / 3 / 5)) (S1 := S) (by clear walk hs hmany h5; walk_at "ev")]
        rw [seq_set (v := .ref S.length) (S1 := S ++ [.lst []]) (by rfl)]
        simp only [List.set_cons_zero, List.set_cons_succ]
        rw [seq_nx h5]
        have hg := last_get (S := S) (c := .lst (ts.map eT))
        clear walk hs hmany h5 e1 hsym h2 h3 h4
        walk_at "ev"
omit hp in
/-- the walk that makes the arguments -/
theorem parts_walk {G : GF} {f : MA} {d many : Nat} {x1 x2 x3 x4 : Option D} {row1 : Int} {S : Sto} (hm : many ≤ 1000) (hrow1 : 0 ≤ row1)
    (hc : ∀ (row : Int) (S : Sto) (o6 o7 : Option D) (r : Nat), 0 ≤ row → ∃ t row', TermOk d t ∧ 0 ≤ row' ∧ mCall (G 12) f [some (.int row), x1, x2, x3, x4, some (.ref r), o6, o7] S = some (.tup [eT t, .int row'], S)) :
    ∃ (ts : List Tm) (row' : Int) (o6 o7 : Option D), ts.length = many ∧ (∀ t ∈ ts, TermOk d t) ∧ 0 ≤ row' ∧ forL (fun _ => True) (mgN 6) (mSeq (mSet 7 (mCall (G 12) f)) (mSeq (mDrop (mApp (mVar 5) (mOp ixF (mVar 7) (mC (.int 0))))) (mSet 0 (mOp ixF (mVar 7) (mC (.int 1)))))) (rangeD 0 many) [some (.int row1), x1, x2, x3, x4, some (.ref S.length), none, none] (S ++ [.lst []]) =
          some (.nx [some (.int row'), x1, x2, x3, x4, some (.ref S.length), o6, o7], S ++ [.lst (ts.map eT)]) := by
  obtain ⟨l', S', h1, ts, row', o6, o7, h2, h3, h4, h5, h6⟩ := forL_inv (ok := fun _ => True) (tg := mgN 6) (body := mSeq (mSet 7 (mCall (G 12) f)) (mSeq (mDrop (mApp (mVar 5) (mOp ixF (mVar 7) (mC (.int 0))))) (mSet 0 (mOp ixF (mVar 7) (mC (.int 1)))))) (fun k : Nat => D.int (0 + (k : Nat)))
    (fun dn l S' => ∃ (ts : List Tm) (row' : Int) (o6 o7 : Option D), ts.length = dn.length ∧ (∀ t ∈ ts, TermOk d t) ∧ 0 ≤ row' ∧ l = [some (.int row'), x1, x2, x3, x4, some (.ref S.length), o6, o7] ∧ S' = S ++ [.lst (ts.map eT)]) (fun _ _ _ _ => trivial) (List.range many)
    (fun dn x rest l S' hall ⟨ts, row', o6, o7, h2, h3, h4, h5, h6⟩ => by
      subst h5 h6
      have hlen := congrArg List.length hall
      rw [List.length_range, List.length_append, List.length_cons] at hlen
      obtain ⟨t, row2, g1, g2, g3⟩ := hc row' (S ++ [.lst (ts.map eT)]) (some (.int (0 + (x : Nat)))) o7 S.length h4
      refine ⟨_, _, _, rfl, parts_turn (S0 := S) (ts := ts) (t := t) (row' := row2) rfl (by simp only [mgN, List.length_set, List.length_cons, List.length_nil]; omega) (by omega) g3, ts ++ [t], row2, some (.int (0 + (x : Nat))), some (.tup [eT t, .int row2]), by rw [List.length_append, List.length_append, h2]; rfl, ?_, g2, rfl, rfl⟩
      intro t' ht'
      rcases List.mem_append.mp ht' with z | z
      · exact h3 t' z
      · rw [List.mem_singleton] at z
        subst z
        exact g1) (List.range many) [] [some (.int row1), x1, x2, x3, x4, some (.ref S.length), none, none] (S ++ [.lst []]) rfl ⟨[], row1, none, none, rfl, (fun _ h => by cases h), hrow1, rfl, rfl⟩
  subst h5 h6
  exact ⟨ts, row', o6, o7, by rw [h2, List.length_range], h3, h4, h1⟩
omit hp
def sixA : List (Int × Int × Int) := [(1, 0, 0), (1, 1, 0), (4, 0, 0), (1, 2, 0), (5, 2, 0), (0, 0, 0)]
def SymA (a b c : Int) : Prop := (a, b, c) ∈ sixA
structure AtomOk (d : Nat) (t : Tm) : Prop where
  ok : Tm.Ok (fun i => 0 ≤ i ∧ i < 3) (fun a b c n => (SymT a b c ∨ SymA a b c) ∧ n ≤ 2) t
  size : t.size ≤ bdT (d + 1)
  hgt : t.hgt ≤ d + 2
  is : ∃ a b c ts, t = .ap a b c ts ∧ SymA a b c ∧ ts.length ≤ 2 ∧ ∀ x ∈ ts, TermOk d x
theorem Tm.Ok.imp {P P' : Int → Prop} {Q Q' : Int → Int → Int → Nat → Prop} (h1 : ∀ i, P i → P' i) (h2 : ∀ a b c n, Q a b c n → Q' a b c n) {t : Tm} (h : Tm.Ok P Q t) : Tm.Ok P' Q' t := by
  induction h with
  | v hp => exact .v (h1 _ hp)
  | ap hq _ ih => exact .ap (h2 _ _ _ _ hq) ih
include hp
theorem r_atom (d : Nat) {k : Nat} (hd : d ≤ k) {row : Int} (hrow : 0 ≤ row) (S : Sto) : ∃ t row', AtomOk d t ∧ 0 ≤ row' ∧ run prog (k + 3) 13 [.int row, .int d] S = some (.tup [eT t, .int row'], S) := by
  obtain ⟨x, g1, g2⟩ := atI_lt (xs := [eS 1 0 0, eS 1 1 0, eS 4 0 0, eS 1 2 0, eS 5 2 0, eS 0 0 0]) (i := row % 6) (by omega) (by simp only [List.length_cons, List.length_nil]; omega)
  have h3 : ∃ a b c, SymA a b c ∧ x = eS a b c := by
    simp only [List.mem_cons, List.not_mem_nil, or_false] at g2
    rcases g2 with e | e | e | e | e | e <;> exact ⟨_, _, _, by simp [SymA, sixA], e⟩
  obtain ⟨a, b, c, hsym, rfl⟩ := h3
  obtain ⟨many, hmany⟩ : ∃ many : Nat, row / 6 % 3 = many := ⟨(row / 6 % 3).toNat, by omega⟩
  obtain ⟨ts, row', o6, o7, h2, h3, h4, h5⟩ := parts_walk (G := run prog (k + 2)) (f := mCons (mVar 0) (mCons (mVar 1) mNil)) (d := d) (many := many) (x1 := some (.int d)) (x2 := some (.ref S.length)) (x3 := some (eS a b c)) (x4 := some (.int many)) (row1 := row / 6 / 3) (S := S ++ [.lst [eS 1 0 0, eS 1 1 0, eS 4 0 0, eS 1 2 0, eS 5 2 0, eS 0 0 0]]) (by omega) (by omega) (fun row S' o6 o7 r hr => by
    obtain ⟨t, row2, z1, z2, z3⟩ := r_term hp d hd hr S'
    refine ⟨t, row2, z1, z2, ?_⟩
    simp only [mCall, mCons, mNil, mVar, List.getElem?_cons_zero, List.getElem?_cons_succ, Option.bind_some, z3])
  have hs := sizes_le (B := bdT d) (ts := ts) fun t ht => (h3 t ht).size
  have hb := bdT_pos d
  have hs3 : (ts.length : Int) * bdT d ≤ 2 * bdT d := Int.mul_le_mul_of_nonneg_right (by omega) (by omega)
  have hh := hgts_le (ts := ts) (n := d + 1) fun t ht => (h3 t ht).hgt
  refine ⟨.ap a b c ts, row', ⟨.ap ⟨.inr hsym, by omega⟩ fun t ht => (h3 t ht).ok.imp (fun _ h => h) (fun _ _ _ _ h => ⟨.inl h.1, h.2⟩), by simp only [Tm.size, bdT]; omega, by rw [hgt_ap]; omega, a, b, c, ts, rfl, hsym, by omega, h3⟩, h4, ?_⟩
  refine run_more (T := [.lst [eS 1 0 0, eS 1 1 0, eS 4 0 0, eS 1 2 0, eS 5 2 0, eS 0 0 0], .lst (ts.map eT)]) (hp 13 _ rfl) rfl ?_ (by rw [refLt_tup, refLtL_cons, refLt_eT, refLtL_cons, refLt_int, refLtL_nil]; rfl)
  show c__law_atom (run prog (k + 2)) [some (.int row), some (.int d), none, none, none, none, none, none] S = _
  unfold c__law_atom
  rw [seq_set (v := .ref S.length) (S1 := S ++ [.lst [eS 1 0 0, eS 1 1 0, eS 4 0 0, eS 1 2 0, eS 5 2 0, eS 0 0 0]]) (by clear h5 g1; walk_at "ev")]
  have g3 := last_get (S := S) (c := .lst [eS 1 0 0, eS 1 1 0, eS 4 0 0, eS 1 2 0, eS 5 2 0, eS 0 0 0])
  clear g2
  rw [show S ++ [Cell.lst [eS 1 0 0, eS 1 1 0, eS 4 0 0, eS 1 2 0, eS 5 2 0, eS 0 0 0], .lst (ts.map eT)] = (S ++ [.lst [eS 1 0 0, eS 1 1 0, eS 4 0 0, eS 1 2 0, eS 5 2 0, eS 0 0 0]]) ++ [.lst (ts.map eT)] by rw [List.append_assoc]; rfl]
  generalize hL : [eS 1 0 0, eS 1 1 0, eS 4 0 0, eS 1 2 0, eS 5 2 0, eS 0 0 0] = L at *
  generalize hS1 : S ++ [.lst L] = S1 at *
  have hsym1 : eS a b c = eS a b c := rfl
  rw [seq_set (v := eS a b c) (S1 := S1) (by
    generalize eS a b c = sy at *
    clear h5 hs hs3 hh hmany
    walk_at "ev")]
  rw [seq_set (v := .int (row / 6)) (S1 := S1) (by clear h5 g1 hmany; walk_at "ev"), seq_set (v := .int many) (S1 := S1) (by clear h5 g1; walk_at "ev"), seq_set (v := .int (row / 6 / 3)) (S1 := S1) (by clear h5 g1 hmany; walk_at "ev")]
  rw [seq_set (v := .ref S1.length) (S1 := S1 ++ [.lst []]) (by rfl)]
  simp only [List.set_cons_zero, List.set_cons_succ]
  rw [seq_nx ((for_of (rng1_of (n := many) rfl (by omega))).trans h5)]
  have hg := last_get (S := S1) (c := .lst (ts.map eT))
  clear h5 g1 hmany hs hs3 hh hL hS1 h2 h3 h4 hsym hsym1 g3
  walk_at "ev"
end
end Zi
set_option maxRecDepth 100000
set_option maxHeartbeats 1000000
namespace Zi
open PySem L2
local macro_rules | `(tactic| walk_at "ev") => `(tactic| (simp only [mSeq, mSet, mRet, mIfS, mIf, mOp, mOpO, mC, mVar, mBool, mFn1, oD, oN, oS, fLen, lenO, seqO, mSkip, fAdd, fMul, fI, fI0, fLt, fLe, fGt, fGe, fSub, fMod, fDiv, fInt, ixF, mNil, mCons, mTup, mCall, mLst, mAlloc, mIsN, mNotN, isNon, mNotT, mAndT, mOrT, mTru, truD, mAsg, mgTup, mgCons, mgNil, mgN, mLisc, mIsI, tyO, isTyB, mDrop, mAug, fIadd, mMax2, mAnd, mOr, mNot, fLtT, fTupc, mApp, mulC_r, mulC_l, divC_r, modC_r, atI_0, atI_1, atI_2, fEq_int, fNe_int, fEq_bl, mSrc, srcO, eT_v, eT_ap, eS, List.length_cons, List.length_nil, Option.bind_some, Option.map_some, List.map_cons, List.map_nil, List.cons_append, List.nil_append, List.replicate, List.getElem?_cons_zero, List.getElem?_cons_succ, List.set_cons_zero, List.set_cons_succ, if_true, decide_true, Int.reduceNeg, Int.reducePow, Int.reduceLT, Nat.reduceAdd, Nat.reduceSub, and_self, Nat.reduceLeDiff, Bool.false_eq_true, if_false, Bool.not_true, Bool.not_false, Int.reduceEq, decide_false, Bool.or_false, Bool.false_or, Bool.or_true, Bool.true_or, Bool.and_true, Bool.true_and, Bool.and_false, Bool.false_and, String.reduceEq, *]))
local macro_rules | `(tactic| walk_at "step") => `(tactic| (refine (Eq.trans (seq_set (by ((try walk_at "ev"); exact rfl))) ?_); simp only [List.set_cons_zero, List.set_cons_succ]))
theorem all_bools {S : Sto} (bs : List Bool) : fAll (.n (bs.map D.bl)) S = some (.bl (bs.all _root_.id), S) := by
  have h : ∀ bs : List Bool, allB (bs.map D.bl) = some bs := fun bs => by
    induction bs with
    | nil => rfl
    | cons x xs ih => simp only [List.map_cons, allB, ih, Option.bind_some]
  unfold fAll
  simp only [lisO, h, Option.bind_some]
/-- the symbol's kind -/
theorem e_kind {l : Lo} {S : Sto} {i : Nat} {a b c : Int} {ts : List Tm} (h : l[i]? = some (some (eT (.ap a b c ts)))) : mOp ixF (mOp ixF (mVar i) (mC (.int 0))) (mC (.int 0)) l S = some (.int a, S) := by
  walk_at "ev"
mutual
def Tm.ind' : Tm → Bool
  | .v _ => true
  | .ap a _ _ ts => decide (a = 2 ∨ a = 3) && inds ts
def inds : List Tm → Bool
  | [] => true
  | t :: ts => t.ind' && inds ts
end
theorem inds_all : ∀ ts, inds ts = ts.all Tm.ind'
  | [] => by simp [inds]
  | t :: ts => by simp [inds, inds_all ts]
def Tm.isA : Tm → Bool
  | .v _ => false
  | .ap a _ _ _ => !decide (a = 2 ∨ a = 3)
def Tm.atomic : Tm → Bool
  | .v _ => false
  | .ap a _ _ ts => !decide (a = 2 ∨ a = 3) && inds ts
/-- kinds of symbols: 0 to 5; short lists -/
abbrev KOk : Tm → Prop := Tm.Ok (fun _ => True) (fun a _ _ n => (0 ≤ a ∧ a < 6) ∧ n ≤ 1000)
section
variable {prog : Nat → Option Fb} (hp : ∀ j fb, lZl0[j]? = some fb → prog (0 + j) = some fb) {k : Nat} {S : Sto}
include hp
theorem r_lind (t : Tm) : ∀ {k : Nat}, t.hgt ≤ k → t.Wd 1000 → ∀ S, run prog (k + 2) 23 [eT t] S = some (.bl t.ind', S) := by
  induction t using Tm.ind with
  | hv i =>
    intro k hk hw S
    refine call_pure (hp 23 _ rfl) rfl ?_ (refLt_bl _)
    show c__law_is_individual (run prog (k + 1)) [some (eT (.v i)), none] S = _
    unfold c__law_is_individual Tm.ind'
    rw [seq_ifT (S1 := S) (t_lisv hp (t := .v i) rfl)]
    rfl
  | ha a b c ts ih =>
    intro k hk hw S
    rw [hgt_ap] at hk
    obtain ⟨k, rfl⟩ : ∃ k', k = k' + 1 := ⟨k - 1, by omega⟩
    refine call_pure (hp 23 _ rfl) rfl ?_ (refLt_bl _)
    show c__law_is_individual (run prog (k + 2)) [some (eT (.ap a b c ts)), none] S = _
    cases hw with
    | ap hw1 hw2 =>
    have h2 := fun t ht => ih t ht (k := k) (Nat.le_trans (hgts_mem ht) (by omega)) (hw2 t ht) S
    clear ih
    unfold c__law_is_individual Tm.ind'
    rw [seq_ifF (S1 := S) (t_lisv hp (t := .ap a b c ts) rfl), seq_skip]
    have h4 := e_kind (S := S) (l := [some (eT (.ap a b c ts)), none]) (i := 0) rfl
    have h6 : (mAndT (mBool (mOpO fNe (oD (mOp ixF (mOp ixF (mVar 0) (mC (.int 0))) (mC (.int 0)))) (oD (mC (.int 2))))) (mBool (mOpO fNe (oD (mOp ixF (mOp ixF (mVar 0) (mC (.int 0))) (mC (.int 0)))) (oD (mC (.int 3)))))) [some (eT (.ap a b c ts)), none] S = some (!decide (a = 2 ∨ a = 3), S) := by
      simp only [mAndT, mBool, mOpO, oD, h4, Option.bind_some, mC, fNe_int]
      by_cases z2 : a = 2 <;> by_cases z3 : a = 3 <;> simp [z2, z3]
    have hc := (comp_of (vs := [1]) (tg := mgN 1) (c := mYes) (elt := mCall (run prog (k + 2) 23) (mCons (mVar 1) mNil)) (src_args (S := S) (l := [some (eT (.ap a b c ts)), none]) (i := 0) rfl) (by rw [List.length_map]; omega)).trans (compL_map eT (fun t => .bl t.ind') trivial ts (fun x hx => ⟨_, rfl, by
      have h3 := h2 x hx
      simp only [wipeD, mCall, mCons, mNil, mVar, List.set_cons_succ, List.set_cons_zero, List.getElem?_cons_zero, List.getElem?_cons_succ, Option.bind_some, h3]⟩))
    have e1 : (ts.map fun t => D.bl t.ind') = (ts.map Tm.ind').map D.bl := by rw [List.map_map]; rfl
    rw [e1] at hc
    cases hd : decide (a = 2 ∨ a = 3) with
    | false =>
      rw [hd] at h6
      rw [seq_ifT h6]
      rfl
    | true =>
      rw [hd] at h6
      rw [seq_ifF h6, seq_skip, Bool.true_and, inds_all]
      simp only [mRet, mFn1, oN, hc, Option.bind_some, all_bools, List.all_map]
      rfl
theorem r_latomic {t : Tm} (hw : t.Wd 1000) (hk : t.hgt ≤ k) : run prog (k + 3) 24 [eT t] S = some (.bl t.atomic, S) := by
  refine call_pure (hp 24 _ rfl) rfl ?_ (refLt_bl _)
  show c__law_is_atomic (run prog (k + 2)) [some (eT t), none] S = _
  unfold c__law_is_atomic
  cases hw with
  | v i =>
    rw [seq_ifT (S1 := S) (orT_t (t_lisv hp (t := .v i) rfl))]
    rfl
  | @ap a b c ts hw1 hw2 =>
    simp only [Tm.atomic]
    rw [hgt_ap] at hk
    have h4 := e_kind (S := S) (l := [some (eT (.ap a b c ts)), none]) (i := 0) rfl
    have h6 : (mOrT (mBool (mOpO fEq (oD (mOp ixF (mOp ixF (mVar 0) (mC (.int 0))) (mC (.int 0)))) (oD (mC (.int 2))))) (mBool (mOpO fEq (oD (mOp ixF (mOp ixF (mVar 0) (mC (.int 0))) (mC (.int 0)))) (oD (mC (.int 3)))))) [some (eT (.ap a b c ts)), none] S = some (decide (a = 2 ∨ a = 3), S) := by
      simp only [mOrT, mBool, mOpO, oD, h4, Option.bind_some, mC, fEq_int]
      by_cases z2 : a = 2 <;> by_cases z3 : a = 3 <;> simp [z2, z3]
    have h6' := (orT_f (b := (mOrT (mBool (mOpO fEq (oD (mOp ixF (mOp ixF (mVar 0) (mC (.int 0))) (mC (.int 0)))) (oD (mC (.int 2))))) (mBool (mOpO fEq (oD (mOp ixF (mOp ixF (mVar 0) (mC (.int 0))) (mC (.int 0)))) (oD (mC (.int 3))))))) (t_lisv hp (k := k + 1) (S := S) (l := [some (eT (.ap a b c ts)), none]) (i := 0) (t := .ap a b c ts) rfl)).trans h6
    have hc := (comp_of (vs := [1]) (tg := mgN 1) (c := mYes) (elt := mCall (run prog (k + 2) 23) (mCons (mVar 1) mNil)) (src_args (S := S) (l := [some (eT (.ap a b c ts)), none]) (i := 0) rfl) (by rw [List.length_map]; omega)).trans (compL_map eT (fun t => .bl t.ind') trivial ts (fun x hx => ⟨_, rfl, by
      have h3 := r_lind hp x (k := k) (Nat.le_trans (hgts_mem hx) (by omega)) (hw2 x hx) S
      simp only [wipeD, mCall, mCons, mNil, mVar, List.set_cons_succ, List.set_cons_zero, List.getElem?_cons_zero, List.getElem?_cons_succ, Option.bind_some, h3]⟩))
    have e1 : (ts.map fun t => D.bl t.ind') = (ts.map Tm.ind').map D.bl := by rw [List.map_map]; rfl
    rw [e1] at hc
    cases hd : decide (a = 2 ∨ a = 3) with
    | true =>
      rw [hd] at h6'
      rw [seq_ifT h6']
      rfl
    | false =>
      rw [hd] at h6'
      rw [seq_ifF h6', seq_skip, inds_all, Bool.not_false, Bool.true_and]
      simp only [mRet, mFn1, oN, hc, Option.bind_some, all_bools, List.all_map]
      rfl
end
end Zi
set_option maxRecDepth 100000
set_option maxHeartbeats 1000000
namespace Zi
open PySem L2
local macro_rules | `(tactic| walk_at "ev") => `(tactic| (simp only [mSeq, mSet, mRet, mIfS, mIf, mOp, mOpO, mC, mVar, mBool, mFn1, oD, oN, oS, fLen, lenO, seqO, mSkip, fAdd, fMul, fI, fI0, fLt, fLe, fGt, fGe, fSub, fMod, fDiv, fInt, ixF, mNil, mCons, mTup, mCall, mLst, mAlloc, mIsN, mNotN, isNon, mNotT, mAndT, mOrT, mTru, truD, mAsg, mgTup, mgCons, mgNil, mgN, mLisc, mIsI, tyO, isTyB, mDrop, mAug, fIadd, mMax2, mAnd, mOr, mNot, fLtT, fTupc, mApp, mulC_r, mulC_l, divC_r, modC_r, atI_0, atI_1, atI_2, fEq_int, fNe_int, fEq_bl, mSrc, srcO, eT_v, eT_ap, eS, List.length_cons, List.length_nil, Option.bind_some, Option.map_some, List.map_cons, List.map_nil, List.cons_append, List.nil_append, List.replicate, List.getElem?_cons_zero, List.getElem?_cons_succ, List.set_cons_zero, List.set_cons_succ, if_true, decide_true, Int.reduceNeg, Int.reducePow, Int.reduceLT, Nat.reduceAdd, Nat.reduceSub, and_self, Nat.reduceLeDiff, Bool.false_eq_true, if_false, Bool.not_true, Bool.not_false, Int.reduceEq, decide_false, Bool.or_false, Bool.false_or, Bool.or_true, Bool.true_or, Bool.and_true, Bool.true_and, Bool.and_false, Bool.false_and, String.reduceEq, *]))
local macro_rules | `(tactic| walk_at "step") => `(tactic| (refine (Eq.trans (seq_set (by ((try walk_at "ev"); exact rfl))) ?_); simp only [List.set_cons_zero, List.set_cons_succ]))
theorem allS_map {α : Type} {f : D → Option PyData} (e : α → D) (g : α → PyData) : ∀ (xs : List α), (∀ x ∈ xs, f (e x) = some (g x)) → allS f (xs.map e) = some (xs.map g)
  | [], _ => rfl
  | x :: xs, h => by
    show (f (e x)).bind _ = _
    rw [h x (by simp), Option.bind_some, allS_map e g xs fun y hy => h y (List.mem_cons_of_mem _ hy)]
    rfl
mutual
def pT : Tm → PyData
  | .v i => .int i
  | .ap a b c ts => .tuple [.tuple [.int a, .int b, .int c], .tuple (pTs ts)]
def pTs : List Tm → List PyData
  | [] => []
  | t :: ts => pT t :: pTs ts
end
theorem pTs_map : ∀ ts, pTs ts = ts.map pT
  | [] => by simp [pTs]
  | t :: ts => by simp [pTs, pTs_map ts]
theorem snap_eT {S : Sto} (t : Tm) : ∀ {n : Nat}, 2 * t.hgt + 1 ≤ n → snap n S (eT t) = some (pT t) := by
  induction t using Tm.ind with
  | hv i =>
    intro n hn
    obtain ⟨n, rfl⟩ : ∃ n', n = n' + 1 := ⟨n - 1, by omega⟩
    simp only [eT_v, pT, snap_int]
  | ha a b c ts ih =>
    intro n hn
    rw [hgt_ap] at hn
    obtain ⟨n, rfl⟩ : ∃ n', n = n' + 3 := ⟨n - 3, by omega⟩
    have h := allS_map (f := snap (n + 1) S) eT pT ts fun t ht => ih t ht (by have := hgts_mem ht; omega)
    simp only [eT_ap, eS, pT, pTs_map, snap_tup, allS, snap_int, h, Option.bind_some]
/-- the same term -/
def teq (t u : Tm) : Bool := PyData.eqv (pT t) (pT u)
theorem teqs_iff {ts : List Tm} (h : ∀ t ∈ ts, ∀ u, teq t u = true ↔ t = u) : ∀ us, PyData.eqvAll (pTs ts) (pTs us) = true ↔ ts = us := by
  induction ts with
  | nil =>
    intro us
    cases us with
    | nil => simp [pTs, PyData.eqvAll]
    | cons u us => simp [pTs, PyData.eqvAll]
  | cons t ts ih =>
    intro us
    cases us with
    | nil => simp [pTs, PyData.eqvAll]
    | cons u us =>
      have h1 := h t (by simp) u
      have h2 := ih (fun x hx => h x (List.mem_cons_of_mem _ hx)) us
      unfold teq at h1
      simp only [pTs, PyData.eqvAll, Bool.and_eq_true, h1, h2, List.cons.injEq]
theorem teq_iff (t : Tm) : ∀ u, teq t u = true ↔ t = u := by
  induction t using Tm.ind with
  | hv i =>
    intro u
    cases u with
    | v j => simp [teq, pT, eqv_int]
    | ap a b c us => simp [teq, pT, PyData.eqv]
  | ha a b c ts ih =>
    intro u
    cases u with
    | v j => simp [teq, pT, PyData.eqv]
    | ap a' b' c' us =>
      have h := teqs_iff ih us
      unfold teq
      simp only [pT, PyData.eqv, PyData.eqvAll, Bool.and_eq_true, beq_iff_eq, h, Bool.and_true, Tm.ap.injEq]
      constructor
      · rintro ⟨⟨h1, h2, h3⟩, h4⟩
        exact ⟨h1, h2, h3, h4⟩
      · rintro ⟨h1, h2, h3, h4⟩
        exact ⟨⟨h1, h2, h3⟩, h4⟩
theorem teq_self (t : Tm) : teq t t = true := (teq_iff t t).mpr rfl
theorem fEq_tm {S : Sto} {t u : Tm} (h1 : t.hgt ≤ 94) (h2 : u.hgt ≤ 94) : fEq (.d (eT t)) (.d (eT u)) S = some (.bl (teq t u), S) := by
  show ((snap 190 S (eT t)).bind fun p => (snap 190 S (eT u)).bind fun q => some (D.bl (PyData.eqv p q), S)) = _
  rw [snap_eT t (by omega), snap_eT u (by omega)]
  rfl
theorem fNe_tm {S : Sto} {t u : Tm} (h1 : t.hgt ≤ 94) (h2 : u.hgt ≤ 94) : fNe (.d (eT t)) (.d (eT u)) S = some (.bl (!teq t u), S) := by
  show ((snap 190 S (eT t)).bind fun p => (snap 190 S (eT u)).bind fun q => some (D.bl (!PyData.eqv p q), S)) = _
  rw [snap_eT t (by omega), snap_eT u (by omega)]
  rfl
/-- a tuple of ints -/
abbrev eP (p : List Int) : D := .tup (p.map D.int)
mutual
def plc : Tm → List (List Int × Tm)
  | .v i => [([], .v i)]
  | .ap a b c ts => ([], .ap a b c ts) :: plcs 0 ts
def plcs (k : Int) : List Tm → List (List Int × Tm)
  | [] => []
  | t :: ts => (plc t).map (fun p => (k :: p.1, p.2)) ++ plcs (k + 1) ts
end
/-- the term at a place -/
def atP : Tm → List Int → Option Tm
  | t, [] => some t
  | .v _, _ :: _ => none
  | .ap _ _ _ ts, s :: p => if 0 ≤ s then (ts[s.toNat]?).bind fun u => atP u p else none
mutual
theorem plc_at : ∀ (t : Tm) (p : List Int × Tm), p ∈ plc t → atP t p.1 = some p.2
  | .v i, p, h => by
    simp only [plc, List.mem_singleton] at h
    subst h
    simp [atP]
  | .ap a b c ts, p, h => by
    simp only [plc, List.mem_cons] at h
    rcases h with h | h
    · subst h; simp [atP]
    · obtain ⟨j, u, q, h1, h2, h3⟩ := plcs_at ts 0 p h
      rw [h2]
      unfold atP
      rw [if_pos (by omega), show ((0 : Int) + (j : Nat)).toNat = j by omega, h1]
      exact h3
theorem plcs_at : ∀ (ts : List Tm) (k : Int) (p : List Int × Tm), p ∈ plcs k ts → ∃ (j : Nat) (u : Tm) (q : List Int), ts[j]? = some u ∧ p.1 = (k + j) :: q ∧ atP u q = some p.2
  | [], k, p, h => by simp [plcs] at h
  | t :: ts, k, p, h => by
    simp only [plcs, List.mem_append, List.mem_map] at h
    rcases h with ⟨q, h1, h2⟩ | h
    · have := plc_at t q h1
      subst h2
      exact ⟨0, t, q.1, rfl, by simp, this⟩
    · obtain ⟨j, u, q, h1, h2, h3⟩ := plcs_at ts (k + 1) p h
      exact ⟨j + 1, u, q, h1, by rw [h2, show k + 1 + (j : Int) = k + ((j + 1 : Nat) : Int) by omega], h3⟩
end
section
variable {prog : Nat → Option Fb} (hp : ∀ j fb, lZl0[j]? = some fb → prog (0 + j) = some fb) {k : Nat} {S : Sto}
include hp
omit hp in
theorem app_of {o x : M} {l : Lo} {S : Sto} {r : Nat} {xs : List D} {d : D} (ho : o l S = some (.ref r, S)) (hr : S[r]? = some (.lst xs)) (hx : x l S = some (d, S)) (hlen : xs.length < 1000000) : mDrop (mApp o x) l S = some (.nx l, S.set r (.lst (xs ++ [d]))) := by
  simp only [mDrop, mApp, ho, hr, hx, Option.bind_some, if_pos hlen]
end
end Zi
set_option maxRecDepth 100000
set_option maxHeartbeats 1000000
namespace Zi
open PySem L2
local macro_rules | `(tactic| walk_at "ev") => `(tactic| (simp only [mSeq, mSet, mRet, mIfS, mIf, mOp, mOpO, mC, mVar, mBool, mFn1, oD, oN, oS, fLen, lenO, seqO, mSkip, fAdd, fMul, fI, fI0, fLt, fLe, fGt, fGe, fSub, fMod, fDiv, fInt, ixF, mNil, mCons, mTup, mCall, mLst, mAlloc, mIsN, mNotN, isNon, mNotT, mAndT, mOrT, mTru, truD, mAsg, mgTup, mgCons, mgNil, mgN, mLisc, mIsI, tyO, isTyB, mDrop, mAug, fIadd, mMax2, mAnd, mOr, mNot, fLtT, fTupc, mApp, mulC_r, mulC_l, divC_r, modC_r, atI_0, atI_1, atI_2, fEq_int, fNe_int, fEq_bl, mSrc, srcO, eT_v, eT_ap, eS, List.length_cons, List.length_nil, Option.bind_some, Option.map_some, List.map_cons, List.map_nil, List.cons_append, List.nil_append, List.replicate, List.getElem?_cons_zero, List.getElem?_cons_succ, List.set_cons_zero, List.set_cons_succ, if_true, decide_true, Int.reduceNeg, Int.reducePow, Int.reduceLT, Nat.reduceAdd, Nat.reduceSub, and_self, Nat.reduceLeDiff, Bool.false_eq_true, if_false, Bool.not_true, Bool.not_false, Int.reduceEq, decide_false, Bool.or_false, Bool.false_or, Bool.or_true, Bool.true_or, Bool.and_true, Bool.true_and, Bool.and_false, Bool.false_and, String.reduceEq, *]))
local macro_rules | `(tactic| walk_at "step") => `(tactic| (refine (Eq.trans (seq_set (by ((try walk_at "ev"); exact rfl))) ?_); simp only [List.set_cons_zero, List.set_cons_succ]))
def putP : Tm → List Int → Tm → Tm
  | _, [], n => n
  | .v i, _ :: _, _ => .v i
  | .ap a b c ts, s :: p, n => match ts[s.toNat]? with
    | some u => .ap a b c (ts.set s.toNat (putP u p n))
    | none => .ap a b c ts
theorem cases_at {t : Tm} {s : Int} {p : List Int} {x : Tm} (h : atP t (s :: p) = some x) : ∃ a b c ts u, t = .ap a b c ts ∧ 0 ≤ s ∧ ts[s.toNat]? = some u ∧ atP u p = some x := by
  cases t with
  | v i => simp [atP] at h
  | ap a b c ts =>
    have h' : (if 0 ≤ s then (ts[s.toNat]?).bind fun u => atP u p else none) = some x := h
    split at h'
    · rename_i hs
      obtain ⟨u, h1, h2⟩ := bind2 h'
      exact ⟨a, b, c, ts, u, rfl, hs, h1, h2⟩
    · cases h'
end Zi
set_option maxRecDepth 100000
set_option maxHeartbeats 1000000
namespace Zi
open PySem L2
local macro_rules | `(tactic| walk_at "ev") => `(tactic| (simp only [mSeq, mSet, mRet, mIfS, mIf, mOp, mOpO, mC, mVar, mBool, mFn1, oD, oN, oS, fLen, lenO, seqO, mSkip, fAdd, fMul, fI, fI0, fLt, fLe, fGt, fGe, fSub, fMod, fDiv, fInt, ixF, mNil, mCons, mTup, mCall, mLst, mAlloc, mIsN, mNotN, isNon, mNotT, mAndT, mOrT, mTru, truD, mAsg, mgTup, mgCons, mgNil, mgN, mLisc, mIsI, tyO, isTyB, mDrop, mAug, fIadd, mMax2, mAnd, mOr, mNot, fLtT, fTupc, mApp, mulC_r, mulC_l, divC_r, modC_r, atI_0, atI_1, atI_2, fEq_int, fNe_int, fEq_bl, mSrc, srcO, eT_v, eT_ap, eS, List.length_cons, List.length_nil, Option.bind_some, Option.map_some, List.map_cons, List.map_nil, List.cons_append, List.nil_append, List.replicate, List.getElem?_cons_zero, List.getElem?_cons_succ, List.set_cons_zero, List.set_cons_succ, if_true, decide_true, Int.reduceNeg, Int.reducePow, Int.reduceLT, Nat.reduceAdd, Nat.reduceSub, and_self, Nat.reduceLeDiff, Bool.false_eq_true, if_false, Bool.not_true, Bool.not_false, Int.reduceEq, decide_false, Bool.or_false, Bool.false_or, Bool.or_true, Bool.true_or, Bool.and_true, Bool.true_and, Bool.and_false, Bool.false_and, String.reduceEq, *]))
local macro_rules | `(tactic| walk_at "step") => `(tactic| (refine (Eq.trans (seq_set (by ((try walk_at "ev"); exact rfl))) ?_); simp only [List.set_cons_zero, List.set_cons_succ]))
structure Lit where
  pos : Bool
  l : Tm
  r : Tm
def eL (x : Lit) : D := .tup [.bl x.pos, eT x.l, eT x.r]
theorem refLt_eL {n : Nat} (x : Lit) : refLt n (eL x) = true := by simp [eL, refLt, refLtL, refLt_eT]
theorem refLtL_eL {n : Nat} : ∀ xs : List Lit, refLtL n (xs.map eL) = true
  | [] => by simp [refLtL]
  | x :: xs => by simp [refLtL, refLt_eL, refLtL_eL xs]
def tTruth : Tm := .ap 0 0 0 []
/-- what the laws' literals keep -/
structure LitB (H : Nat) (B : Int) (x : Lit) : Prop where
  kl : KOk x.l
  kr : KOk x.r
  hl : x.l.hgt ≤ H
  hr : x.r.hgt ≤ H
  sl : x.l.size ≤ B
  sr : x.r.size ≤ B
def sameS (x y : Lit) : Bool := (teq x.l y.l && teq x.r y.r) || (teq x.l y.r && teq x.r y.l)
def good (x : Lit) : Bool := (x.l.ind' && x.r.ind') || (x.l.atomic && teq x.r tTruth)
theorem kok_term {d : Nat} {t : Tm} (h : TermOk d t) : KOk t := h.ok.imp (fun _ _ => trivial) (fun a b c n z => by
  have z1 := z.1
  simp only [SymT, fiveS, List.mem_cons, Prod.mk.injEq, List.not_mem_nil, or_false] at z1
  omega)
theorem kok_atom {d : Nat} {t : Tm} (h : AtomOk d t) : KOk t := h.ok.imp (fun _ _ => trivial) (fun a b c n z => by
  have z1 := z.1
  simp only [SymT, SymA, fiveS, sixA, List.mem_cons, Prod.mk.injEq, List.not_mem_nil, or_false] at z1
  omega)
theorem KOk.wd {t : Tm} (h : KOk t) : t.Wd 1000 := Tm.Ok.wd (fun a b c m z => z.2) h
theorem call2 {F : List D → Sto → Option (D × Sto)} {a b : M} {l : Lo} {S : Sto} {d e v : D} (ha : a l S = some (d, S)) (hb : b l S = some (e, S)) (h : F [d, e] S = some (v, S)) : mCall F (mCons a (mCons b mNil)) l S = some (v, S) := by
  simp only [mCall, mCons, mNil, ha, hb, Option.bind_some, h]
theorem var_of {l : Lo} {S : Sto} {i : Nat} {d : D} (h : l[i]? = some (some d)) : mVar i l S = some (d, S) := by
  simp only [mVar, h]
end Zi
set_option maxRecDepth 100000
namespace Zi
open PySem L2
/-- 1000 0 term, 1 substitution, 2 part -/
noncomputable def c_put (G : GF) : MS := (mSeq (mIfS (mTru (mCall (G 3) (mCons (mVar 0) mNil))) (mRet (mGet2 (mVar 1) (mVar 0) (mVar 0))) mSkip)
    (mRet (mTup (mCons (mOp ixF (mVar 0) (mC (.int 0))) (mCons (mFn1 fTupc (oN (mComp (mSrc (oD (mOp ixF (mVar 0) (mC (.int 1))))) [2] (mgN 2) mYes (mCall (G 1000) (mCons (mVar 2) (mCons (mVar 1) mNil)))))) mNil)))))
/-- 1001 0 literal, 1 substitution -/
def c_put_literal (G : GF) : MS := (mRet (mTup (mCons (mOp ixF (mVar 0) (mC (.int 0))) (mCons (mCall (G 1000) (mCons (mOp ixF (mVar 0) (mC (.int 1))) (mCons (mVar 1) mNil))) (mCons (mCall (G 1000) (mCons (mOp ixF (mVar 0) (mC (.int 2))) (mCons (mVar 1) mNil))) mNil)))))
/-- 1002 0 clause, 1 substitution, 2 literal -/
noncomputable def c_put_clause (G : GF) : MS := (mRet (mFn1 fTupc (oN (mComp (mSrc (oD (mVar 0))) [2] (mgN 2) mYes (mCall (G 1001) (mCons (mVar 2) (mCons (mVar 1) mNil)))))))
/-- 1003 0 _law_row, 1 _law_deep, 2 _law_told, 3 _law_variable, 4 _law_found -/
noncomputable def c__law_substitution (G : GF) : MS := (mSeq (mSet 2 (mAlloc (mLst mNil)))
    (mSeq (mFor (mRng1 (mC (.int 3))) (mgN 3) (mSeq (mIfS (mBool (mOpO fNe (oD (mOp fMod (mFn1 fInt (oD (mVar 0))) (mC (.int 4)))) (oD (mC (.int 3))))) (mSeq (mSet 4 (mCall (G 12) (mCons (mOp fDiv (mVar 0) (mC (.int 4))) (mCons (mVar 1) mNil))))
    (mSeq (mDrop (mApp (mVar 2) (mTup (mCons (mVar 3) (mCons (mOp ixF (mVar 4) (mC (.int 0))) mNil)))))
    (mSet 0 (mOp ixF (mVar 4) (mC (.int 1)))))) mSkip)
    (mSet 0 (mOp fDiv (mVar 0) (mC (.int 4))))))
    (mRet (mVar 2))))
/-- 1004 0 _law_told, 1 _law_made, 2 _law_pair -/
noncomputable def c__law_dict (G : GF) : MS := (mSeq (mSet 1 (mDnewK))
    (mSeq (mFor (mSrc (oD (mVar 0))) (mgN 2) (mSetD (mVar 1) (mOp ixF (mVar 2) (mC (.int 0))) (mOp ixF (mVar 2) (mC (.int 1)))))
    (mRet (mVar 1))))
/-- 1005 0 _law_term_here, 1 _law_told, 2 _law_pair, 3 _law_part -/
noncomputable def c__law_put (G : GF) : MS := (mSeq (mIfS (mTru (mCall (G 14) (mCons (mVar 0) mNil))) (mSeq (mFor (mSrc (oD (mVar 1))) (mgN 2) (mIfS (mBool (mOpO fEq (oD (mOp ixF (mVar 2) (mC (.int 0)))) (oD (mVar 0)))) (mRet (mOp ixF (mVar 2) (mC (.int 1)))) mSkip))
    (mRet (mVar 0))) mSkip)
    (mRet (mTup (mCons (mOp ixF (mVar 0) (mC (.int 0))) (mCons (mFn1 fTupc (oN (mComp (mSrc (oD (mOp ixF (mVar 0) (mC (.int 1))))) [3] (mgN 3) mYes (mCall (G 1005) (mCons (mVar 3) (mCons (mVar 1) mNil)))))) mNil)))))
/-- 1006 0 _law_clause_here, 1 _law_told, 2 _law_one -/
noncomputable def c__law_put_clause (G : GF) : MS := (mRet (mFn1 fTupc (oN (mComp (mSrc (oD (mVar 0))) [2] (mgN 2) mYes (mTup (mCons (mOp ixF (mVar 2) (mC (.int 0))) (mCons (mCall (G 1005) (mCons (mOp ixF (mVar 2) (mC (.int 1))) (mCons (mVar 1) mNil))) (mCons (mCall (G 1005) (mCons (mOp ixF (mVar 2) (mC (.int 2))) (mCons (mVar 1) mNil))) mNil))))))))
/-- 1007 0 _law_told, 1 _law_key -/
noncomputable def c__law_pairs (G : GF) : MS := (mRet (mAlloc (mLockA 0 (mComp (mKeys (mVar 0)) [1] (mgN 1) mYes (mTup (mCons (mVar 1) (mCons (mOp ixX (mVar 0) (mVar 1)) mNil)))))))
noncomputable def lZl1 : List Fb := [mkFb 2 3 c_put,
  mkFb 2 2 c_put_literal,
  mkFb 2 3 c_put_clause,
  mkFb 2 5 c__law_substitution,
  mkFb 1 3 c__law_dict,
  mkFb 2 4 c__law_put,
  mkFb 2 3 c__law_put_clause,
  mkFb 1 2 c__law_pairs]
end Zi
set_option maxRecDepth 100000
set_option maxHeartbeats 1000000
namespace Zi
open PySem L2
local macro_rules | `(tactic| walk_at "ev") => `(tactic| (simp only [mSeq, mSet, mRet, mIfS, mIf, mOp, mOpO, mC, mVar, mBool, mFn1, oD, oN, oS, fLen, lenO, seqO, mSkip, fAdd, fMul, fI, fI0, fLt, fLe, fGt, fGe, fSub, fMod, fDiv, fInt, ixF, mNil, mCons, mTup, mCall, mLst, mAlloc, mIsN, mNotN, isNon, mNotT, mAndT, mOrT, mTru, truD, mAsg, mgTup, mgCons, mgNil, mgN, mLisc, mIsI, tyO, isTyB, mDrop, mAug, fIadd, mMax2, mAnd, mOr, mNot, fLtT, fTupc, mApp, mulC_r, mulC_l, divC_r, modC_r, atI_0, atI_1, atI_2, fEq_int, fNe_int, fEq_bl, mSrc, srcO, eT_v, eT_ap, eS, List.length_cons, List.length_nil, Option.bind_some, Option.map_some, List.map_cons, List.map_nil, List.cons_append, List.nil_append, List.replicate, List.getElem?_cons_zero, List.getElem?_cons_succ, List.set_cons_zero, List.set_cons_succ, if_true, decide_true, Int.reduceNeg, Int.reducePow, Int.reduceLT, Nat.reduceAdd, Nat.reduceSub, and_self, Nat.reduceLeDiff, Bool.false_eq_true, if_false, Bool.not_true, Bool.not_false, Int.reduceEq, decide_false, Bool.or_false, Bool.false_or, Bool.or_true, Bool.true_or, Bool.and_true, Bool.true_and, Bool.and_false, Bool.false_and, String.reduceEq, *]))
local macro_rules | `(tactic| walk_at "step") => `(tactic| (refine (Eq.trans (seq_set (by ((try walk_at "ev"); exact rfl))) ?_); simp only [List.set_cons_zero, List.set_cons_succ]))
/-- a substitution's pairs, as a dict's -/
def eSub (s : List (Int × Tm)) : List (Key × D) := s.map fun p => (Sum.inl p.1, eT p.2)
def subOf (s : List (Int × Tm)) (i : Int) : Option Tm := (s.find? fun p => decide (p.1 = i)).map (·.2)
mutual
def Tm.put (s : List (Int × Tm)) : Tm → Tm
  | .v i => (subOf s i).getD (.v i)
  | .ap a b c ts => .ap a b c (puts s ts)
def puts (s : List (Int × Tm)) : List Tm → List Tm
  | [] => []
  | t :: ts => t.put s :: puts s ts
end
theorem puts_map (s : List (Int × Tm)) : ∀ ts, puts s ts = ts.map (Tm.put s)
  | [] => by simp [puts]
  | t :: ts => by simp [puts, puts_map s ts]
theorem put_ap (s : List (Int × Tm)) (a b c : Int) (ts : List Tm) : (Tm.ap a b c ts).put s = .ap a b c (ts.map (Tm.put s)) := by simp [Tm.put, puts_map]
section
variable {prog : Nat → Option Fb} (hp : ∀ j fb, lZl0[j]? = some fb → prog (0 + j) = some fb) (hp1 : ∀ j fb, lZl1[j]? = some fb → prog (1000 + j) = some fb) {k : Nat} {S : Sto}
include hp hp1
def putL (s : List (Int × Tm)) (x : Lit) : Lit := ⟨x.pos, x.l.put s, x.r.put s⟩
def ePr (p : Int × Tm) : D := .tup [.int p.1, eT p.2]
end
end Zi
set_option maxRecDepth 100000
set_option maxHeartbeats 1000000
namespace Zi
open PySem L2
section
variable {S : Sto} {Q : D → Sto → Prop} {a b c : Int} {ts : List Tm} {t u : Tm} {x y : Lit}
theorem wf_ixA0 (q : Q (eS a b c) S) : wp (ixF (eT (.ap a b c ts)) (.int 0) S) Q := by
  rw [eT_ap]
  exact wf_ixT atI_0 q
theorem wf_ixA1 (q : Q (.tup (ts.map eT)) S) : wp (ixF (eT (.ap a b c ts)) (.int 1) S) Q := by
  rw [eT_ap]
  exact wf_ixT atI_1 q
theorem wf_ixS0 (q : Q (.int a) S) : wp (ixF (eS a b c) (.int 0) S) Q := wf_ixT atI_0 q
theorem wf_ixS1 (q : Q (.int b) S) : wp (ixF (eS a b c) (.int 1) S) Q := wf_ixT atI_1 q
theorem wf_ixS2 (q : Q (.int c) S) : wp (ixF (eS a b c) (.int 2) S) Q := wf_ixT atI_2 q
theorem wf_ixL0 (q : Q (.bl x.pos) S) : wp (ixF (eL x) (.int 0) S) Q := wf_ixT atI_0 q
theorem wf_ixL1 (q : Q (eT x.l) S) : wp (ixF (eL x) (.int 1) S) Q := wf_ixT atI_1 q
theorem wf_ixL2 (q : Q (eT x.r) S) : wp (ixF (eL x) (.int 2) S) Q := wf_ixT atI_2 q
theorem wf_eqT (h1 : t.hgt ≤ 94) (h2 : u.hgt ≤ 94) (q : Q (.bl (teq t u)) S) : wp (fEq (.d (eT t)) (.d (eT u)) S) Q := wp_eq (fEq_tm h1 h2) q
theorem wf_neT (h1 : t.hgt ≤ 94) (h2 : u.hgt ≤ 94) (q : Q (.bl (!teq t u)) S) : wp (fNe (.d (eT t)) (.d (eT u)) S) Q := wp_eq (fNe_tm h1 h2) q
theorem isI_vi {K : Bool → Prop} (q : K t.isV) : tyK S (.d (eT t)) "int" K := by
  cases t with
  | v i => exact ⟨"int", by simp [eT, tyO], q⟩
  | ap a b c ts => exact ⟨"tuple", by simp [eT, tyO], q⟩
theorem isI_vb {K : Bool → Prop} (q : K false) : tyK S (.d (eT t)) "bool" K := by
  cases t with
  | v i => exact ⟨"int", by simp [eT, tyO], q⟩
  | ap a b c ts => exact ⟨"tuple", by simp [eT, tyO], q⟩
theorem isI_vt {K : Bool → Prop} (q : K (!t.isV)) : tyK S (.d (eT t)) "tuple" K := by
  cases t with
  | v i => exact ⟨"int", by simp [eT, tyO], q⟩
  | ap a b c ts => exact ⟨"tuple", by simp [eT, tyO], q⟩
/-- literals as data -/
def pL (x : Lit) : PyData := .tuple [.bool x.pos, pT x.l, pT x.r]
theorem snap_eL {n : Nat} (h1 : 2 * x.l.hgt + 2 ≤ n) (h2 : 2 * x.r.hgt + 2 ≤ n) : snap n S (eL x) = some (pL x) := by
  obtain ⟨n, rfl⟩ : ∃ m, n = m + 2 := ⟨n - 2, by omega⟩
  show (allS (snap (n + 1) S) [.bl x.pos, eT x.l, eT x.r]).bind _ = _
  simp only [allS, snap_bl, snap_eT x.l (n := n + 1) (by omega), snap_eT x.r (n := n + 1) (by omega), Option.bind_some, pL]
def leq (x y : Lit) : Bool := decide (x.pos = y.pos) && (teq x.l y.l && teq x.r y.r)
theorem leq_pL : PyData.eqv (pL x) (pL y) = leq x y := by
  simp only [pL, leq, PyData.eqv, PyData.eqvAll, teq, Bool.and_true]
  congr 1
theorem leq_iff {x y : Lit} : leq x y = true ↔ x = y := by
  cases x; cases y
  simp [leq, teq_iff]
theorem leq_self {x : Lit} : leq x x = true := leq_iff.mpr rfl
def pLs (xs : List Lit) : PyData := .tuple (xs.map pL)
/-- no literal is deep -/
def low (n : Nat) (xs : List Lit) : Prop := ∀ x ∈ xs, x.l.hgt ≤ n ∧ x.r.hgt ≤ n
theorem snap_eLs {n m : Nat} {xs : List Lit} (h : low m xs) (hm : 2 * m + 3 ≤ n) : snap n S (.tup (xs.map eL)) = some (pLs xs) := by
  obtain ⟨n, rfl⟩ : ∃ k, n = k + 1 := ⟨n - 1, by omega⟩
  show (allS (snap n S) (xs.map eL)).bind _ = _
  rw [allS_map eL pL xs fun x hx => snap_eL (by have := (h x hx).1; omega) (by have := (h x hx).2; omega)]
  rfl
theorem eqvAll_pL : ∀ xs ys : List Lit, PyData.eqvAll (xs.map pL) (ys.map pL) = true ↔ xs = ys
  | [], [] => by simp [PyData.eqvAll]
  | [], _ :: _ => by simp [PyData.eqvAll]
  | _ :: _, [] => by simp [PyData.eqvAll]
  | x :: xs, y :: ys => by
    simp only [List.map_cons, PyData.eqvAll, Bool.and_eq_true, eqvAll_pL xs ys, leq_pL, leq_iff, List.cons.injEq]
def lseq (xs ys : List Lit) : Bool := PyData.eqv (pLs xs) (pLs ys)
theorem lseq_iff {xs ys : List Lit} : lseq xs ys = true ↔ xs = ys := by
  simp only [lseq, pLs, PyData.eqv]
  exact eqvAll_pL xs ys
theorem lseq_self {xs : List Lit} : lseq xs xs = true := lseq_iff.mpr rfl
theorem wf_eqLs {xs ys : List Lit} (h1 : low 90 xs) (h2 : low 90 ys) (q : Q (.bl (lseq xs ys)) S) : wp (fEq (.d (.tup (xs.map eL))) (.d (.tup (ys.map eL))) S) Q :=
  wp_eq (a := .bl (lseq xs ys)) (by
    show ((snap 190 S (.tup (xs.map eL))).bind fun p => (snap 190 S (.tup (ys.map eL))).bind fun q => some (D.bl (PyData.eqv p q), S)) = _
    rw [snap_eLs h1 (by omega), snap_eLs h2 (by omega)]
    rfl) q
theorem wf_neLs {xs ys : List Lit} (h1 : low 90 xs) (h2 : low 90 ys) (q : Q (.bl (!lseq xs ys)) S) : wp (fNe (.d (.tup (xs.map eL))) (.d (.tup (ys.map eL))) S) Q :=
  wp_eq (a := .bl (!lseq xs ys)) (by
    show ((snap 190 S (.tup (xs.map eL))).bind fun p => (snap 190 S (.tup (ys.map eL))).bind fun q => some (D.bl (!PyData.eqv p q), S)) = _
    rw [snap_eLs h1 (by omega), snap_eLs h2 (by omega)]
    rfl) q
theorem wf_neL (h1 : x.l.hgt ≤ 90) (h2 : x.r.hgt ≤ 90) (h3 : y.l.hgt ≤ 90) (h4 : y.r.hgt ≤ 90) (q : Q (.bl (!leq x y)) S) : wp (fNe (.d (eL x)) (.d (eL y)) S) Q :=
  wp_eq (a := .bl (!leq x y)) (by
    show ((snap 190 S (eL x)).bind fun p => (snap 190 S (eL y)).bind fun q => some (D.bl (!PyData.eqv p q), S)) = _
    rw [snap_eL (by omega) (by omega), snap_eL (by omega) (by omega)]
    simp only [Option.bind_some, leq_pL]) q
theorem wf_eqL (h1 : x.l.hgt ≤ 90) (h2 : x.r.hgt ≤ 90) (h3 : y.l.hgt ≤ 90) (h4 : y.r.hgt ≤ 90) (q : Q (.bl (leq x y)) S) : wp (fEq (.d (eL x)) (.d (eL y)) S) Q :=
  wp_eq (a := .bl (leq x y)) (by
    show ((snap 190 S (eL x)).bind fun p => (snap 190 S (eL y)).bind fun q => some (D.bl (PyData.eqv p q), S)) = _
    rw [snap_eL (by omega) (by omega), snap_eL (by omega) (by omega)]
    simp only [Option.bind_some, leq_pL]) q
end
theorem atI_5 {α : Type} {a0 a1 a2 a3 a4 a5 : α} {xs : List α} : atI (a0 :: a1 :: a2 :: a3 :: a4 :: a5 :: xs) 5 = some a5 := by rw [atI_nn (by decide)]; rfl
theorem atI_6 {α : Type} {a0 a1 a2 a3 a4 a5 a6 : α} {xs : List α} : atI (a0 :: a1 :: a2 :: a3 :: a4 :: a5 :: a6 :: xs) 6 = some a6 := by rw [atI_nn (by decide)]; rfl
theorem atI_7 {α : Type} {a0 a1 a2 a3 a4 a5 a6 a7 : α} {xs : List α} : atI (a0 :: a1 :: a2 :: a3 :: a4 :: a5 :: a6 :: a7 :: xs) 7 = some a7 := by rw [atI_nn (by decide)]; rfl
theorem atI_8 {α : Type} {a0 a1 a2 a3 a4 a5 a6 a7 a8 : α} {xs : List α} : atI (a0 :: a1 :: a2 :: a3 :: a4 :: a5 :: a6 :: a7 :: a8 :: xs) 8 = some a8 := by rw [atI_nn (by decide)]; rfl
theorem atI_9 {α : Type} {a0 a1 a2 a3 a4 a5 a6 a7 a8 a9 : α} {xs : List α} : atI (a0 :: a1 :: a2 :: a3 :: a4 :: a5 :: a6 :: a7 :: a8 :: a9 :: xs) 9 = some a9 := by rw [atI_nn (by decide)]; rfl
end Zi
set_option maxRecDepth 100000
namespace Zi
open PySem PySem.Spec PyProof.Rows L2
section
variable {g : Wr} {ρ : List Addr} {S : Sto} {H : Hp}
def isLst : O → Bool
  | .n _ => true
  | .d (.ref _) => true
  | .d (.sl _) => true
  | _ => false
end
def mRevd (m : MO) : MI := fun l S => (m l S).bind fun p => (srcO p.2 p.1).bind fun s => if isLst p.1 = true then some (⟨s.ds.reverse, s.ok⟩, p.2) else none
end Zi
set_option maxRecDepth 100000
namespace Zi
open PySem L2
/-- 2000 0 clause, 1 found, 2 literal -/
noncomputable def c_clause_variables (G : GF) : MS := (mSeq (mSet 1 (mAlloc (mLst mNil)))
    (mSeq (mFor (mSrc (oD (mVar 0))) (mgN 2) (mSeq (mDrop (mCall (G 7) (mCons (mOp ixF (mVar 2) (mC (.int 1))) (mCons (mVar 1) mNil))))
    (mDrop (mCall (G 7) (mCons (mOp ixF (mVar 2) (mC (.int 2))) (mCons (mVar 1) mNil))))))
    (mRet (mVar 1))))
/-- 2001 0 weights, 1 symbol -/
def c_symbol_weight (G : GF) : MS := (mRet (mGet2 (mVar 0) (mVar 1) (mC (.int 1))))
/-- 2002 0 weights, 1 term, 2 total, 3 part -/
noncomputable def c_term_weight (G : GF) : MS := (mSeq (mIfS (mTru (mCall (G 3) (mCons (mVar 1) mNil))) (mRet (mC (.int 1))) mSkip)
    (mSeq (mSet 2 (mCall (G 2001) (mCons (mVar 0) (mCons (mOp ixF (mVar 1) (mC (.int 0))) mNil))))
    (mSeq (mFor (mSrc (oD (mOp ixF (mVar 1) (mC (.int 1))))) (mgN 3) (mSet 2 (mOp fAdd (mVar 2) (mCall (G 2002) (mCons (mVar 0) (mCons (mVar 3) mNil))))))
    (mRet (mVar 2)))))
/-- 2003 0 _law_row, 1 _law_symbols, 2 _law_weights_here, 3 _law_symbol_here -/
noncomputable def c__law_weights (G : GF) : MS := (mSeq (mSet 1 (mAlloc (mLst (mCons (mTup (mCons (mC (.int 2)) (mCons (mC (.int 0)) (mCons (mC (.int 0)) mNil)))) (mCons (mTup (mCons (mC (.int 2)) (mCons (mC (.int 1)) (mCons (mC (.int 0)) mNil)))) (mCons (mTup (mCons (mC (.int 3)) (mCons (mC (.int 0)) (mCons (mC (.int 0)) mNil)))) (mCons (mTup (mCons (mC (.int 2)) (mCons (mC (.int 2)) (mCons (mC (.int 0)) mNil)))) (mCons (mTup (mCons (mC (.int 1)) (mCons (mC (.int 0)) (mCons (mC (.int 0)) mNil)))) (mCons (mTup (mCons (mC (.int 1)) (mCons (mC (.int 1)) (mCons (mC (.int 0)) mNil)))) mNil)))))))))
    (mSeq (mSet 2 (mDnewT))
    (mSeq (mFor (mSrc (oD (mVar 1))) (mgN 3) (mSeq (mIfS (mBool (mOpO fEq (oD (mOp fMod (mFn1 fInt (oD (mVar 0))) (mC (.int 3)))) (oD (mC (.int 1))))) (mSetD (mVar 2) (mVar 3) (mOp fAdd (mC (.int 1)) (mOp fMod (mOp fDiv (mVar 0) (mC (.int 3))) (mC (.int 4))))) mSkip)
    (mSeq (mIfS (mBool (mOpO fEq (oD (mOp fMod (mFn1 fInt (oD (mVar 0))) (mC (.int 3)))) (oD (mC (.int 2))))) (mSetD (mVar 2) (mVar 3) (mOp fAdd (mC (.int 1)) (mOp fMod (mOp fDiv (mVar 0) (mC (.int 3))) (mC (.int 2))))) mSkip)
    (mSet 0 (mOp fDiv (mVar 0) (mC (.int 12)))))))
    (mRet (mVar 2)))))
/-- 2004 0 _law_weights_here, 1 _law_term_here, 2 _law_total, 3 _law_part -/
noncomputable def c__law_weigh (G : GF) : MS := (mSeq (mIfS (mTru (mCall (G 14) (mCons (mVar 1) mNil))) (mRet (mC (.int 1))) mSkip)
    (mSeq (mSet 2 (mGet2 (mVar 0) (mOp ixF (mVar 1) (mC (.int 0))) (mC (.int 1))))
    (mSeq (mFor (mSrc (oD (mOp ixF (mVar 1) (mC (.int 1))))) (mgN 3) (mSet 2 (mOp fAdd (mVar 2) (mCall (G 2004) (mCons (mVar 0) (mCons (mVar 3) mNil))))))
    (mRet (mVar 2)))))
/-- 2005 0 term -/
def c_head (G : GF) : MS := (mRet (mTup (mCons (mOp ixF (mVar 0) (mC (.int 0))) (mCons (oS (mSl (mOp ixF (mVar 0) (mC (.int 1))) mNoI (mSoI (mNeg (mC (.int 1)))))) mNil))))
/-- 2006 0 first, 1 second, 2 variable -/
noncomputable def c_has_all_variables (G : GF) : MS := (mSeq (mFor (mSrc (oD (mCall (G 8) (mCons (mVar 1) mNil)))) (mgN 2) (mIfS (mBool (mOp fGt (mCall (G 6) (mCons (mVar 1) (mCons (mVar 2) mNil))) (mCall (G 6) (mCons (mVar 0) (mCons (mVar 2) mNil))))) (mRet (mC (.bl false))) mSkip))
    (mRet (mC (.bl true))))
/-- 2007 0 weights, 1 first, 2 second, 3 ours, 4 theirs -/
def c_greater (G : GF) : MS := (mSeq (mIfS (mOrT (mTru (mCall (G 3) (mCons (mVar 1) mNil))) (mNotT (mTru (mCall (G 2006) (mCons (mVar 1) (mCons (mVar 2) mNil)))))) (mRet (mC (.bl false))) mSkip)
    (mSeq (mSet 3 (mCall (G 2002) (mCons (mVar 0) (mCons (mVar 1) mNil))))
    (mSeq (mSet 4 (mCall (G 2002) (mCons (mVar 0) (mCons (mVar 2) mNil))))
    (mSeq (mIfS (mBool (mOpO fNe (oD (mVar 3)) (oD (mVar 4)))) (mRet (mOp fGt (mVar 3) (mVar 4))) mSkip)
    (mSeq (mIfS (mTru (mCall (G 3) (mCons (mVar 2) mNil))) (mRet (mC (.bl false))) mSkip)
    (mRet (mCall (G 2008) (mCons (mVar 0) (mCons (mVar 1) (mCons (mVar 2) mNil))))))))))
/-- 2008 0 weights, 1 first, 2 second, 3 one, 4 other -/
def c_greater_of_equal_weight (G : GF) : MS := (mSeq (mIfS (mNotT (mTru (mOp ixF (mVar 1) (mC (.int 1))))) (mRet (mAnd (mNot (mOp ixF (mVar 2) (mC (.int 1)))) (mCall (G 1) (mCons (mOp ixF (mVar 2) (mC (.int 0))) (mCons (mOp ixF (mVar 1) (mC (.int 0))) mNil))))) mSkip)
    (mSeq (mIfS (mNotT (mTru (mOp ixF (mVar 2) (mC (.int 1))))) (mRet (mC (.bl true))) mSkip)
    (mSeq (mSet 3 (mCall (G 2005) (mCons (mVar 1) mNil)))
    (mSeq (mSet 4 (mCall (G 2005) (mCons (mVar 2) mNil)))
    (mSeq (mIfS (mBool (mOpO fNe (oD (mVar 3)) (oD (mVar 4)))) (mRet (mCall (G 2007) (mCons (mVar 0) (mCons (mVar 3) (mCons (mVar 4) mNil))))) mSkip)
    (mRet (mCall (G 2007) (mCons (mVar 0) (mCons (mOp ixF (mOp ixF (mVar 1) (mC (.int 1))) (mNeg (mC (.int 1)))) (mCons (mOp ixF (mOp ixF (mVar 2) (mC (.int 1))) (mNeg (mC (.int 1)))) mNil))))))))))
/-- 2009 0 weights, 1 first, 2 second -/
def c_compare (G : GF) : MS := (mSeq (mIfS (mBool (mOpO fEq (oD (mVar 1)) (oD (mVar 2)))) (mRet (mC (.str (Str.ofString "same")))) mSkip)
    (mSeq (mIfS (mTru (mCall (G 2007) (mCons (mVar 0) (mCons (mVar 1) (mCons (mVar 2) mNil))))) (mRet (mC (.str (Str.ofString "greater")))) mSkip)
    (mSeq (mIfS (mTru (mCall (G 2007) (mCons (mVar 0) (mCons (mVar 2) (mCons (mVar 1) mNil))))) (mRet (mC (.str (Str.ofString "less")))) mSkip)
    (mRet (mC .non)))))
/-- 2010 0 _law_weights_here, 1 _law_first, 2 _law_second_here, 3 _law_variable, 4 _law_ours, 5 _law_theirs, 6 _law_one, 7 _law_other -/
noncomputable def c__law_greater (G : GF) : MS := (mSeq (mIfS (mTru (mCall (G 14) (mCons (mVar 1) mNil))) (mRet (mC (.bl false))) mSkip)
    (mSeq (mFor (mSrc (oD (mCall (G 15) (mCons (mVar 2) (mCons (mAlloc (mLst mNil)) mNil))))) (mgN 3) (mIfS (mBool (mOp fGt (mCall (G 16) (mCons (mVar 2) (mCons (mVar 3) mNil))) (mCall (G 16) (mCons (mVar 1) (mCons (mVar 3) mNil))))) (mRet (mC (.bl false))) mSkip))
    (mSeq (mSet 4 (mCall (G 2004) (mCons (mVar 0) (mCons (mVar 1) mNil))))
    (mSeq (mSet 5 (mCall (G 2004) (mCons (mVar 0) (mCons (mVar 2) mNil))))
    (mSeq (mIfS (mOrT (mBool (mOpO fNe (oD (mVar 4)) (oD (mVar 5)))) (mTru (mCall (G 14) (mCons (mVar 2) mNil)))) (mRet (mOp fGt (mVar 4) (mVar 5))) mSkip)
    (mSeq (mIfS (mOrT (mNotT (mTru (mOp ixF (mVar 1) (mC (.int 1))))) (mNotT (mTru (mOp ixF (mVar 2) (mC (.int 1)))))) (mSeq (mIfS (mTru (mOp ixF (mVar 1) (mC (.int 1)))) (mRet (mC (.bl true))) mSkip)
    (mRet (mAnd (mNot (mOp ixF (mVar 2) (mC (.int 1)))) (mOp fLtT (mOp ixF (mVar 2) (mC (.int 0))) (mOp ixF (mVar 1) (mC (.int 0))))))) mSkip)
    (mSeq (mSet 6 (mTup (mCons (mOp ixF (mVar 1) (mC (.int 0))) (mCons (oS (mSl (mOp ixF (mVar 1) (mC (.int 1))) mNoI (mSoI (mNeg (mC (.int 1)))))) mNil))))
    (mSeq (mSet 7 (mTup (mCons (mOp ixF (mVar 2) (mC (.int 0))) (mCons (oS (mSl (mOp ixF (mVar 2) (mC (.int 1))) mNoI (mSoI (mNeg (mC (.int 1)))))) mNil))))
    (mSeq (mIfS (mBool (mOpO fEq (oD (mVar 6)) (oD (mVar 7)))) (mRet (mCall (G 2010) (mCons (mVar 0) (mCons (mOp ixF (mOp ixF (mVar 1) (mC (.int 1))) (mNeg (mC (.int 1)))) (mCons (mOp ixF (mOp ixF (mVar 2) (mC (.int 1))) (mNeg (mC (.int 1)))) mNil))))) mSkip)
    (mRet (mCall (G 2010) (mCons (mVar 0) (mCons (mVar 6) (mCons (mVar 7) mNil))))))))))))))
/-- 2011 0 _law_first, 1 _law_row, 2 _law_kind, 3 _law_parts -/
def c__law_second (G : GF) : MS := (mSeq (mSet 2 (mOp fMod (mFn1 fInt (oD (mVar 1))) (mC (.int 6))))
    (mSeq (mSet 1 (mOp fDiv (mVar 1) (mC (.int 6))))
    (mSeq (mIfS (mOrT (mBool (mOpO fEq (oD (mVar 2)) (oD (mC (.int 0))))) (mOrT (mTru (mCall (G 14) (mCons (mVar 0) mNil))) (mNotT (mTru (mOp ixF (mVar 0) (mC (.int 1))))))) (mRet (mOp ixF (mCall (G 12) (mCons (mVar 1) (mCons (mC (.int 2)) mNil))) (mC (.int 0)))) mSkip)
    (mSeq (mSet 3 (mAlloc (mLisc (oD (mOp ixF (mVar 0) (mC (.int 1)))))))
    (mSeq (mIfS (mBool (mOpO fEq (oD (mVar 2)) (oD (mC (.int 1))))) (mDrop (mRevM (mVar 3))) (mIfS (mBool (mOpO fEq (oD (mVar 2)) (oD (mC (.int 2))))) (mSetI (mVar 3) (mOp fMod (mFn1 fInt (oD (mVar 1))) (mFn1 fLen (oD (mVar 3)))) (mOp ixF (mCall (G 12) (mCons (mOp fDiv (mVar 1) (mC (.int 2))) (mCons (mC (.int 1)) mNil))) (mC (.int 0)))) (mIfS (mBool (mOpO fEq (oD (mVar 2)) (oD (mC (.int 3))))) (mRet (mTup (mCons (mCall (G 11) (mCons (mOp fMod (mFn1 fInt (oD (mVar 1))) (mC (.int 5))) mNil)) (mCons (mOp ixF (mVar 0) (mC (.int 1))) mNil)))) (mIfS (mBool (mOpO fEq (oD (mVar 2)) (oD (mC (.int 4))))) (mSet 3 (oS (mSl (mVar 3) mNoI (mSoI (mNeg (mC (.int 1))))))) (mRet (mTup (mCons (mTup (mCons (mC (.int 2)) (mCons (mC (.int 0)) (mCons (mC (.int 0)) mNil)))) (mCons (mTup (mCons (mVar 0) mNil)) mNil))))))))
    (mRet (mTup (mCons (mOp ixF (mVar 0) (mC (.int 0))) (mCons (mFn1 fTupc (oD (mVar 3))) mNil)))))))))
/-- 2012 0 _law_row, 1 _law_deep, 2 _law_many, 3 _law_symbol_here, 4 _law_parts, 5 _law_k, 6 _law_found -/
noncomputable def c__law_ground (G : GF) : MS := (mSeq (mSet 2 (mOp fMod (mFn1 fInt (oD (mVar 0))) (mC (.int 3))))
    (mSeq (mSet 0 (mOp fDiv (mVar 0) (mC (.int 3))))
    (mSeq (mIfS (mBool (mOpO fEq (oD (mVar 1)) (oD (mC (.int 0))))) (mSet 2 (mC (.int 0))) mSkip)
    (mSeq (mSet 3 (mCall (G 11) (mCons (mOp fMod (mFn1 fInt (oD (mVar 0))) (mC (.int 5))) mNil)))
    (mSeq (mSet 0 (mOp fDiv (mVar 0) (mC (.int 5))))
    (mSeq (mSet 4 (mAlloc (mLst mNil)))
    (mSeq (mFor (mRng1 (mVar 2)) (mgN 5) (mSeq (mSet 6 (mCall (G 2012) (mCons (mVar 0) (mCons (mOp fSub (mVar 1) (mC (.int 1))) mNil))))
    (mSeq (mDrop (mApp (mVar 4) (mOp ixF (mVar 6) (mC (.int 0)))))
    (mSet 0 (mOp ixF (mVar 6) (mC (.int 1)))))))
    (mRet (mTup (mCons (mTup (mCons (mVar 3) (mCons (mFn1 fTupc (oD (mVar 4))) mNil))) (mCons (mVar 0) mNil)))))))))))
/-- 2013 0 _law_row, 1 _law_deep, 2 _law_symbols, 3 _law_symbol_here, 4 _law_many, 5 _law_parts, 6 _law_k, 7 _law_found -/
noncomputable def c__law_ground_atom (G : GF) : MS := (mSeq (mSet 2 (mAlloc (mLst (mCons (mTup (mCons (mC (.int 1)) (mCons (mC (.int 0)) (mCons (mC (.int 0)) mNil)))) (mCons (mTup (mCons (mC (.int 1)) (mCons (mC (.int 1)) (mCons (mC (.int 0)) mNil)))) (mCons (mTup (mCons (mC (.int 4)) (mCons (mC (.int 0)) (mCons (mC (.int 0)) mNil)))) (mCons (mTup (mCons (mC (.int 1)) (mCons (mC (.int 2)) (mCons (mC (.int 0)) mNil)))) mNil)))))))
    (mSeq (mSet 3 (mOp ixF (mVar 2) (mOp fMod (mFn1 fInt (oD (mVar 0))) (mC (.int 4)))))
    (mSeq (mSet 0 (mOp fDiv (mVar 0) (mC (.int 4))))
    (mSeq (mSet 4 (mOp fMod (mFn1 fInt (oD (mVar 0))) (mC (.int 2))))
    (mSeq (mSet 0 (mOp fDiv (mVar 0) (mC (.int 2))))
    (mSeq (mSet 5 (mAlloc (mLst mNil)))
    (mSeq (mFor (mRng1 (mVar 4)) (mgN 6) (mSeq (mSet 7 (mCall (G 2012) (mCons (mVar 0) (mCons (mVar 1) mNil))))
    (mSeq (mDrop (mApp (mVar 5) (mOp ixF (mVar 7) (mC (.int 0)))))
    (mSet 0 (mOp ixF (mVar 7) (mC (.int 1)))))))
    (mRet (mTup (mCons (mTup (mCons (mVar 3) (mCons (mFn1 fTupc (oD (mVar 5))) mNil))) (mCons (mVar 0) mNil)))))))))))
/-- 2014 0 _law_term -/
def c__law_is_variable_2 (G : GF) : MS := (mRet (mIsI "int" (oD (mVar 0))))
/-- 2015 0 found, 1 variable, 2 term, 3 step, 4 new, 5 key, 6 old -/
noncomputable def c_bind (G : GF) : MS := (mSeq (mSet 3 (mDisp1 (mVar 1) (mVar 2)))
    (mSeq (mSet 4 (mDnewK))
    (mSeq (mLockS 0 (mFor (mItems (mVar 0)) (mgTup 2 (mgCons (mgN 5) (mgCons (mgN 6) mgNil))) (mSetD (mVar 4) (mVar 5) (mCall (G 1000) (mCons (mVar 6) (mCons (mVar 3) mNil))))))
    (mSeq (mSetD (mVar 4) (mVar 1) (mVar 2))
    (mRet (mVar 4))))))
/-- 2016 0 pattern, 1 term, 2 found, 3 one, 4 other -/
noncomputable def c_extends (G : GF) : MS := (mSeq (mIfS (mTru (mCall (G 3) (mCons (mVar 0) mNil))) (mSeq (mIfS (mBool (mOp fInD (mVar 0) (mVar 2))) (mRet (mOpO fEq (oD (mOp ixX (mVar 2) (mVar 0))) (oD (mVar 1)))) mSkip)
    (mSeq (mSetD (mVar 2) (mVar 0) (mVar 1))
    (mRet (mC (.bl true))))) mSkip)
    (mSeq (mIfS (mOrT (mTru (mCall (G 3) (mCons (mVar 1) mNil))) (mOrT (mBool (mOpO fNe (oD (mOp ixF (mVar 0) (mC (.int 0)))) (oD (mOp ixF (mVar 1) (mC (.int 0)))))) (mBool (mOpO fNe (oD (mFn1 fLen (oD (mOp ixF (mVar 0) (mC (.int 1)))))) (oD (mFn1 fLen (oD (mOp ixF (mVar 1) (mC (.int 1)))))))))) (mRet (mC (.bl false))) mSkip)
    (mSeq (mFor (mZip (oD (mOp ixF (mVar 0) (mC (.int 1)))) (oD (mOp ixF (mVar 1) (mC (.int 1))))) (mgTup 2 (mgCons (mgN 3) (mgCons (mgN 4) mgNil))) (mIfS (mNotT (mTru (mCall (G 2016) (mCons (mVar 3) (mCons (mVar 4) (mCons (mVar 2) mNil)))))) (mRet (mC (.bl false))) mSkip))
    (mRet (mC (.bl true))))))
/-- 2017 0 pattern, 1 term, 2 told, 3 found -/
def c_match (G : GF) : MS := (mSeq (mSet 3 (mDcopy (mVar 2)))
    (mSeq (mIfS (mTru (mCall (G 2016) (mCons (mVar 0) (mCons (mVar 1) (mCons (mVar 3) mNil))))) (mRet (mVar 3)) mSkip)
    (mRet (mC .non))))
noncomputable def lZl2 : List Fb := [mkFb 1 3 c_clause_variables,
  mkFb 2 2 c_symbol_weight,
  mkFb 2 4 c_term_weight,
  mkFb 1 4 c__law_weights,
  mkFb 2 4 c__law_weigh,
  mkFb 1 1 c_head,
  mkFb 2 3 c_has_all_variables,
  mkFb 3 5 c_greater,
  mkFb 3 5 c_greater_of_equal_weight,
  mkFb 3 3 c_compare,
  mkFb 3 8 c__law_greater,
  mkFb 2 4 c__law_second,
  mkFb 2 7 c__law_ground,
  mkFb 2 8 c__law_ground_atom,
  mkFb 1 1 c__law_is_variable_2,
  mkFb 3 7 c_bind,
  mkFb 3 5 c_extends,
  mkFb 3 4 c_match]
end Zi
set_option maxRecDepth 100000
namespace Zi
open PySem L2
/-- 3000 0 _law_script, 1 _law_count, 2 _law_rows_here, 3 _law_k, 4 _law_cell -/
noncomputable def c__law_rows (G : GF) : MS := (mSeq (mSet 2 (mAlloc (mLst mNil)))
    (mSeq (mFor (mRng1 (mVar 1)) (mgN 3) (mSeq (mSet 4 (mC (.int 0)))
    (mSeq (mIfS (mBool (mOp fGt (mFn1 fLen (oD (mVar 0))) (mC (.int 0)))) (mSet 4 (mFn1 fInt (oD (mOp ixF (mVar 0) (mOp fMod (mFn1 fInt (oD (mVar 3))) (mFn1 fLen (oD (mVar 0)))))))) mSkip)
    (mSeq (mIfS (mBool (mOp fLt (mVar 4) (mC (.int 0)))) (mSet 4 (mOp fSub (mC (.int 1)) (mOp fMul (mC (.int 2)) (mVar 4)))) mSkip)
    (mSeq (mIfS (mOrT (mBool (mOp fGe (mVar 3) (mFn1 fLen (oD (mVar 0))))) (mBool (mOp fLt (mVar 4) (mC (.int 1000000000))))) (mSeq (mSet 4 (mOp fMod (mFn1 fInt (oD (mOp fMul (mOp fAdd (mOp fAdd (mVar 4) (mOp fMul (mC (.int 977)) (mVar 3))) (mC (.int 5))) (mC (.int 69621))))) (mC (.int 2147483647))))
    (mSet 4 (mOp fMod (mFn1 fInt (oD (mOp fMul (mOp fAdd (mOp fAdd (mVar 4) (mOp fMul (mC (.int 31)) (mVar 3))) (mC (.int 11))) (mC (.int 1099511628211))))) (mC (.int 18446744073709551557))))) mSkip)
    (mDrop (mApp (mVar 2) (mVar 4))))))))
    (mRet (mVar 2))))
/-- 3001 0 _law_state_here, 1 _law_many, 2 _law_digit_here -/
def c__law_digit (G : GF) : MS := (mSeq (mIfS (mBool (mOp fLt (mOp ixF (mVar 0) (mC (.int 0))) (mVar 1))) (mSeq (mSetI (mVar 0) (mC (.int 2)) (mOp fAdd (mOp ixF (mVar 0) (mC (.int 2))) (mC (.int 1))))
    (mSetI (mVar 0) (mC (.int 0)) (mOp fAdd (mOp ixF (mVar 0) (mC (.int 0))) (mOp ixF (mOp ixF (mVar 0) (mC (.int 1))) (mOp fMod (mFn1 fInt (oD (mOp ixF (mVar 0) (mC (.int 2))))) (mFn1 fLen (oD (mOp ixF (mVar 0) (mC (.int 1)))))))))) mSkip)
    (mSeq (mSet 2 (mOp fMod (mFn1 fInt (oD (mOp ixF (mVar 0) (mC (.int 0))))) (mVar 1)))
    (mSeq (mSetI (mVar 0) (mC (.int 0)) (mOp fDiv (mOp ixF (mVar 0) (mC (.int 0))) (mVar 1)))
    (mRet (mVar 2)))))
/-- 3002 0 _law_script, 1 _law_rows_here -/
def c__law_state (G : GF) : MS := (mSeq (mSet 1 (mCall (G 3000) (mCons (mVar 0) (mCons (mC (.int 64)) mNil))))
    (mRet (mAlloc (mLst (mCons (mOp ixF (mVar 1) (mC (.int 0))) (mCons (mVar 1) (mCons (mC (.int 0)) mNil)))))))
noncomputable def lZl3 : List Fb := [mkFb 2 5 c__law_rows,
  mkFb 2 3 c__law_digit,
  mkFb 1 2 c__law_state]
end Zi
set_option maxRecDepth 100000
namespace Zi
open PySem PySem.Spec PyProof.Rows L2
end Zi
set_option maxRecDepth 100000
namespace Zi
open PySem PySem.Spec PyProof.Rows L2
section
variable {X : Cx} {pos apos : Pos}
def allT : List D → Option (List Str)
  | [] => some []
  | .str i :: ds => (allT ds).bind fun r => some (i :: r)
  | _ :: _ => none
theorem allT_ok {g : Wr} {ρ : List Addr} {H : Hp} : ∀ {ds : List D} {vs : List V} {ns : List Str}, RDs g ρ H ds vs → allT ds = some ns → vs = ns.map V.str
  | _, _, _, .nil, h => by cases h; rfl
  | _, _, _, .cons r rs, h => by
    cases r <;> first
      | (obtain ⟨q, e1, h⟩ := bind2 h
         cases h
         rw [allT_ok rs e1]
         rfl)
      | cases h
/-- a.join(xs) -/
def mJoin (o : M) (e : MO) : M := fun l S => (o l S).bind fun p => match p.1 with
  | .str a => (e l p.2).bind fun q => (lisO q.2 q.1).bind fun ds => (allT ds).bind fun ys => if (ys.map Str.length).sum + ys.length * a.length ≤ 16777216 then some (.str (Txt.join a ys), q.2) else none
  | _ => none
theorem s_join {o e : Expr} {mo : M} {me : MO} (ho : Snd X o mo) (he : SndO X e me) (hs1 : starEach [e] X.env = [(false, eval e X.env)] := by rfl) (hbase : attributeBase o "join" X.env (eval o X.env) = eval o X.env := by rfl) (hline : (apos.endLine == pos.line) = true := by rfl) : Snd X (.Call (.Attribute o "join" apos) [e] [] pos) (mJoin mo me) :=
  pe_imp (pe_join ho he hs1 hbase hline) fun σ H Q h => by
  obtain ⟨ρ, l, S, d, S', hs, hl, hm, q⟩ := h
  obtain ⟨⟨x, S1⟩, e1, hm⟩ := bind2 hm
  refine ⟨ρ, l, S, x, S1, hs, hl, e1, fun ρ1 v H1 x1 s1 r1 => ?_⟩
  cases r1 with
  | str a =>
    obtain ⟨⟨y, S2⟩, e2, hm⟩ := bind2 hm
    obtain ⟨ds, e3, hm⟩ := bind2 hm
    obtain ⟨ys, e4, hm⟩ := bind2 hm
    split at hm
    · rename_i hz
      cases hm
      refine ⟨⟨a, rfl⟩, ρ1, l, S1, y, S2, s1, x1.loc hs hl, e2, fun ρ2 u H2 x2 s2 r2 => ?_⟩
      obtain ⟨p, vs, rfl, hq, rs⟩ := lis_of s2 r2 e3
      have e := allT_ok rs e4
      subst e
      exact ⟨a, p, ys, rfl, rfl, .inl hq, hz, q ρ2 _ H2 (x1.trans x2) s2 (.str _)⟩
    · cases hm
  | _ => cases hm
end
def fEqS : OpF := fun x y S => match x, y with
  | .str i, .str j => some (.bl (decide (i = j)), S)
  | _, _ => none
end Zi
set_option maxRecDepth 100000
namespace Zi
open PySem PySem.Spec PyProof.Rows L2
def fInSG (f : Bool → Bool) : OpF := fun x y S => match x, y with
  | .str i, .str j => match i.cps.toList with
    | [c] => some (.bl (f (decide (c ∈ j.cps.toList))), S)
    | _ => none
  | _, _ => none
def fNinS : OpF := fInSG fun b => !b
theorem inS_ok {g : Wr} {f : Bool → Bool} : OpOk g (fun x y H Q => ∃ (c : Nat) (z : Str), x = .str ⟨#[c]⟩ ∧ y = .str z ∧ Q (.bl (f (decide (c ∈ z.cps.toList)))) H) (fInSG f) := fun ρ S H x y v u z S' Q s rx ry h q => by
  cases rx with
  | str i =>
    cases ry with
    | str j =>
      simp only [fInSG] at h
      split at h
      · rename_i c hc
        cases h
        have e : i = ⟨#[c]⟩ := by
          obtain ⟨a⟩ := i
          have : a = #[c] := by rw [← Array.toArray_toList (xs := a), hc]
          rw [this]
        exact ⟨c, j, by rw [e], rfl, q ρ _ H Ext.refl s (.bl _)⟩
      · cases h
    | _ => cases h
  | _ => cases h
section
variable {X : Cx} {pos apos p : Pos} {o a b e : Expr} {mo ma mb : M}
theorem t_ninS (hu : X.A.units + 200 < cLine) (ha : Snd X a ma) (hb : Snd X b mb) (hm : behindInMarks .NotIn b = false := by rfl) : SndT X (.Compare a [.NotIn] [b] pos) (mBool (mOp fNinS ma mb)) := t_cmp (op_notIn_sign) (inS_ok (f := fun b => !b)) ha hb hm
end
end Zi
set_option maxRecDepth 100000
set_option maxHeartbeats 2000000
namespace Zi
open PySem PySem.Spec PyProof.Rows L2 LamX NdefX
end Zi
set_option maxRecDepth 100000
set_option maxHeartbeats 2000000
namespace Zi
open PySem PySem.Spec PyProof.Rows L2 LamX NdefX
end Zi
set_option maxRecDepth 100000
set_option maxHeartbeats 2000000
namespace Zi
open PySem PySem.Spec PyProof.Rows L2 LamX NdefX
section
variable {X : Cx} {pos p lpos : Pos} {x : Str} {e : Expr} {es : List Expr} {t : LamT} {tn ci k : Nat} {m ma : MA} {a : M} {f : Addr} {fd : FuncData} {ps : List Str} {F : List D → Sto → Option (D × Sto)}
open Classical in
/-- f(.., lambda) -/
noncomputable def mCallLam (F : List D → Sto → Option (D × Sto)) (ma : MA) (t : LamT) (tn ci : Nat) : M := fun l S => (ma l S).bind fun p => match l[ci]?, p.2[tn]? with
  | some (some d), some (.tab y) => if y = t.maker then (F (p.1 ++ [.ref p.2.length]) (p.2 ++ [.lamb t d true])).bind fun q => if q.2.take p.2.length = p.2 ∧ refLt p.2.length q.1 = true then some (q.1, p.2) else none else none
  | _, _ => none
end
end Zi
set_option maxRecDepth 100000
set_option maxHeartbeats 2000000
namespace Zi
open PySem PySem.Spec PyProof.Rows L2 LamX NdefX
section
variable {X : Cx} {pos p : Pos} {x : Str} {e : Expr} {es : List Expr} {t : TA} {k i : Nat} {ma : MA} {G : GF}
open Classical in
noncomputable def mCallV (known : LamT → Prop) (fnum : Str → Option Nat) (G : GF) (i : Nat) (ma : MA) : M := fun l S => match l[i]? with
  | some (some (.fn x)) => (fnum x).bind fun n => (ma l S).bind fun p => G n p.1 p.2
  | some (some (.ref n)) => match S[n]? with
    | some (.lamb t _ true) => if known t then (ma l S).bind fun p => match p.2[n]? with
        | some (.lamb t' d true) => if t' = t then (G t.nm (p.1 ++ [d]) (p.2.set n (.lamb t d false))).bind fun q => some (q.1, q.2.set n (.lamb t d true)) else none
        | _ => none
      else none
    | _ => none
  | _ => none
end
end Zi
set_option maxRecDepth 100000
set_option maxHeartbeats 2000000
namespace Zi
open PySem PySem.Spec PyProof.Rows L2 LamX NdefX
end Zi
namespace Zi
open PySem PySem.Spec PyProof.Rows L2
/-- the numbers of functions that are handed about, the lambdas of the makers -/
structure NM where
  known : LamT → Prop
  fn : Str → Option Nat
  l0 : LamT
  l1 : LamT
def lamS : Expr → Scope
  | .Lambda _ _ s _ => s
  | _ => { kind := .function, names := [], isGenerator := false, isCoroutine := false }
end Zi
namespace Zi
open PySem L2
def nm0 : NM := ⟨fun _ => False, fun _ => none, ⟨0, "", ⟨[], [], none, [], [], none, []⟩, .Constant .none 0 ⟨0, 0, 0, 0⟩, lamS (.Constant .none 0 ⟨0, 0, 0, 0⟩), [], ""⟩, ⟨0, "", ⟨[], [], none, [], [], none, []⟩, .Constant .none 0 ⟨0, 0, 0, 0⟩, lamS (.Constant .none 0 ⟨0, 0, 0, 0⟩), [], ""⟩⟩
end Zi
namespace Zi
open PySem PySem.Spec PyProof.Rows L2
end Zi
set_option maxRecDepth 100000
namespace Zi
open PySem PySem.Spec PyProof.Rows L2
section
variable {X : Cx} {pos apos : Pos} {o e f : Expr} {mo me mf : M}
/-- o.remove(e), e in o -/
def mRem (o e : M) : M := fun l S => (o l S).bind fun p => match p.1 with
  | .ref k => match p.2[k]? with
    | some (.lst _) => (e l p.2).bind fun r => match r.2[k]? with
      | some (.lst xs) => (snap 190 r.2 r.1).bind fun d => (snap 190 r.2 (.ref k)).bind fun q => match q with
        | .list ds => (ds.findIdx? fun y => PyData.eqv y d).bind fun j => some (.non, r.2.set k (.lst (xs.eraseIdx j)))
        | _ => none
      | _ => none
    | _ => none
  | _ => none
end
end Zi
set_option maxRecDepth 100000
namespace Zi
open PySem PySem.Spec PyProof.Rows L2
section
variable {g : Wr} {ρ : List Addr} {H : Hp}
def putA (f : Str) (v : D) : List (Str × D) → List (Str × D)
  | [] => [(f, v)]
  | (g, x) :: r => if g = f then (g, v) :: r else (g, x) :: putA f v r
theorem RDk.len {κ : Type} : ∀ {ds : List (κ × D)} {vs : List (κ × V)}, RDk g ρ H ds vs → ds.length = vs.length
  | _, _, .nil => rfl
  | _, _, .cons _ hs => congrArg (· + 1) hs.len
end
section
variable {X : Cx} {pos pos' : Pos} {o e : Expr} {mo me : M} {cs : List Str} {f : Str}
/-- o.f, an attribute of an instance of one of the classes cs -/
def mFld (cs : List Str) (f : Str) (m : M) : M := fun l S => (m l S).bind fun p => match p.1 with
  | .ref k => match p.2[k]? with
    | some (.ins c fs) => if c ∈ cs then (fs.lookup f).bind fun d => some (d, p.2) else none
    | _ => none
  | _ => none
/-- o.f = e -/
def mSetF (cs : List Str) (f : Str) (o e : M) : MS := fun l S => (e l S).bind fun p => (o l p.2).bind fun q => match q.1 with
  | .ref k => match q.2[k]? with
    | some (.ins c fs) => if c ∈ cs ∧ fs.length < 1000 then some (.nx l, q.2.set k (.ins c (putA f p.1 fs))) else none
    | _ => none
  | _ => none
end
/-- C(..): a new instance, then its __init__ (which sets a field) -/
def mMake (c : Str) (F : List D → Sto → Option (D × Sto)) (m : MA) : M := fun l S => (m l S).bind fun p => (F (.ref p.2.length :: p.1) (p.2 ++ [.ins c []])).bind fun r => match r.1, r.2[p.2.length]? with
  | .non, some (.ins _ (_ :: _)) => some (.ref p.2.length, r.2)
  | _, _ => none
/-- a function that hands on to another, one level below -/
def deleg (i : Nat) : Fb := fun G ds S => G i ds S
end Zi
set_option maxRecDepth 100000
namespace Zi
open PySem PySem.Spec PyProof.Rows L2
section
variable {X : Cx} {k : Nat} {f C : Addr} {fd : FuncData} {ps : List Str} {c m : Str} {apos pos : Pos} {o e : Expr} {es : List Expr} {mo : M} {ma : MA} {F : List D → Sto → Option (D × Sto)}
/-- o.m(..), o an instance of the class c -/
def mMeth (c m : Str) (F : List D → Sto → Option (D × Sto)) (o : M) (ma : MA) : M := fun l S => (o l S).bind fun p => match p.1 with
  | .ref k => match p.2[k]? with
    | some (.ins c' fs) => if c' = c ∧ fs.lookup m = none then (ma l p.2).bind fun r => F (.ref k :: r.1) r.2 else none
    | _ => none
  | _ => none
end
end Zi
set_option maxRecDepth 100000
namespace Zi
open PySem PySem.Spec PyProof.Rows L2
end Zi
set_option maxRecDepth 100000
namespace Zi
open PySem PySem.Spec PyProof.Rows L2
def intsD : List D → Option (List Int)
  | [] => some []
  | .int i :: ds => (intsD ds).map (i :: ·)
  | _ :: _ => none
def keyN : D → Option NK
  | .tup [.tup ds, .int i] => (intsD ds).map (·, i)
  | _ => none
section
variable {g : Wr} {ρ : List Addr} {S : Sto} {H : Hp}
def gotN (S : Sto) (x y : D) : Option (Option D) := match x with
  | .ref n => match S[n]? with
    | some (.dN kvs) => (keyN y).bind fun k => some (valD kvs k)
    | some (.lkN kvs) => (keyN y).bind fun k => some (valD kvs k)
    | _ => none
  | _ => none
end
section
variable {X : Cx} {pos tpos : Pos} {o i e : Expr} {mo mi me : M}
/-- d[y] -/
def ixNk : OpF := fun x y S => (gotN S x y).bind fun o => o.bind fun d => some (d, S)
/-- {} -/
def mDnewN : M := fun _ S => some (.ref S.length, S ++ [.dN []])
def setNF (o i v : D) (S : Sto) : Option Sto := match o with
  | .ref n => match S[n]? with
    | some (.dN kvs) => (keyN i).bind fun k => if kvs.length < 1000000 then some (S.set n (.dN (putD kvs k v))) else none
    | _ => none
  | _ => none
/-- d[y] = v -/
def mSetN (o i e : M) : MS := fun l S => (e l S).bind fun p => (o l p.2).bind fun q => (i l q.2).bind fun r => (setNF q.1 r.1 p.1 r.2).bind fun S3 => some (.nx l, S3)
end
end Zi
set_option maxRecDepth 100000
namespace Zi
open PySem PySem.Spec PyProof.Rows L2
open Classical in
noncomputable def dcompL (ok : Sto → Prop) (tg : MG) (c : MT) (kx vx : M) (l : Lo) : List D → List (Key × D) → Sto → Option (List (Key × D) × Sto)
  | [], acc, S => if ok S then some (acc, S) else none
  | d :: ds, acc, S => if ok S then (tg d l S).bind fun l1 => (c l1 S).bind fun b => if b.1 = true then (kx l1 b.2).bind fun k => (vx l1 k.2).bind fun v => (keyD k.1).bind fun n => dcompL ok tg c kx vx l ds (putD acc n v.1) v.2 else dcompL ok tg c kx vx l ds acc b.2
    else none
noncomputable def mDc (src : MI) (vs : List Nat) (tg : MG) (c : MT) (kx vx : M) : M := fun l S => (src l S).bind fun p => if p.1.ds.length ≤ 1000000 then (dcompL p.1.ok tg c kx vx (wipeD l vs) p.1.ds [] p.2).bind fun q => some (.ref q.2.length, q.2 ++ [.dK q.1]) else none
/-- the dict in slot i stands still while the value is made -/
def mLockM (i : Nat) (m : M) : M := fun l S => match l[i]? with
  | some (some (.ref n)) => (S[n]?).bind fun c => (lockC c).bind fun c1 => (m l (S.set n c1)).bind fun p => (p.2[n]?).bind fun c2 => (openC c2).bind fun c3 => some (p.1, p.2.set n c3)
  | _ => none
end Zi
set_option maxRecDepth 100000
namespace Zi
open PySem PySem.Spec PyProof.Rows L2
section
variable {X : Cx}
/-- max(a, default=d) -/
def mxD (ns : List Int) (d : D) : D := match ns with
  | [] => d
  | n :: r => .int (maxI n r)
def mMaxD (a b : M) : M := fun l S => (a l S).bind fun p => (b l p.2).bind fun q => match p.1 with
  | .ref n => match q.2[n]? with
    | some (.lst xs) => (intsD xs).bind fun ns => some (mxD ns q.1, q.2)
    | _ => none
  | _ => none
variable {e b : Expr} {ma mb : M} {p pos p2 : Pos}
end
end Zi
set_option maxRecDepth 100000
namespace L2
open PySem PySem.Spec PyProof.Rows
end L2
namespace Zi
open PySem L2
/-- a comprehension's body; the list lies at the place n -/
abbrev MB := Nat → Lo → Sto → Option Sto
def bLast (elt : M) : MB := fun n l S => (elt l S).bind fun r => match r.2[n]? with
  | some (.lst xs) => if xs.length < 1000000 then some (r.2.set n (.lst (xs ++ [r.1]))) else none
  | _ => none
open Classical in
noncomputable def compS (ok : Sto → Prop) (tg : MG) (c : MT) (rest : Lo → Sto → Option Sto) (l : Lo) : List D → Sto → Option Sto
  | [], S => if ok S then some S else none
  | d :: ds, S => if ok S then (tg d l S).bind fun l1 => (c l1 S).bind fun b => if b.1 = true then (rest l1 b.2).bind fun S2 => compS ok tg c rest l ds S2 else compS ok tg c rest l ds b.2 else none
noncomputable def bMid (src : MI) (vs1 : List Nat) (tg : MG) (c : MT) (rest : MB) : MB := fun n l S => (src l S).bind fun p => compS p.1.ok tg c (rest n) (wipeD l vs1) p.1.ds p.2
noncomputable def mCompN (src : MI) (vs : List Nat) (tg : MG) (c : MT) (rest : MB) : M := fun l S => (src l S).bind fun p => (compS p.1.ok tg c (rest p.2.length) (wipeD l vs) p.1.ds (p.2 ++ [.lst []])).bind fun S' => some (.ref p.2.length, S')
end Zi
set_option maxRecDepth 100000
namespace Zi
open PySem PySem.Spec PyProof.Rows L2
theorem RDs.strs {g : Wr} {ρ : List Addr} {H : Hp} : ∀ {ns : List Str}, RDs g ρ H (ns.map D.str) (ns.map V.str)
  | [] => .nil
  | n :: ns => .cons (.str n) RDs.strs
def mSplit (o e : M) : MA := fun l S => (o l S).bind fun p => match p.1 with
  | .str a => (e l p.2).bind fun q => match q.1 with
    | .str b => if (b.length == 0) = false ∧ a.length ≤ 1000000 then some ((Txt.split a b).map D.str, q.2) else none
    | _ => none
  | _ => none
def mDigit (o : M) : M := fun l S => (o l S).bind fun p => match p.1 with
  | .str a => some (.bl (Txt.isdigit a), p.2)
  | _ => none
def mStarts (o e : M) : M := fun l S => (o l S).bind fun p => match p.1 with
  | .str a => (e l p.2).bind fun q => match q.1 with
    | .str b => some (.bl (Txt.startswith a b), q.2)
    | _ => none
  | _ => none
def inTx (i j : Str) : Bool := !(Builtin.Str.occurrences j i 0 j.length 1).isEmpty
def fInTG (f : Bool → Bool) : OpF := fun x y S => match x, y with
  | .str i, .str j => some (.bl (f (inTx i j)), S)
  | _, _ => none
def fInT : OpF := fInTG fun b => b
theorem inT_ok {g : Wr} {f : Bool → Bool} : OpOk g (fun x y H Q => ∃ i j, x = .str i ∧ y = .str j ∧ Q (.bl (f (!(Builtin.Str.occurrences j i 0 j.length 1).isEmpty))) H) (fInTG f) := fun ρ S H x y v u z S' Q s rx ry h q => by
  cases rx with
  | str i =>
    cases ry with
    | str j =>
      cases h
      exact ⟨i, j, rfl, rfl, q ρ _ H Ext.refl s (.bl _)⟩
    | _ => cases h
  | _ => cases h
def fIntS : Fn1 := fun o S => match o with
  | .d (.str a) => if a.length ≤ 640 then (PySem.intText? a).bind fun n => some (.int n, S) else none
  | _ => none
theorem intS_ok {g : Wr} : Fn1Ok g (fun xs H Q => ∃ a n, xs = [.str a] ∧ PySem.intText? a = some n ∧ a.length ≤ 640 ∧ Q (.int n) H) fIntS := fun ρ S H H₀ o v z S' Q s r h q => by
  cases r with
  | n => cases h
  | d r =>
    cases r with
    | str a =>
      simp only [fIntS] at h
      split at h
      · rename_i hz
        obtain ⟨n, e, h⟩ := bind2 h
        cases h
        exact ⟨a, n, rfl, e, hz, q ρ _ H Ext.refl s (.int _)⟩
      · cases h
    | _ => cases h
section
variable {X : Cx} {pos apos p : Pos} {o a b e : Expr} {mo me ma mb : M}
theorem l_split (ho : Snd X o mo) (he : Snd X e me) (hs : starEach [e] X.env = [(false, eval e X.env)] := by rfl) (hbase : attributeBase o "split" X.env (eval o X.env) = eval o X.env := by rfl) (hline : (apos.endLine == pos.line) = true := by rfl) : SndL X (.Call (.Attribute o "split" apos) [e] [] pos) (mSplit mo me) :=
  pe_imp (pe_split ho he hs hbase hline) fun σ H Q h => by
  obtain ⟨ρ, l, S, d, S', hs, hl, hm, q⟩ := h
  obtain ⟨⟨x, S1⟩, e1, hm⟩ := bind2 hm
  refine ⟨ρ, l, S, x, S1, hs, hl, e1, fun ρ1 v H1 x1 s1 r1 => ?_⟩
  cases r1 with
  | str a =>
    obtain ⟨⟨y, S2⟩, e2, hm⟩ := bind2 hm
    refine ⟨⟨a, rfl⟩, ρ1, l, S1, y, S2, s1, x1.loc hs hl, e2, fun ρ2 u H2 x2 s2 r2 => ?_⟩
    cases r2 with
    | str b =>
      dsimp only at hm
      split at hm
      · rename_i hz
        cases hm
        refine ⟨a, b, rfl, rfl, hz.1, by rw [sizeLine_eq]; omega, fun p hp => ?_⟩
        exact q ρ2 p _ _ ((x1.trans x2).trans (Ext.new hp)) (s2.other (s2.fresh hp) hp) upd_same (s2.fresh hp) ((x1.trans x2).back s2 hp) RDs.strs
      · cases hm
    | _ => cases hm
  | _ => cases hm
theorem s_digit (ho : Snd X o mo) (hbase : attributeBase o "isdigit" X.env (eval o X.env) = eval o X.env := by rfl) (hline : (apos.endLine == pos.line) = true := by rfl) : Snd X (.Call (.Attribute o "isdigit" apos) [] [] pos) (mDigit mo) :=
  pe_imp (pe_m0 PySem.F.slot_str_isdigit PySem.F.type_str_isdigit mt_isdigit ho hbase hline) fun σ H Q h => by
  obtain ⟨ρ, l, S, d, S', hs, hl, hm, q⟩ := h
  obtain ⟨⟨x, S1⟩, e1, hm⟩ := bind2 hm
  refine ⟨ρ, l, S, x, S1, hs, hl, e1, fun ρ1 v H1 x1 s1 r1 => ?_⟩
  cases r1 with
  | str y =>
    cases hm
    exact ⟨⟨y, rfl⟩, y, rfl, rfl, trivial, q ρ1 _ H1 x1 s1 (.bl _)⟩
  | _ => cases hm
theorem s_starts (ho : Snd X o mo) (he : Snd X e me) (hs : starEach [e] X.env = [(false, eval e X.env)] := by rfl) (hbase : attributeBase o "startswith" X.env (eval o X.env) = eval o X.env := by rfl) (hline : (apos.endLine == pos.line) = true := by rfl) : Snd X (.Call (.Attribute o "startswith" apos) [e] [] pos) (mStarts mo me) :=
  pe_imp (pe_m1 PySem.F.slot_str_startswith PySem.F.type_str_startswith mt_startswith ho he hs hbase hline) fun σ H Q h => by
  obtain ⟨ρ, l, S, d, S', hs, hl, hm, q⟩ := h
  obtain ⟨⟨x, S1⟩, e1, hm⟩ := bind2 hm
  refine ⟨ρ, l, S, x, S1, hs, hl, e1, fun ρ1 v H1 x1 s1 r1 => ?_⟩
  cases r1 with
  | str a =>
    obtain ⟨⟨y, S2⟩, e2, hm⟩ := bind2 hm
    refine ⟨⟨a, rfl⟩, ρ1, l, S1, y, S2, s1, x1.loc hs hl, e2, fun ρ2 u H2 x2 s2 r2 => ?_⟩
    cases r2 with
    | str b =>
      cases hm
      exact ⟨a, b, rfl, rfl, q ρ2 _ H2 (x1.trans x2) s2 (.bl _)⟩
    | _ => cases hm
  | _ => cases hm
theorem t_inT (hu : X.A.units + 200 < cLine) (ha : Snd X a ma) (hb : Snd X b mb) (hm : behindInMarks .In b = false := by rfl) : SndT X (.Compare a [.In] [b] pos) (mBool (mOp fInT ma mb)) := t_cmp op_in_str (inT_ok (f := fun b => b)) ha hb hm
theorem s_intS {m : MO} (h : SndO X e m) (hm : X.mg "int" = none) (hg : Gl X "int" := by rfl) (he : starEach (e :: []) X.env = (false, eval e X.env) :: starEach [] X.env := by rfl) : Snd X (.Call (.Name "int" p) [e] [] pos) (mFn1 fIntS m) := s_callT call_int_str intS_ok h hm PyProof.Rows.boot_int hg (by decide) (by decide) he
/-- o.f += e (ints) -/
def mAugF (cs : List Str) (f : Str) (o e : M) : MS := fun l S => (o l S).bind fun p => match p.1 with
  | .ref k => match p.2[k]? with
    | some (.ins c fs) => if c ∈ cs then match fs.lookup f with
      | some (.int i) => (e l p.2).bind fun q => match q.1, q.2[k]? with
        | .int j, some (.ins c' fs') => if c' = c ∧ fs'.length < 1000 then some (.nx l, q.2.set k (.ins c' (putA f (.int (i + j)) fs'))) else none
        | _, _ => none
      | _ => none
      else none
    | _ => none
  | _ => none
end
end Zi
set_option maxRecDepth 100000
namespace Zi
open PySem PySem.Spec PyProof.Rows L2
def mKd (tbl : List (Str × D)) (m : M) : M := fun l S => (m l S).bind fun p => match p.1 with
  | .str x => (tbl.lookup x).bind fun d => some (d, p.2)
  | _ => none
end Zi
set_option maxRecDepth 100000
namespace Zi
open PySem PySem.Spec PyProof.Rows L2
end Zi
set_option maxRecDepth 100000
namespace Zi
open PySem PySem.Spec PyProof.Rows L2
end Zi
set_option maxRecDepth 100000
namespace Zi
open PySem PySem.Spec PyProof.Rows L2
open Classical in
noncomputable def dcompNL (ok : Sto → Prop) (tg : MG) (c : MT) (kx vx : M) (l : Lo) : List D → List (NK × D) → Sto → Option (List (NK × D) × Sto)
  | [], acc, S => if ok S then some (acc, S) else none
  | d :: ds, acc, S => if ok S then (tg d l S).bind fun l1 => (c l1 S).bind fun b => if b.1 = true then (kx l1 b.2).bind fun k => (vx l1 k.2).bind fun v => (keyN k.1).bind fun n => dcompNL ok tg c kx vx l ds (putD acc n v.1) v.2 else dcompNL ok tg c kx vx l ds acc b.2
    else none
noncomputable def mDcN (src : MI) (vs : List Nat) (tg : MG) (c : MT) (kx vx : M) : M := fun l S => (src l S).bind fun p => if p.1.ds.length ≤ 1000000 then (dcompNL p.1.ok tg c kx vx (wipeD l vs) p.1.ds [] p.2).bind fun q => some (.ref q.2.length, q.2 ++ [.dN q.1]) else none
end Zi
set_option maxRecDepth 100000
namespace Zi
open PySem PySem.Spec PyProof.Rows L2
end Zi
set_option maxRecDepth 100000
namespace Zi
open PySem PySem.Spec PyProof.Rows L2
def slotAt (i : Nat) : Lo → Sto → Option Nat := fun l _ => match l[i]? with
  | some (some (.ref n)) => some n
  | _ => none
def mLockGM (f : Lo → Sto → Option Nat) (m : M) : M := fun l S => (f l S).bind fun n => (S[n]?).bind fun c => (lockC c).bind fun c1 => (m l (S.set n c1)).bind fun p => (p.2[n]?).bind fun c2 => (openC c2).bind fun c3 => some (p.1, p.2.set n c3)
end Zi
set_option maxRecDepth 100000
namespace Zi
open PySem L2
def k_OPPOSITE : List (Str × D) := [(Str.ofString "and", .str (Str.ofString "or")), (Str.ofString "or", .str (Str.ofString "and")), (Str.ofString "all", .str (Str.ofString "some")), (Str.ofString "some", .str (Str.ofString "all"))]
def k_JOINTS : D := .ktup [.str (Str.ofString "and"), .str (Str.ofString "or"), .str (Str.ofString "implies"), .str (Str.ofString "iff")]
/-- 11000 0 left, 1 right, 2 positive, 3 first, 4 second -/
def c_inward_iff (G : GF) : MS := (mSeq (mSet 3 (mTup (mCons (mC (.str (Str.ofString "or"))) (mCons (mCall (G 11001) (mCons (mVar 0) (mCons (mNot (mVar 2)) mNil))) (mCons (mCall (G 11001) (mCons (mVar 1) (mCons (mC (.bl true)) mNil))) mNil)))))
    (mSeq (mSet 4 (mTup (mCons (mC (.str (Str.ofString "or"))) (mCons (mCall (G 11001) (mCons (mVar 0) (mCons (mVar 2) mNil))) (mCons (mCall (G 11001) (mCons (mVar 1) (mCons (mC (.bl false)) mNil))) mNil)))))
    (mRet (mTup (mCons (mC (.str (Str.ofString "and"))) (mCons (mVar 3) (mCons (mVar 4) mNil)))))))
/-- 11001 0 formula, 1 positive, 2 tag, 3 left, 4 kept -/
def c_inward (G : GF) : MS := (mSeq (mSet 2 (mOp ixF (mVar 0) (mC (.int 0))))
    (mSeq (mIfS (mOrT (mBool (mOp fEqS (mVar 2) (mC (.str (Str.ofString "atom"))))) (mBool (mOp fEqS (mVar 2) (mC (.str (Str.ofString "equal")))))) (mRet (mIf (mTru (mVar 1)) (mVar 0) (mTup (mCons (mC (.str (Str.ofString "not"))) (mCons (mVar 0) mNil))))) mSkip)
    (mSeq (mIfS (mBool (mOp fEqS (mVar 2) (mC (.str (Str.ofString "not"))))) (mRet (mCall (G 11001) (mCons (mOp ixF (mVar 0) (mC (.int 1))) (mCons (mNot (mVar 1)) mNil)))) mSkip)
    (mSeq (mIfS (mBool (mOp fEqS (mVar 2) (mC (.str (Str.ofString "iff"))))) (mRet (mCall (G 11000) (mCons (mOp ixF (mVar 0) (mC (.int 1))) (mCons (mOp ixF (mVar 0) (mC (.int 2))) (mCons (mVar 1) mNil))))) mSkip)
    (mSeq (mIfS (mBool (mOp fEqS (mVar 2) (mC (.str (Str.ofString "implies"))))) (mSeq (mSet 3 (mCall (G 11001) (mCons (mOp ixF (mVar 0) (mC (.int 1))) (mCons (mNot (mVar 1)) mNil))))
    (mRet (mTup (mCons (mIf (mTru (mVar 1)) (mC (.str (Str.ofString "or"))) (mC (.str (Str.ofString "and")))) (mCons (mVar 3) (mCons (mCall (G 11001) (mCons (mOp ixF (mVar 0) (mC (.int 2))) (mCons (mVar 1) mNil))) mNil)))))) mSkip)
    (mSeq (mSet 4 (mIf (mTru (mVar 1)) (mVar 2) (mKd k_OPPOSITE (mVar 2))))
    (mSeq (mIfS (mOrT (mBool (mOp fEqS (mVar 2) (mC (.str (Str.ofString "and"))))) (mBool (mOp fEqS (mVar 2) (mC (.str (Str.ofString "or")))))) (mRet (mTup (mCons (mVar 4) (mCons (mCall (G 11001) (mCons (mOp ixF (mVar 0) (mC (.int 1))) (mCons (mVar 1) mNil))) (mCons (mCall (G 11001) (mCons (mOp ixF (mVar 0) (mC (.int 2))) (mCons (mVar 1) mNil))) mNil))))) mSkip)
    (mRet (mTup (mCons (mVar 4) (mCons (mOp ixF (mVar 0) (mC (.int 1))) (mCons (mCall (G 11001) (mCons (mOp ixF (mVar 0) (mC (.int 2))) (mCons (mVar 1) mNil))) mNil))))))))))))
/-- 11002 0 formula, 1 bound, 2 found, 3 tag, 4 term, 5 variable -/
noncomputable def c_collect_free (G : GF) : MS := (mSeq (mSet 3 (mOp ixF (mVar 0) (mC (.int 0))))
    (mIfS (mOrT (mBool (mOp fEqS (mVar 3) (mC (.str (Str.ofString "atom"))))) (mBool (mOp fEqS (mVar 3) (mC (.str (Str.ofString "equal")))))) (mFor (mSrc (mSl (mVar 0) (mSoI (mC (.int 1))) mNoI)) (mgN 4) (mFor (mSrc (oD (mCall (G 8) (mCons (mVar 4) mNil)))) (mgN 5) (mIfS (mAndT (mBool (mOpO fNin (oD (mVar 5)) (oD (mVar 1)))) (mBool (mOpO fNin (oD (mVar 5)) (oD (mVar 2))))) (mDrop (mApp (mVar 2) (mVar 5))) mSkip))) (mIfS (mBool (mOp fEqS (mVar 3) (mC (.str (Str.ofString "not"))))) (mDrop (mCall (G 11002) (mCons (mOp ixF (mVar 0) (mC (.int 1))) (mCons (mVar 1) (mCons (mVar 2) mNil))))) (mIfS (mBool (mOpO fIn (oD (mVar 3)) (oD (mC k_JOINTS)))) (mSeq (mDrop (mCall (G 11002) (mCons (mOp ixF (mVar 0) (mC (.int 1))) (mCons (mVar 1) (mCons (mVar 2) mNil)))))
    (mDrop (mCall (G 11002) (mCons (mOp ixF (mVar 0) (mC (.int 2))) (mCons (mVar 1) (mCons (mVar 2) mNil)))))) (mDrop (mCall (G 11002) (mCons (mOp ixF (mVar 0) (mC (.int 2))) (mCons (mAlloc (mCatL (oD (mVar 1)) (oN (mLst (mCons (mOp ixF (mVar 0) (mC (.int 1))) mNil))))) (mCons (mVar 2) mNil)))))))))
/-- 11003 0 formula, 1 found -/
def c_free_variables (G : GF) : MS := (mSeq (mSet 1 (mAlloc (mLst mNil)))
    (mSeq (mDrop (mCall (G 11002) (mCons (mVar 0) (mCons (mAlloc (mLst mNil)) (mCons (mVar 1) mNil)))))
    (mRet (mVar 1))))
/-- 11004 0 a, 1 k -/
def c_skolem (G : GF) : MS := (mRet (mTup (mCons (mC (.int 3)) (mCons (mVar 0) (mCons (mVar 1) mNil)))))
/-- 11005 0 a, 1 k -/
def c_part_name (G : GF) : MS := (mRet (mTup (mCons (mC (.int 4)) (mCons (mVar 0) (mCons (mVar 1) mNil)))))
/-- 11006 0 formula -/
noncomputable def c_is_simple (G : GF) : MS := (mSeq (mWhile (mBool (mOp fEqS (mOp ixF (mVar 0) (mC (.int 0))) (mC (.str (Str.ofString "not"))))) (mSet 0 (mOp ixF (mVar 0) (mC (.int 1)))))
    (mRet (mOr (mOp fEqS (mOp ixF (mVar 0) (mC (.int 0))) (mC (.str (Str.ofString "atom")))) (mOp fEqS (mOp ixF (mVar 0) (mC (.int 0))) (mC (.str (Str.ofString "equal")))))))
/-- 11007 0 self, 1 number -/
def c_Namer_init (G : GF) : MS := (mSeq (mSetF ["Namer"] "number" (mVar 0) (mVar 1))
    (mSeq (mSetF ["Namer"] "count" (mVar 0) (mC (.int 0)))
    (mSetF ["Namer"] "extra" (mVar 0) (mAlloc (mLst mNil)))))
/-- 11008 0 self, 1 side, 2 free, 3 atom, 4 formula, 5 variable -/
noncomputable def c_Namer_short (G : GF) : MS := (mSeq (mIfS (mTru (mCall (G 11006) (mCons (mVar 1) mNil))) (mRet (mVar 1)) mSkip)
    (mSeq (mSet 2 (mCall (G 11003) (mCons (mVar 1) mNil)))
    (mSeq (mSet 3 (mTup (mCons (mC (.str (Str.ofString "atom"))) (mCons (mTup (mCons (mCall (G 11005) (mCons (mFld ["Namer"] "number" (mVar 0)) (mCons (mFld ["Namer"] "count" (mVar 0)) mNil))) (mCons (mFn1 fTupc (oD (mVar 2))) mNil))) mNil))))
    (mSeq (mAugF ["Namer"] "count" (mVar 0) (mC (.int 1)))
    (mSeq (mSet 4 (mTup (mCons (mC (.str (Str.ofString "iff"))) (mCons (mVar 3) (mCons (mVar 1) mNil)))))
    (mSeq (mFor (mRevd (oD (mVar 2))) (mgN 5) (mSet 4 (mTup (mCons (mC (.str (Str.ofString "all"))) (mCons (mVar 5) (mCons (mVar 4) mNil))))))
    (mSeq (mDrop (mApp (mFld ["Namer"] "extra" (mVar 0)) (mVar 4)))
    (mRet (mVar 3)))))))))
/-- 11009 0 self, 1 formula, 2 tag, 3 left, 4 right -/
def c_Namer_traverse (G : GF) : MS := (mSeq (mSet 2 (mOp ixF (mVar 1) (mC (.int 0))))
    (mSeq (mIfS (mOrT (mBool (mOp fEqS (mVar 2) (mC (.str (Str.ofString "atom"))))) (mBool (mOp fEqS (mVar 2) (mC (.str (Str.ofString "equal")))))) (mRet (mVar 1)) mSkip)
    (mSeq (mIfS (mBool (mOp fEqS (mVar 2) (mC (.str (Str.ofString "not"))))) (mRet (mTup (mCons (mC (.str (Str.ofString "not"))) (mCons (mMeth "Namer" "traverse" (G 11009) (mVar 0) (mCons (mOp ixF (mVar 1) (mC (.int 1))) mNil)) mNil)))) mSkip)
    (mSeq (mIfS (mOrT (mBool (mOp fEqS (mVar 2) (mC (.str (Str.ofString "all"))))) (mBool (mOp fEqS (mVar 2) (mC (.str (Str.ofString "some")))))) (mRet (mTup (mCons (mVar 2) (mCons (mOp ixF (mVar 1) (mC (.int 1))) (mCons (mMeth "Namer" "traverse" (G 11009) (mVar 0) (mCons (mOp ixF (mVar 1) (mC (.int 2))) mNil)) mNil))))) mSkip)
    (mSeq (mSet 3 (mMeth "Namer" "traverse" (G 11009) (mVar 0) (mCons (mOp ixF (mVar 1) (mC (.int 1))) mNil)))
    (mSeq (mSet 4 (mMeth "Namer" "traverse" (G 11009) (mVar 0) (mCons (mOp ixF (mVar 1) (mC (.int 2))) mNil)))
    (mSeq (mIfS (mBool (mOp fEqS (mVar 2) (mC (.str (Str.ofString "iff"))))) (mSeq (mSet 3 (mMeth "Namer" "short" (G 11008) (mVar 0) (mCons (mVar 3) mNil)))
    (mSet 4 (mMeth "Namer" "short" (G 11008) (mVar 0) (mCons (mVar 4) mNil)))) mSkip)
    (mRet (mTup (mCons (mVar 2) (mCons (mVar 3) (mCons (mVar 4) mNil))))))))))))
/-- 11010 0 number, 1 formula, 2 namer, 3 first -/
def c_named (G : GF) : MS := (mSeq (mSet 2 (mMake "Namer" (G 11027) (mCons (mVar 0) mNil)))
    (mSeq (mSet 3 (mMeth "Namer" "traverse" (G 11009) (mVar 2) (mCons (mVar 1) mNil)))
    (mRet (mTup (mCons (mAlloc (mCatL (oN (mLst (mCons (mVar 3) mNil))) (oD (mFld ["Namer"] "extra" (mVar 2))))) (mCons (mFld ["Namer"] "count" (mVar 2)) mNil))))))
/-- 11011 0 self, 1 number -/
def c_Opener_init (G : GF) : MS := (mSeq (mSetF ["Opener"] "number" (mVar 0) (mVar 1))
    (mSeq (mSetF ["Opener"] "skolems" (mVar 0) (mC (.int 0)))
    (mSetF ["Opener"] "next_variable" (mVar 0) (mC (.int 0)))))
/-- 11012 0 self, 1 formula, 2 values, 3 positive -/
def c_Opener_literal (G : GF) : MS := (mSeq (mIfS (mBool (mOp fEqS (mOp ixF (mVar 1) (mC (.int 0))) (mC (.str (Str.ofString "atom"))))) (mRet (mTup (mCons (mC (.str (Str.ofString "literal"))) (mCons (mTup (mCons (mVar 3) (mCons (mCall (G 1000) (mCons (mOp ixF (mVar 1) (mC (.int 1))) (mCons (mVar 2) mNil))) (mCons (mC k_TRUTH) mNil)))) mNil)))) mSkip)
    (mRet (mTup (mCons (mC (.str (Str.ofString "literal"))) (mCons (mTup (mCons (mVar 3) (mCons (mCall (G 1000) (mCons (mOp ixF (mVar 1) (mC (.int 1))) (mCons (mVar 2) mNil))) (mCons (mCall (G 1000) (mCons (mOp ixF (mVar 1) (mC (.int 2))) (mCons (mVar 2) mNil))) mNil)))) mNil)))))
/-- 11013 0 self, 1 formula, 2 around, 3 values, 4 tag, 5 left, 6 inner, 7 inside -/
noncomputable def c_Opener_traverse (G : GF) : MS := (mSeq (mSet 4 (mOp ixF (mVar 1) (mC (.int 0))))
    (mSeq (mIfS (mBool (mOp fEqS (mVar 4) (mC (.str (Str.ofString "not"))))) (mRet (mMeth "Opener" "literal" (G 11012) (mVar 0) (mCons (mOp ixF (mVar 1) (mC (.int 1))) (mCons (mVar 3) (mCons (mC (.bl false)) mNil))))) mSkip)
    (mSeq (mIfS (mOrT (mBool (mOp fEqS (mVar 4) (mC (.str (Str.ofString "and"))))) (mBool (mOp fEqS (mVar 4) (mC (.str (Str.ofString "or")))))) (mSeq (mSet 5 (mMeth "Opener" "traverse" (G 11013) (mVar 0) (mCons (mOp ixF (mVar 1) (mC (.int 1))) (mCons (mVar 2) (mCons (mVar 3) mNil)))))
    (mRet (mTup (mCons (mVar 4) (mCons (mVar 5) (mCons (mMeth "Opener" "traverse" (G 11013) (mVar 0) (mCons (mOp ixF (mVar 1) (mC (.int 2))) (mCons (mVar 2) (mCons (mVar 3) mNil)))) mNil)))))) mSkip)
    (mSeq (mSet 6 (mDcopy (mVar 3)))
    (mSeq (mIfS (mBool (mOp fEqS (mVar 4) (mC (.str (Str.ofString "all"))))) (mSeq (mSetD (mVar 6) (mOp ixF (mVar 1) (mC (.int 1))) (mFld ["Opener"] "next_variable" (mVar 0)))
    (mSeq (mSet 7 (mOp fAdd (mVar 2) (mTup (mCons (mFld ["Opener"] "next_variable" (mVar 0)) mNil))))
    (mSeq (mAugF ["Opener"] "next_variable" (mVar 0) (mC (.int 1)))
    (mRet (mMeth "Opener" "traverse" (G 11013) (mVar 0) (mCons (mOp ixF (mVar 1) (mC (.int 2))) (mCons (mVar 7) (mCons (mVar 6) mNil)))))))) mSkip)
    (mSeq (mIfS (mBool (mOp fEqS (mVar 4) (mC (.str (Str.ofString "some"))))) (mSeq (mSetD (mVar 6) (mOp ixF (mVar 1) (mC (.int 1))) (mTup (mCons (mCall (G 11004) (mCons (mFld ["Opener"] "number" (mVar 0)) (mCons (mFld ["Opener"] "skolems" (mVar 0)) mNil))) (mCons (mVar 2) mNil))))
    (mSeq (mAugF ["Opener"] "skolems" (mVar 0) (mC (.int 1)))
    (mRet (mMeth "Opener" "traverse" (G 11013) (mVar 0) (mCons (mOp ixF (mVar 1) (mC (.int 2))) (mCons (mVar 2) (mCons (mVar 6) mNil))))))) mSkip)
    (mRet (mMeth "Opener" "literal" (G 11012) (mVar 0) (mCons (mVar 1) (mCons (mVar 3) (mCons (mC (.bl true)) mNil)))))))))))
/-- 11014 0 self, 1 formula -/
def c_Opener_opened (G : GF) : MS := (mSeq (mSetF ["Opener"] "next_variable" (mVar 0) (mC (.int 0)))
    (mRet (mMeth "Opener" "traverse" (G 11013) (mVar 0) (mCons (mVar 1) (mCons (mTup mNil) (mCons (mDnewK) mNil))))))
/-- 11015 0 formula, 1 found -/
def c_collect_variables (G : GF) : MS := (mIfS (mBool (mOp fEqS (mOp ixF (mVar 0) (mC (.int 0))) (mC (.str (Str.ofString "literal"))))) (mSeq (mDrop (mCall (G 7) (mCons (mOp ixF (mOp ixF (mVar 0) (mC (.int 1))) (mC (.int 1))) (mCons (mVar 1) mNil))))
    (mDrop (mCall (G 7) (mCons (mOp ixF (mOp ixF (mVar 0) (mC (.int 1))) (mC (.int 2))) (mCons (mVar 1) mNil))))) (mSeq (mDrop (mCall (G 11015) (mCons (mOp ixF (mVar 0) (mC (.int 1))) (mCons (mVar 1) mNil))))
    (mDrop (mCall (G 11015) (mCons (mOp ixF (mVar 0) (mC (.int 2))) (mCons (mVar 1) mNil))))))
/-- 11016 0 left, 1 right, 2 one, 3 other -/
noncomputable def c_combined (G : GF) : MS := (mRet (mCompN (mSrc (oD (mVar 0))) [2, 3] (mgN 2) mYes (bMid (mSrc (oD (mVar 1))) [3] (mgN 3) mYes (bLast (mOp fAdd (mVar 2) (mVar 3))))))
/-- 11017 0 self, 1 number, 2 count -/
def c_Spreader_init (G : GF) : MS := (mSeq (mSetF ["Spreader"] "number" (mVar 0) (mVar 1))
    (mSetF ["Spreader"] "count" (mVar 0) (mVar 2)))
/-- 11018 0 self, 1 formula, 2 left, 3 left_extra, 4 right, 5 right_extra, 6 extra, 7 found, 8 atom, 9 more, 10 clause -/
noncomputable def c_Spreader_spread (G : GF) : MS := (mSeq (mIfS (mBool (mOp fEqS (mOp ixF (mVar 1) (mC (.int 0))) (mC (.str (Str.ofString "literal"))))) (mRet (mTup (mCons (mAlloc (mLst (mCons (mTup (mCons (mOp ixF (mVar 1) (mC (.int 1))) mNil)) mNil))) (mCons (mAlloc (mLst mNil)) mNil)))) mSkip)
    (mSeq (mAsg (mgTup 2 (mgCons (mgN 2) (mgCons (mgN 3) mgNil))) (mMeth "Spreader" "spread" (G 11018) (mVar 0) (mCons (mOp ixF (mVar 1) (mC (.int 1))) mNil)))
    (mSeq (mAsg (mgTup 2 (mgCons (mgN 4) (mgCons (mgN 5) mgNil))) (mMeth "Spreader" "spread" (G 11018) (mVar 0) (mCons (mOp ixF (mVar 1) (mC (.int 2))) mNil)))
    (mSeq (mSet 6 (mAlloc (mCatL (oD (mVar 3)) (oD (mVar 5)))))
    (mSeq (mIfS (mBool (mOp fEqS (mOp ixF (mVar 1) (mC (.int 0))) (mC (.str (Str.ofString "and"))))) (mRet (mTup (mCons (mAlloc (mCatL (oD (mVar 2)) (oD (mVar 4)))) (mCons (mVar 6) mNil)))) mSkip)
    (mSeq (mIfS (mOrT (mBool (mOpO fEq (oD (mFn1 fLen (oD (mVar 2)))) (oD (mC (.int 1))))) (mBool (mOpO fEq (oD (mFn1 fLen (oD (mVar 4)))) (oD (mC (.int 1)))))) (mRet (mTup (mCons (mCall (G 11016) (mCons (mVar 2) (mCons (mVar 4) mNil))) (mCons (mVar 6) mNil)))) mSkip)
    (mSeq (mSet 7 (mAlloc (mLst mNil)))
    (mSeq (mDrop (mCall (G 11015) (mCons (mOp ixF (mVar 1) (mC (.int 2))) (mCons (mVar 7) mNil))))
    (mSeq (mSet 8 (mTup (mCons (mCall (G 11005) (mCons (mFld ["Spreader"] "number" (mVar 0)) (mCons (mFld ["Spreader"] "count" (mVar 0)) mNil))) (mCons (mFn1 fTupc (oD (mVar 7))) mNil))))
    (mSeq (mAugF ["Spreader"] "count" (mVar 0) (mC (.int 1)))
    (mSeq (mSetL 9 (mComp (mSrc (oD (mVar 4))) [10] (mgN 10) mYes (mOp fAdd (mTup (mCons (mTup (mCons (mC (.bl false)) (mCons (mVar 8) (mCons (mC k_TRUTH) mNil)))) mNil)) (mVar 10))))
    (mRet (mTup (mCons (mAlloc (mComp (mSrc (oD (mVar 2))) [10] (mgN 10) mYes (mOp fAdd (mVar 10) (mTup (mCons (mTup (mCons (mC (.bl true)) (mCons (mVar 8) (mCons (mC k_TRUTH) mNil)))) mNil))))) (mCons (mAlloc (mCatL (oD (mVar 6)) (oD (mVar 9)))) mNil)))))))))))))))
/-- 11019 0 clause, 1 kept, 2 literal, 3 one -/
noncomputable def c_without_repeats (G : GF) : MS := (mSeq (mSet 1 (mAlloc (mLst mNil)))
    (mSeq (mFor (mSrc (oD (mVar 0))) (mgN 2) (mIfS (mNotT (mTruO (oN (mComp (mSrc (oD (mVar 1))) [3] (mgN 3) (mTru (mCall (G 34) (mCons (mVar 3) (mCons (mVar 2) mNil)))) (mVar 3))))) (mDrop (mApp (mVar 1) (mVar 2))) mSkip))
    (mRet (mFn1 fTupc (oD (mVar 1))))))
/-- 11020 0 number, 1 formula, 2 formulas, 3 count, 4 opener, 5 opened, 6 spreader, 7 clauses, 8 one, 9 found, 10 extra, 11 clause -/
noncomputable def c_clauses_of (G : GF) : MS := (mSeq (mAsg (mgTup 2 (mgCons (mgN 2) (mgCons (mgN 3) mgNil))) (mCall (G 11010) (mCons (mVar 0) (mCons (mVar 1) mNil))))
    (mSeq (mSet 4 (mMake "Opener" (G 11028) (mCons (mVar 0) mNil)))
    (mSeq (mSetL 5 (mComp (mSrc (oD (mVar 2))) [8] (mgN 8) mYes (mMeth "Opener" "opened" (G 11014) (mVar 4) (mCons (mCall (G 11001) (mCons (mVar 8) (mCons (mC (.bl true)) mNil))) mNil))))
    (mSeq (mSet 6 (mMake "Spreader" (G 11029) (mCons (mVar 0) (mCons (mVar 3) mNil))))
    (mSeq (mSet 7 (mAlloc (mLst mNil)))
    (mSeq (mFor (mSrc (oD (mVar 5))) (mgN 8) (mSeq (mAsg (mgTup 2 (mgCons (mgN 9) (mgCons (mgN 10) mgNil))) (mMeth "Spreader" "spread" (G 11018) (mVar 6) (mCons (mVar 8) mNil)))
    (mFor (mSrc (oN (mCatL (oD (mVar 9)) (oD (mVar 10))))) (mgN 11) (mDrop (mApp (mVar 7) (mOp ixF (mCall (G 8017) (mCons (mCall (G 11019) (mCons (mVar 11) mNil)) mNil)) (mC (.int 0))))))))
    (mRet (mVar 7))))))))
/-- 11021 0 _law_row, 1 _law_deep, 2 _law_scope, 3 _law_kind, 4 _law_n, 5 _law_many, 6 _law_parts, 7 _law_k, 8 _law_found -/
noncomputable def c__law_formula_term (G : GF) : MS := (mSeq (mSet 3 (mOp fMod (mFn1 fInt (oD (mVar 0))) (mC (.int 4))))
    (mSeq (mSet 0 (mOp fDiv (mVar 0) (mC (.int 4))))
    (mSeq (mIfS (mAndT (mBool (mOp fLt (mVar 3) (mC (.int 2)))) (mTru (mVar 2))) (mRet (mTup (mCons (mOp ixF (mVar 2) (mOp fMod (mFn1 fInt (oD (mVar 0))) (mFn1 fLen (oD (mVar 2))))) (mCons (mOp fDiv (mVar 0) (mFn1 fLen (oD (mVar 2)))) mNil)))) mSkip)
    (mSeq (mSet 4 (mOp fMod (mFn1 fInt (oD (mVar 0))) (mC (.int 3))))
    (mSeq (mSet 5 (mOp fMod (mOp fDiv (mVar 0) (mC (.int 3))) (mC (.int 3))))
    (mSeq (mSet 0 (mOp fDiv (mVar 0) (mC (.int 9))))
    (mSeq (mIfS (mBool (mOpO fEq (oD (mVar 1)) (oD (mC (.int 0))))) (mSet 5 (mC (.int 0))) mSkip)
    (mSeq (mSet 6 (mAlloc (mLst mNil)))
    (mSeq (mFor (mRng1 (mVar 5)) (mgN 7) (mSeq (mSet 8 (mCall (G 11021) (mCons (mVar 0) (mCons (mOp fSub (mVar 1) (mC (.int 1))) (mCons (mVar 2) mNil)))))
    (mSeq (mDrop (mApp (mVar 6) (mOp ixF (mVar 8) (mC (.int 0)))))
    (mSet 0 (mOp ixF (mVar 8) (mC (.int 1)))))))
    (mRet (mTup (mCons (mTup (mCons (mTup (mCons (mC (.int 2)) (mCons (mVar 4) (mCons (mC (.int 0)) mNil)))) (mCons (mFn1 fTupc (oD (mVar 6))) mNil))) (mCons (mVar 0) mNil)))))))))))))
/-- 11022 0 _law_row, 1 _law_scope, 2 _law_left, 3 _law_right, 4 _law_n, 5 _law_many, 6 _law_parts, 7 _law_k, 8 _law_found -/
noncomputable def c__law_formula_atom (G : GF) : MS := (mSeq (mIfS (mBool (mOpO fEq (oD (mOp fMod (mFn1 fInt (oD (mVar 0))) (mC (.int 3)))) (oD (mC (.int 0))))) (mSeq (mSet 2 (mCall (G 11021) (mCons (mOp fDiv (mVar 0) (mC (.int 3))) (mCons (mC (.int 1)) (mCons (mVar 1) mNil)))))
    (mSeq (mSet 3 (mCall (G 11021) (mCons (mOp ixF (mVar 2) (mC (.int 1))) (mCons (mC (.int 1)) (mCons (mVar 1) mNil)))))
    (mRet (mTup (mCons (mTup (mCons (mC (.str (Str.ofString "equal"))) (mCons (mOp ixF (mVar 2) (mC (.int 0))) (mCons (mOp ixF (mVar 3) (mC (.int 0))) mNil)))) (mCons (mOp ixF (mVar 3) (mC (.int 1))) mNil)))))) mSkip)
    (mSeq (mSet 4 (mOp fAdd (mC (.int 3)) (mOp fMod (mOp fDiv (mVar 0) (mC (.int 3))) (mC (.int 3)))))
    (mSeq (mSet 5 (mOp fMod (mOp fDiv (mVar 0) (mC (.int 9))) (mC (.int 3))))
    (mSeq (mSet 0 (mOp fDiv (mVar 0) (mC (.int 27))))
    (mSeq (mSet 6 (mAlloc (mLst mNil)))
    (mSeq (mFor (mRng1 (mVar 5)) (mgN 7) (mSeq (mSet 8 (mCall (G 11021) (mCons (mVar 0) (mCons (mC (.int 1)) (mCons (mVar 1) mNil)))))
    (mSeq (mDrop (mApp (mVar 6) (mOp ixF (mVar 8) (mC (.int 0)))))
    (mSet 0 (mOp ixF (mVar 8) (mC (.int 1)))))))
    (mRet (mTup (mCons (mTup (mCons (mC (.str (Str.ofString "atom"))) (mCons (mTup (mCons (mTup (mCons (mC (.int 1)) (mCons (mVar 4) (mCons (mC (.int 0)) mNil)))) (mCons (mFn1 fTupc (oD (mVar 6))) mNil))) mNil))) (mCons (mVar 0) mNil))))))))))
/-- 11023 0 _law_row, 1 _law_deep, 2 _law_scope, 3 _law_count, 4 _law_kind, 5 _law_found, 6 _law_inner, 7 _law_left, 8 _law_right, 9 _law_tags -/
def c__law_formula (G : GF) : MS := (mSeq (mSet 4 (mOp fMod (mFn1 fInt (oD (mVar 0))) (mC (.int 9))))
    (mSeq (mSet 0 (mOp fDiv (mVar 0) (mC (.int 9))))
    (mSeq (mIfS (mOrT (mBool (mOpO fEq (oD (mVar 1)) (oD (mC (.int 0))))) (mBool (mOpO fEq (oD (mVar 4)) (oD (mC (.int 0)))))) (mSeq (mSet 5 (mCall (G 11022) (mCons (mVar 0) (mCons (mVar 2) mNil))))
    (mRet (mAlloc (mLst (mCons (mOp ixF (mVar 5) (mC (.int 0))) (mCons (mOp ixF (mVar 5) (mC (.int 1))) (mCons (mVar 3) mNil))))))) mSkip)
    (mSeq (mIfS (mBool (mOp fLt (mVar 4) (mC (.int 3)))) (mSeq (mSet 6 (mCall (G 11023) (mCons (mVar 0) (mCons (mOp fSub (mVar 1) (mC (.int 1))) (mCons (mVar 2) (mCons (mVar 3) mNil))))))
    (mRet (mAlloc (mLst (mCons (mTup (mCons (mC (.str (Str.ofString "not"))) (mCons (mOp ixF (mVar 6) (mC (.int 0))) mNil))) (mCons (mOp ixF (mVar 6) (mC (.int 1))) (mCons (mOp ixF (mVar 6) (mC (.int 2))) mNil))))))) mSkip)
    (mSeq (mIfS (mBool (mOp fGt (mVar 4) (mC (.int 6)))) (mSeq (mSet 6 (mCall (G 11023) (mCons (mVar 0) (mCons (mOp fSub (mVar 1) (mC (.int 1))) (mCons (mAlloc (mCatL (oD (mVar 2)) (oN (mLst (mCons (mVar 3) mNil))))) (mCons (mOp fAdd (mVar 3) (mC (.int 1))) mNil))))))
    (mRet (mAlloc (mLst (mCons (mTup (mCons (mIf (mBool (mOpO fEq (oD (mVar 4)) (oD (mC (.int 7))))) (mC (.str (Str.ofString "all"))) (mC (.str (Str.ofString "some")))) (mCons (mVar 3) (mCons (mOp ixF (mVar 6) (mC (.int 0))) mNil)))) (mCons (mOp ixF (mVar 6) (mC (.int 1))) (mCons (mOp ixF (mVar 6) (mC (.int 2))) mNil))))))) mSkip)
    (mSeq (mSet 7 (mCall (G 11023) (mCons (mVar 0) (mCons (mOp fSub (mVar 1) (mC (.int 1))) (mCons (mVar 2) (mCons (mVar 3) mNil))))))
    (mSeq (mSet 8 (mCall (G 11023) (mCons (mOp ixF (mVar 7) (mC (.int 1))) (mCons (mOp fSub (mVar 1) (mC (.int 1))) (mCons (mVar 2) (mCons (mOp ixF (mVar 7) (mC (.int 2))) mNil))))))
    (mSeq (mSet 9 (mAlloc (mLst (mCons (mC (.str (Str.ofString "and"))) (mCons (mC (.str (Str.ofString "or"))) (mCons (mC (.str (Str.ofString "implies"))) (mCons (mC (.str (Str.ofString "iff"))) mNil)))))))
    (mRet (mAlloc (mLst (mCons (mTup (mCons (mOp ixF (mVar 9) (mOp fSub (mVar 4) (mC (.int 3)))) (mCons (mOp ixF (mVar 7) (mC (.int 0))) (mCons (mOp ixF (mVar 8) (mC (.int 0))) mNil)))) (mCons (mOp ixF (mVar 8) (mC (.int 1))) (mCons (mOp ixF (mVar 8) (mC (.int 2))) mNil))))))))))))))
/-- 11024 0 _law_script, 1 _law_k, 2 _law_deep, 3 _law_found -/
def c__law_small_formula (G : GF) : MS := (mSeq (mSet 3 (mCall (G 11023) (mCons (mCall (G 2) (mCons (mVar 0) (mCons (mVar 1) mNil))) (mCons (mVar 2) (mCons (mAlloc (mLst mNil)) (mCons (mC (.int 0)) mNil))))))
    (mRet (mOp ixF (mVar 3) (mC (.int 0)))))
/-- 11025 0 _law_clause, 1 _law_found, 2 _law_literal -/
noncomputable def c__law_clause_variables_2 (G : GF) : MS := (mSeq (mSet 1 (mAlloc (mLst mNil)))
    (mSeq (mFor (mSrc (oD (mVar 0))) (mgN 2) (mSeq (mSet 1 (mCall (G 10008) (mCons (mOp ixF (mVar 2) (mC (.int 1))) (mCons (mVar 1) mNil))))
    (mSet 1 (mCall (G 10008) (mCons (mOp ixF (mVar 2) (mC (.int 2))) (mCons (mVar 1) mNil))))))
    (mRet (mVar 1))))
/-- 11026 0 _law_term, 1 _law_told, 2 _law_pair, 3 _law_part -/
noncomputable def c__law_put_2_2_2 (G : GF) : MS := (mSeq (mIfS (mTru (mCall (G 2014) (mCons (mVar 0) mNil))) (mSeq (mFor (mSrc (oD (mVar 1))) (mgN 2) (mIfS (mBool (mOpO fEq (oD (mOp ixF (mVar 2) (mC (.int 0)))) (oD (mVar 0)))) (mRet (mOp ixF (mVar 2) (mC (.int 1)))) mSkip))
    (mRet (mVar 0))) mSkip)
    (mRet (mTup (mCons (mOp ixF (mVar 0) (mC (.int 0))) (mCons (mFn1 fTupc (oN (mComp (mSrc (oD (mOp ixF (mVar 0) (mC (.int 1))))) [3] (mgN 3) mYes (mCall (G 11026) (mCons (mVar 3) (mCons (mVar 1) mNil)))))) mNil)))))
noncomputable def lZl11 : List Fb := [mkFb 3 5 c_inward_iff,
  mkFb 2 5 c_inward,
  mkFb 3 6 c_collect_free,
  mkFb 1 2 c_free_variables,
  mkFb 2 2 c_skolem,
  mkFb 2 2 c_part_name,
  mkFb 1 1 c_is_simple,
  mkFb 2 2 c_Namer_init,
  mkFb 2 6 c_Namer_short,
  mkFb 2 5 c_Namer_traverse,
  mkFb 2 4 c_named,
  mkFb 2 2 c_Opener_init,
  mkFb 4 4 c_Opener_literal,
  mkFb 4 8 c_Opener_traverse,
  mkFb 2 2 c_Opener_opened,
  mkFb 2 2 c_collect_variables,
  mkFb 2 4 c_combined,
  mkFb 3 3 c_Spreader_init,
  mkFb 2 11 c_Spreader_spread,
  mkFb 1 4 c_without_repeats,
  mkFb 2 12 c_clauses_of,
  mkFb 3 9 c__law_formula_term,
  mkFb 2 9 c__law_formula_atom,
  mkFb 4 10 c__law_formula,
  mkFb 3 4 c__law_small_formula,
  mkFb 1 3 c__law_clause_variables_2,
  mkFb 2 4 c__law_put_2_2_2,
  deleg 11007,
  deleg 11011,
  deleg 11017]
end Zi
set_option maxRecDepth 100000
namespace Zi
open PySem L2
/-- 14000 0 n -/
def c_predicate (G : GF) : MS := (mRet (mTup (mCons (mC (.int 1)) (mCons (mVar 0) (mCons (mC (.int 0)) mNil)))))
/-- 14001 0 n -/
def c_function (G : GF) : MS := (mRet (mTup (mCons (mC (.int 2)) (mCons (mVar 0) (mCons (mC (.int 0)) mNil)))))
/-- 14002 0 text -/
def c_read_number (G : GF) : MS := (mSeq (mIfS (mOrT (mNotT (mTru (mVar 0))) (mNotT (mTru (mDigit (mVar 0))))) (mRet (mC .non)) mSkip)
    (mSeq (mIfS (mAndT (mBool (mOp fGt (mFn1 fLen (oD (mVar 0))) (mC (.int 1)))) (mBool (mOpO fEq (oD (mOp ixF (mVar 0) (mC (.int 0)))) (oD (mC (.str (Str.ofString "0"))))))) (mRet (mC .non)) mSkip)
    (mRet (mFn1 fIntS (oD (mVar 0))))))
/-- 14003 0 text, 1 parts, 2 a, 3 k -/
def c_read_pair (G : GF) : MS := (mSeq (mSet 1 (mAlloc (mSplit (mVar 0) (mC (.str (Str.ofString "_"))))))
    (mSeq (mIfS (mBool (mOpO fNe (oD (mFn1 fLen (oD (mVar 1)))) (oD (mC (.int 2))))) (mRet (mC .non)) mSkip)
    (mSeq (mSet 2 (mCall (G 14002) (mCons (mOp ixF (mVar 1) (mC (.int 0))) mNil)))
    (mSeq (mSet 3 (mCall (G 14002) (mCons (mOp ixF (mVar 1) (mC (.int 1))) mNil)))
    (mSeq (mIfS (mOrT (mBool (mIsN (mVar 2))) (mBool (mIsN (mVar 3)))) (mRet (mC .non)) mSkip)
    (mRet (mTup (mCons (mVar 2) (mCons (mVar 3) mNil)))))))))
/-- 14004 0 word, 1 names, 2 as_atom, 3 n, 4 entry -/
noncomputable def c_named_symbol (G : GF) : MS := (mSeq (mFor (mEnum (oD (mVar 1))) (mgTup 2 (mgCons (mgN 3) (mgCons (mgN 4) mgNil))) (mIfS (mAndT (mBool (mOpO fEq (oD (mOp ixF (mVar 4) (mC (.int 0)))) (oD (mVar 2)))) (mBool (mOpO fEq (oD (mOp ixF (mVar 4) (mC (.int 1)))) (oD (mVar 0))))) (mRet (mIf (mTru (mVar 2)) (mCall (G 14000) (mCons (mVar 3) mNil)) (mCall (G 14001) (mCons (mVar 3) mNil)))) mSkip))
    (mRet (mC .non)))
/-- 14005 0 word, 1 names, 2 as_atom, 3 a, 4 pair -/
def c_read_symbol (G : GF) : MS := (mSeq (mIfS (mBool (mOpO fEq (oD (mVar 0)) (oD (mC (.str (Str.ofString "#")))))) (mRet (mIf (mTru (mVar 2)) (mOp ixF (mC k_TRUTH) (mC (.int 0))) (mC .non))) mSkip)
    (mSeq (mIfS (mTru (mStarts (mVar 0) (mC (.str (Str.ofString "@"))))) (mSeq (mSet 3 (mCall (G 14002) (mCons (oS (mSl (mVar 0) (mSoI (mC (.int 1))) mNoI)) mNil)))
    (mRet (mIf (mAndT (mTru (mVar 2)) (mBool (mNotN (mVar 3)))) (mCall (G 0) (mCons (mVar 3) mNil)) (mC .non)))) mSkip)
    (mSeq (mIfS (mOrT (mTru (mStarts (mVar 0) (mC (.str (Str.ofString "$"))))) (mTru (mStarts (mVar 0) (mC (.str (Str.ofString "&")))))) (mSeq (mSet 4 (mCall (G 14003) (mCons (oS (mSl (mVar 0) (mSoI (mC (.int 1))) mNoI)) mNil)))
    (mSeq (mIfS (mOrT (mBool (mIsN (mVar 4))) (mBool (mOpO fNe (oD (mVar 2)) (oD (mStarts (mVar 0) (mC (.str (Str.ofString "&")))))))) (mRet (mC .non)) mSkip)
    (mRet (mIf (mTru (mVar 2)) (mCall (G 11005) (mCons (mOp ixF (mVar 4) (mC (.int 0))) (mCons (mOp ixF (mVar 4) (mC (.int 1))) mNil))) (mCall (G 11004) (mCons (mOp ixF (mVar 4) (mC (.int 0))) (mCons (mOp ixF (mVar 4) (mC (.int 1))) mNil))))))) mSkip)
    (mRet (mCall (G 14004) (mCons (mVar 0) (mCons (mVar 1) (mCons (mVar 2) mNil))))))))
/-- 14006 0 text, 1 start, 2 end -/
noncomputable def c_word_end (G : GF) : MS := (mSeq (mSet 2 (mVar 1))
    (mSeq (mWhile (mAndT (mBool (mOp fLt (mVar 2) (mFn1 fLen (oD (mVar 0))))) (mBool (mOp fNinS (mOp ixF (mVar 0) (mVar 2)) (mC (.str (Str.ofString "(), ")))))) (mAug 2 fIadd (mC (.int 1))))
    (mRet (mVar 2))))
/-- 14007 0 text, 1 start, 2 names, 3 parts, 4 here, 5 found -/
noncomputable def c_read_arguments (G : GF) : MS := (mSeq (mSet 3 (mAlloc (mLst mNil)))
    (mSeq (mSet 4 (mVar 1))
    (mWhile (mTru (mC (.bl true))) (mSeq (mSet 5 (mCall (G 14008) (mCons (mVar 0) (mCons (mVar 4) (mCons (mVar 2) (mCons (mC (.bl false)) mNil))))))
    (mSeq (mIfS (mBool (mIsN (mVar 5))) (mRet (mC .non)) mSkip)
    (mSeq (mDrop (mApp (mVar 3) (mOp ixF (mVar 5) (mC (.int 0)))))
    (mSeq (mSet 4 (mOp ixF (mVar 5) (mC (.int 1))))
    (mIfS (mBool (mOpO fEq (mSl (mVar 0) (mSoI (mVar 4)) (mSoI (mOp fAdd (mVar 4) (mC (.int 2))))) (oD (mC (.str (Str.ofString ", ")))))) (mAug 4 fIadd (mC (.int 2))) (mIfS (mBool (mOpO fEq (mSl (mVar 0) (mSoI (mVar 4)) (mSoI (mOp fAdd (mVar 4) (mC (.int 1))))) (oD (mC (.str (Str.ofString ")")))))) (mRet (mTup (mCons (mFn1 fTupc (oD (mVar 3))) (mCons (mOp fAdd (mVar 4) (mC (.int 1))) mNil)))) (mRet (mC .non)))))))))))
/-- 14008 0 text, 1 start, 2 names, 3 as_atom, 4 end, 5 word, 6 number, 7 symbol, 8 found -/
def c_read_part (G : GF) : MS := (mSeq (mSet 4 (mCall (G 14006) (mCons (mVar 0) (mCons (mVar 1) mNil))))
    (mSeq (mSet 5 (oS (mSl (mVar 0) (mSoI (mVar 1)) (mSoI (mVar 4)))))
    (mSeq (mIfS (mTru (mStarts (mVar 5) (mC (.str (Str.ofString "?"))))) (mSeq (mSet 6 (mCall (G 14002) (mCons (oS (mSl (mVar 5) (mSoI (mC (.int 1))) mNoI)) mNil)))
    (mSeq (mIfS (mOrT (mTru (mVar 3)) (mBool (mIsN (mVar 6)))) (mRet (mC .non)) mSkip)
    (mRet (mTup (mCons (mVar 6) (mCons (mVar 4) mNil)))))) mSkip)
    (mSeq (mSet 7 (mCall (G 14005) (mCons (mVar 5) (mCons (mVar 2) (mCons (mVar 3) mNil)))))
    (mSeq (mIfS (mBool (mIsN (mVar 7))) (mRet (mC .non)) mSkip)
    (mSeq (mIfS (mBool (mOpO fNe (mSl (mVar 0) (mSoI (mVar 4)) (mSoI (mOp fAdd (mVar 4) (mC (.int 1))))) (oD (mC (.str (Str.ofString "(")))))) (mRet (mTup (mCons (mTup (mCons (mVar 7) (mCons (mTup mNil) mNil))) (mCons (mVar 4) mNil)))) mSkip)
    (mSeq (mSet 8 (mCall (G 14007) (mCons (mVar 0) (mCons (mOp fAdd (mVar 4) (mC (.int 1))) (mCons (mVar 2) mNil)))))
    (mSeq (mIfS (mBool (mIsN (mVar 8))) (mRet (mC .non)) mSkip)
    (mRet (mTup (mCons (mTup (mCons (mVar 7) (mCons (mOp ixF (mVar 8) (mC (.int 0))) mNil))) (mCons (mOp ixF (mVar 8) (mC (.int 1))) mNil))))))))))))
/-- 14009 0 text, 1 names, 2 as_atom, 3 found -/
def c_read_whole (G : GF) : MS := (mSeq (mSet 3 (mCall (G 14008) (mCons (mVar 0) (mCons (mC (.int 0)) (mCons (mVar 1) (mCons (mVar 2) mNil))))))
    (mSeq (mIfS (mOrT (mBool (mIsN (mVar 3))) (mBool (mOpO fNe (oD (mOp ixF (mVar 3) (mC (.int 1)))) (oD (mFn1 fLen (oD (mVar 0))))))) (mRet (mC .non)) mSkip)
    (mRet (mOp ixF (mVar 3) (mC (.int 0))))))
/-- 14010 0 text, 1 sign, 2 names, 3 parts, 4 left, 5 right -/
def c_read_equation (G : GF) : MS := (mSeq (mSet 3 (mAlloc (mSplit (mVar 0) (mVar 1))))
    (mSeq (mIfS (mBool (mOpO fNe (oD (mFn1 fLen (oD (mVar 3)))) (oD (mC (.int 2))))) (mRet (mC .non)) mSkip)
    (mSeq (mSet 4 (mCall (G 14009) (mCons (mOp ixF (mVar 3) (mC (.int 0))) (mCons (mVar 2) (mCons (mC (.bl false)) mNil)))))
    (mSeq (mSet 5 (mCall (G 14009) (mCons (mOp ixF (mVar 3) (mC (.int 1))) (mCons (mVar 2) (mCons (mC (.bl false)) mNil)))))
    (mSeq (mIfS (mOrT (mBool (mIsN (mVar 4))) (mBool (mIsN (mVar 5)))) (mRet (mC .non)) mSkip)
    (mRet (mTup (mCons (mVar 4) (mCons (mVar 5) mNil)))))))))
/-- 14011 0 text, 1 names, 2 positive, 3 sign, 4 found, 5 atom -/
noncomputable def c_read_literal (G : GF) : MS := (mSeq (mFor (mSrc (oD (mTup (mCons (mTup (mCons (mC (.bl true)) (mCons (mC (.str (Str.ofString " = "))) mNil))) (mCons (mTup (mCons (mC (.bl false)) (mCons (mC (.str (Str.ofString " != "))) mNil))) mNil))))) (mgTup 2 (mgCons (mgN 2) (mgCons (mgN 3) mgNil))) (mIfS (mBool (mOp fInT (mVar 3) (mVar 0))) (mSeq (mSet 4 (mCall (G 14010) (mCons (mVar 0) (mCons (mVar 3) (mCons (mVar 1) mNil)))))
    (mSeq (mIfS (mBool (mIsN (mVar 4))) (mRet (mC .non)) mSkip)
    (mRet (mTup (mCons (mVar 2) (mCons (mOp ixF (mVar 4) (mC (.int 0))) (mCons (mOp ixF (mVar 4) (mC (.int 1))) mNil))))))) mSkip))
    (mSeq (mSet 2 (mNot (mStarts (mVar 0) (mC (.str (Str.ofString "not "))))))
    (mSeq (mSet 5 (mCall (G 14009) (mCons (mIf (mTru (mVar 2)) (mVar 0) (oS (mSl (mVar 0) (mSoI (mC (.int 4))) mNoI))) (mCons (mVar 1) (mCons (mC (.bl true)) mNil)))))
    (mSeq (mIfS (mBool (mIsN (mVar 5))) (mRet (mC .non)) mSkip)
    (mRet (mTup (mCons (mVar 2) (mCons (mVar 5) (mCons (mC k_TRUTH) mNil)))))))))
/-- 14012 0 _law_row, 1 _law_sign, 2 _law_letters, 3 _law_word_here, 4 _law_many, 5 _law_k, 6 _law_at -/
noncomputable def c__law_word (G : GF) : MS := (mSeq (mSet 2 (mC (.str (Str.ofString "abcdefghijklmnopqrstuvwxyzABCDEFGHIJKLMNOPQRSTUVWXYZ0123456789_"))))
    (mSeq (mSet 3 (mC (.str (Str.ofString ""))))
    (mSeq (mSet 4 (mOp fAdd (mC (.int 1)) (mOp fMod (mFn1 fInt (oD (mVar 0))) (mC (.int 4)))))
    (mSeq (mIfS (mBool (mOpO fEq (oD (mOp fMod (mOp fDiv (mVar 0) (mC (.int 4))) (mC (.int 8)))) (oD (mC (.int 0))))) (mSet 4 (mC (.int 30))) mSkip)
    (mSeq (mSet 0 (mOp fDiv (mVar 0) (mC (.int 32))))
    (mSeq (mFor (mRng1 (mVar 4)) (mgN 5) (mSeq (mSet 3 (mOp fAdd (mVar 3) (mOp ixF (mVar 2) (mOp fMod (mFn1 fInt (oD (mVar 0))) (mC (.int 63))))))
    (mSet 0 (mOp fAdd (mOp fDiv (mVar 0) (mC (.int 63))) (mVar 5)))))
    (mSeq (mSet 6 (mOp fMod (mFn1 fInt (oD (mVar 0))) (mOp fAdd (mFn1 fLen (oD (mVar 3))) (mC (.int 1)))))
    (mRet (mOp fAdd (mOp fAdd (oS (mSl (mVar 3) mNoI (mSoI (mVar 6)))) (mVar 1)) (oS (mSl (mVar 3) (mSoI (mVar 6)) mNoI)))))))))))
/-- 14013 0 _law_row, 1 _law_signs, 2 _law_table_here, 3 _law_k, 4 _law_word_here -/
noncomputable def c__law_table (G : GF) : MS := (mSeq (mSet 1 (mAlloc (mLst (mCons (mC (.str (Str.ofString "a"))) (mCons (mC (.str (Str.ofString "b"))) (mCons (mC (.str (Str.ofString "c"))) mNil))))))
    (mSeq (mSet 2 (mAlloc (mLst mNil)))
    (mSeq (mFor (mRng1 (mC (.int 6))) (mgN 3) (mSeq (mSet 4 (mCall (G 14012) (mCons (mVar 0) (mCons (mOp ixF (mVar 1) (mOp fMod (mFn1 fInt (oD (mVar 3))) (mC (.int 3)))) mNil))))
    (mSeq (mIfS (mBool (mOpO fIn (oD (mVar 4)) (oN (mLst (mCons (mC (.str (Str.ofString "all"))) (mCons (mC (.str (Str.ofString "some"))) (mCons (mC (.str (Str.ofString "not"))) (mCons (mC (.str (Str.ofString "and"))) (mCons (mC (.str (Str.ofString "or"))) (mCons (mC (.str (Str.ofString "implies"))) (mCons (mC (.str (Str.ofString "iff"))) mNil))))))))))) (mSet 4 (mOp fAdd (mVar 4) (mC (.str (Str.ofString "_"))))) mSkip)
    (mSeq (mWhile (mBool (mOpO fIn (oD (mTup (mCons (mOp fGt (mVar 3) (mC (.int 2))) (mCons (mVar 4) mNil)))) (oD (mVar 2)))) (mSet 4 (mOp fAdd (mVar 4) (mOp ixF (mVar 1) (mOp fMod (mFn1 fInt (oD (mVar 3))) (mC (.int 3)))))))
    (mSeq (mDrop (mApp (mVar 2) (mTup (mCons (mOp fGt (mVar 3) (mC (.int 2))) (mCons (mVar 4) mNil)))))
    (mSet 0 (mOp fAdd (mOp fDiv (mVar 0) (mC (.int 7))) (mOp fMul (mC (.int 5)) (mVar 3)))))))))
    (mRet (mVar 2)))))
/-- 14014 0 _law_symbol_here, 1 _law_names, 2 _law_signs -/
def c__law_symbol_text (G : GF) : MS := (mSeq (mSet 2 (mAlloc (mLst (mCons (mC (.str (Str.ofString "#"))) (mCons (mC (.str (Str.ofString ""))) (mCons (mC (.str (Str.ofString ""))) (mCons (mC (.str (Str.ofString "$"))) (mCons (mC (.str (Str.ofString "&"))) (mCons (mC (.str (Str.ofString "@"))) mNil)))))))))
    (mSeq (mIfS (mBool (mOpO fEq (oD (mOp ixF (mVar 0) (mC (.int 0)))) (oD (mC (.int 0))))) (mRet (mC (.str (Str.ofString "#")))) mSkip)
    (mSeq (mIfS (mOrT (mBool (mOpO fEq (oD (mOp ixF (mVar 0) (mC (.int 0)))) (oD (mC (.int 1))))) (mBool (mOpO fEq (oD (mOp ixF (mVar 0) (mC (.int 0)))) (oD (mC (.int 2)))))) (mRet (mOp ixF (mOp ixF (mVar 1) (mOp ixF (mVar 0) (mC (.int 1)))) (mC (.int 1)))) mSkip)
    (mSeq (mIfS (mBool (mOpO fEq (oD (mOp ixF (mVar 0) (mC (.int 0)))) (oD (mC (.int 5))))) (mRet (mOp fAdd (mC (.str (Str.ofString "@"))) (mFn1 fStr (oD (mOp ixF (mVar 0) (mC (.int 1))))))) mSkip)
    (mRet (mOp fAdd (mOp fAdd (mOp fAdd (mOp ixF (mVar 2) (mOp ixF (mVar 0) (mC (.int 0)))) (mFn1 fStr (oD (mOp ixF (mVar 0) (mC (.int 1)))))) (mC (.str (Str.ofString "_")))) (mFn1 fStr (oD (mOp ixF (mVar 0) (mC (.int 2)))))))))))
/-- 14015 0 _law_term_here, 1 _law_names, 2 _law_text_here, 3 _law_part -/
noncomputable def c__law_text (G : GF) : MS := (mSeq (mIfS (mTru (mCall (G 14) (mCons (mVar 0) mNil))) (mRet (mOp fAdd (mC (.str (Str.ofString "?"))) (mFn1 fStr (oD (mVar 0))))) mSkip)
    (mSeq (mSet 2 (mCall (G 14014) (mCons (mOp ixF (mVar 0) (mC (.int 0))) (mCons (mVar 1) mNil))))
    (mSeq (mIfS (mTru (mOp ixF (mVar 0) (mC (.int 1)))) (mSet 2 (mOp fAdd (mOp fAdd (mOp fAdd (mVar 2) (mC (.str (Str.ofString "(")))) (mJoin (mC (.str (Str.ofString ", "))) (oN (mComp (mSrc (oD (mOp ixF (mVar 0) (mC (.int 1))))) [3] (mgN 3) mYes (mCall (G 14015) (mCons (mVar 3) (mCons (mVar 1) mNil))))))) (mC (.str (Str.ofString ")"))))) mSkip)
    (mRet (mVar 2)))))
/-- 14016 0 _law_literal_here, 1 _law_names, 2 _law_left -/
def c__law_literal_text (G : GF) : MS := (mSeq (mSet 2 (mCall (G 14015) (mCons (mOp ixF (mVar 0) (mC (.int 1))) (mCons (mVar 1) mNil))))
    (mSeq (mIfS (mAndT (mTru (mCall (G 24) (mCons (mOp ixF (mVar 0) (mC (.int 1))) mNil))) (mBool (mOpO fEq (oD (mOp ixF (mVar 0) (mC (.int 2)))) (oD (mTup (mCons (mTup (mCons (mC (.int 0)) (mCons (mC (.int 0)) (mCons (mC (.int 0)) mNil)))) (mCons (mTup mNil) mNil))))))) (mRet (mIf (mTru (mOp ixF (mVar 0) (mC (.int 0)))) (mVar 2) (mOp fAdd (mC (.str (Str.ofString "not "))) (mVar 2)))) mSkip)
    (mRet (mOp fAdd (mOp fAdd (mVar 2) (mIf (mTru (mOp ixF (mVar 0) (mC (.int 0)))) (mC (.str (Str.ofString " = "))) (mC (.str (Str.ofString " != "))))) (mCall (G 14015) (mCons (mOp ixF (mVar 0) (mC (.int 2))) (mCons (mVar 1) mNil)))))))
noncomputable def lZl14 : List Fb := [mkFb 1 1 c_predicate,
  mkFb 1 1 c_function,
  mkFb 1 1 c_read_number,
  mkFb 1 4 c_read_pair,
  mkFb 3 5 c_named_symbol,
  mkFb 3 5 c_read_symbol,
  mkFb 2 3 c_word_end,
  mkFb 3 6 c_read_arguments,
  mkFb 4 9 c_read_part,
  mkFb 3 4 c_read_whole,
  mkFb 3 6 c_read_equation,
  mkFb 2 6 c_read_literal,
  mkFb 2 7 c__law_word,
  mkFb 1 5 c__law_table,
  mkFb 2 3 c__law_symbol_text,
  mkFb 2 4 c__law_text,
  mkFb 2 3 c__law_literal_text]
end Zi
set_option maxRecDepth 100000
set_option maxHeartbeats 1000000
namespace Zi
open PySem PySem.Calls PyProof.Rows PyProof.V PySem.Spec PySem.W
open PySem.Sem (wp)
/-- a zip of two tuples on its way; S: the list that takes what it gives -/
structure ZSt (h : Heap) (z TI TO i1 i2 a b S : Addr) (xs ys : Array Value) (i : Nat) : Prop where
  D : ZipApart z TI TO i1 i2 a b
  pr : IsPair h TI (.ref i1) (.ref i2)
  h1 : h.IsTupleIter i1 a i
  h2 : h.IsTupleIter i2 b i
  l1 : h.IsTuple a xs
  l2 : h.IsTuple b ys
  st : (IsZip h z TI TO .none ∧ ∃ u v, IsPair h TO u v) ∨ ∃ T f oT, IsZipHeld h z TI TO T f ∧ h.get? T = some oT ∧ T ≠ S ∧ T ≠ z ∧ T ≠ TO ∧ T ≠ i1 ∧ T ≠ i2
section
variable {prog : Program} {w : World} {A : Around} {E : Value → Shared → Prop} {s : Shared} {z TI TO i1 i2 a b S : Addr} {xs ys : Array Value} {i : Nat}
theorem ZSt.keep {h h' : Heap} (st : ZSt h z TI TO i1 i2 a b S xs ys i) (k : ∀ c o, c ≠ S → h.get? c = some o → h'.get? c = some o) (n1 : TI ≠ S) (n2 : i1 ≠ S) (n3 : i2 ≠ S) (n4 : a ≠ S) (n5 : b ≠ S) (n6 : z ≠ S) (n7 : TO ≠ S) : ZSt h' z TI TO i1 i2 a b S xs ys i := by
  refine ⟨st.D, k _ _ n1 st.pr, st.h1.at fun o e => k _ o n2 e, st.h2.at fun o e => k _ o n3 e, st.l1.at fun o e => k _ o n4 e, st.l2.at fun o e => k _ o n5 e, ?_⟩
  rcases st.st with ⟨q, u, v, p⟩ | ⟨T, f, oT, q, hT, t0, t⟩
  · exact .inl ⟨k _ _ n6 q, u, v, k _ _ n7 p⟩
  · exact .inr ⟨T, f, oT, k _ _ n6 q, k _ _ t0 hT, t0, t⟩
end
end Zi
namespace Zi
open PySem PySem.Spec PyProof.Rows L2
/-- new pairs, one after another -/
inductive PrsH : Hp → List (V × V) → List Addr → Hp → Prop
  | nil {H : Hp} : PrsH H [] [] H
  | cons {H H' : Hp} {a : Addr} {x y : V} {ps : List (V × V)} {as : List Addr} : H a = none → PrsH (upd H a (.tup [x, y])) ps as H' → PrsH H ((x, y) :: ps) (a :: as) H'
theorem PrsH.ext {ρ : List Addr} {H H' : Hp} {ps : List (V × V)} {as : List Addr} (h : PrsH H ps as H') : Ext ρ H ρ H' := by
  induction h with
  | nil => exact Ext.refl
  | cons h _ ih => exact (Ext.new h).trans ih
theorem PrsH.back {H H' : Hp} {ps : List (V × V)} {as : List Addr} (h : PrsH H ps as H') {p : Addr} (hp : H' p = none) : H p = none := by
  induction h with
  | nil => exact hp
  | @cons H H' a x y ps as h hr ih =>
    have := ih hp
    by_cases e : p = a
    · rw [e, upd_same] at this; cases this
    · rw [upd_ne e] at this; exact this
theorem PrsH.rds {g : Wr} {ρ : List Addr} {S : Sto} : ∀ {xs ys : List V} {ds es : List D} {H H' : Hp} {as : List Addr}, PrsH H (xs.zip ys) as H' → Sim g ρ S H → RDs g ρ H ds xs → RDs g ρ H es ys → RDs g ρ H' ((ds.zip es).map fun p => D.tup [p.1, p.2]) (as.map V.ref) := by
  intro xs
  induction xs with
  | nil =>
    intro ys ds es H H' as h s r1 r2
    cases r1
    cases h
    exact .nil
  | cons x xs ih =>
    intro ys ds es H H' as h s r1 r2
    cases r1 with
    | cons rx r1 =>
      cases ys with
      | nil =>
        cases r2
        cases h
        exact .nil
      | cons y ys =>
        cases r2 with
        | cons ry r2 =>
          cases h with
          | @cons _ _ a _ _ _ as ha hr =>
            have e0 : Ext ρ H ρ (upd H a (.tup [x, y])) := Ext.new ha
            have s1 := s.other (o := .tup [x, y]) (s.fresh ha) ha
            have e1 : Ext ρ (upd H a (.tup [x, y])) ρ H' := hr.ext
            exact .cons (.tup (e1.fr a _ (s.fresh ha) upd_same).1 (e1.rds s1 (e0.rds s (.cons rx (.cons ry .nil))))) (ih hr s1 (e0.rds s r1) (e0.rds s r2))
/-- list(zip(a, b)), a and b tuples -/
def mLZip (a b : M) : MA := fun l S => (a l S).bind fun p => match p.1 with
  | .tup xs => (b l p.2).bind fun q => match q.1 with
    | .tup ys => some ((xs.zip ys).map fun p => D.tup [p.1, p.2], q.2)
    | _ => none
  | _ => none
end Zi
set_option maxRecDepth 100000
namespace Zi
open PySem L2
/-- 5000 0 pairs, 1 waiting, 2 found, 3 first, 4 second, 5 step, 6 one, 7 other -/
noncomputable def c_unify (G : GF) : MS := (mSeq (mSet 1 (mAlloc (mLisc (oD (mVar 0)))))
    (mSeq (mSet 2 (mDnewK))
    (mSeq (mWhile (mTru (mVar 1)) (mSeq (mAsg (mgTup 2 (mgCons (mgN 3) (mgCons (mgN 4) mgNil))) (mPop (mVar 1)))
    (mSeq (mIfS (mBool (mOpO fEq (oD (mVar 3)) (oD (mVar 4)))) mCont mSkip)
    (mSeq (mIfS (mAndT (mTru (mCall (G 3) (mCons (mVar 4) mNil))) (mNotT (mTru (mCall (G 3) (mCons (mVar 3) mNil))))) (mPar 3 4 (mCons (mVar 4) (mCons (mVar 3) mNil))) mSkip)
    (mIfS (mTru (mCall (G 3) (mCons (mVar 3) mNil))) (mSeq (mIfS (mBool (mOp fGt (mCall (G 6) (mCons (mVar 4) (mCons (mVar 3) mNil))) (mC (.int 0)))) (mRet (mC .non)) mSkip)
    (mSeq (mSet 5 (mDisp1 (mVar 3) (mVar 4)))
    (mSeq (mSetL 1 (mComp (mSrc (oD (mVar 1))) [6, 7] (mgTup 2 (mgCons (mgN 6) (mgCons (mgN 7) mgNil))) mYes (mTup (mCons (mCall (G 1000) (mCons (mVar 6) (mCons (mVar 5) mNil))) (mCons (mCall (G 1000) (mCons (mVar 7) (mCons (mVar 5) mNil))) mNil)))))
    (mSet 2 (mCall (G 2015) (mCons (mVar 2) (mCons (mVar 3) (mCons (mVar 4) mNil)))))))) (mIfS (mOrT (mBool (mOpO fNe (oD (mOp ixF (mVar 3) (mC (.int 0)))) (oD (mOp ixF (mVar 4) (mC (.int 0)))))) (mBool (mOpO fNe (oD (mFn1 fLen (oD (mOp ixF (mVar 3) (mC (.int 1)))))) (oD (mFn1 fLen (oD (mOp ixF (mVar 4) (mC (.int 1))))))))) (mRet (mC .non)) (mSet 1 (mAlloc (mCatL (oD (mVar 1)) (oN (mLZip (mOp ixF (mVar 3) (mC (.int 1))) (mOp ixF (mVar 4) (mC (.int 1))))))))))))))
    (mRet (mVar 2)))))
noncomputable def lZl5 : List Fb := [mkFb 1 8 c_unify]
end Zi
set_option maxRecDepth 100000
namespace Zi
open PySem L2
/-- 6000 0 listed, 1 one, 2 equal, 3 k, 4 element -/
noncomputable def c_index_of (nm : NM) (G : GF) : MS := (mSeq (mFor (mEnum (oD (mVar 0))) (mgTup 2 (mgCons (mgN 3) (mgCons (mgN 4) mgNil))) (mIfS (mTru (mCallV nm.known nm.fn G 2 (mCons (mVar 4) (mCons (mVar 1) mNil)))) (mRet (mVar 3)) mSkip))
    (mRet (mC .non)))
/-- 6001 0 first, 1 second, 2 equal, 3 bigger, 4 rest, 5 left, 6 one, 7 k, 8 element -/
noncomputable def c_is_more (nm : NM) (G : GF) : MS := (mSeq (mSet 4 (mAlloc (mLisc (oD (mVar 1)))))
    (mSeq (mSet 5 (mAlloc (mLst mNil)))
    (mSeq (mFor (mSrc (oD (mVar 0))) (mgN 6) (mSeq (mSet 7 (mCall (G 6000) (mCons (mVar 4) (mCons (mVar 6) (mCons (mVar 2) mNil)))))
    (mIfS (mBool (mIsN (mVar 7))) (mDrop (mApp (mVar 5) (mVar 6))) (mSet 4 (mAlloc (mCatL (mSl (mVar 4) mNoI (mSoI (mVar 7))) (mSl (mVar 4) (mSoI (mOp fAdd (mVar 7) (mC (.int 1)))) mNoI)))))))
    (mSeq (mIfS (mNotT (mTru (mVar 5))) (mRet (mC (.bl false))) mSkip)
    (mSeq (mFor (mSrc (oD (mVar 4))) (mgN 8) (mIfS (mNotT (mTruO (oN (mComp (mSrc (oD (mVar 5))) [6] (mgN 6) (mTru (mCallV nm.known nm.fn G 3 (mCons (mVar 6) (mCons (mVar 8) mNil)))) (mVar 6))))) (mRet (mC (.bl false))) mSkip))
    (mRet (mC (.bl true))))))))
/-- 6002 0 first, 1 second -/
def c_equal_terms (G : GF) : MS := (mRet (mOpO fEq (oD (mVar 0)) (oD (mVar 1))))
/-- 6003 0 literal -/
def c_sides_of (G : GF) : MS := (mSeq (mIfS (mTru (mOp ixF (mVar 0) (mC (.int 0)))) (mRet (mAlloc (mLst (mCons (mOp ixF (mVar 0) (mC (.int 1))) (mCons (mOp ixF (mVar 0) (mC (.int 2))) mNil))))) mSkip)
    (mRet (mAlloc (mLst (mCons (mOp ixF (mVar 0) (mC (.int 1))) (mCons (mOp ixF (mVar 0) (mC (.int 1))) (mCons (mOp ixF (mVar 0) (mC (.int 2))) (mCons (mOp ixF (mVar 0) (mC (.int 2))) mNil))))))))
/-- 6004 0 weights, 1 first, 2 second -/
noncomputable def c_literal_greater (nm : NM) (G : GF) : MS := (mRet (mCallLam (G 6001) (mCons (mCall (G 6003) (mCons (mVar 1) mNil)) (mCons (mCall (G 6003) (mCons (mVar 2) mNil)) (mCons (mC (.fn "equal_terms")) mNil))) nm.l0 0 0))
/-- 6005 0 weights, 1 first, 2 second -/
noncomputable def c_clause_greater (nm : NM) (G : GF) : MS := (mRet (mCallLam (G 6001) (mCons (mAlloc (mLisc (oD (mVar 1)))) (mCons (mAlloc (mLisc (oD (mVar 2)))) (mCons (mC (.fn "same")) mNil))) nm.l1 1 0))
/-- 6006 0 weights, 1 clause, 2 k, 3 literal -/
noncomputable def c_is_greatest (G : GF) : MS := (mSeq (mFor (mSrc (oD (mVar 1))) (mgN 3) (mIfS (mTru (mCall (G 6004) (mCons (mVar 0) (mCons (mVar 3) (mCons (mOp ixF (mVar 1) (mVar 2)) mNil))))) (mRet (mC (.bl false))) mSkip))
    (mRet (mC (.bl true))))
/-- 6007 0 _law_first, 1 _law_second -/
def c__law_same_2 (G : GF) : MS := (mSeq (mIfS (mBool (mOpO fNe (oD (mOp ixF (mVar 0) (mC (.int 0)))) (oD (mOp ixF (mVar 1) (mC (.int 0)))))) (mRet (mC (.bl false))) mSkip)
    (mSeq (mIfS (mAndT (mBool (mOpO fEq (oD (mOp ixF (mVar 0) (mC (.int 1)))) (oD (mOp ixF (mVar 1) (mC (.int 1)))))) (mBool (mOpO fEq (oD (mOp ixF (mVar 0) (mC (.int 2)))) (oD (mOp ixF (mVar 1) (mC (.int 2))))))) (mRet (mC (.bl true))) mSkip)
    (mRet (mAnd (mOpO fEq (oD (mOp ixF (mVar 0) (mC (.int 1)))) (oD (mOp ixF (mVar 1) (mC (.int 2))))) (mOpO fEq (oD (mOp ixF (mVar 0) (mC (.int 2)))) (oD (mOp ixF (mVar 1) (mC (.int 1)))))))))
/-- 6008 lambda of literal_greater: 0 one, 1 other, 2 weights -/
def ce_lam_literal_greater (G : GF) : M := (mCall (G 2007) (mCons (mVar 2) (mCons (mVar 0) (mCons (mVar 1) mNil))))
def c_lam_literal_greater (G : GF) : MS := mRet (ce_lam_literal_greater G)
/-- 6009 lambda of clause_greater: 0 one, 1 other, 2 weights -/
def ce_lam_clause_greater (G : GF) : M := (mCall (G 6004) (mCons (mVar 2) (mCons (mVar 0) (mCons (mVar 1) mNil))))
def c_lam_clause_greater (G : GF) : MS := mRet (ce_lam_clause_greater G)
noncomputable def lZl6 (nm : NM) : List Fb := [mkFb 3 5 (c_index_of nm),
  mkFb 4 9 (c_is_more nm),
  mkFb 2 2 c_equal_terms,
  mkFb 1 1 c_sides_of,
  mkFb 3 3 (c_literal_greater nm),
  mkFb 3 3 (c_clause_greater nm),
  mkFb 3 4 c_is_greatest,
  mkFb 2 2 c__law_same_2,
  mkFb 3 3 c_lam_literal_greater,
  mkFb 3 3 c_lam_clause_greater]
end Zi
set_option maxRecDepth 100000
namespace Zi
open PySem L2
/-- 4000 0 clause, 1 k, 2 literal, 3 later -/
noncomputable def c_is_needed (G : GF) : MS := (mSeq (mSet 2 (mOp ixF (mVar 0) (mVar 1)))
    (mSeq (mIfS (mAndT (mNotT (mTru (mOp ixF (mVar 2) (mC (.int 0))))) (mBool (mOpO fEq (oD (mOp ixF (mVar 2) (mC (.int 1)))) (oD (mOp ixF (mVar 2) (mC (.int 2))))))) (mRet (mC (.bl false))) mSkip)
    (mSeq (mFor (mSrc (mSl (mVar 0) (mSoI (mOp fAdd (mVar 1) (mC (.int 1)))) mNoI)) (mgN 3) (mIfS (mTru (mCall (G 34) (mCons (mVar 2) (mCons (mVar 3) mNil)))) (mRet (mC (.bl false))) mSkip))
    (mRet (mC (.bl true))))))
/-- 4001 0 clause, 1 k, 2 literal -/
noncomputable def c_cleaned (G : GF) : MS := (mRet (mFn1 fTupc (oN (mComp (mEnum (oD (mVar 0))) [1, 2] (mgTup 2 (mgCons (mgN 1) (mgCons (mgN 2) mgNil))) (mTru (mCall (G 4000) (mCons (mVar 0) (mCons (mVar 1) mNil)))) (mVar 2)))))
/-- 4002 0 lines, 1 number, 2 substitution, 3 variable -/
noncomputable def c_line_by (G : GF) : MS := (mSeq (mIfS (mOrT (mBool (mOp fLt (mVar 1) (mC (.int 0)))) (mBool (mOp fGe (mVar 1) (mFn1 fLen (oD (mVar 0)))))) (mRet (mC .non)) mSkip)
    (mSeq (mIfS (mNotT (mTru (mFn1 fAll (oN (mLockA 2 (mComp (mKeys (mVar 2)) [3] (mgN 3) mYes (mCall (G 20) (mCons (mOp ixX (mVar 2) (mVar 3)) mNil)))))))) (mRet (mC .non)) mSkip)
    (mRet (mCall (G 1002) (mCons (mOp ixF (mVar 0) (mVar 1)) (mCons (mVar 2) mNil))))))
/-- 4003 0 clause, 1 index -/
def c_literal_at (G : GF) : MS := (mSeq (mIfS (mOrT (mBool (mIsN (mVar 0))) (mOrT (mBool (mOp fLt (mVar 1) (mC (.int 0)))) (mBool (mOp fGe (mVar 1) (mFn1 fLen (oD (mVar 0))))))) (mRet (mC .non)) mSkip)
    (mRet (mOp ixF (mVar 0) (mVar 1))))
/-- 4004 0 clause, 1 index -/
def c_without (G : GF) : MS := (mRet (mOp fAdd (oS (mSl (mVar 0) mNoI (mSoI (mVar 1)))) (oS (mSl (mVar 0) (mSoI (mOp fAdd (mVar 1) (mC (.int 1)))) mNoI))))
/-- 4005 0 given, 1 step -/
def c_conclude_given (G : GF) : MS := (mSeq (mIfS (mOrT (mBool (mOp fNinD (mOp ixF (mVar 1) (mC (.int 1))) (mVar 0))) (mOrT (mBool (mOp fLt (mOp ixF (mVar 1) (mC (.int 2))) (mC (.int 0)))) (mBool (mOp fGe (mOp ixF (mVar 1) (mC (.int 2))) (mFn1 fLen (oD (mOp ixX (mVar 0) (mOp ixF (mVar 1) (mC (.int 1)))))))))) (mRet (mC .non)) mSkip)
    (mRet (mOp ixF (mOp ixX (mVar 0) (mOp ixF (mVar 1) (mC (.int 1)))) (mOp ixF (mVar 1) (mC (.int 2))))))
/-- 4006 0 lines, 1 step, 2 into, 3 side_index, 4 place, 5 by, 6 by_side, 7 clause, 8 other, 9 literal, 10 equation, 11 term, 12 changed -/
def c_conclude_superpose (G : GF) : MS := (mSeq (mAsg (mgTup 5 (mgCons (mgN 2) (mgCons (mgN 3) (mgCons (mgN 4) (mgCons (mgN 5) (mgCons (mgN 6) mgNil)))))) (mTup (mCons (mOp ixF (mVar 1) (mC (.int 3))) (mCons (mOp ixF (mVar 1) (mC (.int 4))) (mCons (mOp ixF (mVar 1) (mC (.int 5))) (mCons (mOp ixF (mVar 1) (mC (.int 8))) (mCons (mOp ixF (mVar 1) (mC (.int 9))) mNil)))))))
    (mSeq (mSet 7 (mCall (G 4002) (mCons (mVar 0) (mCons (mOp ixF (mVar 1) (mC (.int 1))) (mCons (mOp ixF (mVar 1) (mC (.int 2))) mNil)))))
    (mSeq (mSet 8 (mCall (G 4002) (mCons (mVar 0) (mCons (mOp ixF (mVar 1) (mC (.int 6))) (mCons (mOp ixF (mVar 1) (mC (.int 7))) mNil)))))
    (mSeq (mSet 9 (mCall (G 4003) (mCons (mVar 7) (mCons (mVar 2) mNil))))
    (mSeq (mSet 10 (mCall (G 4003) (mCons (mVar 8) (mCons (mVar 5) mNil))))
    (mSeq (mIfS (mOrT (mBool (mIsN (mVar 9))) (mOrT (mBool (mIsN (mVar 10))) (mNotT (mTru (mOp ixF (mVar 10) (mC (.int 0))))))) (mRet (mC .non)) mSkip)
    (mSeq (mIfS (mBool (mOpO fNe (oD (mCall (G 19) (mCons (mOp ixF (mVar 10) (mC (.int 1))) mNil))) (oD (mCall (G 19) (mCons (mOp ixF (mVar 10) (mC (.int 2))) mNil))))) (mRet (mC .non)) mSkip)
    (mSeq (mSet 11 (mCall (G 31) (mCons (mVar 9) (mCons (mVar 3) mNil))))
    (mSeq (mIfS (mOrT (mBool (mIsN (mCall (G 26) (mCons (mVar 11) (mCons (mVar 4) mNil))))) (mBool (mOpO fNe (oD (mCall (G 26) (mCons (mVar 11) (mCons (mVar 4) mNil)))) (oD (mCall (G 31) (mCons (mVar 10) (mCons (mVar 6) mNil))))))) (mRet (mC .non)) mSkip)
    (mSeq (mSet 12 (mCall (G 32) (mCons (mVar 9) (mCons (mVar 3) (mCons (mCall (G 30) (mCons (mVar 11) (mCons (mVar 4) (mCons (mCall (G 31) (mCons (mVar 10) (mCons (mOp fSub (mC (.int 1)) (mVar 6)) mNil))) mNil)))) mNil)))))
    (mRet (mOp fAdd (mOp fAdd (mOp fAdd (oS (mSl (mVar 7) mNoI (mSoI (mVar 2)))) (mTup (mCons (mVar 12) mNil))) (oS (mSl (mVar 7) (mSoI (mOp fAdd (mVar 2) (mC (.int 1)))) mNoI))) (mCall (G 4004) (mCons (mVar 8) (mCons (mVar 5) mNil)))))))))))))))
/-- 4007 0 lines, 1 step, 2 clause, 3 literal -/
def c_conclude_resolve (G : GF) : MS := (mSeq (mSet 2 (mCall (G 4002) (mCons (mVar 0) (mCons (mOp ixF (mVar 1) (mC (.int 1))) (mCons (mOp ixF (mVar 1) (mC (.int 2))) mNil)))))
    (mSeq (mSet 3 (mCall (G 4003) (mCons (mVar 2) (mCons (mOp ixF (mVar 1) (mC (.int 3))) mNil))))
    (mSeq (mIfS (mOrT (mBool (mIsN (mVar 3))) (mOrT (mTru (mOp ixF (mVar 3) (mC (.int 0)))) (mBool (mOpO fNe (oD (mOp ixF (mVar 3) (mC (.int 1)))) (oD (mOp ixF (mVar 3) (mC (.int 2)))))))) (mRet (mC .non)) mSkip)
    (mRet (mCall (G 4004) (mCons (mVar 2) (mCons (mOp ixF (mVar 1) (mC (.int 3))) mNil)))))))
/-- 4008 0 lines, 1 step, 2 clause, 3 first, 4 second, 5 left, 6 right -/
def c_conclude_factor (G : GF) : MS := (mSeq (mSet 2 (mCall (G 4002) (mCons (mVar 0) (mCons (mOp ixF (mVar 1) (mC (.int 1))) (mCons (mOp ixF (mVar 1) (mC (.int 2))) mNil)))))
    (mSeq (mSet 3 (mCall (G 4003) (mCons (mVar 2) (mCons (mOp ixF (mVar 1) (mC (.int 3))) mNil))))
    (mSeq (mSet 4 (mCall (G 4003) (mCons (mVar 2) (mCons (mOp ixF (mVar 1) (mC (.int 5))) mNil))))
    (mSeq (mIfS (mOrT (mBool (mIsN (mVar 3))) (mOrT (mBool (mIsN (mVar 4))) (mOrT (mBool (mOpO fEq (oD (mOp ixF (mVar 1) (mC (.int 3)))) (oD (mOp ixF (mVar 1) (mC (.int 5)))))) (mOrT (mNotT (mTru (mOp ixF (mVar 3) (mC (.int 0))))) (mNotT (mTru (mOp ixF (mVar 4) (mC (.int 0))))))))) (mRet (mC .non)) mSkip)
    (mSeq (mIfS (mBool (mOpO fNe (oD (mCall (G 31) (mCons (mVar 3) (mCons (mOp ixF (mVar 1) (mC (.int 4))) mNil)))) (oD (mCall (G 31) (mCons (mVar 4) (mCons (mOp ixF (mVar 1) (mC (.int 6))) mNil)))))) (mRet (mC .non)) mSkip)
    (mSeq (mSet 5 (mCall (G 31) (mCons (mVar 3) (mCons (mOp fSub (mC (.int 1)) (mOp ixF (mVar 1) (mC (.int 4)))) mNil))))
    (mSeq (mSet 6 (mCall (G 31) (mCons (mVar 4) (mCons (mOp fSub (mC (.int 1)) (mOp ixF (mVar 1) (mC (.int 6)))) mNil))))
    (mSeq (mIfS (mBool (mOpO fNe (oD (mCall (G 19) (mCons (mVar 5) mNil))) (oD (mCall (G 19) (mCons (mVar 6) mNil))))) (mRet (mC .non)) mSkip)
    (mRet (mOp fAdd (mOp fAdd (oS (mSl (mVar 2) mNoI (mSoI (mOp ixF (mVar 1) (mC (.int 3)))))) (mTup (mCons (mTup (mCons (mC (.bl false)) (mCons (mVar 5) (mCons (mVar 6) mNil)))) mNil))) (oS (mSl (mVar 2) (mSoI (mOp fAdd (mOp ixF (mVar 1) (mC (.int 3))) (mC (.int 1)))) mNoI))))))))))))
/-- 4009 0 given, 1 lines, 2 step, 3 clause -/
def c_conclude_unchecked (G : GF) : MS := (mSeq (mIfS (mBool (mOpO fEq (oD (mOp ixF (mVar 2) (mC (.int 0)))) (oD (mC (.str (Str.ofString "given")))))) (mRet (mCall (G 4005) (mCons (mVar 0) (mCons (mVar 2) mNil)))) mSkip)
    (mSeq (mIfS (mBool (mOpO fEq (oD (mOp ixF (mVar 2) (mC (.int 0)))) (oD (mC (.str (Str.ofString "superpose")))))) (mRet (mCall (G 4006) (mCons (mVar 1) (mCons (mVar 2) mNil)))) mSkip)
    (mSeq (mIfS (mBool (mOpO fEq (oD (mOp ixF (mVar 2) (mC (.int 0)))) (oD (mC (.str (Str.ofString "resolve")))))) (mRet (mCall (G 4007) (mCons (mVar 1) (mCons (mVar 2) mNil)))) mSkip)
    (mSeq (mIfS (mBool (mOpO fEq (oD (mOp ixF (mVar 2) (mC (.int 0)))) (oD (mC (.str (Str.ofString "factor")))))) (mRet (mCall (G 4008) (mCons (mVar 1) (mCons (mVar 2) mNil)))) mSkip)
    (mSeq (mIfS (mBool (mOpO fEq (oD (mOp ixF (mVar 2) (mC (.int 0)))) (oD (mC (.str (Str.ofString "instance")))))) (mRet (mCall (G 4002) (mCons (mVar 1) (mCons (mOp ixF (mVar 2) (mC (.int 1))) (mCons (mOp ixF (mVar 2) (mC (.int 2))) mNil))))) mSkip)
    (mSeq (mSet 3 (mCall (G 4002) (mCons (mVar 1) (mCons (mOp ixF (mVar 2) (mC (.int 1))) (mCons (mDnewK) mNil)))))
    (mSeq (mIfS (mBool (mIsN (mVar 3))) (mRet (mC .non)) mSkip)
    (mRet (mCall (G 4001) (mCons (mVar 3) mNil))))))))))
/-- 4010 0 given, 1 lines, 2 step, 3 line -/
def c_conclude (G : GF) : MS := (mSeq (mSet 3 (mCall (G 4009) (mCons (mVar 0) (mCons (mVar 1) (mCons (mVar 2) mNil)))))
    (mSeq (mIfS (mOrT (mBool (mIsN (mVar 3))) (mNotT (mTru (mCall (G 36) (mCons (mVar 3) mNil))))) (mRet (mC .non)) mSkip)
    (mRet (mVar 3))))
/-- 4011 0 _law_state_here, 1 _law_depth, 2 _law_variables, 3 _law_kind -/
def c__law_term_2 (G : GF) : MS := (mSeq (mSet 3 (mCall (G 3001) (mCons (mVar 0) (mCons (mC (.int 5)) mNil))))
    (mSeq (mIfS (mAndT (mBool (mOp fLt (mVar 3) (mC (.int 2)))) (mBool (mOp fGt (mVar 2) (mC (.int 0))))) (mRet (mCall (G 3001) (mCons (mVar 0) (mCons (mVar 2) mNil)))) mSkip)
    (mSeq (mIfS (mAndT (mBool (mOpO fEq (oD (mVar 3)) (oD (mC (.int 4))))) (mBool (mOp fGt (mVar 1) (mC (.int 0))))) (mRet (mTup (mCons (mTup (mCons (mC (.int 2)) (mCons (mC (.int 3)) (mCons (mC (.int 0)) mNil)))) (mCons (mTup (mCons (mCall (G 4011) (mCons (mVar 0) (mCons (mOp fSub (mVar 1) (mC (.int 1))) (mCons (mVar 2) mNil)))) (mCons (mCall (G 4011) (mCons (mVar 0) (mCons (mOp fSub (mVar 1) (mC (.int 1))) (mCons (mVar 2) mNil)))) mNil))) mNil)))) mSkip)
    (mSeq (mIfS (mAndT (mBool (mOp fGt (mVar 3) (mC (.int 1)))) (mBool (mOp fGt (mVar 1) (mC (.int 0))))) (mRet (mTup (mCons (mTup (mCons (mC (.int 2)) (mCons (mC (.int 2)) (mCons (mC (.int 0)) mNil)))) (mCons (mTup (mCons (mCall (G 4011) (mCons (mVar 0) (mCons (mOp fSub (mVar 1) (mC (.int 1))) (mCons (mVar 2) mNil)))) mNil)) mNil)))) mSkip)
    (mRet (mTup (mCons (mTup (mCons (mC (.int 2)) (mCons (mCall (G 3001) (mCons (mVar 0) (mCons (mC (.int 2)) mNil))) (mCons (mC (.int 0)) mNil)))) (mCons (mTup mNil) mNil))))))))
/-- 4012 0 _law_state_here, 1 _law_depth, 2 _law_variables, 3 _law_positive, 4 _law_kind -/
def c__law_literal_2 (G : GF) : MS := (mSeq (mSet 3 (mOpO fEq (oD (mCall (G 3001) (mCons (mVar 0) (mCons (mC (.int 2)) mNil)))) (oD (mC (.int 0)))))
    (mSeq (mSet 4 (mCall (G 3001) (mCons (mVar 0) (mCons (mC (.int 4)) mNil))))
    (mSeq (mIfS (mBool (mOpO fEq (oD (mVar 4)) (oD (mC (.int 0))))) (mRet (mTup (mCons (mVar 3) (mCons (mCall (G 4011) (mCons (mVar 0) (mCons (mVar 1) (mCons (mVar 2) mNil)))) (mCons (mCall (G 4011) (mCons (mVar 0) (mCons (mVar 1) (mCons (mVar 2) mNil)))) mNil))))) mSkip)
    (mSeq (mIfS (mBool (mOpO fEq (oD (mVar 4)) (oD (mC (.int 1))))) (mRet (mTup (mCons (mVar 3) (mCons (mTup (mCons (mTup (mCons (mC (.int 1)) (mCons (mC (.int 4)) (mCons (mC (.int 0)) mNil)))) (mCons (mTup mNil) mNil))) (mCons (mTup (mCons (mTup (mCons (mC (.int 0)) (mCons (mC (.int 0)) (mCons (mC (.int 0)) mNil)))) (mCons (mTup mNil) mNil))) mNil))))) mSkip)
    (mRet (mTup (mCons (mVar 3) (mCons (mTup (mCons (mTup (mCons (mC (.int 1)) (mCons (mC (.int 5)) (mCons (mC (.int 0)) mNil)))) (mCons (mTup (mCons (mCall (G 4011) (mCons (mVar 0) (mCons (mVar 1) (mCons (mVar 2) mNil)))) mNil)) mNil))) (mCons (mTup (mCons (mTup (mCons (mC (.int 0)) (mCons (mC (.int 0)) (mCons (mC (.int 0)) mNil)))) (mCons (mTup mNil) mNil))) mNil)))))))))
/-- 4013 0 _law_state_here, 1 _law_most, 2 _law_depth, 3 _law_variables, 4 _law_literals, 5 _law_k -/
noncomputable def c__law_clause_2 (G : GF) : MS := (mSeq (mSet 4 (mAlloc (mLst mNil)))
    (mSeq (mFor (mRng1 (mCall (G 3001) (mCons (mVar 0) (mCons (mOp fAdd (mVar 1) (mC (.int 1))) mNil)))) (mgN 5) (mDrop (mApp (mVar 4) (mCall (G 4012) (mCons (mVar 0) (mCons (mVar 2) (mCons (mVar 3) mNil)))))))
    (mRet (mFn1 fTupc (oD (mVar 4))))))
/-- 4014 0 _law_term_here, 1 _law_substitution_here, 2 _law_argument -/
noncomputable def c__law_put_2 (G : GF) : MS := (mSeq (mIfS (mTru (mIsI "int" (oD (mVar 0)))) (mRet (mGet2 (mVar 1) (mVar 0) (mVar 0))) mSkip)
    (mRet (mTup (mCons (mOp ixF (mVar 0) (mC (.int 0))) (mCons (mFn1 fTupc (oN (mComp (mSrc (oD (mOp ixF (mVar 0) (mC (.int 1))))) [2] (mgN 2) mYes (mCall (G 4014) (mCons (mVar 2) (mCons (mVar 1) mNil)))))) mNil)))))
/-- 4015 0 _law_clause_here, 1 _law_substitution_here, 2 _law_literals, 3 _law_literal_here -/
noncomputable def c__law_put_clause_2 (G : GF) : MS := (mSeq (mSet 2 (mAlloc (mLst mNil)))
    (mSeq (mFor (mSrc (oD (mVar 0))) (mgN 3) (mDrop (mApp (mVar 2) (mTup (mCons (mOp ixF (mVar 3) (mC (.int 0))) (mCons (mCall (G 4014) (mCons (mOp ixF (mVar 3) (mC (.int 1))) (mCons (mVar 1) mNil))) (mCons (mCall (G 4014) (mCons (mOp ixF (mVar 3) (mC (.int 2))) (mCons (mVar 1) mNil))) mNil)))))))
    (mRet (mFn1 fTupc (oD (mVar 2))))))
/-- 4016 0 _law_term_here, 1 _law_place, 2 _law_found, 3 _law_k -/
noncomputable def c__law_places_2 (G : GF) : MS := (mSeq (mDrop (mApp (mVar 2) (mVar 1)))
    (mIfS (mNotT (mTru (mIsI "int" (oD (mVar 0))))) (mFor (mRng1 (mFn1 fLen (oD (mOp ixF (mVar 0) (mC (.int 1)))))) (mgN 3) (mDrop (mCall (G 4016) (mCons (mOp ixF (mOp ixF (mVar 0) (mC (.int 1))) (mVar 3)) (mCons (mOp fAdd (mVar 1) (mTup (mCons (mVar 3) mNil))) (mCons (mVar 2) mNil)))))) mSkip))
/-- 4017 0 _law_state_here, 1 _law_variables, 2 _law_substitution_here, 3 _law_k -/
noncomputable def c__law_substitution_2 (G : GF) : MS := (mSeq (mSet 2 (mDnewK))
    (mSeq (mFor (mRng1 (mCall (G 3001) (mCons (mVar 0) (mCons (mC (.int 3)) mNil)))) (mgN 3) (mIfS (mBool (mOpO fEq (oD (mCall (G 3001) (mCons (mVar 0) (mCons (mC (.int 12)) mNil)))) (oD (mC (.int 0))))) (mSetD (mVar 2) (mCall (G 3001) (mCons (mVar 0) (mCons (mVar 1) mNil))) (mTup (mCons (mTup (mCons (mC (.int 1)) (mCons (mC (.int 4)) (mCons (mC (.int 0)) mNil)))) (mCons (mTup mNil) mNil)))) (mSetD (mVar 2) (mCall (G 3001) (mCons (mVar 0) (mCons (mVar 1) mNil))) (mCall (G 4011) (mCons (mVar 0) (mCons (mC (.int 1)) (mCons (mVar 1) mNil)))))))
    (mRet (mVar 2))))
/-- 4018 0 _law_state_here, 1 _law_kind, 2 _law_term_here, 3 _law_atom_here -/
def c__law_rich_clause (G : GF) : MS := (mSeq (mSet 1 (mCall (G 3001) (mCons (mVar 0) (mCons (mC (.int 5)) mNil))))
    (mSeq (mIfS (mBool (mOpO fEq (oD (mVar 1)) (oD (mC (.int 0))))) (mRet (mTup (mCons (mTup (mCons (mC (.bl true)) (mCons (mCall (G 4011) (mCons (mVar 0) (mCons (mC (.int 1)) (mCons (mC (.int 2)) mNil)))) (mCons (mCall (G 4011) (mCons (mVar 0) (mCons (mC (.int 1)) (mCons (mC (.int 2)) mNil)))) mNil)))) mNil))) mSkip)
    (mSeq (mIfS (mBool (mOpO fEq (oD (mVar 1)) (oD (mC (.int 1))))) (mSeq (mSet 2 (mCall (G 4011) (mCons (mVar 0) (mCons (mC (.int 1)) (mCons (mC (.int 2)) mNil)))))
    (mRet (mTup (mCons (mTup (mCons (mC (.bl false)) (mCons (mVar 2) (mCons (mVar 2) mNil)))) (mCons (mTup (mCons (mC (.bl true)) (mCons (mTup (mCons (mTup (mCons (mC (.int 1)) (mCons (mC (.int 5)) (mCons (mC (.int 0)) mNil)))) (mCons (mTup (mCons (mVar 2) mNil)) mNil))) (mCons (mTup (mCons (mTup (mCons (mC (.int 0)) (mCons (mC (.int 0)) (mCons (mC (.int 0)) mNil)))) (mCons (mTup mNil) mNil))) mNil)))) mNil))))) mSkip)
    (mSeq (mIfS (mBool (mOpO fEq (oD (mVar 1)) (oD (mC (.int 2))))) (mSeq (mSet 2 (mCall (G 4011) (mCons (mVar 0) (mCons (mC (.int 1)) (mCons (mC (.int 2)) mNil)))))
    (mSeq (mSet 3 (mTup (mCons (mTup (mCons (mC (.int 1)) (mCons (mC (.int 5)) (mCons (mC (.int 0)) mNil)))) (mCons (mTup (mCons (mVar 2) mNil)) mNil))))
    (mRet (mTup (mCons (mTup (mCons (mC (.bl true)) (mCons (mVar 3) (mCons (mTup (mCons (mTup (mCons (mC (.int 0)) (mCons (mC (.int 0)) (mCons (mC (.int 0)) mNil)))) (mCons (mTup mNil) mNil))) mNil)))) (mCons (mTup (mCons (mOpO fEq (oD (mCall (G 3001) (mCons (mVar 0) (mCons (mC (.int 2)) mNil)))) (oD (mC (.int 0)))) (mCons (mVar 3) (mCons (mTup (mCons (mTup (mCons (mC (.int 0)) (mCons (mC (.int 0)) (mCons (mC (.int 0)) mNil)))) (mCons (mTup mNil) mNil))) mNil)))) mNil)))))) mSkip)
    (mRet (mCall (G 4013) (mCons (mVar 0) (mCons (mC (.int 3)) (mCons (mC (.int 1)) (mCons (mC (.int 2)) mNil))))))))))
/-- 4019 0 given, 1 steps, 2 lines, 3 step, 4 line -/
noncomputable def c_check (G : GF) : MS := (mSeq (mSet 2 (mAlloc (mLst mNil)))
    (mSeq (mFor (mSrc (oD (mVar 1))) (mgN 3) (mSeq (mSet 4 (mCall (G 4010) (mCons (mVar 0) (mCons (mVar 2) (mCons (mVar 3) mNil)))))
    (mSeq (mIfS (mBool (mIsN (mVar 4))) (mRet (mVar 2)) mSkip)
    (mDrop (mApp (mVar 2) (mVar 4))))))
    (mRet (mVar 2))))
/-- 4020 0 given, 1 steps, 2 lines -/
def c_refutes (G : GF) : MS := (mSeq (mSet 2 (mCall (G 4019) (mCons (mVar 0) (mCons (mVar 1) mNil))))
    (mRet (mAnd (mOp fGt (mFn1 fLen (oD (mVar 2))) (mC (.int 0))) (mAnd (mOpO fEq (oD (mFn1 fLen (oD (mVar 2)))) (oD (mFn1 fLen (oD (mVar 1))))) (mOpO fEq (oD (mFn1 fLen (oD (mOp ixF (mVar 2) (mNeg (mC (.int 1))))))) (oD (mC (.int 0))))))))
noncomputable def lZl4 : List Fb := [mkFb 2 4 c_is_needed,
  mkFb 1 3 c_cleaned,
  mkFb 3 4 c_line_by,
  mkFb 2 2 c_literal_at,
  mkFb 2 2 c_without,
  mkFb 2 2 c_conclude_given,
  mkFb 2 13 c_conclude_superpose,
  mkFb 2 4 c_conclude_resolve,
  mkFb 2 7 c_conclude_factor,
  mkFb 3 4 c_conclude_unchecked,
  mkFb 3 4 c_conclude,
  mkFb 3 4 c__law_term_2,
  mkFb 3 5 c__law_literal_2,
  mkFb 4 6 c__law_clause_2,
  mkFb 2 3 c__law_put_2,
  mkFb 2 4 c__law_put_clause_2,
  mkFb 3 4 c__law_places_2,
  mkFb 2 4 c__law_substitution_2,
  mkFb 1 4 c__law_rich_clause,
  mkFb 2 5 c_check,
  mkFb 2 3 c_refutes]
end Zi
set_option maxRecDepth 100000
namespace Zi
open PySem L2
/-- 7000 0 weights, 1 clause, 2 k, 3 j, 4 literal -/
noncomputable def c_is_greatest_alone (G : GF) : MS := (mSeq (mFor (mEnum (oD (mVar 1))) (mgTup 2 (mgCons (mgN 3) (mgCons (mgN 4) mgNil))) (mIfS (mAndT (mBool (mOpO fNe (oD (mVar 3)) (oD (mVar 2)))) (mTru (mCall (G 34) (mCons (mVar 4) (mCons (mOp ixF (mVar 1) (mVar 2)) mNil))))) (mRet (mC (.bl false))) mSkip))
    (mRet (mCall (G 6006) (mCons (mVar 0) (mCons (mVar 1) (mCons (mVar 2) mNil))))))
/-- 7001 0 _law_literal_here -/
def c__law_sides (G : GF) : MS := (mSeq (mIfS (mTru (mOp ixF (mVar 0) (mC (.int 0)))) (mRet (mAlloc (mLst (mCons (mOp ixF (mVar 0) (mC (.int 1))) (mCons (mOp ixF (mVar 0) (mC (.int 2))) mNil))))) mSkip)
    (mRet (mAlloc (mLst (mCons (mOp ixF (mVar 0) (mC (.int 1))) (mCons (mOp ixF (mVar 0) (mC (.int 2))) (mCons (mOp ixF (mVar 0) (mC (.int 1))) (mCons (mOp ixF (mVar 0) (mC (.int 2))) mNil))))))))
/-- 7002 0 _law_weights_here, 1 _law_first, 2 _law_second, 3 _law_variable, 4 _law_ours, 5 _law_theirs, 6 _law_one, 7 _law_other -/
noncomputable def c__law_greater_2 (G : GF) : MS := (mSeq (mIfS (mTru (mCall (G 14) (mCons (mVar 1) mNil))) (mRet (mC (.bl false))) mSkip)
    (mSeq (mFor (mSrc (oD (mCall (G 15) (mCons (mVar 2) (mCons (mAlloc (mLst mNil)) mNil))))) (mgN 3) (mIfS (mBool (mOp fGt (mCall (G 16) (mCons (mVar 2) (mCons (mVar 3) mNil))) (mCall (G 16) (mCons (mVar 1) (mCons (mVar 3) mNil))))) (mRet (mC (.bl false))) mSkip))
    (mSeq (mSet 4 (mCall (G 2004) (mCons (mVar 0) (mCons (mVar 1) mNil))))
    (mSeq (mSet 5 (mCall (G 2004) (mCons (mVar 0) (mCons (mVar 2) mNil))))
    (mSeq (mIfS (mOrT (mBool (mOpO fNe (oD (mVar 4)) (oD (mVar 5)))) (mTru (mCall (G 14) (mCons (mVar 2) mNil)))) (mRet (mOp fGt (mVar 4) (mVar 5))) mSkip)
    (mSeq (mIfS (mOrT (mNotT (mTru (mOp ixF (mVar 1) (mC (.int 1))))) (mNotT (mTru (mOp ixF (mVar 2) (mC (.int 1)))))) (mSeq (mIfS (mTru (mOp ixF (mVar 1) (mC (.int 1)))) (mRet (mC (.bl true))) mSkip)
    (mRet (mAnd (mNot (mOp ixF (mVar 2) (mC (.int 1)))) (mOp fLtT (mOp ixF (mVar 2) (mC (.int 0))) (mOp ixF (mVar 1) (mC (.int 0))))))) mSkip)
    (mSeq (mSet 6 (mTup (mCons (mOp ixF (mVar 1) (mC (.int 0))) (mCons (oS (mSl (mOp ixF (mVar 1) (mC (.int 1))) mNoI (mSoI (mNeg (mC (.int 1)))))) mNil))))
    (mSeq (mSet 7 (mTup (mCons (mOp ixF (mVar 2) (mC (.int 0))) (mCons (oS (mSl (mOp ixF (mVar 2) (mC (.int 1))) mNoI (mSoI (mNeg (mC (.int 1)))))) mNil))))
    (mSeq (mIfS (mBool (mOpO fEq (oD (mVar 6)) (oD (mVar 7)))) (mRet (mCall (G 7002) (mCons (mVar 0) (mCons (mOp ixF (mOp ixF (mVar 1) (mC (.int 1))) (mNeg (mC (.int 1)))) (mCons (mOp ixF (mOp ixF (mVar 2) (mC (.int 1))) (mNeg (mC (.int 1)))) mNil))))) mSkip)
    (mRet (mCall (G 7002) (mCons (mVar 0) (mCons (mVar 6) (mCons (mVar 7) mNil))))))))))))))
/-- 7003 0 _law_weights_here, 1 _law_first, 2 _law_second, 3 _law_ours, 4 _law_theirs, 5 _law_term_here, 6 _law_one -/
noncomputable def c__law_literal_greater (G : GF) : MS := (mSeq (mSet 3 (mCall (G 7001) (mCons (mVar 1) mNil)))
    (mSeq (mSet 4 (mCall (G 7001) (mCons (mVar 2) mNil)))
    (mSeq (mFor (mSrc (oD (mCall (G 7001) (mCons (mVar 1) mNil)))) (mgN 5) (mIfS (mBool (mOpO fIn (oD (mVar 5)) (oD (mVar 4)))) (mSeq (mDrop (mRem (mVar 4) (mVar 5)))
    (mDrop (mRem (mVar 3) (mVar 5)))) mSkip))
    (mSeq (mIfS (mNotT (mTru (mVar 3))) (mRet (mC (.bl false))) mSkip)
    (mSeq (mFor (mSrc (oD (mVar 4))) (mgN 5) (mIfS (mNotT (mTru (mFn1 fAny (oN (mComp (mSrc (oD (mVar 3))) [6] (mgN 6) mYes (mCall (G 7002) (mCons (mVar 0) (mCons (mVar 6) (mCons (mVar 5) mNil))))))))) (mRet (mC (.bl false))) mSkip))
    (mRet (mC (.bl true))))))))
/-- 7004 0 _law_weights_here, 1 _law_clause_here, 2 _law_k, 3 _law_one -/
noncomputable def c__law_is_top (G : GF) : MS := (mRet (mNot (mFn1 fAny (oN (mComp (mSrc (oD (mVar 1))) [3] (mgN 3) mYes (mCall (G 7003) (mCons (mVar 0) (mCons (mVar 3) (mCons (mOp ixF (mVar 1) (mVar 2)) mNil)))))))))
/-- 7005 0 _law_clause_here, 1 _law_k, 2 _law_j -/
noncomputable def c__law_is_alone (G : GF) : MS := (mRet (mNot (mFn1 fAny (oN (mComp (mRng1 (mFn1 fLen (oD (mVar 0)))) [2] (mgN 2) mYes (mAnd (mOpO fNe (oD (mVar 2)) (oD (mVar 1))) (mCall (G 6007) (mCons (mOp ixF (mVar 0) (mVar 2)) (mCons (mOp ixF (mVar 0) (mVar 1)) mNil)))))))))
noncomputable def lZl7 : List Fb := [mkFb 3 5 c_is_greatest_alone,
  mkFb 1 1 c__law_sides,
  mkFb 3 8 c__law_greater_2,
  mkFb 3 7 c__law_literal_greater,
  mkFb 3 4 c__law_is_top,
  mkFb 2 3 c__law_is_alone]
end Zi
set_option maxRecDepth 100000
namespace Zi
open PySem L2
/-- 8000 0 self, 1 clause, 2 literal, 3 side, 4 place, 5 equation_side, 6 substitution -/
def c_Rewriting_init (G : GF) : MS := (mSeq (mSetF ["Rewriting"] "clause" (mVar 0) (mVar 1))
    (mSeq (mSetF ["Rewriting"] "literal" (mVar 0) (mVar 2))
    (mSeq (mSetF ["Rewriting"] "side" (mVar 0) (mVar 3))
    (mSeq (mSetF ["Rewriting"] "place" (mVar 0) (mVar 4))
    (mSeq (mSetF ["Rewriting"] "equation_side" (mVar 0) (mVar 5))
    (mSetF ["Rewriting"] "substitution" (mVar 0) (mVar 6)))))))
/-- 8001 0 weights, 1 equation, 2 equation_side, 3 clause, 4 term, 5 pattern, 6 found, 7 new -/
def c_replacement (G : GF) : MS := (mSeq (mSet 5 (mOp ixF (mVar 1) (mOp fAdd (mC (.int 1)) (mVar 2))))
    (mSeq (mIfS (mBool (mOpO fNe (oD (mCall (G 19) (mCons (mVar 4) mNil))) (oD (mCall (G 19) (mCons (mVar 5) mNil))))) (mRet (mC .non)) mSkip)
    (mSeq (mSet 6 (mCall (G 2017) (mCons (mVar 5) (mCons (mVar 4) (mCons (mDnewK) mNil)))))
    (mSeq (mIfS (mBool (mIsN (mVar 6))) (mRet (mC .non)) mSkip)
    (mSeq (mSet 7 (mCall (G 1000) (mCons (mOp ixF (mVar 1) (mOp fSub (mC (.int 2)) (mVar 2))) (mCons (mVar 6) mNil))))
    (mSeq (mIfS (mNotT (mTru (mCall (G 2007) (mCons (mVar 0) (mCons (mVar 4) (mCons (mVar 7) mNil)))))) (mRet (mC .non)) mSkip)
    (mSeq (mIfS (mNotT (mTru (mCall (G 6005) (mCons (mVar 0) (mCons (mVar 3) (mCons (mTup (mCons (mTup (mCons (mC (.bl true)) (mCons (mVar 4) (mCons (mVar 7) mNil)))) mNil)) mNil)))))) (mRet (mC .non)) mSkip)
    (mRet (mTup (mCons (mVar 7) (mCons (mVar 6) mNil)))))))))))
/-- 8002 0 weights, 1 equation, 2 clause, 3 k, 4 s, 5 whole, 6 place, 7 term, 8 equation_side, 9 made, 10 literal, 11 new -/
noncomputable def c_rewritten_at (G : GF) : MS := (mSeq (mSet 5 (mOp ixF (mOp ixF (mVar 2) (mVar 3)) (mOp fAdd (mC (.int 1)) (mVar 4))))
    (mSeq (mFor (mSrc (oD (mCall (G 25) (mCons (mVar 5) mNil)))) (mgTup 2 (mgCons (mgN 6) (mgCons (mgN 7) mgNil))) (mFor (mSrc (oD (mTup (mCons (mC (.int 0)) (mCons (mC (.int 1)) mNil))))) (mgN 8) (mSeq (mSet 9 (mCall (G 8001) (mCons (mVar 0) (mCons (mVar 1) (mCons (mVar 8) (mCons (mVar 2) (mCons (mVar 7) mNil)))))))
    (mIfS (mBool (mNotN (mVar 9))) (mSeq (mSet 10 (mCall (G 32) (mCons (mOp ixF (mVar 2) (mVar 3)) (mCons (mVar 4) (mCons (mCall (G 30) (mCons (mVar 5) (mCons (mVar 6) (mCons (mOp ixF (mVar 9) (mC (.int 0))) mNil)))) mNil)))))
    (mSeq (mSet 11 (mOp fAdd (mOp fAdd (oS (mSl (mVar 2) mNoI (mSoI (mVar 3)))) (mTup (mCons (mVar 10) mNil))) (oS (mSl (mVar 2) (mSoI (mOp fAdd (mVar 3) (mC (.int 1)))) mNoI))))
    (mRet (mMake "Rewriting" (G 8007) (mCons (mVar 11) (mCons (mVar 3) (mCons (mVar 4) (mCons (mVar 6) (mCons (mVar 8) (mCons (mOp ixF (mVar 9) (mC (.int 1))) mNil)))))))))) mSkip))))
    (mRet (mC .non))))
/-- 8003 0 weights, 1 equation, 2 clause, 3 k, 4 s, 5 found -/
noncomputable def c_rewrite (G : GF) : MS := (mSeq (mIfS (mNotT (mTru (mOp ixF (mVar 1) (mC (.int 0))))) (mRet (mC .non)) mSkip)
    (mSeq (mFor (mRng1 (mFn1 fLen (oD (mVar 2)))) (mgN 3) (mFor (mSrc (oD (mTup (mCons (mC (.int 0)) (mCons (mC (.int 1)) mNil))))) (mgN 4) (mSeq (mSet 5 (mCall (G 8002) (mCons (mVar 0) (mCons (mVar 1) (mCons (mVar 2) (mCons (mVar 3) (mCons (mVar 4) mNil)))))))
    (mIfS (mBool (mNotN (mVar 5))) (mRet (mVar 5)) mSkip))))
    (mRet (mC .non))))
/-- 8004 0 _law_weights_here, 1 _law_first, 2 _law_second, 3 _law_ours, 4 _law_theirs, 5 _law_literal_here, 6 _law_at, 7 _law_k, 8 _law_one -/
noncomputable def c__law_clause_greater (G : GF) : MS := (mSeq (mSet 3 (mAlloc (mLst mNil)))
    (mSeq (mSet 4 (mAlloc (mLisc (oD (mVar 2)))))
    (mSeq (mFor (mSrc (oD (mVar 1))) (mgN 5) (mSeq (mSet 6 (mNeg (mC (.int 1))))
    (mSeq (mFor (mRng1 (mFn1 fLen (oD (mVar 4)))) (mgN 7) (mIfS (mAndT (mBool (mOp fLt (mVar 6) (mC (.int 0)))) (mTru (mCall (G 6007) (mCons (mOp ixF (mVar 4) (mVar 7)) (mCons (mVar 5) mNil))))) (mSet 6 (mVar 7)) mSkip))
    (mIfS (mBool (mOp fLt (mVar 6) (mC (.int 0)))) (mDrop (mApp (mVar 3) (mVar 5))) (mSet 4 (mAlloc (mCatL (mSl (mVar 4) mNoI (mSoI (mVar 6))) (mSl (mVar 4) (mSoI (mOp fAdd (mVar 6) (mC (.int 1)))) mNoI))))))))
    (mSeq (mIfS (mNotT (mTru (mVar 3))) (mRet (mC (.bl false))) mSkip)
    (mSeq (mFor (mSrc (oD (mVar 4))) (mgN 5) (mIfS (mNotT (mTru (mFn1 fAny (oN (mComp (mSrc (oD (mVar 3))) [8] (mgN 8) mYes (mCall (G 7003) (mCons (mVar 0) (mCons (mVar 8) (mCons (mVar 5) mNil))))))))) (mRet (mC (.bl false))) mSkip))
    (mRet (mC (.bl true))))))))
/-- 8005 0 _law_pattern, 1 _law_term_here, 2 _law_told, 3 _law_pair, 4 _law_k -/
noncomputable def c__law_match (G : GF) : MS := (mSeq (mIfS (mTru (mCall (G 14) (mCons (mVar 0) mNil))) (mSeq (mFor (mSrc (oD (mVar 2))) (mgN 3) (mIfS (mBool (mOpO fEq (oD (mOp ixF (mVar 3) (mC (.int 0)))) (oD (mVar 0)))) (mRet (mIf (mBool (mOpO fEq (oD (mOp ixF (mVar 3) (mC (.int 1)))) (oD (mVar 1)))) (mVar 2) (mC .non))) mSkip))
    (mRet (mAlloc (mCatL (oD (mVar 2)) (oN (mLst (mCons (mTup (mCons (mVar 0) (mCons (mVar 1) mNil))) mNil))))))) mSkip)
    (mSeq (mIfS (mOrT (mTru (mCall (G 14) (mCons (mVar 1) mNil))) (mOrT (mBool (mOpO fNe (oD (mOp ixF (mVar 0) (mC (.int 0)))) (oD (mOp ixF (mVar 1) (mC (.int 0)))))) (mBool (mOpO fNe (oD (mFn1 fLen (oD (mOp ixF (mVar 0) (mC (.int 1)))))) (oD (mFn1 fLen (oD (mOp ixF (mVar 1) (mC (.int 1)))))))))) (mRet (mC .non)) mSkip)
    (mSeq (mFor (mRng1 (mFn1 fLen (oD (mOp ixF (mVar 0) (mC (.int 1)))))) (mgN 4) (mSeq (mSet 2 (mCall (G 8005) (mCons (mOp ixF (mOp ixF (mVar 0) (mC (.int 1))) (mVar 4)) (mCons (mOp ixF (mOp ixF (mVar 1) (mC (.int 1))) (mVar 4)) (mCons (mVar 2) mNil)))))
    (mIfS (mBool (mIsN (mVar 2))) (mRet (mC .non)) mSkip)))
    (mRet (mVar 2)))))
/-- 8006 0 _law_term_here, 1 _law_place, 2 _law_new, 3 _law_inner -/
def c__law_put_at (G : GF) : MS := (mSeq (mIfS (mNotT (mTru (mVar 1))) (mRet (mVar 2)) mSkip)
    (mSeq (mSet 3 (mCall (G 8006) (mCons (mOp ixF (mOp ixF (mVar 0) (mC (.int 1))) (mOp ixF (mVar 1) (mC (.int 0)))) (mCons (oS (mSl (mVar 1) (mSoI (mC (.int 1))) mNoI)) (mCons (mVar 2) mNil)))))
    (mRet (mTup (mCons (mOp ixF (mVar 0) (mC (.int 0))) (mCons (mOp fAdd (mOp fAdd (oS (mSl (mOp ixF (mVar 0) (mC (.int 1))) mNoI (mSoI (mOp ixF (mVar 1) (mC (.int 0)))))) (mTup (mCons (mVar 3) mNil))) (oS (mSl (mOp ixF (mVar 0) (mC (.int 1))) (mSoI (mOp fAdd (mOp ixF (mVar 1) (mC (.int 0))) (mC (.int 1)))) mNoI))) mNil))))))
/-- 8008 0 clause, 1 i, 2 j, 3 first -/
def c_pair_holds (G : GF) : MS := (mSeq (mSet 3 (mOp ixF (mVar 0) (mVar 1)))
    (mSeq (mIfS (mBool (mOpO fEq (oD (mVar 1)) (oD (mVar 2)))) (mRet (mAnd (mOp ixF (mVar 3) (mC (.int 0))) (mOpO fEq (oD (mOp ixF (mVar 3) (mC (.int 1)))) (oD (mOp ixF (mVar 3) (mC (.int 2))))))) mSkip)
    (mRet (mAnd (mOpO fNe (oD (mOp ixF (mVar 3) (mC (.int 0)))) (oD (mOp ixF (mOp ixF (mVar 0) (mVar 2)) (mC (.int 0))))) (mCall (G 33) (mCons (mVar 3) (mCons (mOp ixF (mVar 0) (mVar 2)) mNil)))))))
/-- 8009 0 clause, 1 i, 2 j -/
noncomputable def c_always_holds (G : GF) : MS := (mSeq (mFor (mRng1 (mFn1 fLen (oD (mVar 0)))) (mgN 1) (mFor (mRng1 (mFn1 fLen (oD (mVar 0)))) (mgN 2) (mIfS (mTru (mCall (G 8008) (mCons (mVar 0) (mCons (mVar 1) (mCons (mVar 2) mNil))))) (mRet (mTup (mCons (mVar 1) (mCons (mVar 2) mNil)))) mSkip)))
    (mRet (mC .non)))
/-- 8010 0 literal -/
def c_states_atoms (G : GF) : MS := (mRet (mOr (mCall (G 19) (mCons (mOp ixF (mVar 0) (mC (.int 1))) mNil)) (mCall (G 19) (mCons (mOp ixF (mVar 0) (mC (.int 2))) mNil))))
/-- 8011 0 left, 1 right, 2 other_left, 3 other_right, 4 told, 5 found -/
def c_match_sides (G : GF) : MS := (mSeq (mSet 5 (mCall (G 2017) (mCons (mVar 0) (mCons (mVar 2) (mCons (mVar 4) mNil)))))
    (mSeq (mIfS (mBool (mIsN (mVar 5))) (mRet (mC .non)) mSkip)
    (mRet (mCall (G 2017) (mCons (mVar 1) (mCons (mVar 3) (mCons (mVar 5) mNil)))))))
/-- 8012 0 literal, 1 other, 2 told, 3 straight, 4 turned, 5 found -/
noncomputable def c_ways (G : GF) : MS := (mSeq (mIfS (mOrT (mBool (mOpO fNe (oD (mOp ixF (mVar 0) (mC (.int 0)))) (oD (mOp ixF (mVar 1) (mC (.int 0)))))) (mBool (mOpO fNe (oD (mCall (G 8010) (mCons (mVar 0) mNil))) (oD (mCall (G 8010) (mCons (mVar 1) mNil)))))) (mRet (mAlloc (mLst mNil))) mSkip)
    (mSeq (mSet 3 (mCall (G 8011) (mCons (mOp ixF (mVar 0) (mC (.int 1))) (mCons (mOp ixF (mVar 0) (mC (.int 2))) (mCons (mOp ixF (mVar 1) (mC (.int 1))) (mCons (mOp ixF (mVar 1) (mC (.int 2))) (mCons (mVar 2) mNil)))))))
    (mSeq (mSet 4 (mCall (G 8011) (mCons (mOp ixF (mVar 0) (mC (.int 1))) (mCons (mOp ixF (mVar 0) (mC (.int 2))) (mCons (mOp ixF (mVar 1) (mC (.int 2))) (mCons (mOp ixF (mVar 1) (mC (.int 1))) (mCons (mVar 2) mNil)))))))
    (mRet (mAlloc (mComp (mSrc (oD (mTup (mCons (mVar 3) (mCons (mVar 4) mNil))))) [5] (mgN 5) (mBool (mNotN (mVar 5))) (mVar 5)))))))
/-- 8013 0 c, 1 d, 2 used, 3 told, 4 j, 5 other, 6 found, 7 whole -/
noncomputable def c_part_from (G : GF) : MS := (mSeq (mIfS (mBool (mOpO fEq (oD (mFn1 fLen (oD (mVar 2)))) (oD (mFn1 fLen (oD (mVar 0)))))) (mRet (mTup (mCons (mVar 3) (mCons (mVar 2) mNil)))) mSkip)
    (mSeq (mFor (mEnum (oD (mVar 1))) (mgTup 2 (mgCons (mgN 4) (mgCons (mgN 5) mgNil))) (mIfS (mBool (mOpO fNin (oD (mVar 4)) (oD (mVar 2)))) (mFor (mSrc (oD (mCall (G 8012) (mCons (mOp ixF (mVar 0) (mFn1 fLen (oD (mVar 2)))) (mCons (mVar 5) (mCons (mVar 3) mNil)))))) (mgN 6) (mSeq (mSet 7 (mCall (G 8013) (mCons (mVar 0) (mCons (mVar 1) (mCons (mOp fAdd (mVar 2) (mTup (mCons (mVar 4) mNil))) (mCons (mVar 6) mNil))))))
    (mIfS (mBool (mNotN (mVar 7))) (mRet (mVar 7)) mSkip))) mSkip))
    (mRet (mC .non))))
/-- 8014 0 c, 1 d -/
def c_part_of (G : GF) : MS := (mSeq (mIfS (mBool (mOp fGt (mFn1 fLen (oD (mVar 0))) (mFn1 fLen (oD (mVar 1))))) (mRet (mC .non)) mSkip)
    (mRet (mCall (G 8013) (mCons (mVar 0) (mCons (mVar 1) (mCons (mTup mNil) (mCons (mDnewK) mNil)))))))
/-- 8015 0 _law_literal_here, 1 _law_left -/
def c__law_tabled (G : GF) : MS := (mSeq (mSet 1 (mOp ixF (mVar 0) (mC (.int 1))))
    (mSeq (mIfS (mAndT (mNotT (mTru (mCall (G 14) (mCons (mVar 1) mNil)))) (mBool (mOpO fEq (oD (mOp ixF (mOp ixF (mVar 1) (mC (.int 0))) (mC (.int 0)))) (oD (mC (.int 1)))))) (mSet 1 (mTup (mCons (mTup (mCons (mC (.int 1)) (mCons (mOp fAdd (mOp ixF (mOp ixF (mVar 1) (mC (.int 0))) (mC (.int 1))) (mC (.int 3))) (mCons (mC (.int 0)) mNil)))) (mCons (mOp ixF (mVar 1) (mC (.int 1))) mNil)))) mSkip)
    (mRet (mTup (mCons (mOp ixF (mVar 0) (mC (.int 0))) (mCons (mVar 1) (mCons (mOp ixF (mVar 0) (mC (.int 2))) mNil)))))))
/-- 8016 0 _law_uses_here, 1 _law_size, 2 _law_row, 3 _law_tables, 4 _law_use, 5 _law_many, 6 _law_k, 7 _law_bound, 8 _law_values -/
noncomputable def c__law_world_tables (G : GF) : MS := (mSeq (mSet 3 (mDnewN))
    (mSeq (mFor (mSrc (oD (mVar 0))) (mgN 4) (mSeq (mSet 5 (mC (.int 1)))
    (mSeq (mFor (mRng1 (mOp ixF (mVar 4) (mC (.int 1)))) (mgN 6) (mSet 5 (mOp fMul (mVar 5) (mVar 1))))
    (mSeq (mSet 7 (mVar 1))
    (mSeq (mIfS (mAndT (mBool (mOpO fNe (oD (mOp ixF (mOp ixF (mVar 4) (mC (.int 0))) (mC (.int 0)))) (oD (mC (.int 2))))) (mBool (mOpO fNe (oD (mOp ixF (mOp ixF (mVar 4) (mC (.int 0))) (mC (.int 0)))) (oD (mC (.int 3)))))) (mSet 7 (mC (.int 2))) mSkip)
    (mSeq (mSet 8 (mAlloc (mLst mNil)))
    (mSeq (mFor (mRng1 (mVar 5)) (mgN 6) (mSeq (mDrop (mApp (mVar 8) (mOp fMod (mFn1 fInt (oD (mVar 2))) (mVar 7))))
    (mSet 2 (mOp fAdd (mOp fDiv (mVar 2) (mVar 7)) (mOp fMul (mOp fMul (mC (.int 7)) (mOp fAdd (mVar 6) (mC (.int 1)))) (mFn1 fInt (oD (mOp fLt (mVar 2) (mC (.int 1000))))))))))
    (mSeq (mSetN (mVar 3) (mVar 4) (mFn1 fTupc (oD (mVar 8))))
    (mSet 2 (mOp fAdd (mVar 2) (mC (.int 1))))))))))))
    (mRet (mVar 3))))
/-- 8017 0 clause, 1 new, 2 k, 3 variable -/
noncomputable def c_renumbered (G : GF) : MS := (mSeq (mSet 1 (mDnewK))
    (mSeq (mFor (mEnum (oD (mCall (G 2000) (mCons (mVar 0) mNil)))) (mgTup 2 (mgCons (mgN 2) (mgCons (mgN 3) mgNil))) (mSetD (mVar 1) (mVar 3) (mVar 2)))
    (mRet (mTup (mCons (mCall (G 1002) (mCons (mVar 0) (mCons (mVar 1) mNil))) (mCons (mVar 1) mNil))))))
/-- 8018 0 self, 1 number, 2 clause, 3 selected, 4 made, 5 changes -/
def c_Kept_init (G : GF) : MS := (mSeq (mSetF ["Kept"] "number" (mVar 0) (mVar 1))
    (mSeq (mSetF ["Kept"] "clause" (mVar 0) (mVar 2))
    (mSeq (mSetF ["Kept"] "selected" (mVar 0) (mVar 3))
    (mSeq (mSetF ["Kept"] "made" (mVar 0) (mVar 4))
    (mSetF ["Kept"] "changes" (mVar 0) (mAlloc (mLisc (oD (mVar 5)))))))))
/-- 8020 0 literal -/
def c_literal_size (G : GF) : MS := (mRet (mOp fAdd (mCall (G 4) (mCons (mOp ixF (mVar 0) (mC (.int 1))) mNil)) (mCall (G 4) (mCons (mOp ixF (mVar 0) (mC (.int 2))) mNil))))
/-- 8021 0 clause, 1 literal -/
noncomputable def c_clause_size (G : GF) : MS := (mRet (mFn1 fSum (oN (mComp (mSrc (oD (mVar 0))) [1] (mgN 1) mYes (mCall (G 8020) (mCons (mVar 1) mNil))))))
noncomputable def lZl8 : List Fb := [mkFb 7 7 c_Rewriting_init,
  mkFb 5 8 c_replacement,
  mkFb 5 12 c_rewritten_at,
  mkFb 3 6 c_rewrite,
  mkFb 3 9 c__law_clause_greater,
  mkFb 3 5 c__law_match,
  mkFb 3 4 c__law_put_at,
  deleg 8000,
  mkFb 3 4 c_pair_holds,
  mkFb 1 3 c_always_holds,
  mkFb 1 1 c_states_atoms,
  mkFb 5 6 c_match_sides,
  mkFb 3 6 c_ways,
  mkFb 4 8 c_part_from,
  mkFb 2 2 c_part_of,
  mkFb 1 2 c__law_tabled,
  mkFb 3 9 c__law_world_tables,
  mkFb 1 4 c_renumbered,
  mkFb 6 6 c_Kept_init,
  deleg 8018,
  mkFb 1 1 c_literal_size,
  mkFb 1 2 c_clause_size]
end Zi
set_option maxRecDepth 100000
namespace Zi
open PySem L2
/-- 9000 0 term, 1 amount, 2 part -/
noncomputable def c_shifted (G : GF) : MS := (mSeq (mIfS (mTru (mCall (G 3) (mCons (mVar 0) mNil))) (mRet (mOp fAdd (mVar 0) (mVar 1))) mSkip)
    (mRet (mTup (mCons (mOp ixF (mVar 0) (mC (.int 0))) (mCons (mFn1 fTupc (oN (mComp (mSrc (oD (mOp ixF (mVar 0) (mC (.int 1))))) [2] (mgN 2) mYes (mCall (G 9000) (mCons (mVar 2) (mCons (mVar 1) mNil)))))) mNil)))))
/-- 9001 0 clause, 1 amount, 2 one -/
noncomputable def c_shifted_clause (G : GF) : MS := (mRet (mFn1 fTupc (oN (mComp (mSrc (oD (mVar 0))) [2] (mgN 2) mYes (mTup (mCons (mOp ixF (mVar 2) (mC (.int 0))) (mCons (mCall (G 9000) (mCons (mOp ixF (mVar 2) (mC (.int 1))) (mCons (mVar 1) mNil))) (mCons (mCall (G 9000) (mCons (mOp ixF (mVar 2) (mC (.int 2))) (mCons (mVar 1) mNil))) mNil))))))))
/-- 9002 0 weights, 1 clause, 2 selected, 3 k, 4 substitution -/
def c_may_act (G : GF) : MS := (mSeq (mIfS (mBool (mNotN (mVar 2))) (mRet (mOpO fEq (oD (mVar 2)) (oD (mVar 3)))) mSkip)
    (mRet (mCall (G 6006) (mCons (mVar 0) (mCons (mCall (G 1002) (mCons (mVar 1) (mCons (mVar 4) mNil))) (mCons (mVar 3) mNil))))))
/-- 9003 0 weights, 1 clause, 2 selected, 3 k, 4 substitution -/
def c_may_give (G : GF) : MS := (mSeq (mIfS (mOrT (mBool (mNotN (mVar 2))) (mNotT (mTru (mOp ixF (mOp ixF (mVar 1) (mVar 3)) (mC (.int 0)))))) (mRet (mC (.bl false))) mSkip)
    (mRet (mCall (G 7000) (mCons (mVar 0) (mCons (mCall (G 1002) (mCons (mVar 1) (mCons (mVar 4) mNil))) (mCons (mVar 3) mNil))))))
/-- 9004 0 weights, 1 literal, 2 side_index, 3 substitution, 4 ours, 5 theirs -/
def c_may_lead (G : GF) : MS := (mSeq (mSet 4 (mCall (G 1000) (mCons (mCall (G 31) (mCons (mVar 1) (mCons (mVar 2) mNil))) (mCons (mVar 3) mNil))))
    (mSeq (mSet 5 (mCall (G 1000) (mCons (mCall (G 31) (mCons (mVar 1) (mCons (mOp fSub (mC (.int 1)) (mVar 2)) mNil))) (mCons (mVar 3) mNil))))
    (mRet (mOpO fNin (oD (mCall (G 2009) (mCons (mVar 0) (mCons (mVar 4) (mCons (mVar 5) mNil))))) (oD (mTup (mCons (mC (.str (Str.ofString "same"))) (mCons (mC (.str (Str.ofString "less"))) mNil))))))))
/-- 9005 0 self, 1 kind, 2 clause, 3 literal, 4 side, 5 place, 6 other_literal, 7 other_side, 8 first, 9 second -/
def c_Conclusion_init (G : GF) : MS := (mSeq (mSetF ["Conclusion"] "kind" (mVar 0) (mVar 1))
    (mSeq (mSetF ["Conclusion"] "clause" (mVar 0) (mVar 2))
    (mSeq (mSetF ["Conclusion"] "literal" (mVar 0) (mVar 3))
    (mSeq (mSetF ["Conclusion"] "side" (mVar 0) (mVar 4))
    (mSeq (mSetF ["Conclusion"] "place" (mVar 0) (mVar 5))
    (mSeq (mSetF ["Conclusion"] "other_literal" (mVar 0) (mVar 6))
    (mSeq (mSetF ["Conclusion"] "other_side" (mVar 0) (mVar 7))
    (mSeq (mSetF ["Conclusion"] "first" (mVar 0) (mVar 8))
    (mSetF ["Conclusion"] "second" (mVar 0) (mVar 9))))))))))
/-- 9006 0 clause, 1 first, 2 second, 3 order, 4 told, 5 key, 6 k, 7 variable -/
noncomputable def c_numbering (G : GF) : MS := (mSeq (mSet 3 (mCall (G 2000) (mCons (mVar 0) mNil)))
    (mSeq (mFor (mSrc (oD (mTup (mCons (mVar 1) (mCons (mVar 2) mNil))))) (mgN 4) (mLockS 4 (mFor (mKeys (mVar 4)) (mgN 5) (mDrop (mCall (G 7) (mCons (mOp ixX (mVar 4) (mVar 5)) (mCons (mVar 3) mNil)))))))
    (mRet (mDc (mEnum (oD (mVar 3))) [6, 7] (mgTup 2 (mgCons (mgN 6) (mgCons (mgN 7) mgNil))) mYes (mVar 7) (mVar 6)))))
/-- 9007 0 told, 1 new, 2 key -/
noncomputable def c_renamed (G : GF) : MS := (mRet (mLockM 0 (mDc (mKeys (mVar 0)) [2] (mgN 2) mYes (mVar 2) (mCall (G 1000) (mCons (mOp ixX (mVar 0) (mVar 2)) (mCons (mVar 1) mNil))))))
/-- 9008 0 kind, 1 clause, 2 literal, 3 side, 4 place, 5 other_literal, 6 other_side, 7 first, 8 second, 9 new -/
def c_conclude_2 (G : GF) : MS := (mSeq (mSet 9 (mCall (G 9006) (mCons (mVar 1) (mCons (mVar 7) (mCons (mVar 8) mNil)))))
    (mSeq (mSet 1 (mCall (G 1002) (mCons (mVar 1) (mCons (mVar 9) mNil))))
    (mRet (mMake "Conclusion" (G 9026) (mCons (mVar 0) (mCons (mVar 1) (mCons (mVar 2) (mCons (mVar 3) (mCons (mVar 4) (mCons (mVar 5) (mCons (mVar 6) (mCons (mCall (G 9007) (mCons (mVar 7) (mCons (mVar 9) mNil))) (mCons (mCall (G 9007) (mCons (mVar 8) (mCons (mVar 9) mNil))) mNil)))))))))))))
/-- 9009 0 clause, 1 substitution, 2 amount, 3 key -/
noncomputable def c_became (G : GF) : MS := (mRet (mDc (mSrc (oD (mCall (G 2000) (mCons (mVar 0) mNil)))) [3] (mgN 3) mYes (mVar 3) (mCall (G 1000) (mCons (mOp fAdd (mVar 3) (mVar 2)) (mCons (mVar 1) mNil)))))
/-- 9010 0 c, 1 found, 2 k, 3 literal, 4 s, 5 place, 6 term -/
noncomputable def c_spots (G : GF) : MS := (mSeq (mSet 1 (mAlloc (mLst mNil)))
    (mSeq (mFor (mEnum (oD (mVar 0))) (mgTup 2 (mgCons (mgN 2) (mgCons (mgN 3) mgNil))) (mFor (mSrc (oD (mTup (mCons (mC (.int 0)) (mCons (mC (.int 1)) mNil))))) (mgN 4) (mFor (mSrc (oD (mCall (G 25) (mCons (mCall (G 31) (mCons (mVar 3) (mCons (mVar 4) mNil))) mNil)))) (mgTup 2 (mgCons (mgN 5) (mgCons (mgN 6) mgNil))) (mIfS (mNotT (mTru (mCall (G 3) (mCons (mVar 6) mNil)))) (mDrop (mApp (mVar 1) (mTup (mCons (mVar 2) (mCons (mVar 4) (mCons (mVar 5) (mCons (mVar 6) mNil))))))) mSkip))))
    (mRet (mVar 1))))
/-- 9011 0 d, 1 found, 2 k, 3 literal, 4 s -/
noncomputable def c_leads (G : GF) : MS := (mSeq (mSet 1 (mAlloc (mLst mNil)))
    (mSeq (mFor (mEnum (oD (mVar 0))) (mgTup 2 (mgCons (mgN 2) (mgCons (mgN 3) mgNil))) (mIfS (mTru (mOp ixF (mVar 3) (mC (.int 0)))) (mFor (mSrc (oD (mTup (mCons (mC (.int 0)) (mCons (mC (.int 1)) mNil))))) (mgN 4) (mDrop (mApp (mVar 1) (mTup (mCons (mVar 2) (mCons (mVar 4) (mCons (mCall (G 31) (mCons (mVar 3) (mCons (mVar 4) mNil))) mNil))))))) mSkip))
    (mRet (mVar 1))))
/-- 9012 0 self, 1 weights, 2 c, 3 selected_c, 4 d, 5 selected_d -/
def c_Superposer_init (G : GF) : MS := (mSeq (mSetF ["Superposer"] "weights" (mVar 0) (mVar 1))
    (mSeq (mSetF ["Superposer"] "c" (mVar 0) (mVar 2))
    (mSeq (mSetF ["Superposer"] "selected_c" (mVar 0) (mVar 3))
    (mSeq (mSetF ["Superposer"] "d" (mVar 0) (mVar 4))
    (mSeq (mSetF ["Superposer"] "selected_d" (mVar 0) (mVar 5))
    (mSeq (mSetF ["Superposer"] "amount" (mVar 0) (mOp fAdd (mMaxD (mCall (G 2000) (mCons (mVar 2) mNil)) (mNeg (mC (.int 1)))) (mC (.int 1))))
    (mSetF ["Superposer"] "moved" (mVar 0) (mCall (G 9001) (mCons (mVar 4) (mCons (mFld ["Superposer"] "amount" (mVar 0)) mNil))))))))))
/-- 9013 0 self, 1 k, 2 s, 3 j, 4 t, 5 found, 6 weights -/
def c_Superposer_allowed (G : GF) : MS := (mSeq (mSet 6 (mFld ["Superposer"] "weights" (mVar 0)))
    (mSeq (mIfS (mNotT (mTru (mCall (G 9002) (mCons (mVar 6) (mCons (mFld ["Superposer"] "c" (mVar 0)) (mCons (mFld ["Superposer"] "selected_c" (mVar 0)) (mCons (mVar 1) (mCons (mVar 5) mNil)))))))) (mRet (mC (.bl false))) mSkip)
    (mSeq (mIfS (mNotT (mTru (mCall (G 9004) (mCons (mVar 6) (mCons (mOp ixF (mFld ["Superposer"] "c" (mVar 0)) (mVar 1)) (mCons (mVar 2) (mCons (mVar 5) mNil))))))) (mRet (mC (.bl false))) mSkip)
    (mSeq (mIfS (mNotT (mTru (mCall (G 9003) (mCons (mVar 6) (mCons (mFld ["Superposer"] "moved" (mVar 0)) (mCons (mFld ["Superposer"] "selected_d" (mVar 0)) (mCons (mVar 3) (mCons (mVar 5) mNil)))))))) (mRet (mC (.bl false))) mSkip)
    (mRet (mCall (G 9004) (mCons (mVar 6) (mCons (mOp ixF (mFld ["Superposer"] "moved" (mVar 0)) (mVar 3)) (mCons (mVar 4) (mCons (mVar 5) mNil))))))))))
/-- 9014 0 self, 1 spot, 2 lead, 3 k, 4 s, 5 place, 6 term, 7 j, 8 t, 9 left, 10 found, 11 right, 12 literal, 13 whole, 14 first, 15 second -/
def c_Superposer_conclusion (G : GF) : MS := (mSeq (mAsg (mgTup 4 (mgCons (mgN 3) (mgCons (mgN 4) (mgCons (mgN 5) (mgCons (mgN 6) mgNil))))) (mVar 1))
    (mSeq (mAsg (mgTup 3 (mgCons (mgN 7) (mgCons (mgN 8) (mgCons (mgN 9) mgNil)))) (mVar 2))
    (mSeq (mIfS (mBool (mOpO fNe (oD (mCall (G 19) (mCons (mVar 6) mNil))) (oD (mCall (G 19) (mCons (mVar 9) mNil))))) (mRet (mC .non)) mSkip)
    (mSeq (mSet 10 (mCall (G 5000) (mCons (mAlloc (mLst (mCons (mTup (mCons (mVar 6) (mCons (mVar 9) mNil))) mNil))) mNil)))
    (mSeq (mIfS (mOrT (mBool (mIsN (mVar 10))) (mNotT (mTru (mMeth "Superposer" "allowed" (G 9013) (mVar 0) (mCons (mVar 3) (mCons (mVar 4) (mCons (mVar 7) (mCons (mVar 8) (mCons (mVar 10) mNil))))))))) (mRet (mC .non)) mSkip)
    (mSeq (mSet 11 (mCall (G 31) (mCons (mOp ixF (mFld ["Superposer"] "moved" (mVar 0)) (mVar 7)) (mCons (mOp fSub (mC (.int 1)) (mVar 8)) mNil))))
    (mSeq (mSet 12 (mCall (G 32) (mCons (mOp ixF (mFld ["Superposer"] "c" (mVar 0)) (mVar 3)) (mCons (mVar 4) (mCons (mCall (G 30) (mCons (mCall (G 31) (mCons (mOp ixF (mFld ["Superposer"] "c" (mVar 0)) (mVar 3)) (mCons (mVar 4) mNil))) (mCons (mVar 5) (mCons (mVar 11) mNil)))) mNil)))))
    (mSeq (mSet 13 (mOp fAdd (mOp fAdd (mOp fAdd (mOp fAdd (oS (mSl (mFld ["Superposer"] "c" (mVar 0)) mNoI (mSoI (mVar 3)))) (mTup (mCons (mVar 12) mNil))) (oS (mSl (mFld ["Superposer"] "c" (mVar 0)) (mSoI (mOp fAdd (mVar 3) (mC (.int 1)))) mNoI))) (oS (mSl (mFld ["Superposer"] "moved" (mVar 0)) mNoI (mSoI (mVar 7))))) (oS (mSl (mFld ["Superposer"] "moved" (mVar 0)) (mSoI (mOp fAdd (mVar 7) (mC (.int 1)))) mNoI))))
    (mSeq (mSet 14 (mCall (G 9009) (mCons (mFld ["Superposer"] "c" (mVar 0)) (mCons (mVar 10) (mCons (mC (.int 0)) mNil)))))
    (mSeq (mSet 15 (mCall (G 9009) (mCons (mFld ["Superposer"] "d" (mVar 0)) (mCons (mVar 10) (mCons (mFld ["Superposer"] "amount" (mVar 0)) mNil)))))
    (mRet (mCall (G 9008) (mCons (mC (.str (Str.ofString "superposition"))) (mCons (mCall (G 1002) (mCons (mVar 13) (mCons (mVar 10) mNil))) (mCons (mVar 3) (mCons (mVar 4) (mCons (mVar 5) (mCons (mVar 7) (mCons (mVar 8) (mCons (mVar 14) (mCons (mVar 15) mNil)))))))))))))))))))))
/-- 9015 0 weights, 1 c, 2 selected_c, 3 d, 4 selected_d, 5 superposer, 6 sides, 7 found, 8 spot, 9 lead, 10 one -/
noncomputable def c_superpositions (G : GF) : MS := (mSeq (mSet 5 (mMake "Superposer" (G 9027) (mCons (mVar 0) (mCons (mVar 1) (mCons (mVar 2) (mCons (mVar 3) (mCons (mVar 4) mNil)))))))
    (mSeq (mSet 6 (mCall (G 9011) (mCons (mFld ["Superposer"] "moved" (mVar 5)) mNil)))
    (mSeq (mSet 7 (mAlloc (mLst mNil)))
    (mSeq (mFor (mSrc (oD (mCall (G 9010) (mCons (mVar 1) mNil)))) (mgN 8) (mFor (mSrc (oD (mVar 6))) (mgN 9) (mSeq (mSet 10 (mMeth "Superposer" "conclusion" (G 9014) (mVar 5) (mCons (mVar 8) (mCons (mVar 9) mNil))))
    (mIfS (mBool (mNotN (mVar 10))) (mDrop (mApp (mVar 7) (mVar 10))) mSkip))))
    (mRet (mVar 7))))))
/-- 9016 0 _law_row, 1 _law_most, 2 _law_deep, 3 _law_clause_here, 4 _law_one -/
noncomputable def c__law_positive_clause (G : GF) : MS := (mSeq (mSet 3 (mCall (G 38) (mCons (mVar 0) (mCons (mVar 1) (mCons (mVar 2) mNil)))))
    (mSeq (mIfS (mBool (mOpO fEq (oD (mOp fMod (mFn1 fInt (oD (mOp fDiv (mVar 0) (mC (.int 5))))) (mC (.int 3)))) (oD (mC (.int 0))))) (mRet (mFn1 fTupc (oN (mComp (mSrc (oD (mVar 3))) [4] (mgN 4) mYes (mTup (mCons (mC (.bl true)) (mCons (mOp ixF (mVar 4) (mC (.int 1))) (mCons (mOp ixF (mVar 4) (mC (.int 2))) mNil)))))))) mSkip)
    (mRet (mVar 3))))
/-- 9017 0 _law_clause_here, 1 _law_row, 2 _law_negative, 3 _law_k -/
noncomputable def c__law_selected (G : GF) : MS := (mSeq (mSetL 2 (mComp (mRng1 (mFn1 fLen (oD (mVar 0)))) [3] (mgN 3) (mNotT (mTru (mOp ixF (mOp ixF (mVar 0) (mVar 3)) (mC (.int 0))))) (mVar 3)))
    (mSeq (mIfS (mOrT (mNotT (mTru (mVar 2))) (mBool (mOpO fEq (oD (mOp fMod (mFn1 fInt (oD (mVar 1))) (mC (.int 3)))) (oD (mC (.int 0)))))) (mRet (mC .non)) mSkip)
    (mRet (mOp ixF (mVar 2) (mOp fMod (mOp fDiv (mVar 1) (mC (.int 3))) (mFn1 fLen (oD (mVar 2))))))))
/-- 9018 0 _law_weights_here, 1 _law_literal_here, 2 _law_s, 3 _law_ours, 4 _law_theirs -/
def c__law_leads (G : GF) : MS := (mSeq (mSet 3 (mOp ixF (mVar 1) (mOp fAdd (mC (.int 1)) (mVar 2))))
    (mSeq (mSet 4 (mOp ixF (mVar 1) (mOp fSub (mC (.int 2)) (mVar 2))))
    (mRet (mAnd (mOpO fNe (oD (mVar 3)) (oD (mVar 4))) (mNot (mCall (G 7002) (mCons (mVar 0) (mCons (mVar 4) (mCons (mVar 3) mNil)))))))))
/-- 9019 0 _law_clause_here, 1 _law_found, 2 _law_literal_here -/
noncomputable def c__law_clause_variables (G : GF) : MS := (mSeq (mSet 1 (mAlloc (mLst mNil)))
    (mSeq (mFor (mSrc (oD (mVar 0))) (mgN 2) (mSeq (mSet 1 (mCall (G 15) (mCons (mOp ixF (mVar 2) (mC (.int 1))) (mCons (mVar 1) mNil))))
    (mSet 1 (mCall (G 15) (mCons (mOp ixF (mVar 2) (mC (.int 2))) (mCons (mVar 1) mNil))))))
    (mRet (mVar 1))))
/-- 9020 0 _law_term_here, 1 _law_told_here, 2 _law_pair, 3 _law_part -/
noncomputable def c__law_put_2_2 (G : GF) : MS := (mSeq (mIfS (mTru (mCall (G 14) (mCons (mVar 0) mNil))) (mSeq (mFor (mSrc (oD (mVar 1))) (mgN 2) (mIfS (mBool (mOpO fEq (oD (mOp ixF (mVar 2) (mC (.int 0)))) (oD (mVar 0)))) (mRet (mOp ixF (mVar 2) (mC (.int 1)))) mSkip))
    (mRet (mVar 0))) mSkip)
    (mRet (mTup (mCons (mOp ixF (mVar 0) (mC (.int 0))) (mCons (mFn1 fTupc (oN (mComp (mSrc (oD (mOp ixF (mVar 0) (mC (.int 1))))) [3] (mgN 3) mYes (mCall (G 9020) (mCons (mVar 3) (mCons (mVar 1) mNil)))))) mNil)))))
/-- 9021 0 _law_clause_here, 1 _law_told_here, 2 _law_one -/
noncomputable def c__law_put_clause_2_2 (G : GF) : MS := (mRet (mFn1 fTupc (oN (mComp (mSrc (oD (mVar 0))) [2] (mgN 2) mYes (mTup (mCons (mOp ixF (mVar 2) (mC (.int 0))) (mCons (mCall (G 9020) (mCons (mOp ixF (mVar 2) (mC (.int 1))) (mCons (mVar 1) mNil))) (mCons (mCall (G 9020) (mCons (mOp ixF (mVar 2) (mC (.int 2))) (mCons (mVar 1) mNil))) mNil))))))))
/-- 9022 0 _law_found, 1 _law_k -/
noncomputable def c__law_renumbering (G : GF) : MS := (mRet (mAlloc (mComp (mRng1 (mFn1 fLen (oD (mVar 0)))) [1] (mgN 1) mYes (mTup (mCons (mOp ixF (mVar 0) (mVar 1)) (mCons (mVar 1) mNil))))))
/-- 9023 0 _law_told_here, 1 _law_key -/
noncomputable def c__law_pairs_2 (G : GF) : MS := (mRet (mAlloc (mLockA 0 (mComp (mKeys (mVar 0)) [1] (mgN 1) mYes (mTup (mCons (mVar 1) (mCons (mOp ixX (mVar 0) (mVar 1)) mNil)))))))
/-- 9024 0 _law_whole, 1 _law_c, 2 _law_d, 3 _law_amount, 4 _law_told_here, 5 _law_clause_here, 6 _law_order, 7 _law_first, 8 _law_second, 9 _law_pair, 10 _law_new, 11 _law_ours, 12 _law_theirs, 13 _law_x -/
noncomputable def c__law_conclusion (G : GF) : MS := (mSeq (mSet 5 (mCall (G 9021) (mCons (mVar 0) (mCons (mVar 4) mNil))))
    (mSeq (mSet 6 (mCall (G 9019) (mCons (mVar 5) mNil)))
    (mSeq (mSetL 7 (mComp (mSrc (oD (mCall (G 9019) (mCons (mVar 1) mNil)))) [13] (mgN 13) mYes (mTup (mCons (mVar 13) (mCons (mCall (G 9020) (mCons (mVar 13) (mCons (mVar 4) mNil))) mNil)))))
    (mSeq (mSetL 8 (mComp (mSrc (oD (mCall (G 9019) (mCons (mVar 2) mNil)))) [13] (mgN 13) mYes (mTup (mCons (mVar 13) (mCons (mCall (G 9020) (mCons (mOp fAdd (mVar 13) (mVar 3)) (mCons (mVar 4) mNil))) mNil)))))
    (mSeq (mFor (mSrc (oN (mCatL (oD (mVar 7)) (oD (mVar 8))))) (mgN 9) (mSet 6 (mCall (G 15) (mCons (mOp ixF (mVar 9) (mC (.int 1))) (mCons (mVar 6) mNil)))))
    (mSeq (mSet 10 (mCall (G 9022) (mCons (mVar 6) mNil)))
    (mSeq (mSetL 11 (mComp (mSrc (oD (mVar 7))) [9] (mgN 9) mYes (mTup (mCons (mOp ixF (mVar 9) (mC (.int 0))) (mCons (mCall (G 9020) (mCons (mOp ixF (mVar 9) (mC (.int 1))) (mCons (mVar 10) mNil))) mNil)))))
    (mSeq (mSetL 12 (mComp (mSrc (oD (mVar 8))) [9] (mgN 9) mYes (mTup (mCons (mOp ixF (mVar 9) (mC (.int 0))) (mCons (mCall (G 9020) (mCons (mOp ixF (mVar 9) (mC (.int 1))) (mCons (mVar 10) mNil))) mNil)))))
    (mRet (mAlloc (mLst (mCons (mCall (G 9021) (mCons (mVar 5) (mCons (mVar 10) mNil))) (mCons (mVar 11) (mCons (mVar 12) mNil))))))))))))))
/-- 9025 0 _law_one, 1 _law_spot -/
def c__law_told (G : GF) : MS := (mSeq (mSet 1 (mAlloc (mLst (mCons (mFld ["Conclusion"] "kind" (mVar 0)) (mCons (mFld ["Conclusion"] "literal" (mVar 0)) (mCons (mFld ["Conclusion"] "side" (mVar 0)) (mCons (mFld ["Conclusion"] "place" (mVar 0)) (mCons (mFld ["Conclusion"] "other_literal" (mVar 0)) (mCons (mFld ["Conclusion"] "other_side" (mVar 0)) mNil)))))))))
    (mRet (mAlloc (mCatL (oD (mVar 1)) (oN (mLst (mCons (mFld ["Conclusion"] "clause" (mVar 0)) (mCons (mCall (G 9023) (mCons (mFld ["Conclusion"] "first" (mVar 0)) mNil)) (mCons (mCall (G 9023) (mCons (mFld ["Conclusion"] "second" (mVar 0)) mNil)) mNil)))))))))
/-- 9028 0 weights, 1 c, 2 k, 3 s, 4 j, 5 t, 6 one, 7 other, 8 found, 9 literal, 10 whole -/
def c_factoring (G : GF) : MS := (mSeq (mSet 6 (mCall (G 31) (mCons (mOp ixF (mVar 1) (mVar 2)) (mCons (mVar 3) mNil))))
    (mSeq (mSet 7 (mCall (G 31) (mCons (mOp ixF (mVar 1) (mVar 4)) (mCons (mVar 5) mNil))))
    (mSeq (mIfS (mBool (mOpO fNe (oD (mCall (G 19) (mCons (mVar 6) mNil))) (oD (mCall (G 19) (mCons (mVar 7) mNil))))) (mRet (mC .non)) mSkip)
    (mSeq (mSet 8 (mCall (G 5000) (mCons (mAlloc (mLst (mCons (mTup (mCons (mVar 6) (mCons (mVar 7) mNil))) mNil))) mNil)))
    (mSeq (mIfS (mOrT (mBool (mIsN (mVar 8))) (mOrT (mNotT (mTru (mCall (G 9002) (mCons (mVar 0) (mCons (mVar 1) (mCons (mC .non) (mCons (mVar 2) (mCons (mVar 8) mNil)))))))) (mNotT (mTru (mCall (G 9004) (mCons (mVar 0) (mCons (mOp ixF (mVar 1) (mVar 2)) (mCons (mVar 3) (mCons (mVar 8) mNil))))))))) (mRet (mC .non)) mSkip)
    (mSeq (mSet 9 (mTup (mCons (mC (.bl false)) (mCons (mCall (G 31) (mCons (mOp ixF (mVar 1) (mVar 2)) (mCons (mOp fSub (mC (.int 1)) (mVar 3)) mNil))) (mCons (mCall (G 31) (mCons (mOp ixF (mVar 1) (mVar 4)) (mCons (mOp fSub (mC (.int 1)) (mVar 5)) mNil))) mNil)))))
    (mSeq (mSet 10 (mCall (G 1002) (mCons (mOp fAdd (mOp fAdd (oS (mSl (mVar 1) mNoI (mSoI (mVar 2)))) (mTup (mCons (mVar 9) mNil))) (oS (mSl (mVar 1) (mSoI (mOp fAdd (mVar 2) (mC (.int 1)))) mNoI))) (mCons (mVar 8) mNil))))
    (mRet (mCall (G 9008) (mCons (mC (.str (Str.ofString "factoring"))) (mCons (mVar 10) (mCons (mVar 2) (mCons (mVar 3) (mCons (mC .non) (mCons (mVar 4) (mCons (mVar 5) (mCons (mCall (G 9009) (mCons (mVar 1) (mCons (mVar 8) (mCons (mC (.int 0)) mNil)))) (mCons (mDnewK) mNil))))))))))))))))))
/-- 9029 0 weights, 1 c, 2 selected, 3 k, 4 found, 5 rest -/
def c_resolution (G : GF) : MS := (mSeq (mSet 4 (mCall (G 5000) (mCons (mAlloc (mLst (mCons (mTup (mCons (mOp ixF (mOp ixF (mVar 1) (mVar 3)) (mC (.int 1))) (mCons (mOp ixF (mOp ixF (mVar 1) (mVar 3)) (mC (.int 2))) mNil))) mNil))) mNil)))
    (mSeq (mIfS (mOrT (mBool (mIsN (mVar 4))) (mNotT (mTru (mCall (G 9002) (mCons (mVar 0) (mCons (mVar 1) (mCons (mVar 2) (mCons (mVar 3) (mCons (mVar 4) mNil))))))))) (mRet (mC .non)) mSkip)
    (mSeq (mSet 5 (mCall (G 1002) (mCons (mOp fAdd (oS (mSl (mVar 1) mNoI (mSoI (mVar 3)))) (oS (mSl (mVar 1) (mSoI (mOp fAdd (mVar 3) (mC (.int 1)))) mNoI))) (mCons (mVar 4) mNil))))
    (mRet (mCall (G 9008) (mCons (mC (.str (Str.ofString "resolution"))) (mCons (mVar 5) (mCons (mVar 3) (mCons (mC .non) (mCons (mC .non) (mCons (mC .non) (mCons (mC .non) (mCons (mCall (G 9009) (mCons (mVar 1) (mCons (mVar 4) (mCons (mC (.int 0)) mNil)))) (mCons (mDnewK) mNil))))))))))))))
/-- 9030 0 weights, 1 c, 2 selected, 3 found, 4 k, 5 literal, 6 one -/
noncomputable def c_resolutions (G : GF) : MS := (mSeq (mSet 3 (mAlloc (mLst mNil)))
    (mSeq (mFor (mEnum (oD (mVar 1))) (mgTup 2 (mgCons (mgN 4) (mgCons (mgN 5) mgNil))) (mIfS (mNotT (mTru (mOp ixF (mVar 5) (mC (.int 0))))) (mSeq (mSet 6 (mCall (G 9029) (mCons (mVar 0) (mCons (mVar 1) (mCons (mVar 2) (mCons (mVar 4) mNil))))))
    (mIfS (mBool (mNotN (mVar 6))) (mDrop (mApp (mVar 3) (mVar 6))) mSkip)) mSkip))
    (mRet (mVar 3))))
noncomputable def lZl9 : List Fb := [mkFb 2 3 c_shifted,
  mkFb 2 3 c_shifted_clause,
  mkFb 5 5 c_may_act,
  mkFb 5 5 c_may_give,
  mkFb 4 6 c_may_lead,
  mkFb 10 10 c_Conclusion_init,
  mkFb 3 8 c_numbering,
  mkFb 2 3 c_renamed,
  mkFb 9 10 c_conclude_2,
  mkFb 3 4 c_became,
  mkFb 1 7 c_spots,
  mkFb 1 5 c_leads,
  mkFb 6 6 c_Superposer_init,
  mkFb 6 7 c_Superposer_allowed,
  mkFb 3 16 c_Superposer_conclusion,
  mkFb 5 11 c_superpositions,
  mkFb 3 5 c__law_positive_clause,
  mkFb 2 4 c__law_selected,
  mkFb 3 5 c__law_leads,
  mkFb 1 3 c__law_clause_variables,
  mkFb 2 4 c__law_put_2_2,
  mkFb 2 3 c__law_put_clause_2_2,
  mkFb 1 2 c__law_renumbering,
  mkFb 1 2 c__law_pairs_2,
  mkFb 5 14 c__law_conclusion,
  mkFb 1 2 c__law_told,
  deleg 9005,
  deleg 9012,
  mkFb 6 11 c_factoring,
  mkFb 4 6 c_resolution,
  mkFb 3 7 c_resolutions]
end Zi
set_option maxRecDepth 100000
set_option maxHeartbeats 1000000
namespace Zi
open PySem L2
local macro_rules | `(tactic| walk_at "ev") => `(tactic| (simp only [mSeq, mSet, mRet, mIfS, mIf, mOp, mOpO, mC, mVar, mBool, mFn1, oD, oN, oS, fLen, lenO, seqO, mSkip, fAdd, fMul, fI, fI0, fLt, fLe, fGt, fGe, fSub, fMod, fDiv, fInt, ixF, mNil, mCons, mTup, mCall, mLst, mAlloc, mIsN, mNotN, isNon, mNotT, mAndT, mOrT, mTru, truD, mAsg, mgTup, mgCons, mgNil, mgN, mLisc, mIsI, tyO, isTyB, mDrop, mAug, fIadd, mMax2, mAnd, mOr, mNot, fLtT, fTupc, mApp, mulC_r, mulC_l, divC_r, modC_r, atI_0, atI_1, atI_2, fEq_int, fNe_int, fEq_bl, mSrc, srcO, eT_v, eT_ap, eS, List.length_cons, List.length_nil, Option.bind_some, Option.map_some, List.map_cons, List.map_nil, List.cons_append, List.nil_append, List.replicate, List.getElem?_cons_zero, List.getElem?_cons_succ, List.set_cons_zero, List.set_cons_succ, if_true, decide_true, Int.reduceNeg, Int.reducePow, Int.reduceLT, Nat.reduceAdd, Nat.reduceSub, and_self, Nat.reduceLeDiff, Bool.false_eq_true, if_false, Bool.not_true, Bool.not_false, Int.reduceEq, decide_false, Bool.or_false, Bool.false_or, Bool.or_true, Bool.true_or, Bool.and_true, Bool.true_and, Bool.and_false, Bool.false_and, String.reduceEq, *]))
local macro_rules | `(tactic| walk_at "step") => `(tactic| (refine (Eq.trans (seq_set (by ((try walk_at "ev"); exact rfl))) ?_); simp only [List.set_cons_zero, List.set_cons_succ]))
abbrev OkV : Tm → Prop := Tm.Ok (fun i => 0 ≤ i ∧ i < 3) (fun a b c n => (0 ≤ a ∧ a < 6) ∧ n ≤ 2 ∧ (a = 0 → b = 0 ∧ c = 0))
structure LQ (H : Nat) (B : Int) (x : Lit) : Prop extends LitB H B x where
  ol : OkV x.l
  or : OkV x.r
  gd : good x = true
theorem okv_term {d : Nat} {t : Tm} (h : TermOk d t) : OkV t := h.ok.imp (fun _ z => z) (fun a b c n z => by
  have z1 := z.1
  simp only [SymT, fiveS, List.mem_cons, Prod.mk.injEq, List.not_mem_nil, or_false] at z1
  omega)
theorem okv_atom {d : Nat} {t : Tm} (h : AtomOk d t) : OkV t := h.ok.imp (fun _ z => z) (fun a b c n z => by
  have z1 := z.1
  simp only [SymT, fiveS, SymA, sixA, List.mem_cons, Prod.mk.injEq, List.not_mem_nil, or_false] at z1
  omega)
theorem okv_truth : OkV tTruth := .ap (by simp) (fun t h => by cases h)
theorem OkV.wd {t : Tm} (h : OkV t) : t.Wd 2 := Tm.Ok.wd (fun a b c m z => z.2.1) h
theorem ind_term {d : Nat} {t : Tm} (h : TermOk d t) : t.ind' = true := by
  have := h.ok
  clear h
  induction this with
  | v _ => simp [Tm.ind']
  | ap hq _ ih =>
    have z1 := hq.1
    simp only [SymT, fiveS, List.mem_cons, Prod.mk.injEq, List.not_mem_nil, or_false] at z1
    simp only [Tm.ind', inds_all, Bool.and_eq_true, decide_eq_true_eq, List.all_eq_true]
    exact ⟨by omega, ih⟩
theorem good_term {d : Nat} {t u : Tm} (h1 : TermOk d t) (h2 : TermOk d u) {p : Bool} : good ⟨p, t, u⟩ = true := by
  unfold good
  simp only [ind_term h1, ind_term h2, Bool.and_self, Bool.true_or]
theorem good_atom {d : Nat} {t : Tm} (h : AtomOk d t) {p : Bool} : good ⟨p, t, tTruth⟩ = true := by
  obtain ⟨a, b, c, ts, rfl, z1, _, h4⟩ := h.is
  simp only [SymA, sixA, List.mem_cons, Prod.mk.injEq, List.not_mem_nil, or_false] at z1
  unfold good
  have : (Tm.ap a b c ts).atomic = true := by
    simp only [Tm.atomic, inds_all, Bool.and_eq_true, Bool.not_eq_true', decide_eq_false_iff_not, List.all_eq_true]
    exact ⟨by omega, fun x hx => ind_term (h4 x hx)⟩
  simp only [this, teq_self, Bool.and_self, Bool.or_true]
section
variable {prog : Nat → Option Fb} (hp : ∀ j fb, lZl0[j]? = some fb → prog (0 + j) = some fb) {k : Nat} {S : Sto}
include hp
theorem r_literal2 {d : Nat} (hd : d ≤ k) {row : Int} (hrow : 0 ≤ row) (S : Sto) : ∃ x row', LQ (d + 2) (bdT (d + 1)) x ∧ 0 ≤ row' ∧ run prog (k + 4) 37 [.int row, .int d] S = some (.tup [eL x, .int row'], S) := by
  obtain ⟨t0, w0, f0, g0, h0⟩ := r_atom hp d hd (show 0 ≤ row / 6 by omega) S
  obtain ⟨t1, w1, f1, g1, h1⟩ := r_term hp d (k := k + 1) (by omega) (show 0 ≤ row / 6 by omega) S
  obtain ⟨t2, w2, f2, g2, h2⟩ := r_term hp d (k := k + 1) (by omega) g1 S
  have hb := bdT_pos d
  have e1 : ∀ l : Lo, l[0]? = some (some (.int row)) → mOpO fEq (oD (mOp fMod (mFn1 fInt (oD (mVar 0))) (mC (.int 2)))) (oD (mC (.int 0))) l S = some (.bl (decide (row % 2 = 0)), S) := fun l h => by
    clear h0 h1 h2
    walk_at "ev"
  have b1 := f1.size
  have b2 := f2.size
  have hh1 := f1.hgt
  have hh2 := f2.hgt
  by_cases hk : row / 2 % 3 = 0
  · refine ⟨⟨decide (row % 2 = 0), t0, tTruth⟩, w0, ⟨⟨kok_atom f0, .ap (by simp) (by simp), f0.hgt, by simp [tTruth, Tm.hgt, hgts], f0.size, by simp only [tTruth, Tm.size, sizes, bdT]; omega⟩, okv_atom f0, okv_truth, good_atom f0⟩, g0, ?_⟩
    refine call_pure (hp 37 _ rfl) rfl ?_ (by rw [refLt_tup, refLtL_cons, refLt_eL, refLtL_cons, refLt_int, refLtL_nil]; rfl)
    show c__law_literal (run prog (k + 3)) [some (.int row), some (.int d), none, none, none, none, none] S = _
    unfold c__law_literal
    rw [seq_set (e1 _ rfl)]
    rw [seq_set (v := .int (row / 2 % 3)) (S1 := S) (by clear h0 h1 h2 e1 hk; walk_at "ev"), seq_set (v := .int (row / 6)) (S1 := S) (by clear h0 h1 h2 e1 hk; walk_at "ev")]
    rw [seq_ifT (S1 := S) (by clear h0 h1 h2 e1; walk_at "ev"), seq_seq]
    rw [seq_set (v := .tup [eT t0, .int w0]) (S1 := S) (call2 (var_of rfl) (var_of rfl) h0)]
    simp only [List.set_cons_zero, List.set_cons_succ]
    clear h0 h1 h2 e1
    simp only [eL, tTruth, eT_ap, List.map_nil]
    generalize eT t0 = dt
    exact seq_rt (by walk_at "ev")
  · refine ⟨⟨decide (row % 2 = 0), t1, t2⟩, w2, ⟨⟨kok_term f1, kok_term f2, show t1.hgt ≤ d + 2 by omega, show t2.hgt ≤ d + 2 by omega, show t1.size ≤ bdT (d + 1) by simp only [bdT]; omega, show t2.size ≤ bdT (d + 1) by simp only [bdT]; omega⟩, okv_term f1, okv_term f2, good_term f1 f2⟩, g2, ?_⟩
    refine call_pure (hp 37 _ rfl) rfl ?_ (by rw [refLt_tup, refLtL_cons, refLt_eL, refLtL_cons, refLt_int, refLtL_nil]; rfl)
    show c__law_literal (run prog (k + 3)) [some (.int row), some (.int d), none, none, none, none, none] S = _
    unfold c__law_literal
    rw [seq_set (e1 _ rfl)]
    rw [seq_set (v := .int (row / 2 % 3)) (S1 := S) (by clear h0 h1 h2 e1 hk; walk_at "ev"), seq_set (v := .int (row / 6)) (S1 := S) (by clear h0 h1 h2 e1 hk; walk_at "ev")]
    rw [seq_ifF (S1 := S) (by clear h0 h1 h2 e1; walk_at "ev"), seq_skip]
    rw [seq_set (v := .tup [eT t1, .int w1]) (S1 := S) (call2 (var_of rfl) (var_of rfl) h1)]
    simp only [List.set_cons_zero, List.set_cons_succ]
    rw [seq_set (v := .tup [eT t2, .int w2]) (S1 := S) (call2 (by
      clear h0 h1 h2 e1
      generalize eT t1 = dt
      walk_at "ev") (var_of rfl) h2)]
    simp only [List.set_cons_zero, List.set_cons_succ]
    clear h0 h1 h2 e1
    simp only [eL]
    generalize eT t1 = dt
    generalize eT t2 = du
    walk_at "ev"
theorem r_clause2 {d m : Nat} (hd : d ≤ k) (hm : m ≤ 100) {row : Int} (hrow : 0 ≤ row) (S : Sto) : ∃ xs : List Lit, xs.length ≤ 2 * m ∧ (∀ x ∈ xs, LQ (d + 2) (bdT (d + 1)) x) ∧ run prog (k + 5) 38 [.int row, .int m, .int d] S = some (.tup (xs.map eL), S) := by
  obtain ⟨many, hmany⟩ : ∃ many : Nat, row % ((m : Int) + 1) = many := ⟨(row % ((m : Int) + 1)).toNat, by have := Int.emod_nonneg row (show (m : Int) + 1 ≠ 0 by omega); omega⟩
  have hle : many ≤ m := by have := Int.emod_lt_of_pos row (show (0 : Int) < (m : Int) + 1 by omega); omega
  obtain ⟨l', S', h1, xs, row', o5, o6, h2, h3, h4, h5, h6, h7⟩ := forL_inv (ok := fun _ => True) (tg := mgN 5) (body := (mSeq (mSet 6 (mCall (run prog ((k+4)) 37) (mCons (mVar 0) (mCons (mVar 2) mNil))))
    (mSeq (mDrop (mApp (mVar 4) (mOp ixF (mVar 6) (mC (.int 0)))))
    (mSeq (mSet 0 (mOp ixF (mVar 6) (mC (.int 1))))
    (mIfS (mBool (mOpO fEq (oD (mOp fMod (mOp fDiv (mVar 0) (mC (.int 3))) (mC (.int 4)))) (oD (mC (.int 1))))) (mDrop (mApp (mVar 4) (mOp ixF (mVar 4) (mOp fMod (mFn1 fInt (oD (mVar 0))) (mFn1 fLen (oD (mVar 4))))))) mSkip))))) (fun j : Nat => D.int (0 + (j : Nat)))
    (fun dn l S' => ∃ (xs : List Lit) (row' : Int) (o5 o6 : Option D), 0 ≤ row' ∧ dn.length ≤ xs.length ∧ xs.length ≤ 2 * dn.length ∧ (∀ x ∈ xs, LQ (d + 2) (bdT (d + 1)) x) ∧ l = [some (.int row'), some (.int m), some (.int d), some (.int many), some (.ref S.length), o5, o6] ∧ S' = S ++ [.lst (xs.map eL)]) (fun _ _ _ _ => trivial) (List.range many)
    (fun dn j rest l S' hall ⟨xs, row', o5, o6, h2, h3, h4, h5, h6, h7⟩ => by
      subst h6 h7
      have hlen := congrArg List.length hall
      rw [List.length_range, List.length_append, List.length_cons] at hlen
      obtain ⟨x, row2, g1, g2, g3⟩ := r_literal2 hp (k := k) hd h2 (S ++ [.lst (xs.map eL)])
      have ho1 : ∀ y ∈ xs ++ [x], LQ (d + 2) (bdT (d + 1)) y := fun y hy => by
        rcases List.mem_append.mp hy with z | z
        · exact h5 y z
        · rw [List.mem_singleton] at z; subst z; exact g1
      have a1 := app_of (o := mVar 4) (x := mOp ixF (mVar 6) (mC (.int 0))) (l := [some (.int row'), some (.int m), some (.int d), some (.int many), some (.ref S.length), some (.int (0 + (j : Nat))), some (.tup [eL x, .int row2])]) (S := S ++ [.lst (xs.map eL)]) (d := eL x) rfl last_get (by
        simp only [mOp, mVar, mC, List.getElem?_cons_zero, List.getElem?_cons_succ, Option.bind_some, ixF, atI_0]) (by rw [List.length_map]; omega)
      rw [last_set, show xs.map eL ++ [eL x] = (xs ++ [x]).map eL by rw [List.map_append]; rfl] at a1
      have head : ∀ c : MS, mSeq (mSet 6 (mCall (run prog (k + 4) 37) (mCons (mVar 0) (mCons (mVar 2) mNil)))) (mSeq (mDrop (mApp (mVar 4) (mOp ixF (mVar 6) (mC (.int 0))))) (mSeq (mSet 0 (mOp ixF (mVar 6) (mC (.int 1)))) c)) [some (.int row'), some (.int m), some (.int d), some (.int many), some (.ref S.length), some (.int (0 + (j : Nat))), o6] (S ++ [.lst (xs.map eL)]) = c [some (.int row2), some (.int m), some (.int d), some (.int many), some (.ref S.length), some (.int (0 + (j : Nat))), some (.tup [eL x, .int row2])] (S ++ [.lst ((xs ++ [x]).map eL)]) := fun c => by
        rw [seq_set (call2 (var_of rfl) (var_of rfl) g3)]
        simp only [List.set_cons_zero, List.set_cons_succ]
        rw [seq_nx a1]
        rw [seq_set (v := .int row2) (S1 := S ++ [.lst ((xs ++ [x]).map eL)]) (by simp only [mOp, mVar, mC, List.getElem?_cons_zero, List.getElem?_cons_succ, Option.bind_some, ixF, atI_1])]
        simp only [List.set_cons_zero, List.set_cons_succ]
      have hg := last_get (S := S) (c := .lst ((xs ++ [x]).map eL))
      have hlx : (xs ++ [x]).length = xs.length + 1 := by simp
      generalize hxs : xs ++ [x] = ys at *
      have tst : (mBool (mOpO fEq (oD (mOp fMod (mOp fDiv (mVar 0) (mC (.int 3))) (mC (.int 4)))) (oD (mC (.int 1))))) [some (.int row2), some (.int m), some (.int d), some (.int many), some (.ref S.length), some (.int (0 + (j : Nat))), some (.tup [eL x, .int row2])] (S ++ [.lst (ys.map eL)]) = some (decide (row2 / 3 % 4 = 1), S ++ [.lst (ys.map eL)]) := by
        clear hmany hall hlen a1 head g3 hg hrow hle h2 h3 h4 hlx
        generalize eL x = dx
        generalize (0 : Int) + (j : Nat) = jj
        walk_at "ev"
      by_cases hr : row2 / 3 % 4 = 1
      · have hpos : 0 < ((ys.length : Nat) : Int) := by omega
        have e1 := Int.emod_nonneg row2 (show ((ys.length : Nat) : Int) ≠ 0 by omega)
        have e2 := Int.emod_lt_of_pos row2 hpos
        obtain ⟨y, z1, z2⟩ := atI_lt (xs := ys.map eL) e1 (by rw [List.length_map]; exact e2)
        obtain ⟨q, z3, rfl⟩ := List.mem_map.mp z2
        have hmod : modC row2 ((ys.length : Nat) : Int) = true := modC_r hpos
        have a2 := app_of (o := mVar 4) (x := mOp ixF (mVar 4) (mOp fMod (mFn1 fInt (oD (mVar 0))) (mFn1 fLen (oD (mVar 4))))) (l := [some (.int row2), some (.int m), some (.int d), some (.int many), some (.ref S.length), some (.int (0 + (j : Nat))), some (.tup [eL x, .int row2])]) (S := S ++ [.lst (ys.map eL)]) (d := eL q) rfl hg (by
          simp only [mOp, mVar, mFn1, oD, List.getElem?_cons_zero, List.getElem?_cons_succ, Option.bind_some, fInt, fLen, lenO, seqO, hg, List.length_map, fMod, fI]
          rw [if_pos hmod]
          simp only [Option.bind_some, ixF, hg, z1]) (by rw [List.length_map]; omega)
        rw [last_set, show ys.map eL ++ [eL q] = (ys ++ [q]).map eL by rw [List.map_append]; rfl] at a2
        refine ⟨_, [some (.int row2), some (.int m), some (.int d), some (.int many), some (.ref S.length), some (.int (0 + (j : Nat))), some (.tup [eL x, .int row2])], S ++ [.lst ((ys ++ [q]).map eL)], rfl, (head _).trans ?_, ys ++ [q], row2, _, _, g2, by simp only [List.length_append, List.length_singleton]; omega, by simp only [List.length_append, List.length_singleton]; omega, ?_, rfl, rfl⟩
        · rw [decide_eq_true hr] at tst
          unfold mIfS
          rw [tst]
          exact a2
        · intro y hy
          rcases List.mem_append.mp hy with z | z
          · exact ho1 y z
          · rw [List.mem_singleton] at z; subst z; exact ho1 _ z3
      · refine ⟨_, [some (.int row2), some (.int m), some (.int d), some (.int many), some (.ref S.length), some (.int (0 + (j : Nat))), some (.tup [eL x, .int row2])], S ++ [.lst (ys.map eL)], rfl, (head _).trans ?_, ys, row2, _, _, g2, by simp only [List.length_append, List.length_singleton]; omega, by simp only [List.length_append, List.length_singleton]; omega, ho1, rfl, rfl⟩
        rw [decide_eq_false hr] at tst
        unfold mIfS
        rw [tst]
        rfl) (List.range many) [] [some (.int (row / ((m : Int) + 1))), some (.int m), some (.int d), some (.int many), some (.ref S.length), none, none] (S ++ [.lst []]) rfl ⟨[], _, none, none, Int.ediv_nonneg hrow (by omega), by simp, by simp, (fun _ h => by cases h), rfl, rfl⟩
  rw [List.length_range] at h4
  subst h6 h7
  refine ⟨xs, by omega, h5, ?_⟩
  refine run_more (T := [.lst (xs.map eL)]) (hp 38 _ rfl) rfl ?_ (by rw [refLt_tup]; exact refLtL_eL _)
  show c__law_clause (run prog (k + 4)) [some (.int row), some (.int m), some (.int d), none, none, none, none] S = _
  unfold c__law_clause
  have hmod : modC row ((m : Int) + 1) = true := modC_r (by omega)
  have hdiv : divC row ((m : Int) + 1) = true := by
    refine divC_r ⟨by omega, ?_⟩
    have : (m : Int) + 1 ≤ 1000 := by omega
    exact Int.lt_of_le_of_lt this (by decide)
  rw [seq_set (v := .int many) (S1 := S) (by
    rw [← hmany]
    simp only [mOp, mVar, mC, mFn1, oD, List.getElem?_cons_zero, List.getElem?_cons_succ, Option.bind_some, fInt, fAdd, fMod, fI]
    rw [if_pos hmod])]
  rw [seq_set (v := .int (row / ((m : Int) + 1))) (S1 := S) (by
    simp only [mOp, mVar, mC, List.set_cons_zero, List.set_cons_succ, List.getElem?_cons_zero, List.getElem?_cons_succ, Option.bind_some, fAdd, fDiv, fI]
    rw [if_pos hdiv])]
  rw [seq_set (v := .ref S.length) (S1 := S ++ [.lst []]) (by rfl)]
  simp only [List.set_cons_zero, List.set_cons_succ]
  refine (seq_nx ((for_of (rng1_of (n := many) rfl (by omega))).trans h1)).trans ?_
  have hg := last_get (S := S) (c := .lst (xs.map eL))
  simp only [mRet, mFn1, oD, mVar, List.getElem?_cons_zero, List.getElem?_cons_succ, Option.bind_some, fTupc, seqO, hg]
end
end Zi
set_option maxRecDepth 100000
set_option maxHeartbeats 1000000
namespace Zi
open PySem L2
end Zi
set_option maxRecDepth 100000
namespace Zi
open PySem L2
/-- 12000 0 _law_term, 1 _law_found, 2 _law_part -/
noncomputable def c__law_uses_2 (G : GF) : MS := (mSeq (mIfS (mTru (mCall (G 2014) (mCons (mVar 0) mNil))) (mRet (mVar 1)) mSkip)
    (mSeq (mIfS (mAndT (mBool (mOpO fNin (oD (mTup (mCons (mOp ixF (mVar 0) (mC (.int 0))) (mCons (mFn1 fLen (oD (mOp ixF (mVar 0) (mC (.int 1))))) mNil)))) (oD (mVar 1)))) (mBool (mOpO fNe (oD (mVar 0)) (oD (mTup (mCons (mTup (mCons (mC (.int 0)) (mCons (mC (.int 0)) (mCons (mC (.int 0)) mNil)))) (mCons (mTup mNil) mNil))))))) (mSet 1 (mAlloc (mCatL (oD (mVar 1)) (oN (mLst (mCons (mTup (mCons (mOp ixF (mVar 0) (mC (.int 0))) (mCons (mFn1 fLen (oD (mOp ixF (mVar 0) (mC (.int 1))))) mNil))) mNil)))))) mSkip)
    (mSeq (mFor (mSrc (oD (mOp ixF (mVar 0) (mC (.int 1))))) (mgN 2) (mSet 1 (mCall (G 12000) (mCons (mVar 2) (mCons (mVar 1) mNil)))))
    (mRet (mVar 1)))))
/-- 12001 0 _law_term, 1 _law_tables, 2 _law_size, 3 _law_values, 4 _law_at, 5 _law_part -/
noncomputable def c__law_value (G : GF) : MS := (mSeq (mIfS (mTru (mCall (G 2014) (mCons (mVar 0) mNil))) (mRet (mOp ixX (mVar 3) (mVar 0))) mSkip)
    (mSeq (mIfS (mBool (mOpO fEq (oD (mVar 0)) (oD (mTup (mCons (mTup (mCons (mC (.int 0)) (mCons (mC (.int 0)) (mCons (mC (.int 0)) mNil)))) (mCons (mTup mNil) mNil)))))) (mRet (mC (.int 1))) mSkip)
    (mSeq (mSet 4 (mC (.int 0)))
    (mSeq (mFor (mSrc (oD (mOp ixF (mVar 0) (mC (.int 1))))) (mgN 5) (mSet 4 (mOp fAdd (mOp fMul (mVar 4) (mVar 2)) (mCall (G 12001) (mCons (mVar 5) (mCons (mVar 1) (mCons (mVar 2) (mCons (mVar 3) mNil))))))))
    (mRet (mOp ixF (mOp ixNk (mVar 1) (mTup (mCons (mOp ixF (mVar 0) (mC (.int 0))) (mCons (mFn1 fLen (oD (mOp ixF (mVar 0) (mC (.int 1))))) mNil)))) (mVar 4)))))))
/-- 12002 0 _law_formula_here, 1 _law_tables, 2 _law_size, 3 _law_values, 4 _law_tag, 5 _law_told, 6 _law_individual, 7 _law_inner, 8 _law_key, 9 _law_left, 10 _law_right -/
noncomputable def c__law_holds (G : GF) : MS := (mSeq (mSet 4 (mOp ixF (mVar 0) (mC (.int 0))))
    (mSeq (mIfS (mBool (mOp fEqS (mVar 4) (mC (.str (Str.ofString "atom"))))) (mRet (mOpO fEq (oD (mCall (G 12001) (mCons (mOp ixF (mVar 0) (mC (.int 1))) (mCons (mVar 1) (mCons (mVar 2) (mCons (mVar 3) mNil)))))) (oD (mC (.int 1))))) mSkip)
    (mSeq (mIfS (mBool (mOp fEqS (mVar 4) (mC (.str (Str.ofString "equal"))))) (mRet (mOpO fEq (oD (mCall (G 12001) (mCons (mOp ixF (mVar 0) (mC (.int 1))) (mCons (mVar 1) (mCons (mVar 2) (mCons (mVar 3) mNil)))))) (oD (mCall (G 12001) (mCons (mOp ixF (mVar 0) (mC (.int 2))) (mCons (mVar 1) (mCons (mVar 2) (mCons (mVar 3) mNil)))))))) mSkip)
    (mSeq (mIfS (mBool (mOp fEqS (mVar 4) (mC (.str (Str.ofString "not"))))) (mRet (mNot (mCall (G 12002) (mCons (mOp ixF (mVar 0) (mC (.int 1))) (mCons (mVar 1) (mCons (mVar 2) (mCons (mVar 3) mNil))))))) mSkip)
    (mSeq (mIfS (mOrT (mBool (mOp fEqS (mVar 4) (mC (.str (Str.ofString "all"))))) (mBool (mOp fEqS (mVar 4) (mC (.str (Str.ofString "some")))))) (mSeq (mSet 5 (mAlloc (mLst mNil)))
    (mSeq (mFor (mRng1 (mVar 2)) (mgN 6) (mSeq (mSet 7 (mDnewK))
    (mSeq (mLockS 3 (mFor (mKeys (mVar 3)) (mgN 8) (mSetD (mVar 7) (mVar 8) (mOp ixX (mVar 3) (mVar 8)))))
    (mSeq (mSetD (mVar 7) (mOp ixF (mVar 0) (mC (.int 1))) (mVar 6))
    (mDrop (mApp (mVar 5) (mCall (G 12002) (mCons (mOp ixF (mVar 0) (mC (.int 2))) (mCons (mVar 1) (mCons (mVar 2) (mCons (mVar 7) mNil)))))))))))
    (mRet (mIf (mBool (mOp fEqS (mVar 4) (mC (.str (Str.ofString "all"))))) (mFn1 fAll (oD (mVar 5))) (mFn1 fAny (oD (mVar 5))))))) mSkip)
    (mSeq (mSet 9 (mCall (G 12002) (mCons (mOp ixF (mVar 0) (mC (.int 1))) (mCons (mVar 1) (mCons (mVar 2) (mCons (mVar 3) mNil))))))
    (mSeq (mSet 10 (mCall (G 12002) (mCons (mOp ixF (mVar 0) (mC (.int 2))) (mCons (mVar 1) (mCons (mVar 2) (mCons (mVar 3) mNil))))))
    (mSeq (mIfS (mBool (mOp fEqS (mVar 4) (mC (.str (Str.ofString "and"))))) (mRet (mAnd (mVar 9) (mVar 10))) mSkip)
    (mSeq (mIfS (mBool (mOp fEqS (mVar 4) (mC (.str (Str.ofString "or"))))) (mRet (mOr (mVar 9) (mVar 10))) mSkip)
    (mSeq (mIfS (mBool (mOp fEqS (mVar 4) (mC (.str (Str.ofString "implies"))))) (mRet (mOr (mNot (mVar 9)) (mVar 10))) mSkip)
    (mRet (mOpO fEq (oD (mVar 9)) (oD (mVar 10))))))))))))))
/-- 12003 0 _law_formula_here, 1 _law_found, 2 _law_tag -/
def c__law_formula_uses (G : GF) : MS := (mSeq (mSet 2 (mOp ixF (mVar 0) (mC (.int 0))))
    (mSeq (mIfS (mBool (mOp fEqS (mVar 2) (mC (.str (Str.ofString "atom"))))) (mRet (mCall (G 12000) (mCons (mOp ixF (mVar 0) (mC (.int 1))) (mCons (mVar 1) mNil)))) mSkip)
    (mSeq (mIfS (mBool (mOp fEqS (mVar 2) (mC (.str (Str.ofString "equal"))))) (mRet (mCall (G 12000) (mCons (mOp ixF (mVar 0) (mC (.int 2))) (mCons (mCall (G 12000) (mCons (mOp ixF (mVar 0) (mC (.int 1))) (mCons (mVar 1) mNil))) mNil)))) mSkip)
    (mSeq (mIfS (mBool (mOp fEqS (mVar 2) (mC (.str (Str.ofString "not"))))) (mRet (mCall (G 12003) (mCons (mOp ixF (mVar 0) (mC (.int 1))) (mCons (mVar 1) mNil)))) mSkip)
    (mSeq (mIfS (mOrT (mBool (mOp fEqS (mVar 2) (mC (.str (Str.ofString "all"))))) (mBool (mOp fEqS (mVar 2) (mC (.str (Str.ofString "some")))))) (mRet (mCall (G 12003) (mCons (mOp ixF (mVar 0) (mC (.int 2))) (mCons (mVar 1) mNil)))) mSkip)
    (mRet (mCall (G 12003) (mCons (mOp ixF (mVar 0) (mC (.int 2))) (mCons (mCall (G 12003) (mCons (mOp ixF (mVar 0) (mC (.int 1))) (mCons (mVar 1) mNil))) mNil)))))))))
noncomputable def lZl12 : List Fb := [mkFb 2 3 c__law_uses_2,
  mkFb 4 6 c__law_value,
  mkFb 4 11 c__law_holds,
  mkFb 2 3 c__law_formula_uses]
end Zi
set_option maxRecDepth 100000
namespace Zi
open PySem L2
/-- 10000 0 c, 1 positive, 2 k, 3 literal, 4 s, 5 j, 6 t -/
noncomputable def c_pairs_of_sides (G : GF) : MS := (mSeq (mSet 1 (mAlloc (mComp (mEnum (oD (mVar 0))) [2, 3] (mgTup 2 (mgCons (mgN 2) (mgCons (mgN 3) mgNil))) (mTru (mOp ixF (mVar 3) (mC (.int 0)))) (mVar 2))))
    (mRet (mCompN (mSrc (oD (mVar 1))) [2, 4, 5, 6] (mgN 2) mYes (bMid (mSrc (oD (mTup (mCons (mC (.int 0)) (mCons (mC (.int 1)) mNil))))) [4] (mgN 4) mYes (bMid (mSrc (oD (mVar 1))) [5] (mgN 5) (mBool (mOpO fNe (oD (mVar 5)) (oD (mVar 2)))) (bMid (mSrc (oD (mTup (mCons (mC (.int 0)) (mCons (mC (.int 1)) mNil))))) [6] (mgN 6) mYes (bLast (mTup (mCons (mVar 2) (mCons (mVar 4) (mCons (mVar 5) (mCons (mVar 6) mNil))))))))))))
/-- 10001 0 weights, 1 c, 2 selected, 3 found, 4 k, 5 s, 6 j, 7 t, 8 one -/
noncomputable def c_factorings (G : GF) : MS := (mSeq (mSet 3 (mAlloc (mLst mNil)))
    (mSeq (mIfS (mBool (mIsN (mVar 2))) (mFor (mSrc (oD (mCall (G 10000) (mCons (mVar 1) mNil)))) (mgTup 4 (mgCons (mgN 4) (mgCons (mgN 5) (mgCons (mgN 6) (mgCons (mgN 7) mgNil))))) (mSeq (mSet 8 (mCall (G 9028) (mCons (mVar 0) (mCons (mVar 1) (mCons (mVar 4) (mCons (mVar 5) (mCons (mVar 6) (mCons (mVar 7) mNil))))))))
    (mIfS (mBool (mNotN (mVar 8))) (mDrop (mApp (mVar 3) (mVar 8))) mSkip))) mSkip)
    (mRet (mVar 3))))
/-- 10002 0 _law_clause_here, 1 _law_kept, 2 _law_literal_here, 3 _law_one -/
noncomputable def c__law_well_formed (G : GF) : MS := (mSeq (mSet 1 (mAlloc (mLst mNil)))
    (mSeq (mFor (mSrc (oD (mVar 0))) (mgN 2) (mSeq (mSet 3 (mCall (G 8015) (mCons (mVar 2) mNil)))
    (mIfS (mAndT (mTru (mCall (G 23) (mCons (mOp ixF (mVar 3) (mC (.int 1))) mNil))) (mTru (mCall (G 23) (mCons (mOp ixF (mVar 3) (mC (.int 2))) mNil)))) (mDrop (mApp (mVar 1) (mVar 3))) (mIfS (mAndT (mTru (mCall (G 24) (mCons (mOp ixF (mVar 3) (mC (.int 1))) mNil))) (mBool (mOpO fEq (oD (mOp ixF (mVar 3) (mC (.int 2)))) (oD (mTup (mCons (mTup (mCons (mC (.int 0)) (mCons (mC (.int 0)) (mCons (mC (.int 0)) mNil)))) (mCons (mTup mNil) mNil))))))) (mDrop (mApp (mVar 1) (mVar 3))) mSkip))))
    (mRet (mFn1 fTupc (oD (mVar 1))))))
/-- 10003 0 _law_term_here, 1 _law_found, 2 _law_part -/
noncomputable def c__law_uses (G : GF) : MS := (mSeq (mIfS (mTru (mCall (G 14) (mCons (mVar 0) mNil))) (mRet (mVar 1)) mSkip)
    (mSeq (mIfS (mAndT (mBool (mOpO fNin (oD (mTup (mCons (mOp ixF (mVar 0) (mC (.int 0))) (mCons (mFn1 fLen (oD (mOp ixF (mVar 0) (mC (.int 1))))) mNil)))) (oD (mVar 1)))) (mBool (mOpO fNe (oD (mVar 0)) (oD (mTup (mCons (mTup (mCons (mC (.int 0)) (mCons (mC (.int 0)) (mCons (mC (.int 0)) mNil)))) (mCons (mTup mNil) mNil))))))) (mSet 1 (mAlloc (mCatL (oD (mVar 1)) (oN (mLst (mCons (mTup (mCons (mOp ixF (mVar 0) (mC (.int 0))) (mCons (mFn1 fLen (oD (mOp ixF (mVar 0) (mC (.int 1))))) mNil))) mNil)))))) mSkip)
    (mSeq (mFor (mSrc (oD (mOp ixF (mVar 0) (mC (.int 1))))) (mgN 2) (mSet 1 (mCall (G 10003) (mCons (mVar 2) (mCons (mVar 1) mNil)))))
    (mRet (mVar 1)))))
/-- 10004 0 _law_clause_here, 1 _law_found, 2 _law_literal_here -/
noncomputable def c__law_clause_uses (G : GF) : MS := (mSeq (mFor (mSrc (oD (mVar 0))) (mgN 2) (mSet 1 (mCall (G 10003) (mCons (mOp ixF (mVar 2) (mC (.int 2))) (mCons (mCall (G 10003) (mCons (mOp ixF (mVar 2) (mC (.int 1))) (mCons (mVar 1) mNil))) mNil)))))
    (mRet (mVar 1)))
/-- 10005 0 _law_row, 1 _law_many, 2 _law_deep, 3 _law_told, 4 _law_variable, 5 _law_found -/
noncomputable def c__law_ground_substitution (G : GF) : MS := (mSeq (mSet 3 (mAlloc (mLst mNil)))
    (mSeq (mFor (mRng1 (mVar 1)) (mgN 4) (mSeq (mSet 5 (mCall (G 2012) (mCons (mVar 0) (mCons (mVar 2) mNil))))
    (mSeq (mDrop (mApp (mVar 3) (mTup (mCons (mVar 4) (mCons (mOp ixF (mVar 5) (mC (.int 0))) mNil)))))
    (mSet 0 (mOp ixF (mVar 5) (mC (.int 1)))))))
    (mRet (mVar 3))))
/-- 10006 0 _law_row, 1 _law_deep, 2 _law_positive, 3 _law_kind, 4 _law_found, 5 _law_left, 6 _law_right -/
def c__law_ground_literal (G : GF) : MS := (mSeq (mSet 2 (mOpO fEq (oD (mOp fMod (mFn1 fInt (oD (mVar 0))) (mC (.int 2)))) (oD (mC (.int 0)))))
    (mSeq (mSet 3 (mOp fMod (mOp fDiv (mVar 0) (mC (.int 2))) (mC (.int 3))))
    (mSeq (mSet 0 (mOp fDiv (mVar 0) (mC (.int 6))))
    (mSeq (mIfS (mBool (mOpO fEq (oD (mVar 3)) (oD (mC (.int 0))))) (mSeq (mSet 4 (mCall (G 2013) (mCons (mVar 0) (mCons (mVar 1) mNil))))
    (mRet (mTup (mCons (mTup (mCons (mVar 2) (mCons (mOp ixF (mVar 4) (mC (.int 0))) (mCons (mTup (mCons (mTup (mCons (mC (.int 0)) (mCons (mC (.int 0)) (mCons (mC (.int 0)) mNil)))) (mCons (mTup mNil) mNil))) mNil)))) (mCons (mOp ixF (mVar 4) (mC (.int 1))) mNil))))) mSkip)
    (mSeq (mSet 5 (mCall (G 2012) (mCons (mVar 0) (mCons (mVar 1) mNil))))
    (mSeq (mSet 6 (mCall (G 2012) (mCons (mOp ixF (mVar 5) (mC (.int 1))) (mCons (mVar 1) mNil))))
    (mRet (mTup (mCons (mTup (mCons (mVar 2) (mCons (mOp ixF (mVar 5) (mC (.int 0))) (mCons (mOp ixF (mVar 6) (mC (.int 0))) mNil)))) (mCons (mOp ixF (mVar 6) (mC (.int 1))) mNil))))))))))
/-- 10007 0 _law_row, 1 _law_most, 2 _law_deep, 3 _law_many, 4 _law_literals, 5 _law_k, 6 _law_found -/
noncomputable def c__law_ground_clause (G : GF) : MS := (mSeq (mSet 3 (mOp fMod (mFn1 fInt (oD (mVar 0))) (mOp fAdd (mVar 1) (mC (.int 1)))))
    (mSeq (mSet 0 (mOp fDiv (mVar 0) (mOp fAdd (mVar 1) (mC (.int 1)))))
    (mSeq (mSet 4 (mAlloc (mLst mNil)))
    (mSeq (mFor (mRng1 (mVar 3)) (mgN 5) (mSeq (mSet 6 (mCall (G 10006) (mCons (mVar 0) (mCons (mVar 2) mNil))))
    (mSeq (mDrop (mApp (mVar 4) (mOp ixF (mVar 6) (mC (.int 0)))))
    (mSeq (mSet 0 (mOp ixF (mVar 6) (mC (.int 1))))
    (mIfS (mBool (mOpO fEq (oD (mOp fMod (mOp fDiv (mVar 0) (mC (.int 3))) (mC (.int 4)))) (oD (mC (.int 1))))) (mDrop (mApp (mVar 4) (mOp ixF (mVar 4) (mOp fMod (mFn1 fInt (oD (mVar 0))) (mFn1 fLen (oD (mVar 4))))))) mSkip)))))
    (mRet (mFn1 fTupc (oD (mVar 4))))))))
/-- 10008 0 _law_term, 1 _law_found, 2 _law_part -/
noncomputable def c__law_variables_2 (G : GF) : MS := (mSeq (mIfS (mTru (mCall (G 2014) (mCons (mVar 0) mNil))) (mSeq (mIfS (mBool (mOpO fNin (oD (mVar 0)) (oD (mVar 1)))) (mSet 1 (mAlloc (mCatL (oD (mVar 1)) (oN (mLst (mCons (mVar 0) mNil)))))) mSkip)
    (mRet (mVar 1))) mSkip)
    (mSeq (mFor (mSrc (oD (mOp ixF (mVar 0) (mC (.int 1))))) (mgN 2) (mSet 1 (mCall (G 10008) (mCons (mVar 2) (mCons (mVar 1) mNil)))))
    (mRet (mVar 1))))
noncomputable def lZl10 : List Fb := [mkFb 1 7 c_pairs_of_sides,
  mkFb 3 9 c_factorings,
  mkFb 1 4 c__law_well_formed,
  mkFb 2 3 c__law_uses,
  mkFb 2 3 c__law_clause_uses,
  mkFb 3 6 c__law_ground_substitution,
  mkFb 2 7 c__law_ground_literal,
  mkFb 3 7 c__law_ground_clause,
  mkFb 2 3 c__law_variables_2]
end Zi
set_option maxRecDepth 100000
namespace Zi
open PySem L2
/-- 13000 0 term, 1 world, 2 values, 3 index, 4 part -/
noncomputable def c_value (G : GF) : MS := (mSeq (mIfS (mTru (mCall (G 3) (mCons (mVar 0) mNil))) (mRet (mOp ixX (mVar 2) (mVar 0))) mSkip)
    (mSeq (mIfS (mBool (mOpO fEq (oD (mVar 0)) (oD (mC k_TRUTH)))) (mRet (mC (.int 1))) mSkip)
    (mSeq (mSet 3 (mC (.int 0)))
    (mSeq (mFor (mSrc (oD (mOp ixF (mVar 0) (mC (.int 1))))) (mgN 4) (mSet 3 (mOp fAdd (mOp fMul (mVar 3) (mFld ["World"] "size" (mVar 1))) (mCall (G 13000) (mCons (mVar 4) (mCons (mVar 1) (mCons (mVar 2) mNil)))))))
    (mRet (mOp ixF (mOp ixNk (mFld ["World"] "tables" (mVar 1)) (mTup (mCons (mOp ixF (mVar 0) (mC (.int 0))) (mCons (mFn1 fLen (oD (mOp ixF (mVar 0) (mC (.int 1))))) mNil)))) (mVar 3)))))))
/-- 13001 0 tag, 1 left, 2 right -/
def c_joined_holds (G : GF) : MS := (mSeq (mIfS (mBool (mOp fEqS (mVar 0) (mC (.str (Str.ofString "and"))))) (mRet (mAnd (mVar 1) (mVar 2))) mSkip)
    (mSeq (mIfS (mBool (mOp fEqS (mVar 0) (mC (.str (Str.ofString "or"))))) (mRet (mOr (mVar 1) (mVar 2))) mSkip)
    (mSeq (mIfS (mBool (mOp fEqS (mVar 0) (mC (.str (Str.ofString "implies"))))) (mRet (mOr (mVar 2) (mNot (mVar 1)))) mSkip)
    (mRet (mOpO fEq (oD (mVar 1)) (oD (mVar 2)))))))
/-- 13002 0 formula, 1 world, 2 values, 3 tag, 4 left, 5 right, 6 individual, 7 inner -/
noncomputable def c_holds_with (G : GF) : MS := (mSeq (mSet 3 (mOp ixF (mVar 0) (mC (.int 0))))
    (mSeq (mIfS (mBool (mOp fEqS (mVar 3) (mC (.str (Str.ofString "atom"))))) (mRet (mOpO fEq (oD (mCall (G 13000) (mCons (mOp ixF (mVar 0) (mC (.int 1))) (mCons (mVar 1) (mCons (mVar 2) mNil))))) (oD (mC (.int 1))))) mSkip)
    (mSeq (mIfS (mBool (mOp fEqS (mVar 3) (mC (.str (Str.ofString "equal"))))) (mRet (mOpO fEq (oD (mCall (G 13000) (mCons (mOp ixF (mVar 0) (mC (.int 1))) (mCons (mVar 1) (mCons (mVar 2) mNil))))) (oD (mCall (G 13000) (mCons (mOp ixF (mVar 0) (mC (.int 2))) (mCons (mVar 1) (mCons (mVar 2) mNil))))))) mSkip)
    (mSeq (mIfS (mBool (mOp fEqS (mVar 3) (mC (.str (Str.ofString "not"))))) (mRet (mNot (mCall (G 13002) (mCons (mOp ixF (mVar 0) (mC (.int 1))) (mCons (mVar 1) (mCons (mVar 2) mNil)))))) mSkip)
    (mSeq (mIfS (mBool (mOpO fIn (oD (mVar 3)) (oD (mC k_JOINTS)))) (mSeq (mSet 4 (mCall (G 13002) (mCons (mOp ixF (mVar 0) (mC (.int 1))) (mCons (mVar 1) (mCons (mVar 2) mNil)))))
    (mSeq (mSet 5 (mCall (G 13002) (mCons (mOp ixF (mVar 0) (mC (.int 2))) (mCons (mVar 1) (mCons (mVar 2) mNil)))))
    (mRet (mCall (G 13001) (mCons (mVar 3) (mCons (mVar 4) (mCons (mVar 5) mNil))))))) mSkip)
    (mSeq (mFor (mRng1 (mFld ["World"] "size" (mVar 1))) (mgN 6) (mSeq (mSet 7 (mDcopy (mVar 2)))
    (mSeq (mSetD (mVar 7) (mOp ixF (mVar 0) (mC (.int 1))) (mVar 6))
    (mIfS (mBool (mOpO fEq (oD (mCall (G 13002) (mCons (mOp ixF (mVar 0) (mC (.int 2))) (mCons (mVar 1) (mCons (mVar 7) mNil))))) (oD (mOp fEqS (mVar 3) (mC (.str (Str.ofString "some"))))))) (mRet (mOp fEqS (mVar 3) (mC (.str (Str.ofString "some"))))) mSkip))))
    (mRet (mOp fEqS (mVar 3) (mC (.str (Str.ofString "all")))))))))))
/-- 13003 0 formula, 1 world -/
def c_holds (G : GF) : MS := (mRet (mCall (G 13002) (mCons (mVar 0) (mCons (mVar 1) (mCons (mDnewK) mNil)))))
/-- 13004 0 term, 1 found, 2 use, 3 part -/
noncomputable def c_collect_uses (G : GF) : MS := (mSeq (mIfS (mTru (mCall (G 3) (mCons (mVar 0) mNil))) (mRet (mC .non)) mSkip)
    (mSeq (mSet 2 (mTup (mCons (mOp ixF (mVar 0) (mC (.int 0))) (mCons (mFn1 fLen (oD (mOp ixF (mVar 0) (mC (.int 1))))) mNil))))
    (mSeq (mIfS (mAndT (mBool (mOpO fNe (oD (mVar 0)) (oD (mC k_TRUTH)))) (mBool (mOpO fNin (oD (mVar 2)) (oD (mVar 1))))) (mDrop (mApp (mVar 1) (mVar 2))) mSkip)
    (mFor (mSrc (oD (mOp ixF (mVar 0) (mC (.int 1))))) (mgN 3) (mDrop (mCall (G 13004) (mCons (mVar 3) (mCons (mVar 1) mNil))))))))
/-- 13005 0 formula, 1 found, 2 tag, 3 term -/
noncomputable def c_collect_formula_uses (G : GF) : MS := (mSeq (mSet 2 (mOp ixF (mVar 0) (mC (.int 0))))
    (mIfS (mOrT (mBool (mOp fEqS (mVar 2) (mC (.str (Str.ofString "atom"))))) (mBool (mOp fEqS (mVar 2) (mC (.str (Str.ofString "equal")))))) (mFor (mSrc (mSl (mVar 0) (mSoI (mC (.int 1))) mNoI)) (mgN 3) (mDrop (mCall (G 13004) (mCons (mVar 3) (mCons (mVar 1) mNil))))) (mIfS (mBool (mOpO fIn (oD (mVar 2)) (oD (mC k_JOINTS)))) (mSeq (mDrop (mCall (G 13005) (mCons (mOp ixF (mVar 0) (mC (.int 1))) (mCons (mVar 1) mNil))))
    (mDrop (mCall (G 13005) (mCons (mOp ixF (mVar 0) (mC (.int 2))) (mCons (mVar 1) mNil))))) (mDrop (mCall (G 13005) (mCons (mOp ixF (mVar 0) (mOp fSub (mFn1 fLen (oD (mVar 0))) (mC (.int 1)))) (mCons (mVar 1) mNil)))))))
/-- 13006 0 formulas, 1 found, 2 formula -/
noncomputable def c_uses_of (G : GF) : MS := (mSeq (mSet 1 (mAlloc (mLst mNil)))
    (mSeq (mFor (mSrc (oD (mVar 0))) (mgN 2) (mDrop (mCall (G 13005) (mCons (mVar 2) (mCons (mVar 1) mNil)))))
    (mRet (mVar 1))))
/-- 13007 0 self, 1 size, 2 tables, 3 key -/
noncomputable def c_World_init (G : GF) : MS := (mSeq (mSetF ["World"] "size" (mVar 0) (mVar 1))
    (mSetF ["World"] "tables" (mVar 0) (mLockGM (slotAt 2) (mDcN (mKeys (mVar 2)) [3] (mgN 3) mYes (mVar 3) (mOp ixNk (mVar 2) (mVar 3))))))
noncomputable def lZl13 : List Fb := [mkFb 3 5 c_value,
  mkFb 3 3 c_joined_holds,
  mkFb 3 8 c_holds_with,
  mkFb 2 2 c_holds,
  mkFb 2 4 c_collect_uses,
  mkFb 2 4 c_collect_formula_uses,
  mkFb 1 3 c_uses_of,
  mkFb 3 4 c_World_init,
  deleg 13007]
end Zi
set_option maxRecDepth 100000
set_option maxHeartbeats 4000000
namespace Lk21
open PySem PySem.Spec PyProof.Rows L2 Zi
def topS (i : Nat) : Stmt := PySem.Challenge.pw_lastproof_k21_texts_are_read_back.main.body.getD i (.Pass ⟨0, 0, 0, 0⟩)
abbrev s_predicate : Stmt := topS 6
abbrev s_function : Stmt := topS 7
abbrev s_skolem : Stmt := topS 8
abbrev s_part_name : Stmt := topS 9
abbrev s_answer : Stmt := topS 10
abbrev s_read_number : Stmt := topS 12
abbrev s_read_pair : Stmt := topS 13
abbrev s_named_symbol : Stmt := topS 14
abbrev s_read_symbol : Stmt := topS 15
abbrev s_word_end : Stmt := topS 16
abbrev s_read_arguments : Stmt := topS 17
abbrev s_read_part : Stmt := topS 18
abbrev s_read_whole : Stmt := topS 19
abbrev s_read_term : Stmt := topS 20
abbrev s_read_atom_or_term : Stmt := topS 21
abbrev s_read_equation : Stmt := topS 22
abbrev s_read_literal : Stmt := topS 23
abbrev s_read_clause : Stmt := topS 24
abbrev s__law_cell : Stmt := topS 26
abbrev s__law_symbol : Stmt := topS 27
abbrev s__law_term : Stmt := topS 28
abbrev s__law_atom : Stmt := topS 29
abbrev s__law_literal : Stmt := topS 30
abbrev s__law_clause : Stmt := topS 31
abbrev s__law_word : Stmt := topS 32
abbrev s__law_table : Stmt := topS 33
abbrev s__law_is_variable : Stmt := topS 34
abbrev s__law_tabled : Stmt := topS 35
abbrev s__law_is_individual : Stmt := topS 36
abbrev s__law_is_atomic : Stmt := topS 37
abbrev s__law_well_formed : Stmt := topS 38
abbrev s__law_symbol_text : Stmt := topS 39
abbrev s__law_text : Stmt := topS 40
abbrev s__law_literal_text : Stmt := topS 41
abbrev s__law_scaled : Stmt := topS 42
abbrev s__law_scaled_clause : Stmt := topS 43
abbrev s_law : Stmt := topS 44
abbrev N_predicate : List Str := ["n"]
abbrev P_predicate : List Str := ["n"]
theorem sc_predicate : FnScope N_predicate P_predicate (defScope s_predicate) := ⟨rfl, rfl, rfl, by decide +kernel, rfl, by decide +kernel, by decide +kernel⟩
abbrev N_function : List Str := ["n"]
abbrev P_function : List Str := ["n"]
theorem sc_function : FnScope N_function P_function (defScope s_function) := ⟨rfl, rfl, rfl, by decide +kernel, rfl, by decide +kernel, by decide +kernel⟩
abbrev N_skolem : List Str := ["a", "k"]
abbrev P_skolem : List Str := ["a", "k"]
theorem sc_skolem : FnScope N_skolem P_skolem (defScope s_skolem) := ⟨rfl, rfl, rfl, by decide +kernel, rfl, by decide +kernel, by decide +kernel⟩
abbrev N_part_name : List Str := ["a", "k"]
abbrev P_part_name : List Str := ["a", "k"]
theorem sc_part_name : FnScope N_part_name P_part_name (defScope s_part_name) := ⟨rfl, rfl, rfl, by decide +kernel, rfl, by decide +kernel, by decide +kernel⟩
abbrev N_answer : List Str := ["a"]
abbrev P_answer : List Str := ["a"]
theorem sc_answer : FnScope N_answer P_answer (defScope s_answer) := ⟨rfl, rfl, rfl, by decide +kernel, rfl, by decide +kernel, by decide +kernel⟩
abbrev N_read_number : List Str := ["text"]
abbrev P_read_number : List Str := ["text"]
theorem sc_read_number : FnScope N_read_number P_read_number (defScope s_read_number) := ⟨rfl, rfl, rfl, by decide +kernel, rfl, by decide +kernel, by decide +kernel⟩
abbrev N_read_pair : List Str := ["text", "parts", "a", "k"]
abbrev P_read_pair : List Str := ["text"]
theorem sc_read_pair : FnScope N_read_pair P_read_pair (defScope s_read_pair) := ⟨rfl, rfl, rfl, by decide +kernel, rfl, by decide +kernel, by decide +kernel⟩
abbrev N_named_symbol : List Str := ["word", "names", "as_atom", "n", "entry"]
abbrev P_named_symbol : List Str := ["word", "names", "as_atom"]
theorem sc_named_symbol : FnScope N_named_symbol P_named_symbol (defScope s_named_symbol) := ⟨rfl, rfl, rfl, by decide +kernel, rfl, by decide +kernel, by decide +kernel⟩
abbrev N_read_symbol : List Str := ["word", "names", "as_atom", "a", "pair"]
abbrev P_read_symbol : List Str := ["word", "names", "as_atom"]
theorem sc_read_symbol : FnScope N_read_symbol P_read_symbol (defScope s_read_symbol) := ⟨rfl, rfl, rfl, by decide +kernel, rfl, by decide +kernel, by decide +kernel⟩
abbrev N_word_end : List Str := ["text", "start", "end"]
abbrev P_word_end : List Str := ["text", "start"]
theorem sc_word_end : FnScope N_word_end P_word_end (defScope s_word_end) := ⟨rfl, rfl, rfl, by decide +kernel, rfl, by decide +kernel, by decide +kernel⟩
abbrev N_read_arguments : List Str := ["text", "start", "names", "parts", "here", "found"]
abbrev P_read_arguments : List Str := ["text", "start", "names"]
theorem sc_read_arguments : FnScope N_read_arguments P_read_arguments (defScope s_read_arguments) := ⟨rfl, rfl, rfl, by decide +kernel, rfl, by decide +kernel, by decide +kernel⟩
abbrev N_read_part : List Str := ["text", "start", "names", "as_atom", "end", "word", "number", "symbol", "found"]
abbrev P_read_part : List Str := ["text", "start", "names", "as_atom"]
theorem sc_read_part : FnScope N_read_part P_read_part (defScope s_read_part) := ⟨rfl, rfl, rfl, by decide +kernel, rfl, by decide +kernel, by decide +kernel⟩
abbrev N_read_whole : List Str := ["text", "names", "as_atom", "found"]
abbrev P_read_whole : List Str := ["text", "names", "as_atom"]
theorem sc_read_whole : FnScope N_read_whole P_read_whole (defScope s_read_whole) := ⟨rfl, rfl, rfl, by decide +kernel, rfl, by decide +kernel, by decide +kernel⟩
abbrev N_read_term : List Str := ["text", "names", "term"]
abbrev P_read_term : List Str := ["text", "names"]
theorem sc_read_term : FnScope N_read_term P_read_term (defScope s_read_term) := ⟨rfl, rfl, rfl, by decide +kernel, rfl, by decide +kernel, by decide +kernel⟩
abbrev N_read_atom_or_term : List Str := ["text", "names", "term"]
abbrev P_read_atom_or_term : List Str := ["text", "names"]
theorem sc_read_atom_or_term : FnScope N_read_atom_or_term P_read_atom_or_term (defScope s_read_atom_or_term) := ⟨rfl, rfl, rfl, by decide +kernel, rfl, by decide +kernel, by decide +kernel⟩
abbrev N_read_equation : List Str := ["text", "sign", "names", "parts", "left", "right"]
abbrev P_read_equation : List Str := ["text", "sign", "names"]
theorem sc_read_equation : FnScope N_read_equation P_read_equation (defScope s_read_equation) := ⟨rfl, rfl, rfl, by decide +kernel, rfl, by decide +kernel, by decide +kernel⟩
abbrev N_read_literal : List Str := ["text", "names", "positive", "sign", "found", "atom"]
abbrev P_read_literal : List Str := ["text", "names"]
theorem sc_read_literal : FnScope N_read_literal P_read_literal (defScope s_read_literal) := ⟨rfl, rfl, rfl, by decide +kernel, rfl, by decide +kernel, by decide +kernel⟩
abbrev N_read_clause : List Str := ["text", "names", "literals", "part", "literal"]
abbrev P_read_clause : List Str := ["text", "names"]
theorem sc_read_clause : FnScope N_read_clause P_read_clause (defScope s_read_clause) := ⟨rfl, rfl, rfl, by decide +kernel, rfl, by decide +kernel, by decide +kernel⟩
abbrev N__law_cell : List Str := ["_law_script", "_law_k", "_law_cell_here", "_law_low", "_law_mid", "_law_high"]
abbrev P__law_cell : List Str := ["_law_script", "_law_k"]
theorem sc__law_cell : FnScope N__law_cell P__law_cell (defScope s__law_cell) := ⟨rfl, rfl, rfl, by decide +kernel, rfl, by decide +kernel, by decide +kernel⟩
abbrev N__law_symbol : List Str := ["_law_n", "_law_symbols"]
abbrev P__law_symbol : List Str := ["_law_n"]
theorem sc__law_symbol : FnScope N__law_symbol P__law_symbol (defScope s__law_symbol) := ⟨rfl, rfl, rfl, by decide +kernel, rfl, by decide +kernel, by decide +kernel⟩
abbrev N__law_term : List Str := ["_law_row", "_law_deep", "_law_kind", "_law_many", "_law_symbol_here", "_law_parts", "_law_k", "_law_found"]
abbrev P__law_term : List Str := ["_law_row", "_law_deep"]
theorem sc__law_term : FnScope N__law_term P__law_term (defScope s__law_term) := ⟨rfl, rfl, rfl, by decide +kernel, rfl, by decide +kernel, by decide +kernel⟩
abbrev N__law_atom : List Str := ["_law_row", "_law_deep", "_law_symbols", "_law_symbol_here", "_law_many", "_law_parts", "_law_k", "_law_found"]
abbrev P__law_atom : List Str := ["_law_row", "_law_deep"]
theorem sc__law_atom : FnScope N__law_atom P__law_atom (defScope s__law_atom) := ⟨rfl, rfl, rfl, by decide +kernel, rfl, by decide +kernel, by decide +kernel⟩
abbrev N__law_literal : List Str := ["_law_row", "_law_deep", "_law_positive", "_law_kind", "_law_found", "_law_left", "_law_right"]
abbrev P__law_literal : List Str := ["_law_row", "_law_deep"]
theorem sc__law_literal : FnScope N__law_literal P__law_literal (defScope s__law_literal) := ⟨rfl, rfl, rfl, by decide +kernel, rfl, by decide +kernel, by decide +kernel⟩
abbrev N__law_clause : List Str := ["_law_row", "_law_most", "_law_deep", "_law_many", "_law_literals", "_law_k", "_law_found"]
abbrev P__law_clause : List Str := ["_law_row", "_law_most", "_law_deep"]
theorem sc__law_clause : FnScope N__law_clause P__law_clause (defScope s__law_clause) := ⟨rfl, rfl, rfl, by decide +kernel, rfl, by decide +kernel, by decide +kernel⟩
abbrev N__law_word : List Str := ["_law_row", "_law_sign", "_law_letters", "_law_word_here", "_law_many", "_law_k", "_law_at"]
abbrev P__law_word : List Str := ["_law_row", "_law_sign"]
theorem sc__law_word : FnScope N__law_word P__law_word (defScope s__law_word) := ⟨rfl, rfl, rfl, by decide +kernel, rfl, by decide +kernel, by decide +kernel⟩
abbrev N__law_table : List Str := ["_law_row", "_law_signs", "_law_table_here", "_law_k", "_law_word_here"]
abbrev P__law_table : List Str := ["_law_row"]
theorem sc__law_table : FnScope N__law_table P__law_table (defScope s__law_table) := ⟨rfl, rfl, rfl, by decide +kernel, rfl, by decide +kernel, by decide +kernel⟩
abbrev N__law_is_variable : List Str := ["_law_term_here"]
abbrev P__law_is_variable : List Str := ["_law_term_here"]
theorem sc__law_is_variable : FnScope N__law_is_variable P__law_is_variable (defScope s__law_is_variable) := ⟨rfl, rfl, rfl, by decide +kernel, rfl, by decide +kernel, by decide +kernel⟩
abbrev N__law_tabled : List Str := ["_law_literal_here", "_law_left"]
abbrev P__law_tabled : List Str := ["_law_literal_here"]
theorem sc__law_tabled : FnScope N__law_tabled P__law_tabled (defScope s__law_tabled) := ⟨rfl, rfl, rfl, by decide +kernel, rfl, by decide +kernel, by decide +kernel⟩
abbrev N__law_is_individual : List Str := ["_law_term_here", "_law_part"]
abbrev P__law_is_individual : List Str := ["_law_term_here"]
theorem sc__law_is_individual : FnScope N__law_is_individual P__law_is_individual (defScope s__law_is_individual) := ⟨rfl, rfl, rfl, by decide +kernel, rfl, by decide +kernel, by decide +kernel⟩
abbrev N__law_is_atomic : List Str := ["_law_term_here", "_law_part"]
abbrev P__law_is_atomic : List Str := ["_law_term_here"]
theorem sc__law_is_atomic : FnScope N__law_is_atomic P__law_is_atomic (defScope s__law_is_atomic) := ⟨rfl, rfl, rfl, by decide +kernel, rfl, by decide +kernel, by decide +kernel⟩
abbrev N__law_well_formed : List Str := ["_law_clause_here", "_law_kept", "_law_literal_here", "_law_one"]
abbrev P__law_well_formed : List Str := ["_law_clause_here"]
theorem sc__law_well_formed : FnScope N__law_well_formed P__law_well_formed (defScope s__law_well_formed) := ⟨rfl, rfl, rfl, by decide +kernel, rfl, by decide +kernel, by decide +kernel⟩
abbrev N__law_symbol_text : List Str := ["_law_symbol_here", "_law_names", "_law_signs"]
abbrev P__law_symbol_text : List Str := ["_law_symbol_here", "_law_names"]
theorem sc__law_symbol_text : FnScope N__law_symbol_text P__law_symbol_text (defScope s__law_symbol_text) := ⟨rfl, rfl, rfl, by decide +kernel, rfl, by decide +kernel, by decide +kernel⟩
abbrev N__law_text : List Str := ["_law_term_here", "_law_names", "_law_text_here", "_law_part"]
abbrev P__law_text : List Str := ["_law_term_here", "_law_names"]
theorem sc__law_text : FnScope N__law_text P__law_text (defScope s__law_text) := ⟨rfl, rfl, rfl, by decide +kernel, rfl, by decide +kernel, by decide +kernel⟩
abbrev N__law_literal_text : List Str := ["_law_literal_here", "_law_names", "_law_left"]
abbrev P__law_literal_text : List Str := ["_law_literal_here", "_law_names"]
theorem sc__law_literal_text : FnScope N__law_literal_text P__law_literal_text (defScope s__law_literal_text) := ⟨rfl, rfl, rfl, by decide +kernel, rfl, by decide +kernel, by decide +kernel⟩
abbrev N__law_scaled : List Str := ["_law_term_here", "_law_many", "_law_symbol_here", "_law_part"]
abbrev P__law_scaled : List Str := ["_law_term_here", "_law_many"]
theorem sc__law_scaled : FnScope N__law_scaled P__law_scaled (defScope s__law_scaled) := ⟨rfl, rfl, rfl, by decide +kernel, rfl, by decide +kernel, by decide +kernel⟩
abbrev N__law_scaled_clause : List Str := ["_law_clause_here", "_law_many", "_law_one"]
abbrev P__law_scaled_clause : List Str := ["_law_clause_here", "_law_many"]
theorem sc__law_scaled_clause : FnScope N__law_scaled_clause P__law_scaled_clause (defScope s__law_scaled_clause) := ⟨rfl, rfl, rfl, by decide +kernel, rfl, by decide +kernel, by decide +kernel⟩
abbrev N_law : List Str := ["_law_script", "_law_names", "_law_clause_here", "_law_text_here", "_law_copied", "_law_told", "_law_literal_here", "_law_term_here", "_law_written", "_law_one"]
abbrev P_law : List Str := ["_law_script"]
theorem sc_law : FnScope N_law P_law (defScope s_law) := ⟨rfl, rfl, rfl, by decide +kernel, rfl, by decide +kernel, by decide +kernel⟩
def m_read_term (G : GF) : MS := (mSeq (mSet 2 (mCall (G 14009) (mCons (mVar 0) (mCons (mVar 1) (mCons (mC (.bl false)) mNil)))))
    (mSeq (mIfS (mBool (mIsN (mVar 2))) mNever mSkip)
    (mRet (mVar 2))))
def m_read_atom_or_term (G : GF) : MS := (mSeq (mSet 2 (mCall (G 14009) (mCons (mVar 0) (mCons (mVar 1) (mCons (mC (.bl false)) mNil)))))
    (mSeq (mIfS (mBool (mIsN (mVar 2))) (mSet 2 (mCall (G 14009) (mCons (mVar 0) (mCons (mVar 1) (mCons (mC (.bl true)) mNil))))) mSkip)
    (mSeq (mIfS (mBool (mIsN (mVar 2))) mNever mSkip)
    (mRet (mVar 2)))))
noncomputable def m_read_clause (G : GF) : MS := (mSeq (mIfS (mBool (mOpO fEq (oD (mVar 0)) (oD (mC (.str (Str.ofString "[]")))))) (mRet (mTup mNil)) mSkip)
    (mSeq (mSet 2 (mAlloc (mLst mNil)))
    (mSeq (mFor (mSrc (oN (mSplit (mVar 0) (mC (.str (Str.ofString " or ")))))) (mgN 3) (mSeq (mSet 4 (mCall (G 14011) (mCons (mVar 3) (mCons (mVar 1) mNil))))
    (mSeq (mIfS (mBool (mIsN (mVar 4))) mNever mSkip)
    (mDrop (mApp (mVar 2) (mVar 4))))))
    (mRet (mFn1 fTupc (oD (mVar 2)))))))
noncomputable def m__law_scaled (G : GF) : MS := (mSeq (mIfS (mTru (mCall (G 14) (mCons (mVar 0) mNil))) (mRet (mOp fAdd (mOp fMul (mVar 0) (mVar 1)) (mVar 0))) mSkip)
    (mSeq (mSet 2 (mOp ixF (mVar 0) (mC (.int 0))))
    (mSeq (mIfS (mBool (mOp fGt (mOp ixF (mVar 2) (mC (.int 0))) (mC (.int 2)))) (mSet 2 (mTup (mCons (mOp ixF (mVar 2) (mC (.int 0))) (mCons (mOp fMul (mOp ixF (mVar 2) (mC (.int 1))) (mVar 1)) (mCons (mOp ixF (mVar 2) (mC (.int 2))) mNil))))) mSkip)
    (mRet (mTup (mCons (mVar 2) (mCons (mFn1 fTupc (oN (mComp (mSrc (oD (mOp ixF (mVar 0) (mC (.int 1))))) [3] (mgN 3) mYes (mCall (G 90003) (mCons (mVar 3) (mCons (mVar 1) mNil)))))) mNil)))))))
noncomputable def m__law_scaled_clause (G : GF) : MS := (mRet (mFn1 fTupc (oN (mComp (mSrc (oD (mVar 0))) [2] (mgN 2) mYes (mTup (mCons (mOp ixF (mVar 2) (mC (.int 0))) (mCons (mCall (G 90003) (mCons (mOp ixF (mVar 2) (mC (.int 1))) (mCons (mVar 1) mNil))) (mCons (mCall (G 90003) (mCons (mOp ixF (mVar 2) (mC (.int 2))) (mCons (mVar 1) mNil))) mNil))))))))
noncomputable def m_law (G : GF) : MS := (mSeq (mSet 1 (mCall (G 14013) (mCons (mCall (G 2) (mCons (mVar 0) (mCons (mC (.int 0)) mNil))) mNil)))
    (mSeq (mSet 2 (mCall (G 10002) (mCons (mCall (G 38) (mCons (mCall (G 2) (mCons (mVar 0) (mCons (mC (.int 1)) mNil))) (mCons (mC (.int 4)) (mCons (mC (.int 2)) mNil)))) mNil)))
    (mSeq (mIfS (mBool (mOpO fEq (oD (mOp fMod (mCall (G 2) (mCons (mVar 0) (mCons (mC (.int 2)) mNil))) (mC (.int 4)))) (oD (mC (.int 0))))) (mSet 2 (mCall (G 90004) (mCons (mVar 2) (mCons (mOp fMod (mCall (G 2) (mCons (mVar 0) (mCons (mC (.int 3)) mNil))) (mOp fPow (mC (.int 10)) (mC (.int 12)))) mNil)))) mSkip)
    (mSeq (mSet 3 (mC (.str (Str.ofString "[]"))))
    (mSeq (mIfS (mTru (mVar 2)) (mSet 3 (mJoin (mC (.str (Str.ofString " or "))) (oN (mComp (mSrc (oD (mVar 2))) [9] (mgN 9) mYes (mCall (G 14016) (mCons (mVar 9) (mCons (mVar 1) mNil))))))) mSkip)
    (mSeq (mSet 4 (mAlloc (mLisc (oD (mVar 1)))))
    (mSeq (mSet 5 (mCall (G 90002) (mCons (mVar 3) (mCons (mVar 1) mNil))))
    (mSeq (mIfS (mOrT (mNotT (mTru (mIsI "tuple" (oD (mVar 5))))) (mOrT (mBool (mOpO fNe (oD (mVar 5)) (oD (mVar 2)))) (mBool (mOpO fNe (oD (mVar 1)) (oD (mVar 4)))))) (mRet (mC (.bl false))) mSkip)
    (mSeq (mFor (mSrc (oD (mVar 2))) (mgN 6) (mFor (mSrc (oN (mLst (mCons (mOp ixF (mVar 6) (mC (.int 1))) (mCons (mOp ixF (mVar 6) (mC (.int 2))) mNil))))) (mgN 7) (mSeq (mSet 8 (mCall (G 14015) (mCons (mVar 7) (mCons (mVar 1) mNil))))
    (mIfS (mTru (mCall (G 23) (mCons (mVar 7) mNil))) (mIfS (mOrT (mBool (mOpO fNe (oD (mCall (G 90000) (mCons (mVar 8) (mCons (mVar 1) mNil)))) (oD (mVar 7)))) (mBool (mOpO fNe (oD (mCall (G 90001) (mCons (mVar 8) (mCons (mVar 1) mNil)))) (oD (mVar 7))))) (mRet (mC (.bl false))) mSkip) (mIfS (mBool (mOpO fNin (oD (mTup (mCons (mC (.bl false)) (mCons (mCall (G 14014) (mCons (mOp ixF (mVar 7) (mC (.int 0))) (mCons (mVar 1) mNil))) mNil)))) (oD (mVar 1)))) (mIfS (mBool (mOpO fNe (oD (mCall (G 90001) (mCons (mVar 8) (mCons (mVar 1) mNil)))) (oD (mVar 7)))) (mRet (mC (.bl false))) mSkip) mSkip)))))
    (mRet (mC (.bl true))))))))))))
noncomputable def own : List Fb := [mkFb 2 3 m_read_term,
  mkFb 2 3 m_read_atom_or_term,
  mkFb 2 5 m_read_clause,
  mkFb 2 4 m__law_scaled,
  mkFb 2 3 m__law_scaled_clause,
  mkFb 1 10 m_law]
noncomputable def prog (i : Nat) : Option Fb := bif Nat.blt i 1000 then lZl0[i - 0]? else (bif Nat.blt i 2000 then lZl1[i - 1000]? else (bif Nat.blt i 3000 then lZl2[i - 2000]? else (bif Nat.blt i 4000 then lZl3[i - 3000]? else (bif Nat.blt i 5000 then lZl4[i - 4000]? else (bif Nat.blt i 6000 then lZl5[i - 5000]? else (bif Nat.blt i 7000 then (lZl6 nm0)[i - 6000]? else (bif Nat.blt i 8000 then lZl7[i - 7000]? else (bif Nat.blt i 9000 then lZl8[i - 8000]? else (bif Nat.blt i 10000 then lZl9[i - 9000]? else (bif Nat.blt i 11000 then lZl10[i - 10000]? else (bif Nat.blt i 12000 then lZl11[i - 11000]? else (bif Nat.blt i 13000 then lZl12[i - 12000]? else (bif Nat.blt i 14000 then lZl13[i - 13000]? else (bif Nat.blt i 15000 then lZl14[i - 14000]? else (own[i - 90000]?)))))))))))))))
theorem hp0 : ∀ j fb, lZl0[j]? = some fb → prog (0 + j) = some fb := fun j fb h => by
  have hj : j < 1000 := Nat.lt_of_lt_of_le (List.getElem?_eq_some_iff.mp h).1 (by decide)
  unfold prog
  rw [show Nat.blt (0 + j) 1000 = true from by rw [Nat.blt_eq]; omega, cond_true, Nat.add_sub_cancel_left]
  exact h
theorem hp8 : ∀ j fb, lZl8[j]? = some fb → prog (8000 + j) = some fb := fun j fb h => by
  have hj : j < 1000 := Nat.lt_of_lt_of_le (List.getElem?_eq_some_iff.mp h).1 (by decide)
  unfold prog
  rw [show Nat.blt (8000 + j) 1000 = false from by rw [Bool.eq_false_iff]; intro z; rw [Nat.blt_eq] at z; omega, cond_false]
  rw [show Nat.blt (8000 + j) 2000 = false from by rw [Bool.eq_false_iff]; intro z; rw [Nat.blt_eq] at z; omega, cond_false]
  rw [show Nat.blt (8000 + j) 3000 = false from by rw [Bool.eq_false_iff]; intro z; rw [Nat.blt_eq] at z; omega, cond_false]
  rw [show Nat.blt (8000 + j) 4000 = false from by rw [Bool.eq_false_iff]; intro z; rw [Nat.blt_eq] at z; omega, cond_false]
  rw [show Nat.blt (8000 + j) 5000 = false from by rw [Bool.eq_false_iff]; intro z; rw [Nat.blt_eq] at z; omega, cond_false]
  rw [show Nat.blt (8000 + j) 6000 = false from by rw [Bool.eq_false_iff]; intro z; rw [Nat.blt_eq] at z; omega, cond_false]
  rw [show Nat.blt (8000 + j) 7000 = false from by rw [Bool.eq_false_iff]; intro z; rw [Nat.blt_eq] at z; omega, cond_false]
  rw [show Nat.blt (8000 + j) 8000 = false from by rw [Bool.eq_false_iff]; intro z; rw [Nat.blt_eq] at z; omega, cond_false]
  rw [show Nat.blt (8000 + j) 9000 = true from by rw [Nat.blt_eq]; omega, cond_true, Nat.add_sub_cancel_left]
  exact h
theorem hp9 : ∀ j fb, lZl9[j]? = some fb → prog (9000 + j) = some fb := fun j fb h => by
  have hj : j < 1000 := Nat.lt_of_lt_of_le (List.getElem?_eq_some_iff.mp h).1 (by decide)
  unfold prog
  rw [show Nat.blt (9000 + j) 1000 = false from by rw [Bool.eq_false_iff]; intro z; rw [Nat.blt_eq] at z; omega, cond_false]
  rw [show Nat.blt (9000 + j) 2000 = false from by rw [Bool.eq_false_iff]; intro z; rw [Nat.blt_eq] at z; omega, cond_false]
  rw [show Nat.blt (9000 + j) 3000 = false from by rw [Bool.eq_false_iff]; intro z; rw [Nat.blt_eq] at z; omega, cond_false]
  rw [show Nat.blt (9000 + j) 4000 = false from by rw [Bool.eq_false_iff]; intro z; rw [Nat.blt_eq] at z; omega, cond_false]
  rw [show Nat.blt (9000 + j) 5000 = false from by rw [Bool.eq_false_iff]; intro z; rw [Nat.blt_eq] at z; omega, cond_false]
  rw [show Nat.blt (9000 + j) 6000 = false from by rw [Bool.eq_false_iff]; intro z; rw [Nat.blt_eq] at z; omega, cond_false]
  rw [show Nat.blt (9000 + j) 7000 = false from by rw [Bool.eq_false_iff]; intro z; rw [Nat.blt_eq] at z; omega, cond_false]
  rw [show Nat.blt (9000 + j) 8000 = false from by rw [Bool.eq_false_iff]; intro z; rw [Nat.blt_eq] at z; omega, cond_false]
  rw [show Nat.blt (9000 + j) 9000 = false from by rw [Bool.eq_false_iff]; intro z; rw [Nat.blt_eq] at z; omega, cond_false]
  rw [show Nat.blt (9000 + j) 10000 = true from by rw [Nat.blt_eq]; omega, cond_true, Nat.add_sub_cancel_left]
  exact h
theorem hp10 : ∀ j fb, lZl10[j]? = some fb → prog (10000 + j) = some fb := fun j fb h => by
  have hj : j < 1000 := Nat.lt_of_lt_of_le (List.getElem?_eq_some_iff.mp h).1 (by decide)
  unfold prog
  rw [show Nat.blt (10000 + j) 1000 = false from by rw [Bool.eq_false_iff]; intro z; rw [Nat.blt_eq] at z; omega, cond_false]
  rw [show Nat.blt (10000 + j) 2000 = false from by rw [Bool.eq_false_iff]; intro z; rw [Nat.blt_eq] at z; omega, cond_false]
  rw [show Nat.blt (10000 + j) 3000 = false from by rw [Bool.eq_false_iff]; intro z; rw [Nat.blt_eq] at z; omega, cond_false]
  rw [show Nat.blt (10000 + j) 4000 = false from by rw [Bool.eq_false_iff]; intro z; rw [Nat.blt_eq] at z; omega, cond_false]
  rw [show Nat.blt (10000 + j) 5000 = false from by rw [Bool.eq_false_iff]; intro z; rw [Nat.blt_eq] at z; omega, cond_false]
  rw [show Nat.blt (10000 + j) 6000 = false from by rw [Bool.eq_false_iff]; intro z; rw [Nat.blt_eq] at z; omega, cond_false]
  rw [show Nat.blt (10000 + j) 7000 = false from by rw [Bool.eq_false_iff]; intro z; rw [Nat.blt_eq] at z; omega, cond_false]
  rw [show Nat.blt (10000 + j) 8000 = false from by rw [Bool.eq_false_iff]; intro z; rw [Nat.blt_eq] at z; omega, cond_false]
  rw [show Nat.blt (10000 + j) 9000 = false from by rw [Bool.eq_false_iff]; intro z; rw [Nat.blt_eq] at z; omega, cond_false]
  rw [show Nat.blt (10000 + j) 10000 = false from by rw [Bool.eq_false_iff]; intro z; rw [Nat.blt_eq] at z; omega, cond_false]
  rw [show Nat.blt (10000 + j) 11000 = true from by rw [Nat.blt_eq]; omega, cond_true, Nat.add_sub_cancel_left]
  exact h
theorem hp11 : ∀ j fb, lZl11[j]? = some fb → prog (11000 + j) = some fb := fun j fb h => by
  have hj : j < 1000 := Nat.lt_of_lt_of_le (List.getElem?_eq_some_iff.mp h).1 (by decide)
  unfold prog
  rw [show Nat.blt (11000 + j) 1000 = false from by rw [Bool.eq_false_iff]; intro z; rw [Nat.blt_eq] at z; omega, cond_false]
  rw [show Nat.blt (11000 + j) 2000 = false from by rw [Bool.eq_false_iff]; intro z; rw [Nat.blt_eq] at z; omega, cond_false]
  rw [show Nat.blt (11000 + j) 3000 = false from by rw [Bool.eq_false_iff]; intro z; rw [Nat.blt_eq] at z; omega, cond_false]
  rw [show Nat.blt (11000 + j) 4000 = false from by rw [Bool.eq_false_iff]; intro z; rw [Nat.blt_eq] at z; omega, cond_false]
  rw [show Nat.blt (11000 + j) 5000 = false from by rw [Bool.eq_false_iff]; intro z; rw [Nat.blt_eq] at z; omega, cond_false]
  rw [show Nat.blt (11000 + j) 6000 = false from by rw [Bool.eq_false_iff]; intro z; rw [Nat.blt_eq] at z; omega, cond_false]
  rw [show Nat.blt (11000 + j) 7000 = false from by rw [Bool.eq_false_iff]; intro z; rw [Nat.blt_eq] at z; omega, cond_false]
  rw [show Nat.blt (11000 + j) 8000 = false from by rw [Bool.eq_false_iff]; intro z; rw [Nat.blt_eq] at z; omega, cond_false]
  rw [show Nat.blt (11000 + j) 9000 = false from by rw [Bool.eq_false_iff]; intro z; rw [Nat.blt_eq] at z; omega, cond_false]
  rw [show Nat.blt (11000 + j) 10000 = false from by rw [Bool.eq_false_iff]; intro z; rw [Nat.blt_eq] at z; omega, cond_false]
  rw [show Nat.blt (11000 + j) 11000 = false from by rw [Bool.eq_false_iff]; intro z; rw [Nat.blt_eq] at z; omega, cond_false]
  rw [show Nat.blt (11000 + j) 12000 = true from by rw [Nat.blt_eq]; omega, cond_true, Nat.add_sub_cancel_left]
  exact h
theorem hp14 : ∀ j fb, lZl14[j]? = some fb → prog (14000 + j) = some fb := fun j fb h => by
  have hj : j < 1000 := Nat.lt_of_lt_of_le (List.getElem?_eq_some_iff.mp h).1 (by decide)
  unfold prog
  rw [show Nat.blt (14000 + j) 1000 = false from by rw [Bool.eq_false_iff]; intro z; rw [Nat.blt_eq] at z; omega, cond_false]
  rw [show Nat.blt (14000 + j) 2000 = false from by rw [Bool.eq_false_iff]; intro z; rw [Nat.blt_eq] at z; omega, cond_false]
  rw [show Nat.blt (14000 + j) 3000 = false from by rw [Bool.eq_false_iff]; intro z; rw [Nat.blt_eq] at z; omega, cond_false]
  rw [show Nat.blt (14000 + j) 4000 = false from by rw [Bool.eq_false_iff]; intro z; rw [Nat.blt_eq] at z; omega, cond_false]
  rw [show Nat.blt (14000 + j) 5000 = false from by rw [Bool.eq_false_iff]; intro z; rw [Nat.blt_eq] at z; omega, cond_false]
  rw [show Nat.blt (14000 + j) 6000 = false from by rw [Bool.eq_false_iff]; intro z; rw [Nat.blt_eq] at z; omega, cond_false]
  rw [show Nat.blt (14000 + j) 7000 = false from by rw [Bool.eq_false_iff]; intro z; rw [Nat.blt_eq] at z; omega, cond_false]
  rw [show Nat.blt (14000 + j) 8000 = false from by rw [Bool.eq_false_iff]; intro z; rw [Nat.blt_eq] at z; omega, cond_false]
  rw [show Nat.blt (14000 + j) 9000 = false from by rw [Bool.eq_false_iff]; intro z; rw [Nat.blt_eq] at z; omega, cond_false]
  rw [show Nat.blt (14000 + j) 10000 = false from by rw [Bool.eq_false_iff]; intro z; rw [Nat.blt_eq] at z; omega, cond_false]
  rw [show Nat.blt (14000 + j) 11000 = false from by rw [Bool.eq_false_iff]; intro z; rw [Nat.blt_eq] at z; omega, cond_false]
  rw [show Nat.blt (14000 + j) 12000 = false from by rw [Bool.eq_false_iff]; intro z; rw [Nat.blt_eq] at z; omega, cond_false]
  rw [show Nat.blt (14000 + j) 13000 = false from by rw [Bool.eq_false_iff]; intro z; rw [Nat.blt_eq] at z; omega, cond_false]
  rw [show Nat.blt (14000 + j) 14000 = false from by rw [Bool.eq_false_iff]; intro z; rw [Nat.blt_eq] at z; omega, cond_false]
  rw [show Nat.blt (14000 + j) 15000 = true from by rw [Nat.blt_eq]; omega, cond_true, Nat.add_sub_cancel_left]
  exact h
structure Txt (K : PySem.W.Frag) (mg : Str → Option Value) where
  f_predicate : Addr
  fd_predicate : FuncData
  F_predicate : Fun K "predicate" "predicate" s_predicate f_predicate fd_predicate
  g_predicate : mg "predicate" = some (.ref f_predicate)
  b_predicate : Binds K fd_predicate P_predicate []
  f_function : Addr
  fd_function : FuncData
  F_function : Fun K "function" "function" s_function f_function fd_function
  g_function : mg "function" = some (.ref f_function)
  b_function : Binds K fd_function P_function []
  f_skolem : Addr
  fd_skolem : FuncData
  F_skolem : Fun K "skolem" "skolem" s_skolem f_skolem fd_skolem
  g_skolem : mg "skolem" = some (.ref f_skolem)
  b_skolem : Binds K fd_skolem P_skolem []
  f_part_name : Addr
  fd_part_name : FuncData
  F_part_name : Fun K "part_name" "part_name" s_part_name f_part_name fd_part_name
  g_part_name : mg "part_name" = some (.ref f_part_name)
  b_part_name : Binds K fd_part_name P_part_name []
  f_answer : Addr
  fd_answer : FuncData
  F_answer : Fun K "answer" "answer" s_answer f_answer fd_answer
  g_answer : mg "answer" = some (.ref f_answer)
  b_answer : Binds K fd_answer P_answer []
  f_read_number : Addr
  fd_read_number : FuncData
  F_read_number : Fun K "read_number" "read_number" s_read_number f_read_number fd_read_number
  g_read_number : mg "read_number" = some (.ref f_read_number)
  b_read_number : Binds K fd_read_number P_read_number []
  f_read_pair : Addr
  fd_read_pair : FuncData
  F_read_pair : Fun K "read_pair" "read_pair" s_read_pair f_read_pair fd_read_pair
  g_read_pair : mg "read_pair" = some (.ref f_read_pair)
  b_read_pair : Binds K fd_read_pair P_read_pair []
  f_named_symbol : Addr
  fd_named_symbol : FuncData
  F_named_symbol : Fun K "named_symbol" "named_symbol" s_named_symbol f_named_symbol fd_named_symbol
  g_named_symbol : mg "named_symbol" = some (.ref f_named_symbol)
  b_named_symbol : Binds K fd_named_symbol P_named_symbol []
  f_read_symbol : Addr
  fd_read_symbol : FuncData
  F_read_symbol : Fun K "read_symbol" "read_symbol" s_read_symbol f_read_symbol fd_read_symbol
  g_read_symbol : mg "read_symbol" = some (.ref f_read_symbol)
  b_read_symbol : Binds K fd_read_symbol P_read_symbol []
  f_word_end : Addr
  fd_word_end : FuncData
  F_word_end : Fun K "word_end" "word_end" s_word_end f_word_end fd_word_end
  g_word_end : mg "word_end" = some (.ref f_word_end)
  b_word_end : Binds K fd_word_end P_word_end []
  f_read_arguments : Addr
  fd_read_arguments : FuncData
  F_read_arguments : Fun K "read_arguments" "read_arguments" s_read_arguments f_read_arguments fd_read_arguments
  g_read_arguments : mg "read_arguments" = some (.ref f_read_arguments)
  b_read_arguments : Binds K fd_read_arguments P_read_arguments []
  f_read_part : Addr
  fd_read_part : FuncData
  F_read_part : Fun K "read_part" "read_part" s_read_part f_read_part fd_read_part
  g_read_part : mg "read_part" = some (.ref f_read_part)
  b_read_part : Binds K fd_read_part P_read_part []
  f_read_whole : Addr
  fd_read_whole : FuncData
  F_read_whole : Fun K "read_whole" "read_whole" s_read_whole f_read_whole fd_read_whole
  g_read_whole : mg "read_whole" = some (.ref f_read_whole)
  b_read_whole : Binds K fd_read_whole P_read_whole []
  f_read_term : Addr
  fd_read_term : FuncData
  F_read_term : Fun K "read_term" "read_term" s_read_term f_read_term fd_read_term
  g_read_term : mg "read_term" = some (.ref f_read_term)
  b_read_term : Binds K fd_read_term P_read_term []
  f_read_atom_or_term : Addr
  fd_read_atom_or_term : FuncData
  F_read_atom_or_term : Fun K "read_atom_or_term" "read_atom_or_term" s_read_atom_or_term f_read_atom_or_term fd_read_atom_or_term
  g_read_atom_or_term : mg "read_atom_or_term" = some (.ref f_read_atom_or_term)
  b_read_atom_or_term : Binds K fd_read_atom_or_term P_read_atom_or_term []
  f_read_equation : Addr
  fd_read_equation : FuncData
  F_read_equation : Fun K "read_equation" "read_equation" s_read_equation f_read_equation fd_read_equation
  g_read_equation : mg "read_equation" = some (.ref f_read_equation)
  b_read_equation : Binds K fd_read_equation P_read_equation []
  f_read_literal : Addr
  fd_read_literal : FuncData
  F_read_literal : Fun K "read_literal" "read_literal" s_read_literal f_read_literal fd_read_literal
  g_read_literal : mg "read_literal" = some (.ref f_read_literal)
  b_read_literal : Binds K fd_read_literal P_read_literal []
  f_read_clause : Addr
  fd_read_clause : FuncData
  F_read_clause : Fun K "read_clause" "read_clause" s_read_clause f_read_clause fd_read_clause
  g_read_clause : mg "read_clause" = some (.ref f_read_clause)
  b_read_clause : Binds K fd_read_clause P_read_clause []
  f__law_cell : Addr
  fd__law_cell : FuncData
  F__law_cell : Fun K "_law_cell" "_law_cell" s__law_cell f__law_cell fd__law_cell
  g__law_cell : mg "_law_cell" = some (.ref f__law_cell)
  b__law_cell : Binds K fd__law_cell P__law_cell []
  f__law_symbol : Addr
  fd__law_symbol : FuncData
  F__law_symbol : Fun K "_law_symbol" "_law_symbol" s__law_symbol f__law_symbol fd__law_symbol
  g__law_symbol : mg "_law_symbol" = some (.ref f__law_symbol)
  b__law_symbol : Binds K fd__law_symbol P__law_symbol []
  f__law_term : Addr
  fd__law_term : FuncData
  F__law_term : Fun K "_law_term" "_law_term" s__law_term f__law_term fd__law_term
  g__law_term : mg "_law_term" = some (.ref f__law_term)
  b__law_term : Binds K fd__law_term P__law_term []
  f__law_atom : Addr
  fd__law_atom : FuncData
  F__law_atom : Fun K "_law_atom" "_law_atom" s__law_atom f__law_atom fd__law_atom
  g__law_atom : mg "_law_atom" = some (.ref f__law_atom)
  b__law_atom : Binds K fd__law_atom P__law_atom []
  f__law_literal : Addr
  fd__law_literal : FuncData
  F__law_literal : Fun K "_law_literal" "_law_literal" s__law_literal f__law_literal fd__law_literal
  g__law_literal : mg "_law_literal" = some (.ref f__law_literal)
  b__law_literal : Binds K fd__law_literal P__law_literal []
  f__law_clause : Addr
  fd__law_clause : FuncData
  F__law_clause : Fun K "_law_clause" "_law_clause" s__law_clause f__law_clause fd__law_clause
  g__law_clause : mg "_law_clause" = some (.ref f__law_clause)
  b__law_clause : Binds K fd__law_clause P__law_clause []
  f__law_word : Addr
  fd__law_word : FuncData
  F__law_word : Fun K "_law_word" "_law_word" s__law_word f__law_word fd__law_word
  g__law_word : mg "_law_word" = some (.ref f__law_word)
  b__law_word : Binds K fd__law_word P__law_word []
  f__law_table : Addr
  fd__law_table : FuncData
  F__law_table : Fun K "_law_table" "_law_table" s__law_table f__law_table fd__law_table
  g__law_table : mg "_law_table" = some (.ref f__law_table)
  b__law_table : Binds K fd__law_table P__law_table []
  f__law_is_variable : Addr
  fd__law_is_variable : FuncData
  F__law_is_variable : Fun K "_law_is_variable" "_law_is_variable" s__law_is_variable f__law_is_variable fd__law_is_variable
  g__law_is_variable : mg "_law_is_variable" = some (.ref f__law_is_variable)
  b__law_is_variable : Binds K fd__law_is_variable P__law_is_variable []
  f__law_tabled : Addr
  fd__law_tabled : FuncData
  F__law_tabled : Fun K "_law_tabled" "_law_tabled" s__law_tabled f__law_tabled fd__law_tabled
  g__law_tabled : mg "_law_tabled" = some (.ref f__law_tabled)
  b__law_tabled : Binds K fd__law_tabled P__law_tabled []
  f__law_is_individual : Addr
  fd__law_is_individual : FuncData
  F__law_is_individual : Fun K "_law_is_individual" "_law_is_individual" s__law_is_individual f__law_is_individual fd__law_is_individual
  g__law_is_individual : mg "_law_is_individual" = some (.ref f__law_is_individual)
  b__law_is_individual : Binds K fd__law_is_individual P__law_is_individual []
  f__law_is_atomic : Addr
  fd__law_is_atomic : FuncData
  F__law_is_atomic : Fun K "_law_is_atomic" "_law_is_atomic" s__law_is_atomic f__law_is_atomic fd__law_is_atomic
  g__law_is_atomic : mg "_law_is_atomic" = some (.ref f__law_is_atomic)
  b__law_is_atomic : Binds K fd__law_is_atomic P__law_is_atomic []
  f__law_well_formed : Addr
  fd__law_well_formed : FuncData
  F__law_well_formed : Fun K "_law_well_formed" "_law_well_formed" s__law_well_formed f__law_well_formed fd__law_well_formed
  g__law_well_formed : mg "_law_well_formed" = some (.ref f__law_well_formed)
  b__law_well_formed : Binds K fd__law_well_formed P__law_well_formed []
  f__law_symbol_text : Addr
  fd__law_symbol_text : FuncData
  F__law_symbol_text : Fun K "_law_symbol_text" "_law_symbol_text" s__law_symbol_text f__law_symbol_text fd__law_symbol_text
  g__law_symbol_text : mg "_law_symbol_text" = some (.ref f__law_symbol_text)
  b__law_symbol_text : Binds K fd__law_symbol_text P__law_symbol_text []
  f__law_text : Addr
  fd__law_text : FuncData
  F__law_text : Fun K "_law_text" "_law_text" s__law_text f__law_text fd__law_text
  g__law_text : mg "_law_text" = some (.ref f__law_text)
  b__law_text : Binds K fd__law_text P__law_text []
  f__law_literal_text : Addr
  fd__law_literal_text : FuncData
  F__law_literal_text : Fun K "_law_literal_text" "_law_literal_text" s__law_literal_text f__law_literal_text fd__law_literal_text
  g__law_literal_text : mg "_law_literal_text" = some (.ref f__law_literal_text)
  b__law_literal_text : Binds K fd__law_literal_text P__law_literal_text []
  f__law_scaled : Addr
  fd__law_scaled : FuncData
  F__law_scaled : Fun K "_law_scaled" "_law_scaled" s__law_scaled f__law_scaled fd__law_scaled
  g__law_scaled : mg "_law_scaled" = some (.ref f__law_scaled)
  b__law_scaled : Binds K fd__law_scaled P__law_scaled []
  f__law_scaled_clause : Addr
  fd__law_scaled_clause : FuncData
  F__law_scaled_clause : Fun K "_law_scaled_clause" "_law_scaled_clause" s__law_scaled_clause f__law_scaled_clause fd__law_scaled_clause
  g__law_scaled_clause : mg "_law_scaled_clause" = some (.ref f__law_scaled_clause)
  b__law_scaled_clause : Binds K fd__law_scaled_clause P__law_scaled_clause []
  f_law : Addr
  fd_law : FuncData
  F_law : Fun K "law" "law" s_law f_law fd_law
  g_law : mg "law" = some (.ref f_law)
  b_law : Binds K fd_law P_law []
  z_len : mg "len" = none
  z_int : mg "int" = none
  z_enumerate : mg "enumerate" = none
  v_TRUTH : V
  u_TRUTH : Value
  g_TRUTH : mg "TRUTH" = some u_TRUTH
  r_TRUTH : RelV v_TRUTH u_TRUTH
  d_TRUTH : ∀ base ρ H, RD ⟨K, mg, base⟩ ρ H k_TRUTH v_TRUTH
  z_tuple : mg "tuple" = none
  z_range : mg "range" = none
  z_isinstance : mg "isinstance" = none
  z_all : mg "all" = none
  z_str : mg "str" = none
  z_list : mg "list" = none
section
variable {P : Program} {w : World} {K : PySem.W.Frag} {mg : Str → Option Value} {base : Heap}
structure All (P : Program) (w : World) (base : Heap) (T : Txt K mg) (k : Nat) : Prop where
  ok_predicate : FnOk P w K mg base CX0 k T.f_predicate T.fd_predicate P_predicate (spG ⟨K, mg, base⟩ (run prog k 14000))
  ok_function : FnOk P w K mg base CX0 k T.f_function T.fd_function P_function (spG ⟨K, mg, base⟩ (run prog k 14001))
  ok_skolem : FnOk P w K mg base CX0 k T.f_skolem T.fd_skolem P_skolem (spG ⟨K, mg, base⟩ (run prog k 11004))
  ok_part_name : FnOk P w K mg base CX0 k T.f_part_name T.fd_part_name P_part_name (spG ⟨K, mg, base⟩ (run prog k 11005))
  ok_answer : FnOk P w K mg base CX0 k T.f_answer T.fd_answer P_answer (spG ⟨K, mg, base⟩ (run prog k 0))
  ok_read_number : FnOk P w K mg base CX0 k T.f_read_number T.fd_read_number P_read_number (spG ⟨K, mg, base⟩ (run prog k 14002))
  ok_read_pair : FnOk P w K mg base CX0 k T.f_read_pair T.fd_read_pair P_read_pair (spG ⟨K, mg, base⟩ (run prog k 14003))
  ok_named_symbol : FnOk P w K mg base CX0 k T.f_named_symbol T.fd_named_symbol P_named_symbol (spG ⟨K, mg, base⟩ (run prog k 14004))
  ok_read_symbol : FnOk P w K mg base CX0 k T.f_read_symbol T.fd_read_symbol P_read_symbol (spG ⟨K, mg, base⟩ (run prog k 14005))
  ok_word_end : FnOk P w K mg base CX0 k T.f_word_end T.fd_word_end P_word_end (spG ⟨K, mg, base⟩ (run prog k 14006))
  ok_read_arguments : FnOk P w K mg base CX0 k T.f_read_arguments T.fd_read_arguments P_read_arguments (spG ⟨K, mg, base⟩ (run prog k 14007))
  ok_read_part : FnOk P w K mg base CX0 k T.f_read_part T.fd_read_part P_read_part (spG ⟨K, mg, base⟩ (run prog k 14008))
  ok_read_whole : FnOk P w K mg base CX0 k T.f_read_whole T.fd_read_whole P_read_whole (spG ⟨K, mg, base⟩ (run prog k 14009))
  ok_read_term : FnOk P w K mg base CX0 k T.f_read_term T.fd_read_term P_read_term (spG ⟨K, mg, base⟩ (run prog k 90000))
  ok_read_atom_or_term : FnOk P w K mg base CX0 k T.f_read_atom_or_term T.fd_read_atom_or_term P_read_atom_or_term (spG ⟨K, mg, base⟩ (run prog k 90001))
  ok_read_equation : FnOk P w K mg base CX0 k T.f_read_equation T.fd_read_equation P_read_equation (spG ⟨K, mg, base⟩ (run prog k 14010))
  ok_read_literal : FnOk P w K mg base CX0 k T.f_read_literal T.fd_read_literal P_read_literal (spG ⟨K, mg, base⟩ (run prog k 14011))
  ok_read_clause : FnOk P w K mg base CX0 k T.f_read_clause T.fd_read_clause P_read_clause (spG ⟨K, mg, base⟩ (run prog k 90002))
  ok__law_cell : FnOk P w K mg base CX0 k T.f__law_cell T.fd__law_cell P__law_cell (spG ⟨K, mg, base⟩ (run prog k 2))
  ok__law_symbol : FnOk P w K mg base CX0 k T.f__law_symbol T.fd__law_symbol P__law_symbol (spG ⟨K, mg, base⟩ (run prog k 11))
  ok__law_term : FnOk P w K mg base CX0 k T.f__law_term T.fd__law_term P__law_term (spG ⟨K, mg, base⟩ (run prog k 12))
  ok__law_atom : FnOk P w K mg base CX0 k T.f__law_atom T.fd__law_atom P__law_atom (spG ⟨K, mg, base⟩ (run prog k 13))
  ok__law_literal : FnOk P w K mg base CX0 k T.f__law_literal T.fd__law_literal P__law_literal (spG ⟨K, mg, base⟩ (run prog k 37))
  ok__law_clause : FnOk P w K mg base CX0 k T.f__law_clause T.fd__law_clause P__law_clause (spG ⟨K, mg, base⟩ (run prog k 38))
  ok__law_word : FnOk P w K mg base CX0 k T.f__law_word T.fd__law_word P__law_word (spG ⟨K, mg, base⟩ (run prog k 14012))
  ok__law_table : FnOk P w K mg base CX0 k T.f__law_table T.fd__law_table P__law_table (spG ⟨K, mg, base⟩ (run prog k 14013))
  ok__law_is_variable : FnOk P w K mg base CX0 k T.f__law_is_variable T.fd__law_is_variable P__law_is_variable (spG ⟨K, mg, base⟩ (run prog k 14))
  ok__law_tabled : FnOk P w K mg base CX0 k T.f__law_tabled T.fd__law_tabled P__law_tabled (spG ⟨K, mg, base⟩ (run prog k 8015))
  ok__law_is_individual : FnOk P w K mg base CX0 k T.f__law_is_individual T.fd__law_is_individual P__law_is_individual (spG ⟨K, mg, base⟩ (run prog k 23))
  ok__law_is_atomic : FnOk P w K mg base CX0 k T.f__law_is_atomic T.fd__law_is_atomic P__law_is_atomic (spG ⟨K, mg, base⟩ (run prog k 24))
  ok__law_well_formed : FnOk P w K mg base CX0 k T.f__law_well_formed T.fd__law_well_formed P__law_well_formed (spG ⟨K, mg, base⟩ (run prog k 10002))
  ok__law_symbol_text : FnOk P w K mg base CX0 k T.f__law_symbol_text T.fd__law_symbol_text P__law_symbol_text (spG ⟨K, mg, base⟩ (run prog k 14014))
  ok__law_text : FnOk P w K mg base CX0 k T.f__law_text T.fd__law_text P__law_text (spG ⟨K, mg, base⟩ (run prog k 14015))
  ok__law_literal_text : FnOk P w K mg base CX0 k T.f__law_literal_text T.fd__law_literal_text P__law_literal_text (spG ⟨K, mg, base⟩ (run prog k 14016))
  ok__law_scaled : FnOk P w K mg base CX0 k T.f__law_scaled T.fd__law_scaled P__law_scaled (spG ⟨K, mg, base⟩ (run prog k 90003))
  ok__law_scaled_clause : FnOk P w K mg base CX0 k T.f__law_scaled_clause T.fd__law_scaled_clause P__law_scaled_clause (spG ⟨K, mg, base⟩ (run prog k 90004))
  ok_law : FnOk P w K mg base CX0 k T.f_law T.fd_law P_law (spG ⟨K, mg, base⟩ (run prog k 90005))
theorem ok_predicate (T : Txt K mg) {k : Nat} (IH : All P w base T k) : FnOk P w K mg base CX0 (k + 1) T.f_predicate T.fd_predicate P_predicate (spG ⟨K, mg, base⟩ (run prog (k + 1) 14000)) :=
  fn_ok (nm := 14000) (ms := c_predicate) T.F_predicate sc_predicate rfl fun cdv A outer s H E hr =>
    (b_one (st_ret (s_tup (sa_cons s_int (sa_cons (s_var 0) (sa_cons s_int sa_nil))))))
theorem ok_function (T : Txt K mg) {k : Nat} (IH : All P w base T k) : FnOk P w K mg base CX0 (k + 1) T.f_function T.fd_function P_function (spG ⟨K, mg, base⟩ (run prog (k + 1) 14001)) :=
  fn_ok (nm := 14001) (ms := c_function) T.F_function sc_function rfl fun cdv A outer s H E hr =>
    (b_one (st_ret (s_tup (sa_cons s_int (sa_cons (s_var 0) (sa_cons s_int sa_nil))))))
theorem ok_skolem (T : Txt K mg) {k : Nat} (IH : All P w base T k) : FnOk P w K mg base CX0 (k + 1) T.f_skolem T.fd_skolem P_skolem (spG ⟨K, mg, base⟩ (run prog (k + 1) 11004)) :=
  fn_ok (nm := 11004) (ms := c_skolem) T.F_skolem sc_skolem rfl fun cdv A outer s H E hr =>
    (b_one (st_ret (s_tup (sa_cons s_int (sa_cons (s_var 0) (sa_cons (s_var 1) sa_nil))))))
theorem ok_part_name (T : Txt K mg) {k : Nat} (IH : All P w base T k) : FnOk P w K mg base CX0 (k + 1) T.f_part_name T.fd_part_name P_part_name (spG ⟨K, mg, base⟩ (run prog (k + 1) 11005)) :=
  fn_ok (nm := 11005) (ms := c_part_name) T.F_part_name sc_part_name rfl fun cdv A outer s H E hr =>
    (b_one (st_ret (s_tup (sa_cons s_int (sa_cons (s_var 0) (sa_cons (s_var 1) sa_nil))))))
theorem ok_answer (T : Txt K mg) {k : Nat} (IH : All P w base T k) : FnOk P w K mg base CX0 (k + 1) T.f_answer T.fd_answer P_answer (spG ⟨K, mg, base⟩ (run prog (k + 1) 0)) :=
  fn_ok (nm := 0) (ms := c_answer) T.F_answer sc_answer rfl fun cdv A outer s H E hr =>
    (b_one (st_ret (s_tup (sa_cons s_int (sa_cons (s_var 0) (sa_cons s_int sa_nil))))))
theorem ok_read_number (T : Txt K mg) {k : Nat} (IH : All P w base T k) : FnOk P w K mg base CX0 (k + 1) T.f_read_number T.fd_read_number P_read_number (spG ⟨K, mg, base⟩ (run prog (k + 1) 14002)) :=
  fn_ok (nm := 14002) (ms := c_read_number) T.F_read_number sc_read_number rfl fun cdv A outer s H E hr =>
    (b_cons (st_if (t_w (w_or (t_not (t_val (s_var 0))) (w_or1 (t_not (t_val (s_digit (s_var 0))))))) (b_one (st_ret s_non)) b_nil)
    (b_cons (st_if (t_w (w_and (t_gt (s_len (o_d (s_var 0)) T.z_len) s_int) (w_and1 (t_eq (hu2 hr) (o_d (s_ix (s_var 0) s_int)) (o_d s_str))))) (b_one (st_ret s_non)) b_nil)
    (b_one (st_ret (s_intS (o_d (s_var 0)) T.z_int)))))
theorem ok_read_pair (T : Txt K mg) {k : Nat} (IH : All P w base T k) : FnOk P w K mg base CX0 (k + 1) T.f_read_pair T.fd_read_pair P_read_pair (spG ⟨K, mg, base⟩ (run prog (k + 1) 14003)) :=
  fn_ok (nm := 14003) (ms := c_read_pair) T.F_read_pair sc_read_pair rfl fun cdv A outer s H E hr =>
    (b_cons (st_set (i := 1) sc_read_pair.nd (s_alloc (l_split (s_var 0) s_str)))
    (b_cons (st_if (t_ne (hu2 hr) (o_d (s_len (o_d (s_var 1)) T.z_len)) (o_d s_int)) (b_one (st_ret s_non)) b_nil)
    (b_cons (st_set (i := 2) sc_read_pair.nd (s_call IH.ok_read_number hr T.g_read_number T.F_read_number.kp T.b_read_number (sa_cons (s_ix (s_var 1) s_int) sa_nil)))
    (b_cons (st_set (i := 3) sc_read_pair.nd (s_call IH.ok_read_number hr T.g_read_number T.F_read_number.kp T.b_read_number (sa_cons (s_ix (s_var 1) s_int) sa_nil)))
    (b_cons (st_if (t_w (w_or (t_isN (s_var 2)) (w_or1 (t_isN (s_var 3))))) (b_one (st_ret s_non)) b_nil)
    (b_one (st_ret (s_tup (sa_cons (s_var 2) (sa_cons (s_var 3) sa_nil))))))))))
theorem ok_named_symbol (T : Txt K mg) {k : Nat} (IH : All P w base T k) : FnOk P w K mg base CX0 (k + 1) T.f_named_symbol T.fd_named_symbol P_named_symbol (spG ⟨K, mg, base⟩ (run prog (k + 1) 14004)) :=
  fn_ok (nm := 14004) (ms := c_named_symbol) T.F_named_symbol sc_named_symbol rfl fun cdv A outer s H E hr =>
    (b_cons (st_for PassesOwn.never rfl (i_enum (o_d (s_var 1)) T.z_enumerate) (g_tup rfl (gs_cons (g_name 3 sc_named_symbol.nd) (gs_cons (g_name 4 sc_named_symbol.nd) gs_nil))) (b_one (st_if (t_w (w_and (t_eq (hu2 hr) (o_d (s_ix (s_var 4) s_int)) (o_d (s_var 2))) (w_and1 (t_eq (hu2 hr) (o_d (s_ix (s_var 4) s_int)) (o_d (s_var 0)))))) (b_one (st_ret (s_if (t_val (s_var 2)) (s_call IH.ok_predicate hr T.g_predicate T.F_predicate.kp T.b_predicate (sa_cons (s_var 3) sa_nil)) (s_call IH.ok_function hr T.g_function T.F_function.kp T.b_function (sa_cons (s_var 3) sa_nil))))) b_nil)))
    (b_one (st_ret s_non)))
theorem ok_read_symbol (T : Txt K mg) {k : Nat} (IH : All P w base T k) : FnOk P w K mg base CX0 (k + 1) T.f_read_symbol T.fd_read_symbol P_read_symbol (spG ⟨K, mg, base⟩ (run prog (k + 1) 14005)) :=
  fn_ok (nm := 14005) (ms := c_read_symbol) T.F_read_symbol sc_read_symbol rfl fun cdv A outer s H E hr =>
    (b_cons (st_if (t_eq (hu2 hr) (o_d (s_var 0)) (o_d s_str)) (b_one (st_ret (s_if (t_val (s_var 2)) (s_ix (s_glob rfl T.g_TRUTH T.r_TRUTH (T.d_TRUTH _)) s_int) s_non))) b_nil)
    (b_cons (st_if (t_val (s_starts (s_var 0) s_str)) (b_cons (st_set (i := 3) sc_read_symbol.nd (s_call IH.ok_read_number hr T.g_read_number T.F_read_number.kp T.b_read_number (sa_cons (s_o (o_sl (s_var 0) (i_some s_int) i_none)) sa_nil)))
    (b_one (st_ret (s_if (t_w (w_and (t_val (s_var 2)) (w_and1 (t_notN (s_var 3))))) (s_call IH.ok_answer hr T.g_answer T.F_answer.kp T.b_answer (sa_cons (s_var 3) sa_nil)) s_non)))) b_nil)
    (b_cons (st_if (t_w (w_or (t_val (s_starts (s_var 0) s_str)) (w_or1 (t_val (s_starts (s_var 0) s_str))))) (b_cons (st_set (i := 4) sc_read_symbol.nd (s_call IH.ok_read_pair hr T.g_read_pair T.F_read_pair.kp T.b_read_pair (sa_cons (s_o (o_sl (s_var 0) (i_some s_int) i_none)) sa_nil)))
    (b_cons (st_if (t_w (w_or (t_isN (s_var 4)) (w_or1 (t_ne (hu2 hr) (o_d (s_var 2)) (o_d (s_starts (s_var 0) s_str)))))) (b_one (st_ret s_non)) b_nil)
    (b_one (st_ret (s_if (t_val (s_var 2)) (s_call IH.ok_part_name hr T.g_part_name T.F_part_name.kp T.b_part_name (sa_cons (s_ix (s_var 4) s_int) (sa_cons (s_ix (s_var 4) s_int) sa_nil))) (s_call IH.ok_skolem hr T.g_skolem T.F_skolem.kp T.b_skolem (sa_cons (s_ix (s_var 4) s_int) (sa_cons (s_ix (s_var 4) s_int) sa_nil)))))))) b_nil)
    (b_one (st_ret (s_call IH.ok_named_symbol hr T.g_named_symbol T.F_named_symbol.kp T.b_named_symbol (sa_cons (s_var 0) (sa_cons (s_var 1) (sa_cons (s_var 2) sa_nil)))))))))
theorem ok_word_end (T : Txt K mg) {k : Nat} (IH : All P w base T k) : FnOk P w K mg base CX0 (k + 1) T.f_word_end T.fd_word_end P_word_end (spG ⟨K, mg, base⟩ (run prog (k + 1) 14006)) :=
  fn_ok (nm := 14006) (ms := c_word_end) T.F_word_end sc_word_end rfl fun cdv A outer s H E hr =>
    (b_cons (st_set (i := 2) sc_word_end.nd (s_var 1))
    (b_cons (st_while PassesOwn.never (t_w (w_and (t_lt (s_var 2) (s_len (o_d (s_var 0)) T.z_len)) (w_and1 (t_ninS (hu2 hr) (s_ix (s_var 0) (s_var 2)) s_str)))) (b_one (st_iadd (i := 2) sc_word_end.nd s_int)))
    (b_one (st_ret (s_var 2)))))
theorem ok_read_arguments (T : Txt K mg) {k : Nat} (IH : All P w base T k) : FnOk P w K mg base CX0 (k + 1) T.f_read_arguments T.fd_read_arguments P_read_arguments (spG ⟨K, mg, base⟩ (run prog (k + 1) 14007)) :=
  fn_ok (nm := 14007) (ms := c_read_arguments) T.F_read_arguments sc_read_arguments rfl fun cdv A outer s H E hr =>
    (b_cons (st_set (i := 3) sc_read_arguments.nd (s_alloc (l_lst sa_nil)))
    (b_cons (st_set (i := 4) sc_read_arguments.nd (s_var 1))
    (b_one (st_while PassesOwn.never (t_val s_bl) (b_cons (st_set (i := 5) sc_read_arguments.nd (s_call IH.ok_read_part hr T.g_read_part T.F_read_part.kp T.b_read_part (sa_cons (s_var 0) (sa_cons (s_var 4) (sa_cons (s_var 2) (sa_cons s_bl sa_nil))))))
    (b_cons (st_if (t_isN (s_var 5)) (b_one (st_ret s_non)) b_nil)
    (b_cons (st_expr (s_app (s_var 3) (s_ix (s_var 5) s_int)))
    (b_cons (st_set (i := 4) sc_read_arguments.nd (s_ix (s_var 5) s_int))
    (b_one (st_if (t_eq (hu2 hr) (o_sl (s_var 0) (i_some (s_var 4)) (i_some (s_add (s_var 4) s_int))) (o_d s_str)) (b_one (st_iadd (i := 4) sc_read_arguments.nd s_int)) (b_one (st_if (t_eq (hu2 hr) (o_sl (s_var 0) (i_some (s_var 4)) (i_some (s_add (s_var 4) s_int))) (o_d s_str)) (b_one (st_ret (s_tup (sa_cons (s_tupc (o_d (s_var 3)) T.z_tuple) (sa_cons (s_add (s_var 4) s_int) sa_nil))))) (b_one (st_ret s_non))))))))))))))
theorem ok_read_part (T : Txt K mg) {k : Nat} (IH : All P w base T k) : FnOk P w K mg base CX0 (k + 1) T.f_read_part T.fd_read_part P_read_part (spG ⟨K, mg, base⟩ (run prog (k + 1) 14008)) :=
  fn_ok (nm := 14008) (ms := c_read_part) T.F_read_part sc_read_part rfl fun cdv A outer s H E hr =>
    (b_cons (st_set (i := 4) sc_read_part.nd (s_call IH.ok_word_end hr T.g_word_end T.F_word_end.kp T.b_word_end (sa_cons (s_var 0) (sa_cons (s_var 1) sa_nil))))
    (b_cons (st_set (i := 5) sc_read_part.nd (s_o (o_sl (s_var 0) (i_some (s_var 1)) (i_some (s_var 4)))))
    (b_cons (st_if (t_val (s_starts (s_var 5) s_str)) (b_cons (st_set (i := 6) sc_read_part.nd (s_call IH.ok_read_number hr T.g_read_number T.F_read_number.kp T.b_read_number (sa_cons (s_o (o_sl (s_var 5) (i_some s_int) i_none)) sa_nil)))
    (b_cons (st_if (t_w (w_or (t_val (s_var 3)) (w_or1 (t_isN (s_var 6))))) (b_one (st_ret s_non)) b_nil)
    (b_one (st_ret (s_tup (sa_cons (s_var 6) (sa_cons (s_var 4) sa_nil))))))) b_nil)
    (b_cons (st_set (i := 7) sc_read_part.nd (s_call IH.ok_read_symbol hr T.g_read_symbol T.F_read_symbol.kp T.b_read_symbol (sa_cons (s_var 5) (sa_cons (s_var 2) (sa_cons (s_var 3) sa_nil)))))
    (b_cons (st_if (t_isN (s_var 7)) (b_one (st_ret s_non)) b_nil)
    (b_cons (st_if (t_ne (hu2 hr) (o_sl (s_var 0) (i_some (s_var 4)) (i_some (s_add (s_var 4) s_int))) (o_d s_str)) (b_one (st_ret (s_tup (sa_cons (s_tup (sa_cons (s_var 7) (sa_cons (s_tup sa_nil) sa_nil))) (sa_cons (s_var 4) sa_nil))))) b_nil)
    (b_cons (st_set (i := 8) sc_read_part.nd (s_call IH.ok_read_arguments hr T.g_read_arguments T.F_read_arguments.kp T.b_read_arguments (sa_cons (s_var 0) (sa_cons (s_add (s_var 4) s_int) (sa_cons (s_var 2) sa_nil)))))
    (b_cons (st_if (t_isN (s_var 8)) (b_one (st_ret s_non)) b_nil)
    (b_one (st_ret (s_tup (sa_cons (s_tup (sa_cons (s_var 7) (sa_cons (s_ix (s_var 8) s_int) sa_nil))) (sa_cons (s_ix (s_var 8) s_int) sa_nil)))))))))))))
theorem ok_read_whole (T : Txt K mg) {k : Nat} (IH : All P w base T k) : FnOk P w K mg base CX0 (k + 1) T.f_read_whole T.fd_read_whole P_read_whole (spG ⟨K, mg, base⟩ (run prog (k + 1) 14009)) :=
  fn_ok (nm := 14009) (ms := c_read_whole) T.F_read_whole sc_read_whole rfl fun cdv A outer s H E hr =>
    (b_cons (st_set (i := 3) sc_read_whole.nd (s_call IH.ok_read_part hr T.g_read_part T.F_read_part.kp T.b_read_part (sa_cons (s_var 0) (sa_cons s_int (sa_cons (s_var 1) (sa_cons (s_var 2) sa_nil))))))
    (b_cons (st_if (t_w (w_or (t_isN (s_var 3)) (w_or1 (t_ne (hu2 hr) (o_d (s_ix (s_var 3) s_int)) (o_d (s_len (o_d (s_var 0)) T.z_len)))))) (b_one (st_ret s_non)) b_nil)
    (b_one (st_ret (s_ix (s_var 3) s_int)))))
theorem ok_read_term (T : Txt K mg) {k : Nat} (IH : All P w base T k) : FnOk P w K mg base CX0 (k + 1) T.f_read_term T.fd_read_term P_read_term (spG ⟨K, mg, base⟩ (run prog (k + 1) 90000)) :=
  fn_ok (nm := 90000) (ms := m_read_term) T.F_read_term sc_read_term rfl fun cdv A outer s H E hr =>
    (b_cons (st_set (i := 2) sc_read_term.nd (s_call IH.ok_read_whole hr T.g_read_whole T.F_read_whole.kp T.b_read_whole (sa_cons (s_var 0) (sa_cons (s_var 1) (sa_cons s_bl sa_nil)))))
    (b_cons (st_if (t_isN (s_var 2)) (b_one st_never) b_nil)
    (b_one (st_ret (s_var 2)))))
theorem ok_read_atom_or_term (T : Txt K mg) {k : Nat} (IH : All P w base T k) : FnOk P w K mg base CX0 (k + 1) T.f_read_atom_or_term T.fd_read_atom_or_term P_read_atom_or_term (spG ⟨K, mg, base⟩ (run prog (k + 1) 90001)) :=
  fn_ok (nm := 90001) (ms := m_read_atom_or_term) T.F_read_atom_or_term sc_read_atom_or_term rfl fun cdv A outer s H E hr =>
    (b_cons (st_set (i := 2) sc_read_atom_or_term.nd (s_call IH.ok_read_whole hr T.g_read_whole T.F_read_whole.kp T.b_read_whole (sa_cons (s_var 0) (sa_cons (s_var 1) (sa_cons s_bl sa_nil)))))
    (b_cons (st_if (t_isN (s_var 2)) (b_one (st_set (i := 2) sc_read_atom_or_term.nd (s_call IH.ok_read_whole hr T.g_read_whole T.F_read_whole.kp T.b_read_whole (sa_cons (s_var 0) (sa_cons (s_var 1) (sa_cons s_bl sa_nil)))))) b_nil)
    (b_cons (st_if (t_isN (s_var 2)) (b_one st_never) b_nil)
    (b_one (st_ret (s_var 2))))))
theorem ok_read_equation (T : Txt K mg) {k : Nat} (IH : All P w base T k) : FnOk P w K mg base CX0 (k + 1) T.f_read_equation T.fd_read_equation P_read_equation (spG ⟨K, mg, base⟩ (run prog (k + 1) 14010)) :=
  fn_ok (nm := 14010) (ms := c_read_equation) T.F_read_equation sc_read_equation rfl fun cdv A outer s H E hr =>
    (b_cons (st_set (i := 3) sc_read_equation.nd (s_alloc (l_split (s_var 0) (s_var 1))))
    (b_cons (st_if (t_ne (hu2 hr) (o_d (s_len (o_d (s_var 3)) T.z_len)) (o_d s_int)) (b_one (st_ret s_non)) b_nil)
    (b_cons (st_set (i := 4) sc_read_equation.nd (s_call IH.ok_read_whole hr T.g_read_whole T.F_read_whole.kp T.b_read_whole (sa_cons (s_ix (s_var 3) s_int) (sa_cons (s_var 2) (sa_cons s_bl sa_nil)))))
    (b_cons (st_set (i := 5) sc_read_equation.nd (s_call IH.ok_read_whole hr T.g_read_whole T.F_read_whole.kp T.b_read_whole (sa_cons (s_ix (s_var 3) s_int) (sa_cons (s_var 2) (sa_cons s_bl sa_nil)))))
    (b_cons (st_if (t_w (w_or (t_isN (s_var 4)) (w_or1 (t_isN (s_var 5))))) (b_one (st_ret s_non)) b_nil)
    (b_one (st_ret (s_tup (sa_cons (s_var 4) (sa_cons (s_var 5) sa_nil))))))))))
theorem ok_read_literal (T : Txt K mg) {k : Nat} (IH : All P w base T k) : FnOk P w K mg base CX0 (k + 1) T.f_read_literal T.fd_read_literal P_read_literal (spG ⟨K, mg, base⟩ (run prog (k + 1) 14011)) :=
  fn_ok (nm := 14011) (ms := c_read_literal) T.F_read_literal sc_read_literal rfl fun cdv A outer s H E hr =>
    (b_cons (st_for PassesOwn.never rfl (i_seq (o_d (s_tup (sa_cons (s_tup (sa_cons s_bl (sa_cons s_str sa_nil))) (sa_cons (s_tup (sa_cons s_bl (sa_cons s_str sa_nil))) sa_nil))))) (g_tup rfl (gs_cons (g_name 2 sc_read_literal.nd) (gs_cons (g_name 3 sc_read_literal.nd) gs_nil))) (b_one (st_if (t_inT (hu2 hr) (s_var 3) (s_var 0)) (b_cons (st_set (i := 4) sc_read_literal.nd (s_call IH.ok_read_equation hr T.g_read_equation T.F_read_equation.kp T.b_read_equation (sa_cons (s_var 0) (sa_cons (s_var 3) (sa_cons (s_var 1) sa_nil)))))
    (b_cons (st_if (t_isN (s_var 4)) (b_one (st_ret s_non)) b_nil)
    (b_one (st_ret (s_tup (sa_cons (s_var 2) (sa_cons (s_ix (s_var 4) s_int) (sa_cons (s_ix (s_var 4) s_int) sa_nil)))))))) b_nil)))
    (b_cons (st_set (i := 2) sc_read_literal.nd (s_not (s_starts (s_var 0) s_str)))
    (b_cons (st_set (i := 5) sc_read_literal.nd (s_call IH.ok_read_whole hr T.g_read_whole T.F_read_whole.kp T.b_read_whole (sa_cons (s_if (t_val (s_var 2)) (s_var 0) (s_o (o_sl (s_var 0) (i_some s_int) i_none))) (sa_cons (s_var 1) (sa_cons s_bl sa_nil)))))
    (b_cons (st_if (t_isN (s_var 5)) (b_one (st_ret s_non)) b_nil)
    (b_one (st_ret (s_tup (sa_cons (s_var 2) (sa_cons (s_var 5) (sa_cons (s_glob rfl T.g_TRUTH T.r_TRUTH (T.d_TRUTH _)) sa_nil))))))))))
theorem ok_read_clause (T : Txt K mg) {k : Nat} (IH : All P w base T k) : FnOk P w K mg base CX0 (k + 1) T.f_read_clause T.fd_read_clause P_read_clause (spG ⟨K, mg, base⟩ (run prog (k + 1) 90002)) :=
  fn_ok (nm := 90002) (ms := m_read_clause) T.F_read_clause sc_read_clause rfl fun cdv A outer s H E hr =>
    (b_cons (st_if (t_eq (hu2 hr) (o_d (s_var 0)) (o_d s_str)) (b_one (st_ret (s_tup sa_nil))) b_nil)
    (b_cons (st_set (i := 2) sc_read_clause.nd (s_alloc (l_lst sa_nil)))
    (b_cons (st_for PassesOwn.never rfl (i_seq (o_n (l_split (s_var 0) s_str))) (g_name 3 sc_read_clause.nd) (b_cons (st_set (i := 4) sc_read_clause.nd (s_call IH.ok_read_literal hr T.g_read_literal T.F_read_literal.kp T.b_read_literal (sa_cons (s_var 3) (sa_cons (s_var 1) sa_nil))))
    (b_cons (st_if (t_isN (s_var 4)) (b_one st_never) b_nil)
    (b_one (st_expr (s_app (s_var 2) (s_var 4)))))))
    (b_one (st_ret (s_tupc (o_d (s_var 2)) T.z_tuple))))))
theorem ok__law_cell (T : Txt K mg) {k : Nat} (IH : All P w base T k) : FnOk P w K mg base CX0 (k + 1) T.f__law_cell T.fd__law_cell P__law_cell (spG ⟨K, mg, base⟩ (run prog (k + 1) 2)) :=
  fn_ok (nm := 2) (ms := c__law_cell) T.F__law_cell sc__law_cell rfl fun cdv A outer s H E hr =>
    (b_cons (st_set (i := 2) sc__law_cell.nd (s_add (s_mul s_int (s_var 1)) s_int))
    (b_cons (st_if (t_lt (s_var 1) (s_len (o_d (s_var 0)) T.z_len)) (b_one (st_set (i := 2) sc__law_cell.nd (s_ix (s_var 0) (s_var 1)))) b_nil)
    (b_cons (st_if (t_lt (s_var 2) s_int) (b_one (st_set (i := 2) sc__law_cell.nd (s_sub s_int (s_mul s_int (s_var 2))))) b_nil)
    (b_cons (st_if (t_lt (s_var 2) s_int) (b_cons (st_set (i := 3) sc__law_cell.nd (s_mod (s_intc (o_d (s_add (s_add (s_mul (s_var 2) s_int) (s_mul (s_var 1) s_int)) s_int)) T.z_int) s_int))
    (b_cons (st_set (i := 4) sc__law_cell.nd (s_mod (s_intc (o_d (s_add (s_add (s_mul (s_var 3) s_int) (s_mul (s_var 1) s_int)) s_int)) T.z_int) s_int))
    (b_cons (st_set (i := 5) sc__law_cell.nd (s_mod (s_intc (o_d (s_add (s_add (s_mul (s_var 4) s_int) (s_var 3)) s_int)) T.z_int) s_int))
    (b_one (st_set (i := 2) sc__law_cell.nd (s_add (s_mul (s_add (s_mul (s_var 5) s_int) (s_var 4)) s_int) (s_var 3))))))) b_nil)
    (b_one (st_ret (s_var 2)))))))
theorem ok__law_symbol (T : Txt K mg) {k : Nat} (IH : All P w base T k) : FnOk P w K mg base CX0 (k + 1) T.f__law_symbol T.fd__law_symbol P__law_symbol (spG ⟨K, mg, base⟩ (run prog (k + 1) 11)) :=
  fn_ok (nm := 11) (ms := c__law_symbol) T.F__law_symbol sc__law_symbol rfl fun cdv A outer s H E hr =>
    (b_cons (st_set (i := 1) sc__law_symbol.nd (s_alloc (l_lst (sa_cons (s_tup (sa_cons s_int (sa_cons s_int (sa_cons s_int sa_nil)))) (sa_cons (s_tup (sa_cons s_int (sa_cons s_int (sa_cons s_int sa_nil)))) (sa_cons (s_tup (sa_cons s_int (sa_cons s_int (sa_cons s_int sa_nil)))) (sa_cons (s_tup (sa_cons s_int (sa_cons s_int (sa_cons s_int sa_nil)))) (sa_cons (s_tup (sa_cons s_int (sa_cons s_int (sa_cons s_int sa_nil)))) sa_nil))))))))
    (b_one (st_ret (s_ix (s_var 1) (s_mod (s_intc (o_d (s_var 0)) T.z_int) s_int)))))
theorem ok__law_term (T : Txt K mg) {k : Nat} (IH : All P w base T k) : FnOk P w K mg base CX0 (k + 1) T.f__law_term T.fd__law_term P__law_term (spG ⟨K, mg, base⟩ (run prog (k + 1) 12)) :=
  fn_ok (nm := 12) (ms := c__law_term) T.F__law_term sc__law_term rfl fun cdv A outer s H E hr =>
    (b_cons (st_set (i := 2) sc__law_term.nd (s_mod (s_intc (o_d (s_var 0)) T.z_int) s_int))
    (b_cons (st_set (i := 0) sc__law_term.nd (s_div (s_var 0) s_int))
    (b_cons (st_if (t_lt (s_var 2) s_int) (b_one (st_ret (s_tup (sa_cons (s_mod (s_intc (o_d (s_var 0)) T.z_int) s_int) (sa_cons (s_div (s_var 0) s_int) sa_nil))))) b_nil)
    (b_cons (st_set (i := 3) sc__law_term.nd (s_mod (s_intc (o_d (s_var 0)) T.z_int) s_int))
    (b_cons (st_set (i := 0) sc__law_term.nd (s_div (s_var 0) s_int))
    (b_cons (st_if (t_eq (hu2 hr) (o_d (s_var 1)) (o_d s_int)) (b_one (st_set (i := 3) sc__law_term.nd s_int)) b_nil)
    (b_cons (st_set (i := 4) sc__law_term.nd (s_call IH.ok__law_symbol hr T.g__law_symbol T.F__law_symbol.kp T.b__law_symbol (sa_cons (s_mod (s_intc (o_d (s_var 0)) T.z_int) s_int) sa_nil)))
    (b_cons (st_set (i := 0) sc__law_term.nd (s_div (s_var 0) s_int))
    (b_cons (st_set (i := 5) sc__law_term.nd (s_alloc (l_lst sa_nil)))
    (b_cons (st_for PassesOwn.never rfl (i_rng1 (s_var 3) T.z_range) (g_name 6 sc__law_term.nd) (b_cons (st_set (i := 7) sc__law_term.nd (s_call IH.ok__law_term hr T.g__law_term T.F__law_term.kp T.b__law_term (sa_cons (s_var 0) (sa_cons (s_sub (s_var 1) s_int) sa_nil))))
    (b_cons (st_expr (s_app (s_var 5) (s_ix (s_var 7) s_int)))
    (b_one (st_set (i := 0) sc__law_term.nd (s_ix (s_var 7) s_int))))))
    (b_one (st_ret (s_tup (sa_cons (s_tup (sa_cons (s_var 4) (sa_cons (s_tupc (o_d (s_var 5)) T.z_tuple) sa_nil))) (sa_cons (s_var 0) sa_nil)))))))))))))))
theorem ok__law_atom (T : Txt K mg) {k : Nat} (IH : All P w base T k) : FnOk P w K mg base CX0 (k + 1) T.f__law_atom T.fd__law_atom P__law_atom (spG ⟨K, mg, base⟩ (run prog (k + 1) 13)) :=
  fn_ok (nm := 13) (ms := c__law_atom) T.F__law_atom sc__law_atom rfl fun cdv A outer s H E hr =>
    (b_cons (st_set (i := 2) sc__law_atom.nd (s_alloc (l_lst (sa_cons (s_tup (sa_cons s_int (sa_cons s_int (sa_cons s_int sa_nil)))) (sa_cons (s_tup (sa_cons s_int (sa_cons s_int (sa_cons s_int sa_nil)))) (sa_cons (s_tup (sa_cons s_int (sa_cons s_int (sa_cons s_int sa_nil)))) (sa_cons (s_tup (sa_cons s_int (sa_cons s_int (sa_cons s_int sa_nil)))) (sa_cons (s_tup (sa_cons s_int (sa_cons s_int (sa_cons s_int sa_nil)))) (sa_cons (s_tup (sa_cons s_int (sa_cons s_int (sa_cons s_int sa_nil)))) sa_nil)))))))))
    (b_cons (st_set (i := 3) sc__law_atom.nd (s_ix (s_var 2) (s_mod (s_intc (o_d (s_var 0)) T.z_int) s_int)))
    (b_cons (st_set (i := 0) sc__law_atom.nd (s_div (s_var 0) s_int))
    (b_cons (st_set (i := 4) sc__law_atom.nd (s_mod (s_intc (o_d (s_var 0)) T.z_int) s_int))
    (b_cons (st_set (i := 0) sc__law_atom.nd (s_div (s_var 0) s_int))
    (b_cons (st_set (i := 5) sc__law_atom.nd (s_alloc (l_lst sa_nil)))
    (b_cons (st_for PassesOwn.never rfl (i_rng1 (s_var 4) T.z_range) (g_name 6 sc__law_atom.nd) (b_cons (st_set (i := 7) sc__law_atom.nd (s_call IH.ok__law_term hr T.g__law_term T.F__law_term.kp T.b__law_term (sa_cons (s_var 0) (sa_cons (s_var 1) sa_nil))))
    (b_cons (st_expr (s_app (s_var 5) (s_ix (s_var 7) s_int)))
    (b_one (st_set (i := 0) sc__law_atom.nd (s_ix (s_var 7) s_int))))))
    (b_one (st_ret (s_tup (sa_cons (s_tup (sa_cons (s_var 3) (sa_cons (s_tupc (o_d (s_var 5)) T.z_tuple) sa_nil))) (sa_cons (s_var 0) sa_nil))))))))))))
theorem ok__law_literal (T : Txt K mg) {k : Nat} (IH : All P w base T k) : FnOk P w K mg base CX0 (k + 1) T.f__law_literal T.fd__law_literal P__law_literal (spG ⟨K, mg, base⟩ (run prog (k + 1) 37)) :=
  fn_ok (nm := 37) (ms := c__law_literal) T.F__law_literal sc__law_literal rfl fun cdv A outer s H E hr =>
    (b_cons (st_set (i := 2) sc__law_literal.nd (s_eq (hu2 hr) (o_d (s_mod (s_intc (o_d (s_var 0)) T.z_int) s_int)) (o_d s_int)))
    (b_cons (st_set (i := 3) sc__law_literal.nd (s_mod (s_div (s_var 0) s_int) s_int))
    (b_cons (st_set (i := 0) sc__law_literal.nd (s_div (s_var 0) s_int))
    (b_cons (st_if (t_eq (hu2 hr) (o_d (s_var 3)) (o_d s_int)) (b_cons (st_set (i := 4) sc__law_literal.nd (s_call IH.ok__law_atom hr T.g__law_atom T.F__law_atom.kp T.b__law_atom (sa_cons (s_var 0) (sa_cons (s_var 1) sa_nil))))
    (b_one (st_ret (s_tup (sa_cons (s_tup (sa_cons (s_var 2) (sa_cons (s_ix (s_var 4) s_int) (sa_cons (s_tup (sa_cons (s_tup (sa_cons s_int (sa_cons s_int (sa_cons s_int sa_nil)))) (sa_cons (s_tup sa_nil) sa_nil))) sa_nil)))) (sa_cons (s_ix (s_var 4) s_int) sa_nil)))))) b_nil)
    (b_cons (st_set (i := 5) sc__law_literal.nd (s_call IH.ok__law_term hr T.g__law_term T.F__law_term.kp T.b__law_term (sa_cons (s_var 0) (sa_cons (s_var 1) sa_nil))))
    (b_cons (st_set (i := 6) sc__law_literal.nd (s_call IH.ok__law_term hr T.g__law_term T.F__law_term.kp T.b__law_term (sa_cons (s_ix (s_var 5) s_int) (sa_cons (s_var 1) sa_nil))))
    (b_one (st_ret (s_tup (sa_cons (s_tup (sa_cons (s_var 2) (sa_cons (s_ix (s_var 5) s_int) (sa_cons (s_ix (s_var 6) s_int) sa_nil)))) (sa_cons (s_ix (s_var 6) s_int) sa_nil)))))))))))
theorem ok__law_clause (T : Txt K mg) {k : Nat} (IH : All P w base T k) : FnOk P w K mg base CX0 (k + 1) T.f__law_clause T.fd__law_clause P__law_clause (spG ⟨K, mg, base⟩ (run prog (k + 1) 38)) :=
  fn_ok (nm := 38) (ms := c__law_clause) T.F__law_clause sc__law_clause rfl fun cdv A outer s H E hr =>
    (b_cons (st_set (i := 3) sc__law_clause.nd (s_mod (s_intc (o_d (s_var 0)) T.z_int) (s_add (s_var 1) s_int)))
    (b_cons (st_set (i := 0) sc__law_clause.nd (s_div (s_var 0) (s_add (s_var 1) s_int)))
    (b_cons (st_set (i := 4) sc__law_clause.nd (s_alloc (l_lst sa_nil)))
    (b_cons (st_for PassesOwn.never rfl (i_rng1 (s_var 3) T.z_range) (g_name 5 sc__law_clause.nd) (b_cons (st_set (i := 6) sc__law_clause.nd (s_call IH.ok__law_literal hr T.g__law_literal T.F__law_literal.kp T.b__law_literal (sa_cons (s_var 0) (sa_cons (s_var 2) sa_nil))))
    (b_cons (st_expr (s_app (s_var 4) (s_ix (s_var 6) s_int)))
    (b_cons (st_set (i := 0) sc__law_clause.nd (s_ix (s_var 6) s_int))
    (b_one (st_if (t_eq (hu2 hr) (o_d (s_mod (s_div (s_var 0) s_int) s_int)) (o_d s_int)) (b_one (st_expr (s_app (s_var 4) (s_ix (s_var 4) (s_mod (s_intc (o_d (s_var 0)) T.z_int) (s_len (o_d (s_var 4)) T.z_len)))))) b_nil))))))
    (b_one (st_ret (s_tupc (o_d (s_var 4)) T.z_tuple)))))))
theorem ok__law_word (T : Txt K mg) {k : Nat} (IH : All P w base T k) : FnOk P w K mg base CX0 (k + 1) T.f__law_word T.fd__law_word P__law_word (spG ⟨K, mg, base⟩ (run prog (k + 1) 14012)) :=
  fn_ok (nm := 14012) (ms := c__law_word) T.F__law_word sc__law_word rfl fun cdv A outer s H E hr =>
    (b_cons (st_set (i := 2) sc__law_word.nd s_str)
    (b_cons (st_set (i := 3) sc__law_word.nd s_str)
    (b_cons (st_set (i := 4) sc__law_word.nd (s_add s_int (s_mod (s_intc (o_d (s_var 0)) T.z_int) s_int)))
    (b_cons (st_if (t_eq (hu2 hr) (o_d (s_mod (s_div (s_var 0) s_int) s_int)) (o_d s_int)) (b_one (st_set (i := 4) sc__law_word.nd s_int)) b_nil)
    (b_cons (st_set (i := 0) sc__law_word.nd (s_div (s_var 0) s_int))
    (b_cons (st_for PassesOwn.never rfl (i_rng1 (s_var 4) T.z_range) (g_name 5 sc__law_word.nd) (b_cons (st_set (i := 3) sc__law_word.nd (s_add (s_var 3) (s_ix (s_var 2) (s_mod (s_intc (o_d (s_var 0)) T.z_int) s_int))))
    (b_one (st_set (i := 0) sc__law_word.nd (s_add (s_div (s_var 0) s_int) (s_var 5))))))
    (b_cons (st_set (i := 6) sc__law_word.nd (s_mod (s_intc (o_d (s_var 0)) T.z_int) (s_add (s_len (o_d (s_var 3)) T.z_len) s_int)))
    (b_one (st_ret (s_add (s_add (s_o (o_sl (s_var 3) i_none (i_some (s_var 6)))) (s_var 1)) (s_o (o_sl (s_var 3) (i_some (s_var 6)) i_none))))))))))))
theorem ok__law_table (T : Txt K mg) {k : Nat} (IH : All P w base T k) : FnOk P w K mg base CX0 (k + 1) T.f__law_table T.fd__law_table P__law_table (spG ⟨K, mg, base⟩ (run prog (k + 1) 14013)) :=
  fn_ok (nm := 14013) (ms := c__law_table) T.F__law_table sc__law_table rfl fun cdv A outer s H E hr =>
    (b_cons (st_set (i := 1) sc__law_table.nd (s_alloc (l_lst (sa_cons s_str (sa_cons s_str (sa_cons s_str sa_nil))))))
    (b_cons (st_set (i := 2) sc__law_table.nd (s_alloc (l_lst sa_nil)))
    (b_cons (st_for PassesOwn.never rfl (i_rng1 s_int T.z_range) (g_name 3 sc__law_table.nd) (b_cons (st_set (i := 4) sc__law_table.nd (s_call IH.ok__law_word hr T.g__law_word T.F__law_word.kp T.b__law_word (sa_cons (s_var 0) (sa_cons (s_ix (s_var 1) (s_mod (s_intc (o_d (s_var 3)) T.z_int) s_int)) sa_nil))))
    (b_cons (st_if (t_in (hu2 hr) (o_d (s_var 4)) (o_n (l_lst (sa_cons s_str (sa_cons s_str (sa_cons s_str (sa_cons s_str (sa_cons s_str (sa_cons s_str (sa_cons s_str sa_nil)))))))))) (b_one (st_set (i := 4) sc__law_table.nd (s_add (s_var 4) s_str))) b_nil)
    (b_cons (st_while PassesOwn.never (t_in (hu2 hr) (o_d (s_tup (sa_cons (s_gt (s_var 3) s_int) (sa_cons (s_var 4) sa_nil)))) (o_d (s_var 2))) (b_one (st_set (i := 4) sc__law_table.nd (s_add (s_var 4) (s_ix (s_var 1) (s_mod (s_intc (o_d (s_var 3)) T.z_int) s_int))))))
    (b_cons (st_expr (s_app (s_var 2) (s_tup (sa_cons (s_gt (s_var 3) s_int) (sa_cons (s_var 4) sa_nil)))))
    (b_one (st_set (i := 0) sc__law_table.nd (s_add (s_div (s_var 0) s_int) (s_mul s_int (s_var 3))))))))))
    (b_one (st_ret (s_var 2))))))
theorem ok__law_is_variable (T : Txt K mg) {k : Nat} (IH : All P w base T k) : FnOk P w K mg base CX0 (k + 1) T.f__law_is_variable T.fd__law_is_variable P__law_is_variable (spG ⟨K, mg, base⟩ (run prog (k + 1) 14)) :=
  fn_ok (nm := 14) (ms := c__law_is_variable) T.F__law_is_variable sc__law_is_variable rfl fun cdv A outer s H E hr =>
    (b_one (st_ret (s_isi "int" (o_d (s_var 0)) T.z_isinstance T.z_int)))
theorem ok__law_tabled (T : Txt K mg) {k : Nat} (IH : All P w base T k) : FnOk P w K mg base CX0 (k + 1) T.f__law_tabled T.fd__law_tabled P__law_tabled (spG ⟨K, mg, base⟩ (run prog (k + 1) 8015)) :=
  fn_ok (nm := 8015) (ms := c__law_tabled) T.F__law_tabled sc__law_tabled rfl fun cdv A outer s H E hr =>
    (b_cons (st_set (i := 1) sc__law_tabled.nd (s_ix (s_var 0) s_int))
    (b_cons (st_if (t_w (w_and (t_not (t_val (s_call IH.ok__law_is_variable hr T.g__law_is_variable T.F__law_is_variable.kp T.b__law_is_variable (sa_cons (s_var 1) sa_nil)))) (w_and1 (t_eq (hu2 hr) (o_d (s_ix (s_ix (s_var 1) s_int) s_int)) (o_d s_int))))) (b_one (st_set (i := 1) sc__law_tabled.nd (s_tup (sa_cons (s_tup (sa_cons s_int (sa_cons (s_add (s_ix (s_ix (s_var 1) s_int) s_int) s_int) (sa_cons s_int sa_nil)))) (sa_cons (s_ix (s_var 1) s_int) sa_nil))))) b_nil)
    (b_one (st_ret (s_tup (sa_cons (s_ix (s_var 0) s_int) (sa_cons (s_var 1) (sa_cons (s_ix (s_var 0) s_int) sa_nil))))))))
theorem ok__law_is_individual (T : Txt K mg) {k : Nat} (IH : All P w base T k) : FnOk P w K mg base CX0 (k + 1) T.f__law_is_individual T.fd__law_is_individual P__law_is_individual (spG ⟨K, mg, base⟩ (run prog (k + 1) 23)) :=
  fn_ok (nm := 23) (ms := c__law_is_individual) T.F__law_is_individual sc__law_is_individual rfl fun cdv A outer s H E hr =>
    (b_cons (st_if (t_val (s_call IH.ok__law_is_variable hr T.g__law_is_variable T.F__law_is_variable.kp T.b__law_is_variable (sa_cons (s_var 0) sa_nil))) (b_one (st_ret s_bl)) b_nil)
    (b_cons (st_if (t_w (w_and (t_ne (hu2 hr) (o_d (s_ix (s_ix (s_var 0) s_int) s_int)) (o_d s_int)) (w_and1 (t_ne (hu2 hr) (o_d (s_ix (s_ix (s_var 0) s_int) s_int)) (o_d s_int))))) (b_one (st_ret s_bl)) b_nil)
    (b_one (st_ret (s_all rfl (o_n (l_comp (own := [("_law_part", 1)]) rfl sc__law_is_individual.nd (i_seq (o_d (s_ix (s_var 0) s_int))) (blkOk_by (own := [("_law_part", 1)]) (N := N__law_is_individual) (sc := defScope s__law_is_individual) (by decide +kernel)) (by decide) (fun _ _ _ _ _ => (g_name 1 sc__law_is_individual.nd)) (fun _ _ _ _ _ => ts_nil) (fun _ _ _ _ _ => (s_call IH.ok__law_is_individual hr T.g__law_is_individual T.F__law_is_individual.kp T.b__law_is_individual (sa_cons (s_var 1) sa_nil))))) T.z_all)))))
theorem ok__law_is_atomic (T : Txt K mg) {k : Nat} (IH : All P w base T k) : FnOk P w K mg base CX0 (k + 1) T.f__law_is_atomic T.fd__law_is_atomic P__law_is_atomic (spG ⟨K, mg, base⟩ (run prog (k + 1) 24)) :=
  fn_ok (nm := 24) (ms := c__law_is_atomic) T.F__law_is_atomic sc__law_is_atomic rfl fun cdv A outer s H E hr =>
    (b_cons (st_if (t_w (w_or (t_val (s_call IH.ok__law_is_variable hr T.g__law_is_variable T.F__law_is_variable.kp T.b__law_is_variable (sa_cons (s_var 0) sa_nil))) (w_or (t_eq (hu2 hr) (o_d (s_ix (s_ix (s_var 0) s_int) s_int)) (o_d s_int)) (w_or1 (t_eq (hu2 hr) (o_d (s_ix (s_ix (s_var 0) s_int) s_int)) (o_d s_int)))))) (b_one (st_ret s_bl)) b_nil)
    (b_one (st_ret (s_all rfl (o_n (l_comp (own := [("_law_part", 1)]) rfl sc__law_is_atomic.nd (i_seq (o_d (s_ix (s_var 0) s_int))) (blkOk_by (own := [("_law_part", 1)]) (N := N__law_is_atomic) (sc := defScope s__law_is_atomic) (by decide +kernel)) (by decide) (fun _ _ _ _ _ => (g_name 1 sc__law_is_atomic.nd)) (fun _ _ _ _ _ => ts_nil) (fun _ _ _ _ _ => (s_call IH.ok__law_is_individual hr T.g__law_is_individual T.F__law_is_individual.kp T.b__law_is_individual (sa_cons (s_var 1) sa_nil))))) T.z_all))))
theorem ok__law_well_formed (T : Txt K mg) {k : Nat} (IH : All P w base T k) : FnOk P w K mg base CX0 (k + 1) T.f__law_well_formed T.fd__law_well_formed P__law_well_formed (spG ⟨K, mg, base⟩ (run prog (k + 1) 10002)) :=
  fn_ok (nm := 10002) (ms := c__law_well_formed) T.F__law_well_formed sc__law_well_formed rfl fun cdv A outer s H E hr =>
    (b_cons (st_set (i := 1) sc__law_well_formed.nd (s_alloc (l_lst sa_nil)))
    (b_cons (st_for PassesOwn.never rfl (i_seq (o_d (s_var 0))) (g_name 2 sc__law_well_formed.nd) (b_cons (st_set (i := 3) sc__law_well_formed.nd (s_call IH.ok__law_tabled hr T.g__law_tabled T.F__law_tabled.kp T.b__law_tabled (sa_cons (s_var 2) sa_nil)))
    (b_one (st_if (t_w (w_and (t_val (s_call IH.ok__law_is_individual hr T.g__law_is_individual T.F__law_is_individual.kp T.b__law_is_individual (sa_cons (s_ix (s_var 3) s_int) sa_nil))) (w_and1 (t_val (s_call IH.ok__law_is_individual hr T.g__law_is_individual T.F__law_is_individual.kp T.b__law_is_individual (sa_cons (s_ix (s_var 3) s_int) sa_nil)))))) (b_one (st_expr (s_app (s_var 1) (s_var 3)))) (b_one (st_if (t_w (w_and (t_val (s_call IH.ok__law_is_atomic hr T.g__law_is_atomic T.F__law_is_atomic.kp T.b__law_is_atomic (sa_cons (s_ix (s_var 3) s_int) sa_nil))) (w_and1 (t_eq (hu2 hr) (o_d (s_ix (s_var 3) s_int)) (o_d (s_tup (sa_cons (s_tup (sa_cons s_int (sa_cons s_int (sa_cons s_int sa_nil)))) (sa_cons (s_tup sa_nil) sa_nil)))))))) (b_one (st_expr (s_app (s_var 1) (s_var 3)))) b_nil))))))
    (b_one (st_ret (s_tupc (o_d (s_var 1)) T.z_tuple)))))
theorem ok__law_symbol_text (T : Txt K mg) {k : Nat} (IH : All P w base T k) : FnOk P w K mg base CX0 (k + 1) T.f__law_symbol_text T.fd__law_symbol_text P__law_symbol_text (spG ⟨K, mg, base⟩ (run prog (k + 1) 14014)) :=
  fn_ok (nm := 14014) (ms := c__law_symbol_text) T.F__law_symbol_text sc__law_symbol_text rfl fun cdv A outer s H E hr =>
    (b_cons (st_set (i := 2) sc__law_symbol_text.nd (s_alloc (l_lst (sa_cons s_str (sa_cons s_str (sa_cons s_str (sa_cons s_str (sa_cons s_str (sa_cons s_str sa_nil)))))))))
    (b_cons (st_if (t_eq (hu2 hr) (o_d (s_ix (s_var 0) s_int)) (o_d s_int)) (b_one (st_ret s_str)) b_nil)
    (b_cons (st_if (t_w (w_or (t_eq (hu2 hr) (o_d (s_ix (s_var 0) s_int)) (o_d s_int)) (w_or1 (t_eq (hu2 hr) (o_d (s_ix (s_var 0) s_int)) (o_d s_int))))) (b_one (st_ret (s_ix (s_ix (s_var 1) (s_ix (s_var 0) s_int)) s_int))) b_nil)
    (b_cons (st_if (t_eq (hu2 hr) (o_d (s_ix (s_var 0) s_int)) (o_d s_int)) (b_one (st_ret (s_add s_str (s_strc (o_d (s_ix (s_var 0) s_int)) T.z_str)))) b_nil)
    (b_one (st_ret (s_add (s_add (s_add (s_ix (s_var 2) (s_ix (s_var 0) s_int)) (s_strc (o_d (s_ix (s_var 0) s_int)) T.z_str)) s_str) (s_strc (o_d (s_ix (s_var 0) s_int)) T.z_str))))))))
theorem ok__law_text (T : Txt K mg) {k : Nat} (IH : All P w base T k) : FnOk P w K mg base CX0 (k + 1) T.f__law_text T.fd__law_text P__law_text (spG ⟨K, mg, base⟩ (run prog (k + 1) 14015)) :=
  fn_ok (nm := 14015) (ms := c__law_text) T.F__law_text sc__law_text rfl fun cdv A outer s H E hr =>
    (b_cons (st_if (t_val (s_call IH.ok__law_is_variable hr T.g__law_is_variable T.F__law_is_variable.kp T.b__law_is_variable (sa_cons (s_var 0) sa_nil))) (b_one (st_ret (s_add s_str (s_strc (o_d (s_var 0)) T.z_str)))) b_nil)
    (b_cons (st_set (i := 2) sc__law_text.nd (s_call IH.ok__law_symbol_text hr T.g__law_symbol_text T.F__law_symbol_text.kp T.b__law_symbol_text (sa_cons (s_ix (s_var 0) s_int) (sa_cons (s_var 1) sa_nil))))
    (b_cons (st_if (t_val (s_ix (s_var 0) s_int)) (b_one (st_set (i := 2) sc__law_text.nd (s_add (s_add (s_add (s_var 2) s_str) (s_join s_str (o_n (l_comp (own := [("_law_part", 3)]) rfl sc__law_text.nd (i_seq (o_d (s_ix (s_var 0) s_int))) (blkOk_by (own := [("_law_part", 3)]) (N := N__law_text) (sc := defScope s__law_text) (by decide +kernel)) (by decide) (fun _ _ _ _ _ => (g_name 3 sc__law_text.nd)) (fun _ _ _ _ _ => ts_nil) (fun _ _ _ _ _ => (s_call IH.ok__law_text hr T.g__law_text T.F__law_text.kp T.b__law_text (sa_cons (s_var 3) (sa_cons (s_var 1) sa_nil)))))))) s_str))) b_nil)
    (b_one (st_ret (s_var 2))))))
theorem ok__law_literal_text (T : Txt K mg) {k : Nat} (IH : All P w base T k) : FnOk P w K mg base CX0 (k + 1) T.f__law_literal_text T.fd__law_literal_text P__law_literal_text (spG ⟨K, mg, base⟩ (run prog (k + 1) 14016)) :=
  fn_ok (nm := 14016) (ms := c__law_literal_text) T.F__law_literal_text sc__law_literal_text rfl fun cdv A outer s H E hr =>
    (b_cons (st_set (i := 2) sc__law_literal_text.nd (s_call IH.ok__law_text hr T.g__law_text T.F__law_text.kp T.b__law_text (sa_cons (s_ix (s_var 0) s_int) (sa_cons (s_var 1) sa_nil))))
    (b_cons (st_if (t_w (w_and (t_val (s_call IH.ok__law_is_atomic hr T.g__law_is_atomic T.F__law_is_atomic.kp T.b__law_is_atomic (sa_cons (s_ix (s_var 0) s_int) sa_nil))) (w_and1 (t_eq (hu2 hr) (o_d (s_ix (s_var 0) s_int)) (o_d (s_tup (sa_cons (s_tup (sa_cons s_int (sa_cons s_int (sa_cons s_int sa_nil)))) (sa_cons (s_tup sa_nil) sa_nil)))))))) (b_one (st_ret (s_if (t_val (s_ix (s_var 0) s_int)) (s_var 2) (s_add s_str (s_var 2))))) b_nil)
    (b_one (st_ret (s_add (s_add (s_var 2) (s_if (t_val (s_ix (s_var 0) s_int)) s_str s_str)) (s_call IH.ok__law_text hr T.g__law_text T.F__law_text.kp T.b__law_text (sa_cons (s_ix (s_var 0) s_int) (sa_cons (s_var 1) sa_nil))))))))
theorem ok__law_scaled (T : Txt K mg) {k : Nat} (IH : All P w base T k) : FnOk P w K mg base CX0 (k + 1) T.f__law_scaled T.fd__law_scaled P__law_scaled (spG ⟨K, mg, base⟩ (run prog (k + 1) 90003)) :=
  fn_ok (nm := 90003) (ms := m__law_scaled) T.F__law_scaled sc__law_scaled rfl fun cdv A outer s H E hr =>
    (b_cons (st_if (t_val (s_call IH.ok__law_is_variable hr T.g__law_is_variable T.F__law_is_variable.kp T.b__law_is_variable (sa_cons (s_var 0) sa_nil))) (b_one (st_ret (s_add (s_mul (s_var 0) (s_var 1)) (s_var 0)))) b_nil)
    (b_cons (st_set (i := 2) sc__law_scaled.nd (s_ix (s_var 0) s_int))
    (b_cons (st_if (t_gt (s_ix (s_var 2) s_int) s_int) (b_one (st_set (i := 2) sc__law_scaled.nd (s_tup (sa_cons (s_ix (s_var 2) s_int) (sa_cons (s_mul (s_ix (s_var 2) s_int) (s_var 1)) (sa_cons (s_ix (s_var 2) s_int) sa_nil)))))) b_nil)
    (b_one (st_ret (s_tup (sa_cons (s_var 2) (sa_cons (s_tupc (o_n (l_comp (own := [("_law_part", 3)]) rfl sc__law_scaled.nd (i_seq (o_d (s_ix (s_var 0) s_int))) (blkOk_by (own := [("_law_part", 3)]) (N := N__law_scaled) (sc := defScope s__law_scaled) (by decide +kernel)) (by decide) (fun _ _ _ _ _ => (g_name 3 sc__law_scaled.nd)) (fun _ _ _ _ _ => ts_nil) (fun _ _ _ _ _ => (s_call IH.ok__law_scaled hr T.g__law_scaled T.F__law_scaled.kp T.b__law_scaled (sa_cons (s_var 3) (sa_cons (s_var 1) sa_nil)))))) T.z_tuple) sa_nil))))))))
theorem ok__law_scaled_clause (T : Txt K mg) {k : Nat} (IH : All P w base T k) : FnOk P w K mg base CX0 (k + 1) T.f__law_scaled_clause T.fd__law_scaled_clause P__law_scaled_clause (spG ⟨K, mg, base⟩ (run prog (k + 1) 90004)) :=
  fn_ok (nm := 90004) (ms := m__law_scaled_clause) T.F__law_scaled_clause sc__law_scaled_clause rfl fun cdv A outer s H E hr =>
    (b_one (st_ret (s_tupc (o_n (l_comp (own := [("_law_one", 2)]) rfl sc__law_scaled_clause.nd (i_seq (o_d (s_var 0))) (blkOk_by (own := [("_law_one", 2)]) (N := N__law_scaled_clause) (sc := defScope s__law_scaled_clause) (by decide +kernel)) (by decide) (fun _ _ _ _ _ => (g_name 2 sc__law_scaled_clause.nd)) (fun _ _ _ _ _ => ts_nil) (fun _ _ _ _ _ => (s_tup (sa_cons (s_ix (s_var 2) s_int) (sa_cons (s_call IH.ok__law_scaled hr T.g__law_scaled T.F__law_scaled.kp T.b__law_scaled (sa_cons (s_ix (s_var 2) s_int) (sa_cons (s_var 1) sa_nil))) (sa_cons (s_call IH.ok__law_scaled hr T.g__law_scaled T.F__law_scaled.kp T.b__law_scaled (sa_cons (s_ix (s_var 2) s_int) (sa_cons (s_var 1) sa_nil))) sa_nil))))))) T.z_tuple)))
theorem ok_law (T : Txt K mg) {k : Nat} (IH : All P w base T k) : FnOk P w K mg base CX0 (k + 1) T.f_law T.fd_law P_law (spG ⟨K, mg, base⟩ (run prog (k + 1) 90005)) :=
  fn_ok (nm := 90005) (ms := m_law) T.F_law sc_law rfl fun cdv A outer s H E hr =>
    (b_cons (st_set (i := 1) sc_law.nd (s_call IH.ok__law_table hr T.g__law_table T.F__law_table.kp T.b__law_table (sa_cons (s_call IH.ok__law_cell hr T.g__law_cell T.F__law_cell.kp T.b__law_cell (sa_cons (s_var 0) (sa_cons s_int sa_nil))) sa_nil)))
    (b_cons (st_set (i := 2) sc_law.nd (s_call IH.ok__law_well_formed hr T.g__law_well_formed T.F__law_well_formed.kp T.b__law_well_formed (sa_cons (s_call IH.ok__law_clause hr T.g__law_clause T.F__law_clause.kp T.b__law_clause (sa_cons (s_call IH.ok__law_cell hr T.g__law_cell T.F__law_cell.kp T.b__law_cell (sa_cons (s_var 0) (sa_cons s_int sa_nil))) (sa_cons s_int (sa_cons s_int sa_nil)))) sa_nil)))
    (b_cons (st_if (t_eq (hu2 hr) (o_d (s_mod (s_call IH.ok__law_cell hr T.g__law_cell T.F__law_cell.kp T.b__law_cell (sa_cons (s_var 0) (sa_cons s_int sa_nil))) s_int)) (o_d s_int)) (b_one (st_set (i := 2) sc_law.nd (s_call IH.ok__law_scaled_clause hr T.g__law_scaled_clause T.F__law_scaled_clause.kp T.b__law_scaled_clause (sa_cons (s_var 2) (sa_cons (s_mod (s_call IH.ok__law_cell hr T.g__law_cell T.F__law_cell.kp T.b__law_cell (sa_cons (s_var 0) (sa_cons s_int sa_nil))) (s_pow s_int s_int)) sa_nil))))) b_nil)
    (b_cons (st_set (i := 3) sc_law.nd s_str)
    (b_cons (st_if (t_val (s_var 2)) (b_one (st_set (i := 3) sc_law.nd (s_join s_str (o_n (l_comp (own := [("_law_one", 9)]) rfl sc_law.nd (i_seq (o_d (s_var 2))) (blkOk_by (own := [("_law_one", 9)]) (N := N_law) (sc := defScope s_law) (by decide +kernel)) (by decide) (fun _ _ _ _ _ => (g_name 9 sc_law.nd)) (fun _ _ _ _ _ => ts_nil) (fun _ _ _ _ _ => (s_call IH.ok__law_literal_text hr T.g__law_literal_text T.F__law_literal_text.kp T.b__law_literal_text (sa_cons (s_var 9) (sa_cons (s_var 1) sa_nil))))))))) b_nil)
    (b_cons (st_set (i := 4) sc_law.nd (s_alloc (l_lisc (o_d (s_var 1)) T.z_list)))
    (b_cons (st_set (i := 5) sc_law.nd (s_call IH.ok_read_clause hr T.g_read_clause T.F_read_clause.kp T.b_read_clause (sa_cons (s_var 3) (sa_cons (s_var 1) sa_nil))))
    (b_cons (st_if (t_w (w_or (t_not (t_val (s_isi "tuple" (o_d (s_var 5)) T.z_isinstance T.z_tuple))) (w_or (t_ne (hu2 hr) (o_d (s_var 5)) (o_d (s_var 2))) (w_or1 (t_ne (hu2 hr) (o_d (s_var 1)) (o_d (s_var 4))))))) (b_one (st_ret s_bl)) b_nil)
    (b_cons (st_for PassesOwn.never rfl (i_seq (o_d (s_var 2))) (g_name 6 sc_law.nd) (b_one (st_for PassesOwn.never rfl (i_seq (o_n (l_lst (sa_cons (s_ix (s_var 6) s_int) (sa_cons (s_ix (s_var 6) s_int) sa_nil))))) (g_name 7 sc_law.nd) (b_cons (st_set (i := 8) sc_law.nd (s_call IH.ok__law_text hr T.g__law_text T.F__law_text.kp T.b__law_text (sa_cons (s_var 7) (sa_cons (s_var 1) sa_nil))))
    (b_one (st_if (t_val (s_call IH.ok__law_is_individual hr T.g__law_is_individual T.F__law_is_individual.kp T.b__law_is_individual (sa_cons (s_var 7) sa_nil))) (b_one (st_if (t_w (w_or (t_ne (hu2 hr) (o_d (s_call IH.ok_read_term hr T.g_read_term T.F_read_term.kp T.b_read_term (sa_cons (s_var 8) (sa_cons (s_var 1) sa_nil)))) (o_d (s_var 7))) (w_or1 (t_ne (hu2 hr) (o_d (s_call IH.ok_read_atom_or_term hr T.g_read_atom_or_term T.F_read_atom_or_term.kp T.b_read_atom_or_term (sa_cons (s_var 8) (sa_cons (s_var 1) sa_nil)))) (o_d (s_var 7)))))) (b_one (st_ret s_bl)) b_nil)) (b_one (st_if (t_nin (hu2 hr) (o_d (s_tup (sa_cons s_bl (sa_cons (s_call IH.ok__law_symbol_text hr T.g__law_symbol_text T.F__law_symbol_text.kp T.b__law_symbol_text (sa_cons (s_ix (s_var 7) s_int) (sa_cons (s_var 1) sa_nil))) sa_nil)))) (o_d (s_var 1))) (b_one (st_if (t_ne (hu2 hr) (o_d (s_call IH.ok_read_atom_or_term hr T.g_read_atom_or_term T.F_read_atom_or_term.kp T.b_read_atom_or_term (sa_cons (s_var 8) (sa_cons (s_var 1) sa_nil)))) (o_d (s_var 7))) (b_one (st_ret s_bl)) b_nil)) b_nil))))))))
    (b_one (st_ret s_bl)))))))))))
theorem all_ok (T : Txt K mg) : ∀ k, All P w base T k
  | 0 => ⟨fn_zero, fn_zero, fn_zero, fn_zero, fn_zero, fn_zero, fn_zero, fn_zero, fn_zero, fn_zero, fn_zero, fn_zero, fn_zero, fn_zero, fn_zero, fn_zero, fn_zero, fn_zero, fn_zero, fn_zero, fn_zero, fn_zero, fn_zero, fn_zero, fn_zero, fn_zero, fn_zero, fn_zero, fn_zero, fn_zero, fn_zero, fn_zero, fn_zero, fn_zero, fn_zero, fn_zero, fn_zero⟩
  | k + 1 => have IH := all_ok T k
    ⟨ok_predicate T IH, ok_function T IH, ok_skolem T IH, ok_part_name T IH, ok_answer T IH, ok_read_number T IH, ok_read_pair T IH, ok_named_symbol T IH, ok_read_symbol T IH, ok_word_end T IH, ok_read_arguments T IH, ok_read_part T IH, ok_read_whole T IH, ok_read_term T IH, ok_read_atom_or_term T IH, ok_read_equation T IH, ok_read_literal T IH, ok_read_clause T IH, ok__law_cell T IH, ok__law_symbol T IH, ok__law_term T IH, ok__law_atom T IH, ok__law_literal T IH, ok__law_clause T IH, ok__law_word T IH, ok__law_table T IH, ok__law_is_variable T IH, ok__law_tabled T IH, ok__law_is_individual T IH, ok__law_is_atomic T IH, ok__law_well_formed T IH, ok__law_symbol_text T IH, ok__law_text T IH, ok__law_literal_text T IH, ok__law_scaled T IH, ok__law_scaled_clause T IH, ok_law T IH⟩
end
theorem all_mk {l : PySem.W.OpenLaw} {w : World} {K : PySem.W.Frag} {h : Heap} {mg : Str → Option Value} {fa : Addr} (X : K.In h) (G : h.Ns mainGlobals mg) (hfa : mg "law" = some (.ref fa))
    {f0 : Addr} {od0 an0 : Option Addr} {sl0 : Array (Option Value)} {oc0 kV0 dc0 pm0 cd0 ct0 : Value}
    (a0 : PySem.W.nsIn K mainGlobals "predicate" = some (some (.ref f0))) (l0 : K.lookup f0 = some ⟨oc0, od0, .func (PySem.W.fnOf "predicate" "predicate" (defArgs s_predicate) (defBody s_predicate) (defScope s_predicate) .none kV0 dc0 pm0 an0 cd0 ct0), sl0⟩) (c0 : PySem.W.codeIn K cd0 "predicate" = true) (k0 : PySem.W.keepIn K (.ref f0) = true)
    {f1 : Addr} {od1 an1 : Option Addr} {sl1 : Array (Option Value)} {oc1 kV1 dc1 pm1 cd1 ct1 : Value}
    (a1 : PySem.W.nsIn K mainGlobals "function" = some (some (.ref f1))) (l1 : K.lookup f1 = some ⟨oc1, od1, .func (PySem.W.fnOf "function" "function" (defArgs s_function) (defBody s_function) (defScope s_function) .none kV1 dc1 pm1 an1 cd1 ct1), sl1⟩) (c1 : PySem.W.codeIn K cd1 "function" = true) (k1 : PySem.W.keepIn K (.ref f1) = true)
    {f2 : Addr} {od2 an2 : Option Addr} {sl2 : Array (Option Value)} {oc2 kV2 dc2 pm2 cd2 ct2 : Value}
    (a2 : PySem.W.nsIn K mainGlobals "skolem" = some (some (.ref f2))) (l2 : K.lookup f2 = some ⟨oc2, od2, .func (PySem.W.fnOf "skolem" "skolem" (defArgs s_skolem) (defBody s_skolem) (defScope s_skolem) .none kV2 dc2 pm2 an2 cd2 ct2), sl2⟩) (c2 : PySem.W.codeIn K cd2 "skolem" = true) (k2 : PySem.W.keepIn K (.ref f2) = true)
    {f3 : Addr} {od3 an3 : Option Addr} {sl3 : Array (Option Value)} {oc3 kV3 dc3 pm3 cd3 ct3 : Value}
    (a3 : PySem.W.nsIn K mainGlobals "part_name" = some (some (.ref f3))) (l3 : K.lookup f3 = some ⟨oc3, od3, .func (PySem.W.fnOf "part_name" "part_name" (defArgs s_part_name) (defBody s_part_name) (defScope s_part_name) .none kV3 dc3 pm3 an3 cd3 ct3), sl3⟩) (c3 : PySem.W.codeIn K cd3 "part_name" = true) (k3 : PySem.W.keepIn K (.ref f3) = true)
    {f4 : Addr} {od4 an4 : Option Addr} {sl4 : Array (Option Value)} {oc4 kV4 dc4 pm4 cd4 ct4 : Value}
    (a4 : PySem.W.nsIn K mainGlobals "answer" = some (some (.ref f4))) (l4 : K.lookup f4 = some ⟨oc4, od4, .func (PySem.W.fnOf "answer" "answer" (defArgs s_answer) (defBody s_answer) (defScope s_answer) .none kV4 dc4 pm4 an4 cd4 ct4), sl4⟩) (c4 : PySem.W.codeIn K cd4 "answer" = true) (k4 : PySem.W.keepIn K (.ref f4) = true)
    {f5 : Addr} {od5 an5 : Option Addr} {sl5 : Array (Option Value)} {oc5 kV5 dc5 pm5 cd5 ct5 : Value}
    (a5 : PySem.W.nsIn K mainGlobals "read_number" = some (some (.ref f5))) (l5 : K.lookup f5 = some ⟨oc5, od5, .func (PySem.W.fnOf "read_number" "read_number" (defArgs s_read_number) (defBody s_read_number) (defScope s_read_number) .none kV5 dc5 pm5 an5 cd5 ct5), sl5⟩) (c5 : PySem.W.codeIn K cd5 "read_number" = true) (k5 : PySem.W.keepIn K (.ref f5) = true)
    {f6 : Addr} {od6 an6 : Option Addr} {sl6 : Array (Option Value)} {oc6 kV6 dc6 pm6 cd6 ct6 : Value}
    (a6 : PySem.W.nsIn K mainGlobals "read_pair" = some (some (.ref f6))) (l6 : K.lookup f6 = some ⟨oc6, od6, .func (PySem.W.fnOf "read_pair" "read_pair" (defArgs s_read_pair) (defBody s_read_pair) (defScope s_read_pair) .none kV6 dc6 pm6 an6 cd6 ct6), sl6⟩) (c6 : PySem.W.codeIn K cd6 "read_pair" = true) (k6 : PySem.W.keepIn K (.ref f6) = true)
    {f7 : Addr} {od7 an7 : Option Addr} {sl7 : Array (Option Value)} {oc7 kV7 dc7 pm7 cd7 ct7 : Value}
    (a7 : PySem.W.nsIn K mainGlobals "named_symbol" = some (some (.ref f7))) (l7 : K.lookup f7 = some ⟨oc7, od7, .func (PySem.W.fnOf "named_symbol" "named_symbol" (defArgs s_named_symbol) (defBody s_named_symbol) (defScope s_named_symbol) .none kV7 dc7 pm7 an7 cd7 ct7), sl7⟩) (c7 : PySem.W.codeIn K cd7 "named_symbol" = true) (k7 : PySem.W.keepIn K (.ref f7) = true)
    {f8 : Addr} {od8 an8 : Option Addr} {sl8 : Array (Option Value)} {oc8 kV8 dc8 pm8 cd8 ct8 : Value}
    (a8 : PySem.W.nsIn K mainGlobals "read_symbol" = some (some (.ref f8))) (l8 : K.lookup f8 = some ⟨oc8, od8, .func (PySem.W.fnOf "read_symbol" "read_symbol" (defArgs s_read_symbol) (defBody s_read_symbol) (defScope s_read_symbol) .none kV8 dc8 pm8 an8 cd8 ct8), sl8⟩) (c8 : PySem.W.codeIn K cd8 "read_symbol" = true) (k8 : PySem.W.keepIn K (.ref f8) = true)
    {f9 : Addr} {od9 an9 : Option Addr} {sl9 : Array (Option Value)} {oc9 kV9 dc9 pm9 cd9 ct9 : Value}
    (a9 : PySem.W.nsIn K mainGlobals "word_end" = some (some (.ref f9))) (l9 : K.lookup f9 = some ⟨oc9, od9, .func (PySem.W.fnOf "word_end" "word_end" (defArgs s_word_end) (defBody s_word_end) (defScope s_word_end) .none kV9 dc9 pm9 an9 cd9 ct9), sl9⟩) (c9 : PySem.W.codeIn K cd9 "word_end" = true) (k9 : PySem.W.keepIn K (.ref f9) = true)
    {f10 : Addr} {od10 an10 : Option Addr} {sl10 : Array (Option Value)} {oc10 kV10 dc10 pm10 cd10 ct10 : Value}
    (a10 : PySem.W.nsIn K mainGlobals "read_arguments" = some (some (.ref f10))) (l10 : K.lookup f10 = some ⟨oc10, od10, .func (PySem.W.fnOf "read_arguments" "read_arguments" (defArgs s_read_arguments) (defBody s_read_arguments) (defScope s_read_arguments) .none kV10 dc10 pm10 an10 cd10 ct10), sl10⟩) (c10 : PySem.W.codeIn K cd10 "read_arguments" = true) (k10 : PySem.W.keepIn K (.ref f10) = true)
    {f11 : Addr} {od11 an11 : Option Addr} {sl11 : Array (Option Value)} {oc11 kV11 dc11 pm11 cd11 ct11 : Value}
    (a11 : PySem.W.nsIn K mainGlobals "read_part" = some (some (.ref f11))) (l11 : K.lookup f11 = some ⟨oc11, od11, .func (PySem.W.fnOf "read_part" "read_part" (defArgs s_read_part) (defBody s_read_part) (defScope s_read_part) .none kV11 dc11 pm11 an11 cd11 ct11), sl11⟩) (c11 : PySem.W.codeIn K cd11 "read_part" = true) (k11 : PySem.W.keepIn K (.ref f11) = true)
    {f12 : Addr} {od12 an12 : Option Addr} {sl12 : Array (Option Value)} {oc12 kV12 dc12 pm12 cd12 ct12 : Value}
    (a12 : PySem.W.nsIn K mainGlobals "read_whole" = some (some (.ref f12))) (l12 : K.lookup f12 = some ⟨oc12, od12, .func (PySem.W.fnOf "read_whole" "read_whole" (defArgs s_read_whole) (defBody s_read_whole) (defScope s_read_whole) .none kV12 dc12 pm12 an12 cd12 ct12), sl12⟩) (c12 : PySem.W.codeIn K cd12 "read_whole" = true) (k12 : PySem.W.keepIn K (.ref f12) = true)
    {f13 : Addr} {od13 an13 : Option Addr} {sl13 : Array (Option Value)} {oc13 kV13 dc13 pm13 cd13 ct13 : Value}
    (a13 : PySem.W.nsIn K mainGlobals "read_term" = some (some (.ref f13))) (l13 : K.lookup f13 = some ⟨oc13, od13, .func (PySem.W.fnOf "read_term" "read_term" (defArgs s_read_term) (defBody s_read_term) (defScope s_read_term) .none kV13 dc13 pm13 an13 cd13 ct13), sl13⟩) (c13 : PySem.W.codeIn K cd13 "read_term" = true) (k13 : PySem.W.keepIn K (.ref f13) = true)
    {f14 : Addr} {od14 an14 : Option Addr} {sl14 : Array (Option Value)} {oc14 kV14 dc14 pm14 cd14 ct14 : Value}
    (a14 : PySem.W.nsIn K mainGlobals "read_atom_or_term" = some (some (.ref f14))) (l14 : K.lookup f14 = some ⟨oc14, od14, .func (PySem.W.fnOf "read_atom_or_term" "read_atom_or_term" (defArgs s_read_atom_or_term) (defBody s_read_atom_or_term) (defScope s_read_atom_or_term) .none kV14 dc14 pm14 an14 cd14 ct14), sl14⟩) (c14 : PySem.W.codeIn K cd14 "read_atom_or_term" = true) (k14 : PySem.W.keepIn K (.ref f14) = true)
    {f15 : Addr} {od15 an15 : Option Addr} {sl15 : Array (Option Value)} {oc15 kV15 dc15 pm15 cd15 ct15 : Value}
    (a15 : PySem.W.nsIn K mainGlobals "read_equation" = some (some (.ref f15))) (l15 : K.lookup f15 = some ⟨oc15, od15, .func (PySem.W.fnOf "read_equation" "read_equation" (defArgs s_read_equation) (defBody s_read_equation) (defScope s_read_equation) .none kV15 dc15 pm15 an15 cd15 ct15), sl15⟩) (c15 : PySem.W.codeIn K cd15 "read_equation" = true) (k15 : PySem.W.keepIn K (.ref f15) = true)
    {f16 : Addr} {od16 an16 : Option Addr} {sl16 : Array (Option Value)} {oc16 kV16 dc16 pm16 cd16 ct16 : Value}
    (a16 : PySem.W.nsIn K mainGlobals "read_literal" = some (some (.ref f16))) (l16 : K.lookup f16 = some ⟨oc16, od16, .func (PySem.W.fnOf "read_literal" "read_literal" (defArgs s_read_literal) (defBody s_read_literal) (defScope s_read_literal) .none kV16 dc16 pm16 an16 cd16 ct16), sl16⟩) (c16 : PySem.W.codeIn K cd16 "read_literal" = true) (k16 : PySem.W.keepIn K (.ref f16) = true)
    {f17 : Addr} {od17 an17 : Option Addr} {sl17 : Array (Option Value)} {oc17 kV17 dc17 pm17 cd17 ct17 : Value}
    (a17 : PySem.W.nsIn K mainGlobals "read_clause" = some (some (.ref f17))) (l17 : K.lookup f17 = some ⟨oc17, od17, .func (PySem.W.fnOf "read_clause" "read_clause" (defArgs s_read_clause) (defBody s_read_clause) (defScope s_read_clause) .none kV17 dc17 pm17 an17 cd17 ct17), sl17⟩) (c17 : PySem.W.codeIn K cd17 "read_clause" = true) (k17 : PySem.W.keepIn K (.ref f17) = true)
    {f18 : Addr} {od18 an18 : Option Addr} {sl18 : Array (Option Value)} {oc18 kV18 dc18 pm18 cd18 ct18 : Value}
    (a18 : PySem.W.nsIn K mainGlobals "_law_cell" = some (some (.ref f18))) (l18 : K.lookup f18 = some ⟨oc18, od18, .func (PySem.W.fnOf "_law_cell" "_law_cell" (defArgs s__law_cell) (defBody s__law_cell) (defScope s__law_cell) .none kV18 dc18 pm18 an18 cd18 ct18), sl18⟩) (c18 : PySem.W.codeIn K cd18 "_law_cell" = true) (k18 : PySem.W.keepIn K (.ref f18) = true)
    {f19 : Addr} {od19 an19 : Option Addr} {sl19 : Array (Option Value)} {oc19 kV19 dc19 pm19 cd19 ct19 : Value}
    (a19 : PySem.W.nsIn K mainGlobals "_law_symbol" = some (some (.ref f19))) (l19 : K.lookup f19 = some ⟨oc19, od19, .func (PySem.W.fnOf "_law_symbol" "_law_symbol" (defArgs s__law_symbol) (defBody s__law_symbol) (defScope s__law_symbol) .none kV19 dc19 pm19 an19 cd19 ct19), sl19⟩) (c19 : PySem.W.codeIn K cd19 "_law_symbol" = true) (k19 : PySem.W.keepIn K (.ref f19) = true)
    {f20 : Addr} {od20 an20 : Option Addr} {sl20 : Array (Option Value)} {oc20 kV20 dc20 pm20 cd20 ct20 : Value}
    (a20 : PySem.W.nsIn K mainGlobals "_law_term" = some (some (.ref f20))) (l20 : K.lookup f20 = some ⟨oc20, od20, .func (PySem.W.fnOf "_law_term" "_law_term" (defArgs s__law_term) (defBody s__law_term) (defScope s__law_term) .none kV20 dc20 pm20 an20 cd20 ct20), sl20⟩) (c20 : PySem.W.codeIn K cd20 "_law_term" = true) (k20 : PySem.W.keepIn K (.ref f20) = true)
    {f21 : Addr} {od21 an21 : Option Addr} {sl21 : Array (Option Value)} {oc21 kV21 dc21 pm21 cd21 ct21 : Value}
    (a21 : PySem.W.nsIn K mainGlobals "_law_atom" = some (some (.ref f21))) (l21 : K.lookup f21 = some ⟨oc21, od21, .func (PySem.W.fnOf "_law_atom" "_law_atom" (defArgs s__law_atom) (defBody s__law_atom) (defScope s__law_atom) .none kV21 dc21 pm21 an21 cd21 ct21), sl21⟩) (c21 : PySem.W.codeIn K cd21 "_law_atom" = true) (k21 : PySem.W.keepIn K (.ref f21) = true)
    {f22 : Addr} {od22 an22 : Option Addr} {sl22 : Array (Option Value)} {oc22 kV22 dc22 pm22 cd22 ct22 : Value}
    (a22 : PySem.W.nsIn K mainGlobals "_law_literal" = some (some (.ref f22))) (l22 : K.lookup f22 = some ⟨oc22, od22, .func (PySem.W.fnOf "_law_literal" "_law_literal" (defArgs s__law_literal) (defBody s__law_literal) (defScope s__law_literal) .none kV22 dc22 pm22 an22 cd22 ct22), sl22⟩) (c22 : PySem.W.codeIn K cd22 "_law_literal" = true) (k22 : PySem.W.keepIn K (.ref f22) = true)
    {f23 : Addr} {od23 an23 : Option Addr} {sl23 : Array (Option Value)} {oc23 kV23 dc23 pm23 cd23 ct23 : Value}
    (a23 : PySem.W.nsIn K mainGlobals "_law_clause" = some (some (.ref f23))) (l23 : K.lookup f23 = some ⟨oc23, od23, .func (PySem.W.fnOf "_law_clause" "_law_clause" (defArgs s__law_clause) (defBody s__law_clause) (defScope s__law_clause) .none kV23 dc23 pm23 an23 cd23 ct23), sl23⟩) (c23 : PySem.W.codeIn K cd23 "_law_clause" = true) (k23 : PySem.W.keepIn K (.ref f23) = true)
    {f24 : Addr} {od24 an24 : Option Addr} {sl24 : Array (Option Value)} {oc24 kV24 dc24 pm24 cd24 ct24 : Value}
    (a24 : PySem.W.nsIn K mainGlobals "_law_word" = some (some (.ref f24))) (l24 : K.lookup f24 = some ⟨oc24, od24, .func (PySem.W.fnOf "_law_word" "_law_word" (defArgs s__law_word) (defBody s__law_word) (defScope s__law_word) .none kV24 dc24 pm24 an24 cd24 ct24), sl24⟩) (c24 : PySem.W.codeIn K cd24 "_law_word" = true) (k24 : PySem.W.keepIn K (.ref f24) = true)
    {f25 : Addr} {od25 an25 : Option Addr} {sl25 : Array (Option Value)} {oc25 kV25 dc25 pm25 cd25 ct25 : Value}
    (a25 : PySem.W.nsIn K mainGlobals "_law_table" = some (some (.ref f25))) (l25 : K.lookup f25 = some ⟨oc25, od25, .func (PySem.W.fnOf "_law_table" "_law_table" (defArgs s__law_table) (defBody s__law_table) (defScope s__law_table) .none kV25 dc25 pm25 an25 cd25 ct25), sl25⟩) (c25 : PySem.W.codeIn K cd25 "_law_table" = true) (k25 : PySem.W.keepIn K (.ref f25) = true)
    {f26 : Addr} {od26 an26 : Option Addr} {sl26 : Array (Option Value)} {oc26 kV26 dc26 pm26 cd26 ct26 : Value}
    (a26 : PySem.W.nsIn K mainGlobals "_law_is_variable" = some (some (.ref f26))) (l26 : K.lookup f26 = some ⟨oc26, od26, .func (PySem.W.fnOf "_law_is_variable" "_law_is_variable" (defArgs s__law_is_variable) (defBody s__law_is_variable) (defScope s__law_is_variable) .none kV26 dc26 pm26 an26 cd26 ct26), sl26⟩) (c26 : PySem.W.codeIn K cd26 "_law_is_variable" = true) (k26 : PySem.W.keepIn K (.ref f26) = true)
    {f27 : Addr} {od27 an27 : Option Addr} {sl27 : Array (Option Value)} {oc27 kV27 dc27 pm27 cd27 ct27 : Value}
    (a27 : PySem.W.nsIn K mainGlobals "_law_tabled" = some (some (.ref f27))) (l27 : K.lookup f27 = some ⟨oc27, od27, .func (PySem.W.fnOf "_law_tabled" "_law_tabled" (defArgs s__law_tabled) (defBody s__law_tabled) (defScope s__law_tabled) .none kV27 dc27 pm27 an27 cd27 ct27), sl27⟩) (c27 : PySem.W.codeIn K cd27 "_law_tabled" = true) (k27 : PySem.W.keepIn K (.ref f27) = true)
    {f28 : Addr} {od28 an28 : Option Addr} {sl28 : Array (Option Value)} {oc28 kV28 dc28 pm28 cd28 ct28 : Value}
    (a28 : PySem.W.nsIn K mainGlobals "_law_is_individual" = some (some (.ref f28))) (l28 : K.lookup f28 = some ⟨oc28, od28, .func (PySem.W.fnOf "_law_is_individual" "_law_is_individual" (defArgs s__law_is_individual) (defBody s__law_is_individual) (defScope s__law_is_individual) .none kV28 dc28 pm28 an28 cd28 ct28), sl28⟩) (c28 : PySem.W.codeIn K cd28 "_law_is_individual" = true) (k28 : PySem.W.keepIn K (.ref f28) = true)
    {f29 : Addr} {od29 an29 : Option Addr} {sl29 : Array (Option Value)} {oc29 kV29 dc29 pm29 cd29 ct29 : Value}
    (a29 : PySem.W.nsIn K mainGlobals "_law_is_atomic" = some (some (.ref f29))) (l29 : K.lookup f29 = some ⟨oc29, od29, .func (PySem.W.fnOf "_law_is_atomic" "_law_is_atomic" (defArgs s__law_is_atomic) (defBody s__law_is_atomic) (defScope s__law_is_atomic) .none kV29 dc29 pm29 an29 cd29 ct29), sl29⟩) (c29 : PySem.W.codeIn K cd29 "_law_is_atomic" = true) (k29 : PySem.W.keepIn K (.ref f29) = true)
    {f30 : Addr} {od30 an30 : Option Addr} {sl30 : Array (Option Value)} {oc30 kV30 dc30 pm30 cd30 ct30 : Value}
    (a30 : PySem.W.nsIn K mainGlobals "_law_well_formed" = some (some (.ref f30))) (l30 : K.lookup f30 = some ⟨oc30, od30, .func (PySem.W.fnOf "_law_well_formed" "_law_well_formed" (defArgs s__law_well_formed) (defBody s__law_well_formed) (defScope s__law_well_formed) .none kV30 dc30 pm30 an30 cd30 ct30), sl30⟩) (c30 : PySem.W.codeIn K cd30 "_law_well_formed" = true) (k30 : PySem.W.keepIn K (.ref f30) = true)
    {f31 : Addr} {od31 an31 : Option Addr} {sl31 : Array (Option Value)} {oc31 kV31 dc31 pm31 cd31 ct31 : Value}
    (a31 : PySem.W.nsIn K mainGlobals "_law_symbol_text" = some (some (.ref f31))) (l31 : K.lookup f31 = some ⟨oc31, od31, .func (PySem.W.fnOf "_law_symbol_text" "_law_symbol_text" (defArgs s__law_symbol_text) (defBody s__law_symbol_text) (defScope s__law_symbol_text) .none kV31 dc31 pm31 an31 cd31 ct31), sl31⟩) (c31 : PySem.W.codeIn K cd31 "_law_symbol_text" = true) (k31 : PySem.W.keepIn K (.ref f31) = true)
    {f32 : Addr} {od32 an32 : Option Addr} {sl32 : Array (Option Value)} {oc32 kV32 dc32 pm32 cd32 ct32 : Value}
    (a32 : PySem.W.nsIn K mainGlobals "_law_text" = some (some (.ref f32))) (l32 : K.lookup f32 = some ⟨oc32, od32, .func (PySem.W.fnOf "_law_text" "_law_text" (defArgs s__law_text) (defBody s__law_text) (defScope s__law_text) .none kV32 dc32 pm32 an32 cd32 ct32), sl32⟩) (c32 : PySem.W.codeIn K cd32 "_law_text" = true) (k32 : PySem.W.keepIn K (.ref f32) = true)
    {f33 : Addr} {od33 an33 : Option Addr} {sl33 : Array (Option Value)} {oc33 kV33 dc33 pm33 cd33 ct33 : Value}
    (a33 : PySem.W.nsIn K mainGlobals "_law_literal_text" = some (some (.ref f33))) (l33 : K.lookup f33 = some ⟨oc33, od33, .func (PySem.W.fnOf "_law_literal_text" "_law_literal_text" (defArgs s__law_literal_text) (defBody s__law_literal_text) (defScope s__law_literal_text) .none kV33 dc33 pm33 an33 cd33 ct33), sl33⟩) (c33 : PySem.W.codeIn K cd33 "_law_literal_text" = true) (k33 : PySem.W.keepIn K (.ref f33) = true)
    {f34 : Addr} {od34 an34 : Option Addr} {sl34 : Array (Option Value)} {oc34 kV34 dc34 pm34 cd34 ct34 : Value}
    (a34 : PySem.W.nsIn K mainGlobals "_law_scaled" = some (some (.ref f34))) (l34 : K.lookup f34 = some ⟨oc34, od34, .func (PySem.W.fnOf "_law_scaled" "_law_scaled" (defArgs s__law_scaled) (defBody s__law_scaled) (defScope s__law_scaled) .none kV34 dc34 pm34 an34 cd34 ct34), sl34⟩) (c34 : PySem.W.codeIn K cd34 "_law_scaled" = true) (k34 : PySem.W.keepIn K (.ref f34) = true)
    {f35 : Addr} {od35 an35 : Option Addr} {sl35 : Array (Option Value)} {oc35 kV35 dc35 pm35 cd35 ct35 : Value}
    (a35 : PySem.W.nsIn K mainGlobals "_law_scaled_clause" = some (some (.ref f35))) (l35 : K.lookup f35 = some ⟨oc35, od35, .func (PySem.W.fnOf "_law_scaled_clause" "_law_scaled_clause" (defArgs s__law_scaled_clause) (defBody s__law_scaled_clause) (defScope s__law_scaled_clause) .none kV35 dc35 pm35 an35 cd35 ct35), sl35⟩) (c35 : PySem.W.codeIn K cd35 "_law_scaled_clause" = true) (k35 : PySem.W.keepIn K (.ref f35) = true)
    {f36 : Addr} {od36 an36 : Option Addr} {sl36 : Array (Option Value)} {oc36 kV36 dc36 pm36 cd36 ct36 : Value}
    (a36 : PySem.W.nsIn K mainGlobals "law" = some (some (.ref f36))) (l36 : K.lookup f36 = some ⟨oc36, od36, .func (PySem.W.fnOf "law" "law" (defArgs s_law) (defBody s_law) (defScope s_law) .none kV36 dc36 pm36 an36 cd36 ct36), sl36⟩) (c36 : PySem.W.codeIn K cd36 "law" = true) (k36 : PySem.W.keepIn K (.ref f36) = true)
    (z_len : PySem.W.nsIn K mainGlobals "len" = some none)
    (z_int : PySem.W.nsIn K mainGlobals "int" = some none)
    (z_enumerate : PySem.W.nsIn K mainGlobals "enumerate" = some none)
    {tTRUTH1_0 : Tok} {tTRUTH1_1 : Tok} {tTRUTH1_2 : Tok} {qTRUTH1 : Addr} {yTRUTH1 : Option Addr} {nTRUTH1 : Nat} {xTRUTH1 : Array (Option Value)} {qTRUTH2 : Addr} {yTRUTH2 : Option Addr} {nTRUTH2 : Nat} {xTRUTH2 : Array (Option Value)} {qTRUTH0 : Addr} {yTRUTH0 : Option Addr} {nTRUTH0 : Nat} {xTRUTH0 : Array (Option Value)} (gTRUTH : PySem.W.nsIn K mainGlobals "TRUTH" = some (some (.ref qTRUTH0))) (pTRUTH0 : K.lookup qTRUTH0 = some ⟨.type "tuple", yTRUTH0, .seq #[.ref qTRUTH1, .ref qTRUTH2] nTRUTH0, xTRUTH0⟩) (pTRUTH1 : K.lookup qTRUTH1 = some ⟨.type "tuple", yTRUTH1, .seq #[.int (0) tTRUTH1_0, .int (0) tTRUTH1_1, .int (0) tTRUTH1_2] nTRUTH1, xTRUTH1⟩) (pTRUTH2 : K.lookup qTRUTH2 = some ⟨.type "tuple", yTRUTH2, .seq #[] nTRUTH2, xTRUTH2⟩)
    (z_tuple : PySem.W.nsIn K mainGlobals "tuple" = some none)
    (z_range : PySem.W.nsIn K mainGlobals "range" = some none)
    (z_isinstance : PySem.W.nsIn K mainGlobals "isinstance" = some none)
    (z_all : PySem.W.nsIn K mainGlobals "all" = some none)
    (z_str : PySem.W.nsIn K mainGlobals "str" = some none)
    (z_list : PySem.W.nsIn K mainGlobals "list" = some none)
    : ∃ fd : FuncData, (∀ (s : Shared) (v : Value), BindsTo s fd ⟨[v], []⟩ [("_law_script", v)]) ∧ ∀ base : Heap, K.In base → base.Ns mainGlobals mg → FnOk l.prog w K mg base CX0 230 fa fd P_law (spLaw K (run prog 230 90005)) := by
  have e := hfa.symm.trans (PySem.W.mg_of X G a36)
  cases e
  have F0 := fun_mk (st := s_predicate) l0 c0 k0
  have F1 := fun_mk (st := s_function) l1 c1 k1
  have F2 := fun_mk (st := s_skolem) l2 c2 k2
  have F3 := fun_mk (st := s_part_name) l3 c3 k3
  have F4 := fun_mk (st := s_answer) l4 c4 k4
  have F5 := fun_mk (st := s_read_number) l5 c5 k5
  have F6 := fun_mk (st := s_read_pair) l6 c6 k6
  have F7 := fun_mk (st := s_named_symbol) l7 c7 k7
  have F8 := fun_mk (st := s_read_symbol) l8 c8 k8
  have F9 := fun_mk (st := s_word_end) l9 c9 k9
  have F10 := fun_mk (st := s_read_arguments) l10 c10 k10
  have F11 := fun_mk (st := s_read_part) l11 c11 k11
  have F12 := fun_mk (st := s_read_whole) l12 c12 k12
  have F13 := fun_mk (st := s_read_term) l13 c13 k13
  have F14 := fun_mk (st := s_read_atom_or_term) l14 c14 k14
  have F15 := fun_mk (st := s_read_equation) l15 c15 k15
  have F16 := fun_mk (st := s_read_literal) l16 c16 k16
  have F17 := fun_mk (st := s_read_clause) l17 c17 k17
  have F18 := fun_mk (st := s__law_cell) l18 c18 k18
  have F19 := fun_mk (st := s__law_symbol) l19 c19 k19
  have F20 := fun_mk (st := s__law_term) l20 c20 k20
  have F21 := fun_mk (st := s__law_atom) l21 c21 k21
  have F22 := fun_mk (st := s__law_literal) l22 c22 k22
  have F23 := fun_mk (st := s__law_clause) l23 c23 k23
  have F24 := fun_mk (st := s__law_word) l24 c24 k24
  have F25 := fun_mk (st := s__law_table) l25 c25 k25
  have F26 := fun_mk (st := s__law_is_variable) l26 c26 k26
  have F27 := fun_mk (st := s__law_tabled) l27 c27 k27
  have F28 := fun_mk (st := s__law_is_individual) l28 c28 k28
  have F29 := fun_mk (st := s__law_is_atomic) l29 c29 k29
  have F30 := fun_mk (st := s__law_well_formed) l30 c30 k30
  have F31 := fun_mk (st := s__law_symbol_text) l31 c31 k31
  have F32 := fun_mk (st := s__law_text) l32 c32 k32
  have F33 := fun_mk (st := s__law_literal_text) l33 c33 k33
  have F34 := fun_mk (st := s__law_scaled) l34 c34 k34
  have F35 := fun_mk (st := s__law_scaled_clause) l35 c35 k35
  have F36 := fun_mk (st := s_law) l36 c36 k36
  let T : Txt K mg := { f_predicate := _, fd_predicate := _, F_predicate := F0, g_predicate := PySem.W.mg_of X G a0, b_predicate := F0.binds (ps := P_predicate) (fun _ _ _ _ _ _ us hl => match us, hl with | [_], _ => rfl), f_function := _, fd_function := _, F_function := F1, g_function := PySem.W.mg_of X G a1, b_function := F1.binds (ps := P_function) (fun _ _ _ _ _ _ us hl => match us, hl with | [_], _ => rfl), f_skolem := _, fd_skolem := _, F_skolem := F2, g_skolem := PySem.W.mg_of X G a2, b_skolem := F2.binds (ps := P_skolem) (fun _ _ _ _ _ _ us hl => match us, hl with | [_, _], _ => rfl), f_part_name := _, fd_part_name := _, F_part_name := F3, g_part_name := PySem.W.mg_of X G a3, b_part_name := F3.binds (ps := P_part_name) (fun _ _ _ _ _ _ us hl => match us, hl with | [_, _], _ => rfl), f_answer := _, fd_answer := _, F_answer := F4, g_answer := PySem.W.mg_of X G a4, b_answer := F4.binds (ps := P_answer) (fun _ _ _ _ _ _ us hl => match us, hl with | [_], _ => rfl), f_read_number := _, fd_read_number := _, F_read_number := F5, g_read_number := PySem.W.mg_of X G a5, b_read_number := F5.binds (ps := P_read_number) (fun _ _ _ _ _ _ us hl => match us, hl with | [_], _ => rfl), f_read_pair := _, fd_read_pair := _, F_read_pair := F6, g_read_pair := PySem.W.mg_of X G a6, b_read_pair := F6.binds (ps := P_read_pair) (fun _ _ _ _ _ _ us hl => match us, hl with | [_], _ => rfl), f_named_symbol := _, fd_named_symbol := _, F_named_symbol := F7, g_named_symbol := PySem.W.mg_of X G a7, b_named_symbol := F7.binds (ps := P_named_symbol) (fun _ _ _ _ _ _ us hl => match us, hl with | [_, _, _], _ => rfl), f_read_symbol := _, fd_read_symbol := _, F_read_symbol := F8, g_read_symbol := PySem.W.mg_of X G a8, b_read_symbol := F8.binds (ps := P_read_symbol) (fun _ _ _ _ _ _ us hl => match us, hl with | [_, _, _], _ => rfl), f_word_end := _, fd_word_end := _, F_word_end := F9, g_word_end := PySem.W.mg_of X G a9, b_word_end := F9.binds (ps := P_word_end) (fun _ _ _ _ _ _ us hl => match us, hl with | [_, _], _ => rfl), f_read_arguments := _, fd_read_arguments := _, F_read_arguments := F10, g_read_arguments := PySem.W.mg_of X G a10, b_read_arguments := F10.binds (ps := P_read_arguments) (fun _ _ _ _ _ _ us hl => match us, hl with | [_, _, _], _ => rfl), f_read_part := _, fd_read_part := _, F_read_part := F11, g_read_part := PySem.W.mg_of X G a11, b_read_part := F11.binds (ps := P_read_part) (fun _ _ _ _ _ _ us hl => match us, hl with | [_, _, _, _], _ => rfl), f_read_whole := _, fd_read_whole := _, F_read_whole := F12, g_read_whole := PySem.W.mg_of X G a12, b_read_whole := F12.binds (ps := P_read_whole) (fun _ _ _ _ _ _ us hl => match us, hl with | [_, _, _], _ => rfl), f_read_term := _, fd_read_term := _, F_read_term := F13, g_read_term := PySem.W.mg_of X G a13, b_read_term := F13.binds (ps := P_read_term) (fun _ _ _ _ _ _ us hl => match us, hl with | [_, _], _ => rfl), f_read_atom_or_term := _, fd_read_atom_or_term := _, F_read_atom_or_term := F14, g_read_atom_or_term := PySem.W.mg_of X G a14, b_read_atom_or_term := F14.binds (ps := P_read_atom_or_term) (fun _ _ _ _ _ _ us hl => match us, hl with | [_, _], _ => rfl), f_read_equation := _, fd_read_equation := _, F_read_equation := F15, g_read_equation := PySem.W.mg_of X G a15, b_read_equation := F15.binds (ps := P_read_equation) (fun _ _ _ _ _ _ us hl => match us, hl with | [_, _, _], _ => rfl), f_read_literal := _, fd_read_literal := _, F_read_literal := F16, g_read_literal := PySem.W.mg_of X G a16, b_read_literal := F16.binds (ps := P_read_literal) (fun _ _ _ _ _ _ us hl => match us, hl with | [_, _], _ => rfl), f_read_clause := _, fd_read_clause := _, F_read_clause := F17, g_read_clause := PySem.W.mg_of X G a17, b_read_clause := F17.binds (ps := P_read_clause) (fun _ _ _ _ _ _ us hl => match us, hl with | [_, _], _ => rfl), f__law_cell := _, fd__law_cell := _, F__law_cell := F18, g__law_cell := PySem.W.mg_of X G a18, b__law_cell := F18.binds (ps := P__law_cell) (fun _ _ _ _ _ _ us hl => match us, hl with | [_, _], _ => rfl), f__law_symbol := _, fd__law_symbol := _, F__law_symbol := F19, g__law_symbol := PySem.W.mg_of X G a19, b__law_symbol := F19.binds (ps := P__law_symbol) (fun _ _ _ _ _ _ us hl => match us, hl with | [_], _ => rfl), f__law_term := _, fd__law_term := _, F__law_term := F20, g__law_term := PySem.W.mg_of X G a20, b__law_term := F20.binds (ps := P__law_term) (fun _ _ _ _ _ _ us hl => match us, hl with | [_, _], _ => rfl), f__law_atom := _, fd__law_atom := _, F__law_atom := F21, g__law_atom := PySem.W.mg_of X G a21, b__law_atom := F21.binds (ps := P__law_atom) (fun _ _ _ _ _ _ us hl => match us, hl with | [_, _], _ => rfl), f__law_literal := _, fd__law_literal := _, F__law_literal := F22, g__law_literal := PySem.W.mg_of X G a22, b__law_literal := F22.binds (ps := P__law_literal) (fun _ _ _ _ _ _ us hl => match us, hl with | [_, _], _ => rfl), f__law_clause := _, fd__law_clause := _, F__law_clause := F23, g__law_clause := PySem.W.mg_of X G a23, b__law_clause := F23.binds (ps := P__law_clause) (fun _ _ _ _ _ _ us hl => match us, hl with | [_, _, _], _ => rfl), f__law_word := _, fd__law_word := _, F__law_word := F24, g__law_word := PySem.W.mg_of X G a24, b__law_word := F24.binds (ps := P__law_word) (fun _ _ _ _ _ _ us hl => match us, hl with | [_, _], _ => rfl), f__law_table := _, fd__law_table := _, F__law_table := F25, g__law_table := PySem.W.mg_of X G a25, b__law_table := F25.binds (ps := P__law_table) (fun _ _ _ _ _ _ us hl => match us, hl with | [_], _ => rfl), f__law_is_variable := _, fd__law_is_variable := _, F__law_is_variable := F26, g__law_is_variable := PySem.W.mg_of X G a26, b__law_is_variable := F26.binds (ps := P__law_is_variable) (fun _ _ _ _ _ _ us hl => match us, hl with | [_], _ => rfl), f__law_tabled := _, fd__law_tabled := _, F__law_tabled := F27, g__law_tabled := PySem.W.mg_of X G a27, b__law_tabled := F27.binds (ps := P__law_tabled) (fun _ _ _ _ _ _ us hl => match us, hl with | [_], _ => rfl), f__law_is_individual := _, fd__law_is_individual := _, F__law_is_individual := F28, g__law_is_individual := PySem.W.mg_of X G a28, b__law_is_individual := F28.binds (ps := P__law_is_individual) (fun _ _ _ _ _ _ us hl => match us, hl with | [_], _ => rfl), f__law_is_atomic := _, fd__law_is_atomic := _, F__law_is_atomic := F29, g__law_is_atomic := PySem.W.mg_of X G a29, b__law_is_atomic := F29.binds (ps := P__law_is_atomic) (fun _ _ _ _ _ _ us hl => match us, hl with | [_], _ => rfl), f__law_well_formed := _, fd__law_well_formed := _, F__law_well_formed := F30, g__law_well_formed := PySem.W.mg_of X G a30, b__law_well_formed := F30.binds (ps := P__law_well_formed) (fun _ _ _ _ _ _ us hl => match us, hl with | [_], _ => rfl), f__law_symbol_text := _, fd__law_symbol_text := _, F__law_symbol_text := F31, g__law_symbol_text := PySem.W.mg_of X G a31, b__law_symbol_text := F31.binds (ps := P__law_symbol_text) (fun _ _ _ _ _ _ us hl => match us, hl with | [_, _], _ => rfl), f__law_text := _, fd__law_text := _, F__law_text := F32, g__law_text := PySem.W.mg_of X G a32, b__law_text := F32.binds (ps := P__law_text) (fun _ _ _ _ _ _ us hl => match us, hl with | [_, _], _ => rfl), f__law_literal_text := _, fd__law_literal_text := _, F__law_literal_text := F33, g__law_literal_text := PySem.W.mg_of X G a33, b__law_literal_text := F33.binds (ps := P__law_literal_text) (fun _ _ _ _ _ _ us hl => match us, hl with | [_, _], _ => rfl), f__law_scaled := _, fd__law_scaled := _, F__law_scaled := F34, g__law_scaled := PySem.W.mg_of X G a34, b__law_scaled := F34.binds (ps := P__law_scaled) (fun _ _ _ _ _ _ us hl => match us, hl with | [_, _], _ => rfl), f__law_scaled_clause := _, fd__law_scaled_clause := _, F__law_scaled_clause := F35, g__law_scaled_clause := PySem.W.mg_of X G a35, b__law_scaled_clause := F35.binds (ps := P__law_scaled_clause) (fun _ _ _ _ _ _ us hl => match us, hl with | [_, _], _ => rfl), f_law := _, fd_law := _, F_law := F36, g_law := PySem.W.mg_of X G a36, b_law := F36.binds (ps := P_law) (fun _ _ _ _ _ _ us hl => match us, hl with | [_], _ => rfl), z_len := PySem.W.mg_none_of X G z_len, z_int := PySem.W.mg_none_of X G z_int, z_enumerate := PySem.W.mg_none_of X G z_enumerate, v_TRUTH := .ref qTRUTH0, u_TRUTH := .ref qTRUTH0, g_TRUTH := PySem.W.mg_of X G gTRUTH, r_TRUTH := rfl, d_TRUTH := fun _ ρ H => RD.ktup (vs := [.ref qTRUTH1, .ref qTRUTH2]) (.inr ⟨_, _, _, pTRUTH0, rfl, rfl, (by show 2 ≤ sizeLine; decide), .cons rfl (.cons rfl .nil)⟩) (.cons (RD.ktup (vs := [.int (0), .int (0), .int (0)]) (.inr ⟨_, _, _, pTRUTH1, rfl, rfl, (by show 3 ≤ sizeLine; decide), .cons ⟨_, rfl⟩ (.cons ⟨_, rfl⟩ (.cons ⟨_, rfl⟩ .nil))⟩) (.cons (.int _) (.cons (.int _) (.cons (.int _) (.nil))))) (.cons (RD.ktup (vs := []) (.inr ⟨_, _, _, pTRUTH2, rfl, rfl, (by show 0 ≤ sizeLine; decide), .nil⟩) (.nil)) (.nil))), z_tuple := PySem.W.mg_none_of X G z_tuple, z_range := PySem.W.mg_none_of X G z_range, z_isinstance := PySem.W.mg_none_of X G z_isinstance, z_all := PySem.W.mg_none_of X G z_all, z_str := PySem.W.mg_none_of X G z_str, z_list := PySem.W.mg_none_of X G z_list }
  exact ⟨T.fd_law, fun s v => .of_eq rfl, fun base _ _ => (all_ok T 230).ok_law.imp law_imp⟩
end Lk21
set_option maxRecDepth 100000
set_option maxHeartbeats 1000000
namespace Zi
open PySem L2
local macro_rules | `(tactic| walk_at "dec") => `(tactic| first | decide | omega | assumption)
local macro_rules | `(tactic| walk_at "g1") => `(tactic| first
  | ((with_reducible apply wp_var); (focus (exact rfl)))
  | with_reducible refine wp_c ?_
  | with_reducible refine wp_op ?_
  | with_reducible refine wp_oD ?_
  | with_reducible refine wp_cons ?_
  | with_reducible refine wp_nil ?_
  | ((with_reducible refine nxt_nx ?_); (try dsimp only [List.set_cons_zero, List.set_cons_succ]))
  | with_reducible refine wp_seq ?_
  | with_reducible refine wp_set ?_
  | with_reducible refine wp_ret ?_
  | with_reducible refine nxt_rt ?_
  | with_reducible refine wp_call ?_
  | with_reducible refine wp_opO ?_
  | with_reducible refine wp_bool ?_
  | with_reducible refine isB_bl ?_
  | with_reducible refine wp_ifS ?_
  | with_reducible refine way_t ?_
  | with_reducible refine way_f ?_
  | with_reducible refine way_not ?_
  | ((with_reducible apply wf_ixT); (focus (first | exact atI_0 | exact atI_1 | exact atI_2 | exact atI_3 | exact atI_4 | exact atI_5 | exact atI_6 | exact atI_7 | exact atI_8 | exact atI_9 | assumption)))
  | with_reducible refine wp_fn1 ?_
  | with_reducible refine wf_int ?_
  | with_reducible refine wf_add ?_
  | with_reducible refine wf_sub ?_
  | ((with_reducible refine wf_mod ?_ ?_); (focus (exact modC_r (by walk_at "dec"))))
  | ((with_reducible refine wf_div ?_ ?_); (focus (exact divC_r (by walk_at "dec"))))
  | ((with_reducible refine wf_mul ?_ ?_); (focus (exact mulC_r (by walk_at "dec"))))
  | ((with_reducible refine wf_mul ?_ ?_); (focus (exact mulC_l (by walk_at "dec"))))
  | with_reducible refine wf_eqI ?_
  | with_reducible refine wf_neI ?_
  | ((with_reducible refine wf_pow ?_ ?_); (focus (decide)))
  | with_reducible refine wf_lt ?_
  | with_reducible refine wf_le ?_
  | with_reducible refine wf_gt ?_
  | with_reducible refine wf_ge ?_
  | with_reducible refine wf_eqB ?_
  | with_reducible refine wf_neB ?_
  | with_reducible refine wp_tup ?_
  | ((with_reducible refine shrt_of ?_ ?_); (focus (exact Nat.le_of_ble_eq_true (by exact rfl))))
  | with_reducible refine wp_tru ?_
  | with_reducible refine tru_bl ?_
  | with_reducible refine tru_int ?_
  | with_reducible refine tru_non ?_
  | with_reducible refine tru_tup ?_
  | ((with_reducible apply tru_lst); (focus (first | assumption | exact last_get)))
  | with_reducible refine wp_notT ?_
  | with_reducible refine wp_andT ?_
  | with_reducible refine wp_orT ?_
  | with_reducible refine wp_and ?_
  | with_reducible refine wp_or ?_
  | with_reducible refine wp_not ?_
  | with_reducible refine wp_if ?_
  | with_reducible refine wp_skip ?_
  | with_reducible refine wp_drop ?_
  | with_reducible refine wp_break ?_
  | with_reducible refine wp_cont ?_
  | with_reducible refine nxt_bk ?_
  | with_reducible refine nxt_ct ?_
  | with_reducible refine wp_alloc ?_
  | with_reducible refine wp_lst ?_
  | with_reducible refine wp_oN ?_
  | with_reducible refine wp_oS ?_
  | with_reducible refine valO_d ?_
  | with_reducible refine valO_n ?_
  | with_reducible refine wp_setL ?_
  | with_reducible refine wf_lenT ?_
  | with_reducible refine wf_lenN ?_
  | with_reducible refine wf_lenS ?_
  | ((with_reducible apply wf_lenL); (focus (first | assumption | exact last_get)))
  | with_reducible refine wf_tupcT ?_
  | with_reducible refine wf_tupcN ?_
  | ((with_reducible apply wf_tupcL); (focus (first | assumption | exact last_get)))
  | with_reducible refine wp_for ?_
  | with_reducible refine wp_src ?_
  | with_reducible refine src_tupK ?_
  | with_reducible refine src_nK ?_
  | with_reducible refine src_slK ?_
  | ((with_reducible apply src_lstK); (focus (first | assumption | exact last_get)))
  | with_reducible refine wp_asg ?_
  | with_reducible refine wl_n ?_
  | ((with_reducible refine wl_tup ?_ ?_); (focus (exact rfl)))
  | with_reducible refine wl_cons ?_
  | with_reducible refine wl_nil ?_
  | ((with_reducible apply wp_aug); (focus (exact rfl)))
  | with_reducible refine wf_iadd ?_
  | with_reducible refine wp_isN ?_
  | with_reducible refine wp_notN ?_
  | with_reducible refine wp_isI ?_
  | ((with_reducible apply isI_t); (focus (exact rfl)); (focus (decide)))
  | ((with_reducible apply isI_f); (focus (exact rfl)); (focus (decide)))
  | with_reducible refine loopK_nx ?_
  | with_reducible refine loopK_ct ?_
  | with_reducible refine loopK_bk ?_
  | with_reducible refine loopK_rt ?_
  | with_reducible refine wp_enum ?_
  | with_reducible refine wp_lisc ?_
  | with_reducible refine wp_comp ?_
  | with_reducible refine wp_neg ?_
  | with_reducible refine wp_dnewK ?_
  | with_reducible refine wp_dnewT ?_
  | with_reducible refine wp_get2 ?_
  | with_reducible refine wp_get1 ?_
  | with_reducible refine wp_setD ?_
  | with_reducible refine wp_app ?_
  | with_reducible refine wp_rev ?_
  | with_reducible refine wp_dcopy ?_
  | with_reducible exact ⟨rfl, rfl⟩)
local macro_rules | `(tactic| walk_at "g2") => `(tactic| first
  | walk_at "g1"
  | with_reducible refine wf_ixA0 ?_
  | with_reducible refine wf_ixA1 ?_
  | with_reducible refine wf_ixS0 ?_
  | with_reducible refine wf_ixS1 ?_
  | with_reducible refine wf_ixS2 ?_
  | with_reducible refine wf_ixL0 ?_
  | with_reducible refine wf_ixL1 ?_
  | with_reducible refine wf_ixL2 ?_
  | ((with_reducible refine wf_eqT ?_ ?_ ?_); (focus (walk_at "dec")); (focus (walk_at "dec")))
  | ((with_reducible refine wf_neT ?_ ?_ ?_); (focus (walk_at "dec")); (focus (walk_at "dec")))
  | ((with_reducible refine wf_eqLs ?_ ?_ ?_); (focus (assumption)); (focus (assumption)))
  | ((with_reducible refine wf_neLs ?_ ?_ ?_); (focus (assumption)); (focus (assumption)))
  | ((with_reducible refine wf_eqL ?_ ?_ ?_ ?_ ?_); (focus (walk_at "dec")); (focus (walk_at "dec")); (focus (walk_at "dec")); (focus (walk_at "dec")))
  | ((with_reducible refine wf_neL ?_ ?_ ?_ ?_ ?_); (focus (walk_at "dec")); (focus (walk_at "dec")); (focus (walk_at "dec")); (focus (walk_at "dec")))
  | with_reducible refine way_eq lseq_self ?_
  | with_reducible refine way_eq leq_self ?_
  | with_reducible refine way_eq (teq_self _) ?_
  | with_reducible refine isI_vi ?_
  | with_reducible refine isI_vb ?_
  | with_reducible refine isI_vt ?_
  | ((with_reducible refine wp_eq (r_isvar ?_ _) ?_); (focus (assumption)))
  | ((with_reducible refine wp_eq (r_lisvar ?_ _) ?_); (focus (assumption)))
  | ((with_reducible refine wp_eq (r_lint ?_ _) ?_); (focus (assumption)))
  | ((with_reducible refine wp_eq (run_cell ?_ _ _ ?_ _) ?_); (focus (exact rfl)); (focus (walk_at "dec"))))
local macro_rules | `(tactic| walk_at "go2") => `(tactic| repeat' (walk_at "g2"))
local macro_rules | `(tactic| walk_at "go") => `(tactic| repeat' (walk_at "g1"))
local macro_rules | `(tactic| walk_at "g3") => `(tactic| first
  | with_reducible refine wp_andP ?_
  | with_reducible refine wp_orP ?_
  | with_reducible refine wp_andB ?_
  | with_reducible refine wp_orB ?_
  | with_reducible refine ⟨rfl, rfl, ?_⟩
  | walk_at "g2")
local macro_rules | `(tactic| walk_at "go3") => `(tactic| repeat' (walk_at "g3"))
section
open PySem L2
section
variable {l : Lo} {S : Sto} {Q : D → Sto → Prop} {QA : List D → Sto → Prop} {QT : Bool → Sto → Prop} {QS : Fl → Sto → Prop} {QI : Src → Sto → Prop} {a b c : M} {ma : MA} {sa sb : MS} {oa ob : MO}
theorem wp_findI {α : Type} {ok : Sto → Prop} {tg : MG} {body : MS} {ds : List D} (e : α → D) (xs : List α) (I : Lo → Prop) (p : α → Bool) (g : α → D) (hd : ds = xs.map e) (hl : I l) (hok : ok S)
    (hs : ∀ l x, x ∈ xs → I l → wl (tg (e x) l S) fun l1 => wp (body l1 S) fun f S' => S' = S ∧ if p x = true then f = .rt (g x) else ∃ l2, (f = .nx l2 ∨ f = .ct l2) ∧ I l2)
    (hq : match xs.find? p with | some x => QS (.rt (g x)) S | none => ∀ l, I l → QS (.nx l) S) : wp (forL ok tg body ds l S) QS := by
  subst hd
  induction xs generalizing l with
  | nil => exact ⟨_, _, forL_nil hok, hq l hl⟩
  | cons x xs ih =>
    obtain ⟨l1, e1, f, S1, e2, rfl, hf⟩ := hs l x (by simp) hl
    cases hp : p x with
    | true =>
      rw [if_pos hp] at hf
      subst hf
      rw [List.find?_cons, hp] at hq
      exact ⟨_, _, forL_rt hok e1 e2, hq⟩
    | false =>
      rw [if_neg (by simp [hp])] at hf
      rw [List.find?_cons, hp] at hq
      obtain ⟨l2, hf, hI⟩ := hf
      obtain ⟨f', S', e3, q'⟩ := ih hI (fun l y hy => hs l y (List.mem_cons_of_mem _ hy)) hq
      rcases hf with rfl | rfl
      · exact ⟨f', S', (forL_nx hok e1 e2).trans e3, q'⟩
      · exact ⟨f', S', (forL_ct hok e1 e2).trans e3, q'⟩
def stS (x : Str) : Bool := PyData.canLay0 (.str x)
theorem eqv_str (x y : Str) : PyData.eqv (.str x) (.str y) = decide (x = y) := by
  simp only [PyData.eqv]
  exact Bool.eq_iff_iff.mpr (by simp)
theorem snap_str {n : Nat} {x : Str} (h : stS x = true) : snap (n + 1) S (.str x) = some (.str x) := by
  show (if PyData.canLay0 (.str x) = true then some (PyData.str x) else none) = _
  rw [if_pos (show PyData.canLay0 (.str x) = true from h)]
end
inductive Pu : Nat → D → Prop
  | non {n : Nat} : Pu (n + 1) .non
  | bl {n : Nat} (b : Bool) : Pu (n + 1) (.bl b)
  | int {n : Nat} (i : Int) : Pu (n + 1) (.int i)
  | str {n : Nat} {x : Str} (h : stS x = true) : Pu (n + 1) (.str x)
  | tup {n : Nat} {xs : List D} (h : ∀ x ∈ xs, Pu n x) : Pu (n + 1) (.tup xs)
theorem Pu.mono {n m : Nat} {d : D} (h : Pu n d) (hm : n ≤ m) : Pu m d := by
  induction h generalizing m with
  | non => obtain ⟨m, rfl⟩ : ∃ j, m = j + 1 := ⟨m - 1, by omega⟩; exact .non
  | bl b => obtain ⟨m, rfl⟩ : ∃ j, m = j + 1 := ⟨m - 1, by omega⟩; exact .bl b
  | int i => obtain ⟨m, rfl⟩ : ∃ j, m = j + 1 := ⟨m - 1, by omega⟩; exact .int i
  | str h => obtain ⟨m, rfl⟩ : ∃ j, m = j + 1 := ⟨m - 1, by omega⟩; exact .str h
  | tup h ih => obtain ⟨m, rfl⟩ : ∃ j, m = j + 1 := ⟨m - 1, by omega⟩; exact .tup fun x hx => ih x hx (by omega)
theorem refLtL_all {n : Nat} : ∀ (xs : List D), (∀ x ∈ xs, refLt n x = true) → refLtL n xs = true
  | [], _ => refLtL_nil
  | x :: xs, h => by rw [refLtL_cons, h x (by simp), refLtL_all xs fun y hy => h y (List.mem_cons_of_mem _ hy)]; rfl
theorem Pu.lt {m n : Nat} {d : D} (h : Pu n d) : refLt m d = true := by
  induction h with
  | non => exact refLt_non
  | bl b => exact refLt_bl b
  | int i => exact refLt_int i
  | str h => exact refLt_str _
  | tup h ih => rw [refLt_tup]; exact refLtL_all _ ih
theorem Pu.nil {n : Nat} : ∀ x ∈ ([] : List D), Pu n x := fun _ h => by cases h
theorem Pu.cons {n : Nat} {d : D} {ds : List D} (h : Pu n d) (hs : ∀ x ∈ ds, Pu n x) : ∀ x ∈ d :: ds, Pu n x := fun x hx => by
  rcases List.mem_cons.mp hx with rfl | hx
  · exact h
  · exact hs x hx
/-- at r stands a state of digits -/
def DSt (r : Nat) (S : Sto) : Prop := ∃ (rr : Nat) (a c : Int) (rows : List Int), rr ≠ r ∧ S[r]? = some (.lst [.int a, .ref rr, .int c]) ∧ S[rr]? = some (.lst (rows.map D.int)) ∧ 0 < rows.length ∧ (∀ x ∈ rows, 0 ≤ x) ∧ 0 ≤ a ∧ 0 ≤ c
/-- only the state at r was changed, and it still is one -/
def DTo (r : Nat) (S S' : Sto) : Prop := DSt r S' ∧ ∃ c, S' = S.set r c
theorem DTo.trans {r : Nat} {S S1 S2 : Sto} (h : DTo r S S1) (h' : DTo r S1 S2) : DTo r S S2 := ⟨h'.1, by
  obtain ⟨_, c, rfl⟩ := h
  obtain ⟨_, c', rfl⟩ := h'
  exact ⟨c', by rw [List.set_set]⟩⟩
theorem DTo.len {r : Nat} {S S1 : Sto} (h : DTo r S S1) : S1.length = S.length := by
  obtain ⟨_, c, rfl⟩ := h
  simp
theorem DSt.app {r : Nat} {S T : Sto} (h : DSt r S) : DSt r (S ++ T) := by
  obtain ⟨rr, a, c, rows, h0, h1, h2, h3⟩ := h
  exact ⟨rr, a, c, rows, h0, old_get h1, old_get h2, h3⟩
theorem DSt.lt {r : Nat} {S : Sto} (h : DSt r S) : r < S.length := by
  obtain ⟨rr, a, c, rows, h0, h1, h2, h3⟩ := h
  exact (List.getElem?_eq_some_iff.mp h1).1
theorem DTo.get {r j : Nat} {S S' : Sto} (h : DTo r S S') (hj : j ≠ r) : S'[j]? = S[j]? := by
  obtain ⟨_, c, rfl⟩ := h
  rw [List.getElem?_set_ne (fun z => hj z.symm)]
theorem DTo.app {r : Nat} {S T S' : Sto} (h : DTo r (S ++ T) S') (hr : DSt r S) : ∃ S1, S' = S1 ++ T ∧ S1.length = S.length ∧ ∃ c, S1 = S.set r c := by
  obtain ⟨_, c, rfl⟩ := h
  have hl := hr.lt
  exact ⟨S.set r c, by rw [List.set_append_left _ _ hl], by simp, c, rfl⟩
end
section
open PySem L2
abbrev sq (x : String) : Str := Str.ofString x
abbrev iS (i : Int) : Str := toString i
theorem iS_len {i : Int} (h : 0 ≤ i ∧ i < 10 ^ 15) : (iS i).length ≤ 16 := by
  show (Str.ofString (toString i)).length ≤ 16
  rw [PySem.ofString_length]
  exact PySem.int_text_length_le10 (k := 15) (by decide) (by omega)
theorem iS_ok {i : Int} (h : 0 ≤ i ∧ i < 10 ^ 15) : i.natAbs < 2 ^ 1000 := by
  have h1 : i.natAbs < 10 ^ 15 := by omega
  exact Nat.lt_trans h1 (by decide +kernel)
theorem sq_len (x : String) : (sq x).length = x.length := PySem.ofString_length x
theorem join_le {sep : Str} {ys : List Str} : (Txt.join sep ys).length ≤ (ys.map Str.length).sum + ys.length * sep.length := by
  show (PySem.Builtin.Str.glued sep ys).length ≤ _
  rw [PySem.size_glued]
  exact Nat.add_le_add_left (Nat.mul_le_mul_right _ (Nat.sub_le _ _)) _
theorem one_len {x : String} {n : Nat} (h : x.length = n := by decide) : (Str.ofString x).length = n := by rw [PySem.ofString_length, h]
theorem st_iff {x : Str} : stS x = true ↔ ∀ c ∈ x.cps.toList, c < 0x110000 := by
  show x.cps.all (· < 0x110000) = true ↔ _
  rw [← Array.all_toList, List.all_eq_true]
  exact ⟨fun h c hc => by simpa using h c hc, fun h c hc => by simpa using h c hc⟩
theorem st_app {x y : Str} (hx : stS x = true) (hy : stS y = true) : stS (x ++ y) = true := by
  rw [st_iff] at *
  intro c hc
  rw [Str.cps_append, Array.toList_append, List.mem_append] at hc
  exact hc.elim (hx c) (hy c)
theorem st_cut {x : Str} (hx : stS x = true) (lo hi : Option Int) : stS (cutS x lo hi) = true := by
  rw [st_iff] at *
  intro c hc
  exact hx c (List.mem_of_mem_drop (List.mem_of_mem_take hc))
theorem cut_nn {x : Str} {i : Int} (h : 0 ≤ i ∧ i ≤ x.length) : (cutS x none (some i)).length + (cutS x (some i) none).length ≤ x.length := by
  obtain ⟨n, rfl⟩ : ∃ n : Nat, i = n := ⟨i.toNat, by omega⟩
  have e : x.cps.toList.length = x.length := Array.length_toList
  unfold cutS
  rw [HT.sIx_nat, HT.sIx_nat, HT.sIx_none, HT.sIx_none]
  simp only [Str.length, List.size_toArray, List.length_take, List.length_drop] at *
  omega
theorem cut_list (z : Str) {a b : Nat} (h : a ≤ b) : (cutS z (some (a : Int)) (some (b : Int))).cps.toList = (z.cps.toList.drop a).take (b - a) := by
  have e : z.cps.toList.length = z.length := Array.length_toList
  show (((z.cps.toList.drop (HT.sIx z.length 0 (some (a : Int)))).take (HT.sIx z.length z.length (some (b : Int)) - HT.sIx z.length 0 (some (a : Int)))).toArray).toList = _
  rw [HT.sIx_nat, HT.sIx_nat]
  rw [← e]
  generalize z.cps.toList = xs
  show (xs.drop (min a xs.length)).take (min b xs.length - min a xs.length) = _
  by_cases ha : a ≤ xs.length
  · rw [Nat.min_eq_left ha]
    by_cases hb : b ≤ xs.length
    · rw [Nat.min_eq_left hb]
    · rw [Nat.min_eq_right (by omega)]
      rw [List.take_of_length_le (by rw [List.length_drop]; omega), List.take_of_length_le (by rw [List.length_drop]; omega)]
  · rw [Nat.min_eq_right (show xs.length ≤ a by omega), List.drop_length, List.drop_eq_nil_of_le (show xs.length ≤ a by omega)]
    simp
/-- a text of one sign -/
abbrev one (c : Nat) : Str := ⟨#[c]⟩
theorem str_list {x y : Str} (h : x.cps.toList = y.cps.toList) : x = y := by
  obtain ⟨a⟩ := x; obtain ⟨b⟩ := y
  have : a = b := by rw [← Array.toArray_toList (xs := a), ← Array.toArray_toList (xs := b)]; exact congrArg List.toArray h
  rw [this]
section
variable {k : Nat} {l : Lo} {S : Sto} {Q : D → Sto → Prop} {QS : Fl → Sto → Prop} {QO : O → Sto → Prop} {QI : Option Int → Sto → Prop}
theorem wf_addS {x y : Str} (h : x.length + y.length ≤ 1000000) (q : Q (.str (x ++ y)) S) : wp (fAdd (.str x) (.str y) S) Q := ⟨_, _, by simp only [fAdd]; rw [if_pos h], q⟩
theorem wf_strI {i : Int} (h : 0 ≤ i ∧ i < 10 ^ 15) (q : Q (.str (iS i)) S) : wp (fStr (.d (.int i)) S) Q := ⟨_, _, by simp only [fStr]; rw [if_pos (iS_ok h)], q⟩
theorem wp_joinN {o : M} {e : MO} (h : wp (o l S) fun x S1 => ∃ a, x = .str a ∧ wp (e l S1) fun y S2 => ∃ ys : List Str, y = .n (ys.map D.str) ∧ (ys.map Str.length).sum + ys.length * a.length ≤ 16777216 ∧ Q (.str (Txt.join a ys)) S2) : wp (mJoin o e l S) Q := by
  obtain ⟨x, S1, e1, a, rfl, y, S2, e2, ys, rfl, hy, q⟩ := h
  have ha : ∀ ys : List Str, allT (ys.map D.str) = some ys := fun ys => by
    induction ys with
    | nil => rfl
    | cons y ys ih => simp only [List.map_cons, allT, ih, Option.bind_some]
  exact ⟨_, _, by unfold mJoin; simp only [e1, Option.bind_some, e2, lisO, ha]; rw [if_pos hy], q⟩
theorem sl_wp {a : M} {lo hi : MOpt} (h : wp (a l S) fun x S1 => wp (lo l S1) fun p S2 => wp (hi l S2) fun q S3 => ∃ o, slF x p q S3 = some o ∧ QO o S3) : wp (mSl a lo hi l S) QO := by
  obtain ⟨x, S1, e1, p, S2, e2, q, S3, e3, o, e4, z⟩ := h
  exact ⟨o, S3, by unfold mSl; simp only [e1, e2, e3, e4, Option.bind_some], z⟩
theorem noI_wp (q : QI none S) : wp (mNoI l S) QI := ⟨_, _, rfl, q⟩
theorem soI_wp {a : M} (h : wp (a l S) fun x S1 => ∃ i, x = .int i ∧ QI (some i) S1) : wp (mSoI a l S) QI := by
  obtain ⟨x, S1, e1, i, rfl, q⟩ := h
  exact ⟨_, S1, by unfold mSoI; simp only [e1, Option.bind_some], q⟩
theorem wf_lenStr {x : Str} (h : x.length ≤ 1000000) (q : Q (.int (x.length : Nat)) S) : wp (fLen (.d (.str x)) S) Q := ⟨_, _, by simp only [fLen, lenO]; rw [if_pos h]; rfl, q⟩
theorem wf_ixStr {x : Str} {i : Int} {c : Nat} (h : x.length ≤ 1000000) (hc : atI x.cps.toList i = some c) (q : Q (.str ⟨#[c]⟩) S) : wp (ixF (.str x) (.int i) S) Q := ⟨_, _, by simp only [ixF]; rw [if_pos h, hc]; rfl, q⟩
theorem wf_inWords {w : Str} {ws : List Str} (hp : stS w = true) (ht : ∀ q ∈ ws, stS q = true) (q : Q (.bl (decide (w ∈ ws))) S) : wp (fIn (.d (.str w)) (.n (ws.map D.str)) S) Q := by
  refine wp_eq (a := .bl (decide (w ∈ ws))) ?_ q
  have h1 : ∀ (n : Nat) (ws : List Str), (∀ q ∈ ws, stS q = true) → allS (snap (n + 1) S) (ws.map D.str) = some (ws.map PyData.str) := fun n ws => by
    induction ws with
    | nil => intro _; rfl
    | cons x ws ih =>
      intro h
      rw [List.map_cons, List.map_cons, allS, snap_str (h x (by simp)), ih fun q hq => h q (List.mem_cons_of_mem _ hq)]
      rfl
  have h2 : ∀ ws : List Str, ((ws.map PyData.str).any fun z => PyData.eqv z (.str w)) = decide (w ∈ ws) := fun ws => by
    induction ws with
    | nil => simp
    | cons x ws ih =>
      rw [List.map_cons, List.any_cons, ih, eqv_str]
      by_cases h : x = w
      · subst h; simp
      · have h' : ¬w = x := fun e => h e.symm
        simp [h, h']
  show ((snap 190 S (.str w)).bind fun a => (snapO S (.n (ws.map D.str))).bind fun q => (itemsP q).bind fun qs => some (D.bl (qs.any fun z => PyData.eqv z a), S)) = _
  have e : snapO S (.n (ws.map D.str)) = some (.list (ws.map PyData.str)) := by
    show (allS (snap 189 S) (ws.map D.str)).bind _ = _
    rw [h1 188 ws ht]
    rfl
  rw [snap_str hp, e]
  simp only [Option.bind_some, itemsP, h2]
theorem wf_ix1 {x : Str} {i : Int} {c : Nat} (h : x.length ≤ 1000000) (hi : 0 ≤ i) (hc : x.cps.toList[i.toNat]? = some c) (q : Q (.str (one c)) S) : wp (ixF (.str x) (.int i) S) Q := wf_ixStr h (by rw [atI_nn hi, hc]) q
end
end
section
open PySem PySem.StrLaws PySem.Builtin.Str L2
/-- the signs of a text -/
abbrev lx (x : Str) : List Nat := x.cps.toList
theorem lx_app (x y : Str) : lx (x ++ y) = lx x ++ lx y := by rw [lx, Str.cps_append, Array.toList_append]
theorem lx_len (x : Str) : (lx x).length = x.length := Array.length_toList
theorem lx_inj {x y : Str} (h : lx x = lx y) : x = y := str_list h
theorem lx_from (z : Str) (a : Nat) : lx (cutS z (some (a : Int)) none) = (lx z).drop a := by
  show (((z.cps.toList.drop (HT.sIx z.length 0 (some (a : Int)))).take (HT.sIx z.length z.length none - HT.sIx z.length 0 (some (a : Int)))).toArray).toList = _
  have e : z.cps.toList.length = z.length := Array.length_toList
  rw [HT.sIx_nat, HT.sIx_none, ← e]
  show (z.cps.toList.drop (min a z.cps.toList.length)).take (z.cps.toList.length - min a z.cps.toList.length) = z.cps.toList.drop a
  generalize z.cps.toList = xs
  by_cases ha : a ≤ xs.length
  · rw [Nat.min_eq_left ha, List.take_of_length_le (by rw [List.length_drop]; omega)]
  · rw [Nat.min_eq_right (by omega), List.drop_length, List.drop_eq_nil_of_le (show xs.length ≤ a by omega)]
    simp
theorem sub_iff {x y : Str} {i : Nat} : subAt x y i = true ↔ lx y <+: (lx x).drop i := by
  rw [subAt_eq, beq_iff_eq, List.prefix_iff_eq_take, lx_len]
  exact ⟨fun h => h.symm, fun h => h.symm⟩
theorem starts_iff {x y : Str} : Txt.startswith x y = true ↔ lx y <+: lx x := by
  unfold Txt.startswith
  rw [Bool.and_eq_true, sub_iff, List.drop_zero, decide_eq_true_eq]
  exact ⟨fun h => h.2, fun h => ⟨by have := h.length_le; rw [lx_len, lx_len] at this; omega, h⟩⟩
theorem inTx_iff {x y : Str} (hx : lx x ≠ []) : inTx x y = true ↔ ∃ n, lx x <+: (lx y).drop n := by
  unfold inTx
  rw [found_iff]
  refine ⟨fun ⟨i, _, h⟩ => ⟨i, sub_iff.mp h⟩, fun ⟨i, h⟩ => ⟨i, ?_, sub_iff.mpr h⟩⟩
  have h1 := h.length_le
  rw [List.length_drop, lx_len, lx_len] at h1
  have h2 : x.length ≠ 0 := fun e => hx (List.length_eq_zero_iff.mp (by rw [lx_len]; exact e))
  omega
/-- y stands nowhere in p, nor where p ends, if y follows -/
def Free (y p : List Nat) : Prop := ∀ i, i < p.length → ¬ y <+: (p.drop i ++ y)
def glue (y : List Nat) : List (List Nat) → List Nat
  | [] => []
  | [p] => p
  | p :: q :: r => p ++ (y ++ glue y (q :: r))
open Classical in
noncomputable def gr (X y : List Nat) : Nat → Nat → Nat → List Nat
  | 0, _, _ => []
  | n + 1, lo, fr => if fr ≤ lo ∧ y <+: X.drop lo then lo :: gr X y n (lo + 1) (lo + y.length) else gr X y n (lo + 1) fr
theorem occ_run (x y : Str) (limit : Nat) (hy : lx y ≠ []) : ∀ (n lo : Nat) (st : Array Nat × Nat), st.1.size + n ≤ limit →
    (forIn (List.range' lo n) st (occBody x y x.length limit)).run.fst.toList = st.1.toList ++ gr (lx x) (lx y) n lo st.2
  | 0, _, st, _ => by simp [gr]
  | n + 1, lo, st, h => by
    rw [List.range'_succ, List.forIn_cons, gr]
    unfold occBody
    have hl : 0 < y.length := by
      rw [← lx_len]; exact List.length_pos_iff.mpr hy
    by_cases hc : st.2 ≤ lo ∧ lx y <+: (lx x).drop lo
    · have h1 := hc.2.length_le
      rw [List.length_drop, lx_len, lx_len] at h1
      rw [if_pos ⟨⟨⟨by omega, hc.1⟩, by omega⟩, sub_iff.mpr hc.2⟩, if_pos hc, lx_len]
      have := occ_run x y limit hy n (lo + 1) (st.1.push lo, lo + y.length) (by rw [Array.size_push]; omega)
      refine this.trans ?_
      simp
    · rw [if_neg fun z => hc ⟨z.1.1.2, sub_iff.mp z.2⟩, if_neg hc]
      exact occ_run x y limit hy n (lo + 1) (st.1, st.2) (by show st.1.size + n ≤ limit; omega)
theorem occ_gr (x y : Str) (hy : lx y ≠ []) : occurrences x y 0 x.length (x.length + 1) = gr (lx x) (lx y) (x.length + 1) 0 0 := by
  rw [occ_eq, occ_run x y _ hy _ _ _ (by simp)]
  rfl
theorem gr_skip {X y : List Nat} : ∀ {m n lo fr : Nat}, (∀ j, j < m → ¬ (fr ≤ lo + j ∧ y <+: X.drop (lo + j))) → gr X y (m + n) lo fr = gr X y n (lo + m) fr
  | 0, n, lo, fr, _ => by rw [Nat.zero_add, Nat.add_zero]
  | m + 1, n, lo, fr, h => by
    rw [show m + 1 + n = (m + n) + 1 by omega, gr, if_neg (c := fr ≤ lo ∧ y <+: X.drop lo) (h 0 (by omega)), gr_skip (m := m) fun j hj => by
      have := h (j + 1) (by omega)
      rw [show lo + (j + 1) = lo + 1 + j by omega] at this
      exact this]
    rw [show lo + 1 + m = lo + (m + 1) by omega]
def cuts (w : Nat) : Nat → List (List Nat) → List Nat
  | _, [] => []
  | _, [_] => []
  | a, p :: q :: r => (a + p.length) :: cuts w (a + p.length + w) (q :: r)
theorem gr_pieces {X y : List Nat} (hy : y ≠ []) : ∀ (ps : List (List Nat)) (a n : Nat), ps ≠ [] → a ≤ X.length → X.drop a = glue y ps → (∀ p ∈ ps, Free y p) → n = X.length + 1 - a → gr X y n a a = cuts y.length a ps
  | [], _, _, h, _, _, _, _ => absurd rfl h
  | [p], a, n, _, ha, he, hf, hn => by
    have := gr_skip (X := X) (y := y) (m := n) (n := 0) (lo := a) (fr := a) fun j _ hc => by
      obtain ⟨-, hc⟩ := hc
      rw [← List.drop_drop, he] at hc
      by_cases hj : j < p.length
      · exact hf p (by simp) j hj (hc.trans (List.prefix_append _ _))
      · rw [show glue y [p] = p from rfl, List.drop_eq_nil_of_le (by omega)] at hc
        exact hy (List.prefix_nil.mp hc)
    rw [Nat.add_zero] at this
    rw [this]; rfl
  | p :: q :: r, a, n, _, ha, he, hf, hn => by
    have hl := congrArg List.length he
    rw [List.length_drop] at hl
    simp only [glue, List.length_append] at hl
    have hy' : 0 < y.length := List.length_pos_iff.mpr hy
    have e1 : n = p.length + (n - p.length) := by omega
    rw [e1, gr_skip fun j hj hc => by
      obtain ⟨-, hc⟩ := hc
      rw [← List.drop_drop, he, glue, List.drop_append_of_le_length (by omega), ← List.append_assoc] at hc
      exact hf p (by simp) j hj (List.prefix_of_prefix_length_le hc (List.prefix_append _ _) (by rw [List.length_append]; omega))]
    have hd : X.drop (a + p.length) = y ++ glue y (q :: r) := by
      rw [← List.drop_drop, he, glue, List.drop_left]
    rw [show n - p.length = (n - p.length - 1) + 1 by omega, gr, if_pos ⟨by omega, by rw [hd]; exact List.prefix_append _ _⟩, cuts]
    congr 1
    rw [show n - p.length - 1 = (y.length - 1) + (n - p.length - y.length) by omega, gr_skip fun j hj hc => by omega,
      show a + p.length + 1 + (y.length - 1) = a + p.length + y.length by omega]
    refine gr_pieces hy (q :: r) _ _ (by simp) (by omega) ?_ (fun x hx => hf x (List.mem_cons_of_mem _ hx)) (by omega)
    rw [← List.drop_drop, hd, List.drop_left]
theorem parts_pieces {x : Str} {y : List Nat} : ∀ (ps : List (List Nat)) (a : Nat), ps ≠ [] → (lx x).drop a = glue y ps → (partsFrom x y.length a (cuts y.length a ps)).map lx = ps
  | [], _, h, _ => absurd rfl h
  | [p], a, _, he => by
    show [lx (strSub x a x.length)] = [p]
    have e : lx (strSub x a x.length) = p := by
      rw [lx, strSub_toList, he, show glue y [p] = p from rfl, List.take_of_length_le]
      have := congrArg List.length he
      rw [List.length_drop, lx_len] at this
      simp only [glue] at this
      omega
    rw [e]
  | p :: q :: r, a, _, he => by
    show lx (strSub x a (a + p.length)) :: (partsFrom x y.length (a + p.length + y.length) (cuts y.length (a + p.length + y.length) (q :: r))).map lx = _
    have e : lx (strSub x a (a + p.length)) = p := by
      rw [lx, strSub_toList, he, glue, show a + p.length - a = p.length by omega, List.take_left]
    rw [e, parts_pieces (q :: r) _ (by simp) (by rw [← List.drop_drop, ← List.drop_drop, he, glue, List.drop_left, List.drop_left])]
theorem lx_join (y : Str) : ∀ ps : List Str, lx (Txt.join y ps) = glue (lx y) (ps.map lx)
  | [] => by show lx (glued y []) = _; rw [glued_eq_join]; rfl
  | [p] => by show lx (glued y [p]) = _; rw [glued_eq_join]; rfl
  | p :: q :: r => by
    have ih := lx_join y (q :: r)
    show lx (glued y (p :: q :: r)) = _
    rw [glued_eq_join]
    show lx (p ++ y ++ Str.join y (q :: r)) = _
    rw [← glued_eq_join, lx_app, lx_app, show lx (glued y (q :: r)) = _ from ih, List.append_assoc]
    rfl
theorem map_lx_inj {xs ys : List Str} (h : xs.map lx = ys.map lx) : xs = ys := by
  induction xs generalizing ys with
  | nil => cases ys with
    | nil => rfl
    | cons y ys => cases h
  | cons x xs ih => cases ys with
    | nil => cases h
    | cons y ys =>
      simp only [List.map_cons, List.cons.injEq] at h
      rw [lx_inj h.1, ih h.2]
theorem kind_ge (x : Str) : 1 ≤ Builtin.Str.strKind x := by unfold Builtin.Str.strKind; split <;> (try split) <;> omega
/-- a text is split into what it was joined from -/
theorem split_glue {x y : Str} {ps : List Str} (hy : lx y ≠ []) (hk : Builtin.Str.strKind y = 1) (hne : ps ≠ []) (he : lx x = glue (lx y) (ps.map lx)) (hf : ∀ p ∈ ps, Free (lx y) (lx p)) : Txt.split x y = ps := by
  have hg := gr_pieces (X := lx x) hy (ps.map lx) 0 (x.length + 1) (by simpa using hne) (Nat.zero_le _) (by rw [List.drop_zero]; exact he) (fun p hp => by
    obtain ⟨q, hq, rfl⟩ := List.mem_map.mp hp
    exact hf q hq) (by rw [lx_len]; rfl)
  rw [← occ_gr x y hy] at hg
  have hp := parts_pieces (x := x) (y := lx y) (ps.map lx) 0 (by simpa using hne) (by rw [List.drop_zero]; exact he)
  have single : ps.length = 1 → ps = [x] := fun h1 => by
    match ps, h1 with
    | [p], _ => rw [show x = p from lx_inj he]
  have h2 : 2 ≤ ps.length → y.length ≤ x.length := fun h => by
    match ps, h with
    | p :: q :: r, _ =>
      have := congrArg List.length he
      simp only [List.map_cons, glue, List.length_append, lx_len] at this
      omega
  have hpos : 0 < ps.length := List.length_pos_iff.mpr hne
  unfold Txt.split
  split
  · rename_i h
    rw [Bool.or_eq_true, decide_eq_true_eq, decide_eq_true_eq] at h
    have := kind_ge x
    exact (single (by
      rcases Nat.lt_or_ge ps.length 2 with h' | h'
      · omega
      · have := h2 h'; omega)).symm
  · split
    · rename_i h
      rw [hg] at h
      match ps, single, h with
      | [p], s, _ => exact (s rfl).symm
      | [], _, _ => exact absurd rfl hne
    · rw [partsBetween_eq, hg]
      rw [lx_len] at hp ⊢
      exact map_lx_inj hp
theorem free_one {c : Nat} {p : List Nat} (h : c ∉ p) : Free [c] p := fun i hi hc => by
  have e : p.drop i = p[i] :: p.drop (i + 1) := List.drop_eq_getElem_cons hi
  rw [e, List.cons_append, List.cons_prefix_cons] at hc
  exact h (hc.1 ▸ List.getElem_mem hi)
/-- y = a :: b :: r; b is no sign of p, and a ≠ b -/
theorem free_two {a b : Nat} {r p : List Nat} (hab : a ≠ b) (h : b ∉ p) : Free (a :: b :: r) p := fun i hi hc => by
  have e : p.drop i = p[i] :: p.drop (i + 1) := List.drop_eq_getElem_cons hi
  rw [e, List.cons_append, List.cons_prefix_cons] at hc
  have h2 := hc.2
  by_cases hi' : i + 1 < p.length
  · rw [List.drop_eq_getElem_cons hi', List.cons_append, List.cons_prefix_cons] at h2
    exact h (h2.1 ▸ List.getElem_mem hi')
  · rw [List.drop_eq_nil_of_le (by omega), List.nil_append, List.cons_prefix_cons] at h2
    exact hab h2.1.symm
theorem lx_num (m : Nat) : lx (iS (m : Int)) = (Nat.toDigits 10 m).map Char.toNat := PySem.W.KIN.signs_num m
theorem num_digits {i : Int} (h : 0 ≤ i) : ∀ c ∈ lx (iS i), 48 ≤ c ∧ c ≤ 57 := by
  obtain ⟨m, rfl⟩ := Int.eq_ofNat_of_zero_le h
  intro c hc
  rw [lx_num] at hc
  obtain ⟨ch, hch, e⟩ := List.mem_map.mp hc
  rw [← e]
  exact PyProof.Rows.digit_range (Nat.isDigit_of_mem_toDigits (by decide) (by decide) hch)
theorem num_ne {i : Int} (h : 0 ≤ i) : lx (iS i) ≠ [] := by
  obtain ⟨m, rfl⟩ := Int.eq_ofNat_of_zero_le h
  rw [lx_num]
  intro e
  have h := PySem.toDigits_len_ge 10 m
  rw [List.map_eq_nil_iff.mp e] at h
  exact absurd h (by decide)
theorem digits_head (m : Nat) (hm : 10 ≤ m) : ∃ c r, (Nat.toDigits 10 m).map Char.toNat = c :: r ∧ c ≠ 48 := by
  induction m using Nat.strongRecOn with
  | _ m ih =>
    rw [Nat.toDigits_of_base_le (by decide) hm, List.map_append]
    by_cases h : m / 10 < 10
    · rw [Nat.toDigits_of_lt_base h]
      refine ⟨(Nat.digitChar (m / 10)).toNat, _, rfl, ?_⟩
      have h0 : 1 ≤ m / 10 := by omega
      have : ∀ d : Nat, d < 10 → 1 ≤ d → (Nat.digitChar d).toNat ≠ 48 := by decide
      exact this _ h h0
    · obtain ⟨c, r, e, hc⟩ := ih (m / 10) (by omega) (by omega)
      rw [e]
      exact ⟨c, _, rfl, hc⟩
theorem num_head {i : Int} (h : 0 ≤ i) (hl : 1 < (lx (iS i)).length) : ∃ c r, lx (iS i) = c :: r ∧ c ≠ 48 := by
  obtain ⟨m, rfl⟩ := Int.eq_ofNat_of_zero_le h
  rw [lx_num] at hl ⊢
  by_cases hm : m < 10
  · rw [Nat.toDigits_of_lt_base hm] at hl
    simp at hl
  · exact digits_head m (by omega)
theorem num_reads {i : Int} (h : 0 ≤ i ∧ i < 10 ^ 15) : PySem.intText? (iS i) = some i := by
  have hl := iS_len h
  have hd := num_digits h.1
  have hne := num_ne h.1
  obtain ⟨m, rfl⟩ := Int.eq_ofNat_of_zero_le h.1
  have e := PySem.intText_digits hd hne (Nat.le_trans hl (by decide))
  rw [show (iS (m : Int)).cps.toList = _ from lx_num m, PySem.W.KIN.val_back] at e
  exact e
theorem dig_ok : ∀ c : Nat, c < 58 → 48 ≤ c → Unicode.isDigit c = true := by decide +kernel
theorem isdigit_num {i : Int} (h : 0 ≤ i) : Txt.isdigit (iS i) = true := by
  unfold Txt.isdigit
  rw [Bool.and_eq_true, ← Array.all_toList, List.all_eq_true, decide_eq_true_eq, ← lx_len]
  exact ⟨List.length_pos_iff.mpr (num_ne h), fun c hc => dig_ok c (by have := (num_digits h c hc).2; omega) (num_digits h c hc).1⟩
end
section
open PySem L2
def nD (p : Bool × Str) : D := .tup [.bl p.1, .str p.2]
structure Nm (nm : List (Bool × Str)) : Prop where
  len : nm.length = 6
  w : ∀ p ∈ nm, p.2.length ≤ 100 ∧ stS p.2 = true
def nmAt (nm : List (Bool × Str)) (a : Int) : Str := (nm[a.toNat]?.map Prod.snd).getD Str.empty
theorem Nm.at {nm : List (Bool × Str)} (h : Nm nm) {a : Int} (ha : 0 ≤ a ∧ a < 6) : ∃ b, nm[a.toNat]? = some (b, nmAt nm a) ∧ (nmAt nm a).length ≤ 100 := by
  have hl : a.toNat < nm.length := by rw [h.len]; omega
  refine ⟨nm[a.toNat].1, ?_⟩
  have e : nm[a.toNat]? = some nm[a.toNat] := List.getElem?_eq_getElem hl
  have e2 : nmAt nm a = nm[a.toNat].2 := by unfold nmAt; rw [e]; rfl
  rw [e2, e]
  exact ⟨rfl, (h.w _ (List.getElem_mem hl)).1⟩
/-- a symbol that has a text -/
def SyV (a b c : Int) : Prop := a = 0 ∨ ((a = 1 ∨ a = 2) ∧ 0 ≤ b ∧ b < 6) ∨ ((a = 3 ∨ a = 4 ∨ a = 5) ∧ (0 ≤ b ∧ b < 10 ^ 15) ∧ 0 ≤ c ∧ c < 10 ^ 15)
def syT (nm : List (Bool × Str)) (a b c : Int) : Str :=
  if a = 0 then sq "#" else if a = 3 then sq "$" ++ iS b ++ sq "_" ++ iS c else if a = 4 then sq "&" ++ iS b ++ sq "_" ++ iS c else if a = 5 then sq "@" ++ iS b else nmAt nm b
theorem syT_len {nm : List (Bool × Str)} (h : Nm nm) {a b c : Int} (hv : SyV a b c) : (syT nm a b c).length ≤ 100 := by
  have l1 := sq_len "#"; have l2 := sq_len "$"; have l3 := sq_len "_"; have l4 := sq_len "&"; have l5 := sq_len "@"
  have n1 : "#".length = 1 := by decide
  have n2 : "$".length = 1 := by decide
  have n3 : "_".length = 1 := by decide
  have n4 : "&".length = 1 := by decide
  have n5 : "@".length = 1 := by decide
  rcases hv with rfl | ⟨ha, hb⟩ | ⟨ha, hb, hc⟩
  · unfold syT; rw [if_pos rfl]; omega
  · obtain ⟨_, _, h2⟩ := h.at hb
    unfold syT
    rw [if_neg (by omega), if_neg (by omega), if_neg (by omega), if_neg (by omega)]
    exact h2
  · have b1 := iS_len hb; have b2 := iS_len hc
    unfold syT
    rw [if_neg (by omega)]
    split
    · simp only [Str.length_append]; omega
    · split
      · simp only [Str.length_append]; omega
      · rw [if_pos (by omega)]
        simp only [Str.length_append]; omega
mutual
def tx (nm : List (Bool × Str)) : Tm → Str
  | .v i => sq "?" ++ iS i
  | .ap a b c ts => if ts = [] then syT nm a b c else syT nm a b c ++ sq "(" ++ Txt.join (sq ", ") (txs nm ts) ++ sq ")"
def txs (nm : List (Bool × Str)) : List Tm → List Str
  | [] => []
  | t :: ts => tx nm t :: txs nm ts
end
theorem txs_map (nm : List (Bool × Str)) : ∀ ts, txs nm ts = ts.map (tx nm)
  | [] => rfl
  | t :: ts => by rw [txs, txs_map nm ts, List.map_cons]
def TxV (t : Tm) : Prop := Tm.Ok (fun i => 0 ≤ i ∧ i < 10 ^ 15) (fun a b c n => SyV a b c ∧ n ≤ 2) t
theorem tx_len {nm : List (Bool × Str)} (h : Nm nm) {t : Tm} (ht : TxV t) : (tx nm t).length + 2 ≤ 200 * t.size := by
  induction ht with
  | v hi =>
    have l1 := sq_len "?"
    have n1 : "?".length = 1 := by decide
    have := iS_len hi
    simp only [tx, Str.length_append, Tm.size]
    omega
  | ap hq hts ih =>
    rename_i a b c ts
    have h1 := syT_len h hq.1
    have l1 := sq_len "("; have l2 := sq_len ")"; have l3 := sq_len ", "
    have n1 : "(".length = 1 := by decide
    have n2 : ")".length = 1 := by decide
    have n3 : ", ".length = 2 := by decide
    have hs : ((txs nm ts).map Str.length).sum + (txs nm ts).length * 2 ≤ 200 * sizes ts := by
      clear hts hq h1
      induction ts with
      | nil => simp [txs, sizes]
      | cons t ts ih2 =>
        have a1 := ih t (by simp)
        have a2 := ih2 fun x hx => ih x (List.mem_cons_of_mem _ hx)
        simp only [txs, sizes, List.map_cons, List.sum_cons, List.length_cons]
        omega
    have hj := join_le (sep := sq ", ") (ys := txs nm ts)
    rw [show (sq ", ").length = 2 by omega] at hj
    simp only [tx, Tm.size]
    split
    · omega
    · simp only [Str.length_append]; omega
theorem sz_mem : ∀ {ts : List Tm} {t : Tm}, t ∈ ts → t.size ≤ sizes ts
  | t' :: ts, t, h => by
    have h1 := size_pos t'
    have h2 := sizes_nn ts
    rcases List.mem_cons.mp h with e | e
    · subst e; simp only [sizes]; omega
    · have := sz_mem e
      simp only [sizes]; omega
def litTx (nm : List (Bool × Str)) (x : Lit) : Str :=
  if (x.l.atomic && teq x.r tTruth) = true then (if x.pos = true then tx nm x.l else sq "not " ++ tx nm x.l)
  else tx nm x.l ++ (if x.pos = true then sq " = " else sq " != ") ++ tx nm x.r
def clTx (nm : List (Bool × Str)) (xs : List Lit) : Str := if xs = [] then sq "[]" else Txt.join (sq " or ") (xs.map (litTx nm))
theorem lx_hash : lx (sq "#") = [35] := by decide +kernel
theorem lx_doll : lx (sq "$") = [36] := by decide +kernel
theorem lx_amp : lx (sq "&") = [38] := by decide +kernel
theorem lx_at : lx (sq "@") = [64] := by decide +kernel
theorem lx_qm : lx (sq "?") = [63] := by decide +kernel
theorem lx_us : lx (sq "_") = [95] := by decide +kernel
theorem lx_op : lx (sq "(") = [40] := by decide +kernel
theorem lx_cl : lx (sq ")") = [41] := by decide +kernel
theorem lx_cs : lx (sq ", ") = [44, 32] := by decide +kernel
theorem lx_eq : lx (sq " = ") = [32, 61, 32] := by decide +kernel
theorem lx_ne : lx (sq " != ") = [32, 33, 61, 32] := by decide +kernel
theorem lx_not : lx (sq "not ") = [110, 111, 116, 32] := by decide +kernel
theorem lx_or : lx (sq " or ") = [32, 111, 114, 32] := by decide +kernel
theorem lx_stop : lx (sq "(), ") = [40, 41, 44, 32] := by decide +kernel
theorem lx_nil2 : lx (sq "[]") = [91, 93] := by decide +kernel
/-- a sign of a name -/
def WC (c : Nat) : Prop := (48 ≤ c ∧ c ≤ 57) ∨ (65 ≤ c ∧ c ≤ 90) ∨ (97 ≤ c ∧ c ≤ 122) ∨ c = 95
/-- a table of names: three functions, three predicates, no entry twice -/
structure Nw (nm : List (Bool × Str)) : Prop extends Nm nm where
  nodup : nm.Nodup
  flag : ∀ (i : Nat) (p : Bool × Str), nm[i]? = some p → p.1 = decide (2 < i)
  ch : ∀ p ∈ nm, ∀ c ∈ lx p.2, WC c
  abc : ∀ p ∈ nm, ∃ c ∈ lx p.2, c = 97 ∨ c = 98 ∨ c = 99
theorem Nw.at {nm : List (Bool × Str)} (h : Nw nm) {a : Int} (ha : 0 ≤ a ∧ a < 6) : nm[a.toNat]? = some (decide (2 < a), nmAt nm a) := by
  obtain ⟨b, e, _⟩ := h.toNm.at ha
  have := h.flag _ _ e
  rw [e]
  simp only at this
  rw [this]
  congr 2
  by_cases h2 : 2 < a
  · rw [decide_eq_true h2, decide_eq_true (by omega)]
  · rw [decide_eq_false h2, decide_eq_false (by omega)]
/-- signs of a word -/
def Wd (w : List Nat) : Prop := (∀ c ∈ w, c ≠ 32 ∧ c ≠ 33 ∧ c ≠ 40 ∧ c ≠ 41 ∧ c ≠ 44 ∧ c ≠ 61 ∧ c < 128 ∧ c ≠ 91) ∧ ∃ c ∈ w, c ≠ 111 ∧ c ≠ 114
theorem wd_num {p : Nat} {i : Int} (hi : 0 ≤ i) (hp : p = 63 ∨ p = 64) : Wd (p :: lx (iS i)) := by
  refine ⟨fun c hc => ?_, p, by simp, by omega⟩
  rcases List.mem_cons.mp hc with rfl | hc
  · omega
  · have := num_digits hi c hc; omega
theorem wd_pair {p : Nat} {i j : Int} (hi : 0 ≤ i) (hj : 0 ≤ j) (hp : p = 36 ∨ p = 38) : Wd (p :: (lx (iS i) ++ 95 :: lx (iS j))) := by
  refine ⟨fun c hc => ?_, p, by simp, by omega⟩
  rcases List.mem_cons.mp hc with rfl | hc
  · omega
  · rcases List.mem_append.mp hc with hc | hc
    · have := num_digits hi c hc; omega
    · rcases List.mem_cons.mp hc with rfl | hc
      · omega
      · have := num_digits hj c hc; omega
theorem wd_name {nm : List (Bool × Str)} (h : Nw nm) {p : Bool × Str} (hp : p ∈ nm) : Wd (lx p.2) := by
  refine ⟨fun c hc => ?_, ?_⟩
  · have := h.ch p hp c hc; unfold WC at this; omega
  · obtain ⟨c, hc, h3⟩ := h.abc p hp
    exact ⟨c, hc, by omega⟩
theorem lx_sy3 {nm : List (Bool × Str)} {b c : Int} : lx (syT nm 3 b c) = 36 :: (lx (iS b) ++ 95 :: lx (iS c)) := by
  unfold syT
  rw [if_neg (by decide), if_pos rfl, lx_app, lx_app, lx_app, lx_doll, lx_us]
  simp
theorem lx_sy4 {nm : List (Bool × Str)} {b c : Int} : lx (syT nm 4 b c) = 38 :: (lx (iS b) ++ 95 :: lx (iS c)) := by
  unfold syT
  rw [if_neg (by decide), if_neg (by decide), if_pos rfl, lx_app, lx_app, lx_app, lx_amp, lx_us]
  simp
theorem lx_sy5 {nm : List (Bool × Str)} {b c : Int} : lx (syT nm 5 b c) = 64 :: lx (iS b) := by
  unfold syT
  rw [if_neg (by decide), if_neg (by decide), if_neg (by decide), if_pos rfl, lx_app, lx_at]
  simp
theorem sy_nm {nm : List (Bool × Str)} {a b c : Int} (ha : a = 1 ∨ a = 2) : syT nm a b c = nmAt nm b := by
  unfold syT
  rw [if_neg (by omega), if_neg (by omega), if_neg (by omega), if_neg (by omega)]
theorem wd_sy {nm : List (Bool × Str)} (h : Nw nm) {a b c : Int} (hv : SyV a b c) : Wd (lx (syT nm a b c)) := by
  rcases hv with rfl | ⟨ha, hb⟩ | ⟨ha, hb, hc⟩
  · unfold syT; rw [if_pos rfl, lx_hash]; exact ⟨by decide, 35, by decide⟩
  · rw [sy_nm ha]
    exact wd_name h (List.mem_of_getElem? (h.at hb))
  · rcases ha with rfl | rfl | rfl
    · rw [lx_sy3]; exact wd_pair hb.1 hc.1 (.inl rfl)
    · rw [lx_sy4]; exact wd_pair hb.1 hc.1 (.inr rfl)
    · rw [lx_sy5]; exact wd_num hb.1 (.inr rfl)
theorem lx_txv {nm : List (Bool × Str)} {i : Int} : lx (tx nm (.v i)) = 63 :: lx (iS i) := by rw [tx, lx_app, lx_qm]; rfl
theorem lx_txa {nm : List (Bool × Str)} {a b c : Int} {ts : List Tm} (h : ts ≠ []) : lx (tx nm (.ap a b c ts)) = lx (syT nm a b c) ++ 40 :: (glue [44, 32] (ts.map fun t => lx (tx nm t)) ++ [41]) := by
  rw [tx, if_neg h, lx_app, lx_app, lx_app, lx_op, lx_cl, lx_join, lx_cs, txs_map, List.map_map]
  simp [Function.comp_def]
theorem lx_txn {nm : List (Bool × Str)} {a b c : Int} : lx (tx nm (.ap a b c [])) = lx (syT nm a b c) := by rw [tx, if_pos rfl]
theorem mem_glue {y : List Nat} {c : Nat} : ∀ {ps : List (List Nat)}, c ∈ glue y ps → c ∈ y ∨ ∃ p ∈ ps, c ∈ p
  | [], h => by cases h
  | [p], h => .inr ⟨p, by simp, h⟩
  | p :: q :: r, h => by
    rw [glue, List.mem_append, List.mem_append] at h
    rcases h with h | h | h
    · exact .inr ⟨p, by simp, h⟩
    · exact .inl h
    · rcases mem_glue h with h | ⟨x, hx, h⟩
      · exact .inl h
      · exact .inr ⟨x, List.mem_cons_of_mem _ hx, h⟩
/-- no ! and no = in the text of a term -/
theorem tx_free {nm : List (Bool × Str)} (h : Nw nm) {t : Tm} (ht : TxV t) : ∀ c ∈ lx (tx nm t), c ≠ 33 ∧ c ≠ 61 ∧ c < 128 := by
  induction ht with
  | v hi =>
    rw [lx_txv]
    intro c hc
    have := (wd_num hi.1 (.inl rfl)).1 c hc
    omega
  | ap hq hts ih =>
    rename_i a b c ts
    have hw := (wd_sy h hq.1).1
    intro d hd
    by_cases e : ts = []
    · subst e
      rw [lx_txn] at hd
      have := hw d hd; omega
    · rw [lx_txa e, List.mem_append, List.mem_cons, List.mem_append, List.mem_singleton] at hd
      rcases hd with hd | hd | hd | hd
      · have := hw d hd; omega
      · omega
      · rcases mem_glue hd with hd | ⟨p, hp, hd⟩
        · simp only [List.mem_cons, List.not_mem_nil, or_false] at hd; omega
        · obtain ⟨t, ht, rfl⟩ := List.mem_map.mp hp
          exact ih t ht d hd
      · omega
theorem tx_91 {nm : List (Bool × Str)} (h : Nw nm) {t : Tm} (ht : TxV t) : ∀ c ∈ lx (tx nm t), c ≠ 91 := by
  induction ht with
  | v hi =>
    rw [lx_txv]
    intro c hc
    have := (wd_num hi.1 (.inl rfl)).1 c hc
    omega
  | ap hq hts ih =>
    rename_i a b c ts
    have hw := (wd_sy h hq.1).1
    intro d hd
    by_cases e : ts = []
    · subst e
      rw [lx_txn] at hd
      have := hw d hd; omega
    · rw [lx_txa e, List.mem_append, List.mem_cons, List.mem_append, List.mem_singleton] at hd
      rcases hd with hd | hd | hd | hd
      · have := hw d hd; omega
      · omega
      · rcases mem_glue hd with hd | ⟨p, hp, hd⟩
        · simp only [List.mem_cons, List.not_mem_nil, or_false] at hd; omega
        · obtain ⟨t, ht, rfl⟩ := List.mem_map.mp hp
          exact ih t ht d hd
      · omega
def dst (s c : Nat) : Nat := if s = 4 then 4 else if c = 32 then (if s = 3 then 4 else 1) else if s = 1 ∧ c = 111 then 2 else if s = 2 ∧ c = 114 then 3 else 0
def drun (s : Nat) (w : List Nat) : Nat := w.foldl dst s
theorem drun_app (s : Nat) (u v : List Nat) : drun s (u ++ v) = drun (drun s u) v := List.foldl_append ..
theorem drun_cons (s c : Nat) (v : List Nat) : drun s (c :: v) = drun (dst s c) v := rfl
theorem drun_four : ∀ w, drun 4 w = 4
  | [] => rfl
  | c :: w => by rw [drun_cons, show dst 4 c = 4 from rfl, drun_four w]
theorem drun_zero : ∀ {w : List Nat}, (∀ c ∈ w, c ≠ 32) → drun 0 w = 0
  | [], _ => rfl
  | c :: w, h => by
    rw [drun_cons, show dst 0 c = 0 from by
      unfold dst
      rw [if_neg (by decide), if_neg (h c (by simp)), if_neg (by omega), if_neg (by omega)]]
    exact drun_zero fun d hd => h d (List.mem_cons_of_mem _ hd)
theorem drun_word : ∀ {w : List Nat} {s : Nat}, (∀ c ∈ w, c ≠ 32) → (∃ c ∈ w, c ≠ 111 ∧ c ≠ 114) → s ≠ 4 → drun s w = 0
  | [], _, _, h, _ => by obtain ⟨_, h, _⟩ := h; cases h
  | c :: w, s, h, h2, hs => by
    have hc := h c (by simp)
    have ht : ∀ d ∈ w, d ≠ 32 := fun d hd => h d (List.mem_cons_of_mem _ hd)
    rw [drun_cons]
    by_cases e : c ≠ 111 ∧ c ≠ 114
    · rw [show dst s c = 0 from by
        unfold dst
        rw [if_neg hs, if_neg hc, if_neg (by omega), if_neg (by omega)]]
      exact drun_zero ht
    · refine drun_word ht ?_ ?_
      · obtain ⟨d, hd, h3⟩ := h2
        rcases List.mem_cons.mp hd with rfl | hd
        · exact absurd h3 e
        · exact ⟨d, hd, h3⟩
      · unfold dst
        rw [if_neg hs, if_neg hc]
        split
        · omega
        · split <;> omega
theorem drun_hit (s : Nat) (w : List Nat) : drun s (32 :: 111 :: 114 :: 32 :: w) = 4 := by
  have : drun s [32, 111, 114, 32] = 4 := by
    unfold drun
    simp only [List.foldl_cons, List.foldl_nil]
    by_cases h4 : s = 4
    · subst h4; rfl
    · by_cases h3 : s = 3
      · subst h3; rfl
      · have : dst s 32 = 1 := by unfold dst; rw [if_neg h4, if_pos rfl, if_neg h3]
        rw [this]; rfl
  rw [show 32 :: 111 :: 114 :: 32 :: w = [32, 111, 114, 32] ++ w from rfl, drun_app, this, drun_four]
theorem free_or {p : List Nat} (h : drun 0 (p ++ [32]) ≠ 4) : Free [32, 111, 114, 32] p := fun i hi hc => by
  have key : ∀ r : List Nat, (p ++ [32]).drop i = 32 :: 111 :: 114 :: 32 :: r → False := fun r e => by
    apply h
    rw [← List.take_append_drop i (p ++ [32]), e, drun_app, drun_hit]
  have e : (p ++ [32]).drop i = p.drop i ++ [32] := List.drop_append_of_le_length (by omega)
  have hl : (p.drop i).length = p.length - i := List.length_drop
  rw [e] at key
  match hd : p.drop i with
  | [] => rw [hd] at hl; simp only [List.length_nil] at hl; omega
  | [c] => rw [hd] at hc; simp [List.cons_prefix_cons] at hc
  | [c, d] => rw [hd] at hc; simp [List.cons_prefix_cons] at hc
  | [c, d, f] =>
    rw [hd] at hc
    simp only [List.cons_append, List.nil_append, List.cons_prefix_cons, List.prefix_nil] at hc
    obtain ⟨rfl, rfl, rfl, -⟩ := hc
    exact key [] (by rw [hd]; rfl)
  | c :: d :: f :: g :: r =>
    rw [hd] at hc
    simp only [List.cons_append, List.cons_prefix_cons] at hc
    obtain ⟨rfl, rfl, rfl, rfl, -⟩ := hc
    exact key (r ++ [32]) (by rw [hd]; rfl)
theorem drun_glue {ps : List (List Nat)} (hne : ps ≠ []) (h : ∀ p ∈ ps, ∀ s, s ≠ 4 → drun s p = 0) : ∀ s, s ≠ 4 → drun s (glue [44, 32] ps) = 0 := by
  induction ps with
  | nil => exact absurd rfl hne
  | cons p ps ih =>
    intro s hs
    cases ps with
    | nil => exact h p (by simp) s hs
    | cons q r =>
      rw [glue, drun_app, h p (by simp) s hs]
      exact ih (by simp) (fun x hx => h x (List.mem_cons_of_mem _ hx)) 1 (by decide)
theorem drun_tx {nm : List (Bool × Str)} (h : Nw nm) {t : Tm} (ht : TxV t) : ∀ s, s ≠ 4 → drun s (lx (tx nm t)) = 0 := by
  induction ht with
  | v hi =>
    intro s hs
    have w := wd_num hi.1 (.inl rfl)
    rw [lx_txv]
    exact drun_word (fun c hc => (w.1 c hc).1) w.2 hs
  | ap hq hts ih =>
    rename_i a b c ts
    have w := wd_sy h hq.1
    intro s hs
    have e1 : drun s (lx (syT nm a b c)) = 0 := drun_word (fun c hc => (w.1 c hc).1) w.2 hs
    by_cases e : ts = []
    · subst e; rw [lx_txn, e1]
    · rw [lx_txa e, drun_app, e1, drun_cons, drun_app, show dst 0 40 = 0 from rfl, drun_glue (by simpa using e) (fun p hp => by
        obtain ⟨t, ht, rfl⟩ := List.mem_map.mp hp
        exact ih t ht) 0 (by decide)]
      rfl
theorem st_asc {x : Str} (h : ∀ c ∈ lx x, c < 128) : stS x = true := st_iff.mpr fun c hc => by have := h c hc; omega
theorem tx_st {nm : List (Bool × Str)} (h : Nw nm) {t : Tm} (ht : TxV t) : stS (tx nm t) = true := st_asc fun c hc => (tx_free h ht c hc).2.2
theorem lit_asc {nm : List (Bool × Str)} (h : Nw nm) {x : Lit} (hl : TxV x.l) (hr : TxV x.r) : ∀ c ∈ lx (litTx nm x), c < 128 := by
  have a := tx_free h hl; have b := tx_free h hr
  intro c hc
  unfold litTx at hc
  split at hc
  · split at hc
    · exact (a c hc).2.2
    · rw [lx_app, lx_not, List.mem_append] at hc
      rcases hc with hc | hc
      · simp only [List.mem_cons, List.not_mem_nil, or_false] at hc; omega
      · exact (a c hc).2.2
  · rw [lx_app, lx_app, List.mem_append, List.mem_append] at hc
    rcases hc with (hc | hc) | hc
    · exact (a c hc).2.2
    · split at hc
      · rw [lx_eq] at hc; simp only [List.mem_cons, List.not_mem_nil, or_false] at hc; omega
      · rw [lx_ne] at hc; simp only [List.mem_cons, List.not_mem_nil, or_false] at hc; omega
    · exact (b c hc).2.2
theorem lit_91 {nm : List (Bool × Str)} (h : Nw nm) {x : Lit} (hl : TxV x.l) (hr : TxV x.r) : ∀ c ∈ lx (litTx nm x), c ≠ 91 := by
  have a := tx_91 h hl; have b := tx_91 h hr
  intro c hc
  unfold litTx at hc
  split at hc
  · split at hc
    · exact a c hc
    · rw [lx_app, lx_not, List.mem_append] at hc
      rcases hc with hc | hc
      · simp only [List.mem_cons, List.not_mem_nil, or_false] at hc; omega
      · exact a c hc
  · rw [lx_app, lx_app, List.mem_append, List.mem_append] at hc
    rcases hc with (hc | hc) | hc
    · exact a c hc
    · split at hc
      · rw [lx_eq] at hc; simp only [List.mem_cons, List.not_mem_nil, or_false] at hc; omega
      · rw [lx_ne] at hc; simp only [List.mem_cons, List.not_mem_nil, or_false] at hc; omega
    · exact b c hc
/-- the text of a literal holds no " or " -/
theorem free_lit {nm : List (Bool × Str)} (h : Nw nm) {x : Lit} (hl : TxV x.l) (hr : TxV x.r) : Free [32, 111, 114, 32] (lx (litTx nm x)) := by
  refine free_or ?_
  have e : drun 0 (lx (litTx nm x)) = 0 := by
    unfold litTx
    split
    · split
      · exact drun_tx h hl 0 (by decide)
      · rw [lx_app, lx_not, drun_app]
        exact drun_tx h hl 1 (by decide)
    · split
      · rw [lx_app, lx_app, lx_eq, drun_app, drun_app, drun_tx h hl 0 (by decide)]
        exact drun_tx h hr 1 (by decide)
      · rw [lx_app, lx_app, lx_ne, drun_app, drun_app, drun_tx h hl 0 (by decide)]
        exact drun_tx h hr 1 (by decide)
  rw [drun_app, e]
  decide
end
section
open PySem L2
mutual
def Tm.has (x : Int) : Tm → Prop
  | .v i => i = x
  | .ap _ _ _ ts => hasL x ts
def hasL (x : Int) : List Tm → Prop
  | [] => False
  | t :: ts => t.has x ∨ hasL x ts
end
theorem hasL_iff {x : Int} : ∀ ts : List Tm, hasL x ts ↔ ∃ t ∈ ts, t.has x
  | [] => by simp [hasL]
  | t :: ts => by simp [hasL, hasL_iff ts]
mutual
theorem mem_vars {x : Int} : ∀ (t : Tm) (f : List Int), x ∈ t.vars f ↔ x ∈ f ∨ t.has x
  | .v i, f => by
    simp only [Tm.vars, Tm.has]
    split
    · rename_i h
      constructor
      · exact .inl
      · rintro (z | z)
        · exact z
        · subst z; exact h
    · simp [eq_comm]
  | .ap _ _ _ ts, f => by
    simp only [Tm.vars, Tm.has]
    exact mem_varsL ts f
theorem mem_varsL {x : Int} : ∀ (ts : List Tm) (f : List Int), x ∈ varsL ts f ↔ x ∈ f ∨ hasL x ts
  | [], f => by simp [varsL, hasL]
  | t :: ts, f => by
    simp only [varsL, hasL]
    rw [mem_varsL ts, mem_vars t, or_assoc]
end
theorem Tm.Wd.put {n : Nat} {s : List (Int × Tm)} (hs : ∀ p ∈ s, p.2.Wd n) {t : Tm} (h : t.Wd n) : (t.put s).Wd n := by
  induction h with
  | v i =>
    simp only [Tm.put, subOf]
    cases e : s.find? fun p => decide (p.1 = i) with
    | none => exact .v i
    | some p => exact hs p (List.mem_of_find?_eq_some e)
  | ap h1 h2 ih =>
    rw [put_ap]
    refine .ap (by rw [List.length_map]; exact h1) fun t ht => ?_
    obtain ⟨u, hu, rfl⟩ := List.mem_map.mp ht
    exact ih u hu
theorem put_hgt {m : Nat} {s : List (Int × Tm)} (hs : ∀ p ∈ s, p.2.hgt ≤ m) (t : Tm) : (t.put s).hgt ≤ t.hgt + m := by
  induction t using Tm.ind with
  | hv i =>
    simp only [Tm.put, subOf]
    cases h : s.find? fun p => decide (p.1 = i) with
    | none => simp [Tm.hgt]
    | some p =>
      have := hs p (List.mem_of_find?_eq_some h)
      simp only [Option.map_some, Option.getD_some]; omega
  | ha a b c ts ih =>
    rw [put_ap, hgt_ap, hgt_ap]
    have := hgts_le (ts := ts.map (Tm.put s)) (n := hgts ts + m) fun t ht => by
      obtain ⟨u, hu, rfl⟩ := List.mem_map.mp ht
      have h1 := ih u hu
      have h2 := hgts_mem hu
      omega
    omega
/-- where the substitution says of each variable that it stays -/
theorem put_id {s : List (Int × Tm)} (t : Tm) (h : ∀ i, t.has i → subOf s i = none ∨ subOf s i = some (.v i)) : t.put s = t := by
  induction t using Tm.ind with
  | hv i =>
    rcases h i (by simp [Tm.has]) with e | e <;> simp [Tm.put, e]
  | ha a b c ts ih =>
    rw [put_ap]
    congr 1
    rw [List.map_congr_left (g := id) (fun t ht => ih t ht fun i hi => h i (by simp only [Tm.has]; exact (hasL_iff ts).mpr ⟨t, ht, hi⟩)), List.map_id]
/-- a literal of modest size -/
structure LitW (x : Lit) : Prop where
  hl : x.l.hgt ≤ 20
  hr : x.r.hgt ≤ 20
  sl : x.l.size ≤ 5000
  sr : x.r.size ≤ 5000
  wl : x.l.Wd 1000
  wr : x.r.Wd 1000
theorem LitW.of {H : Nat} {B : Int} {x : Lit} (h : LitB H B x) (h1 : H ≤ 20) (h2 : B ≤ 5000) : LitW x := ⟨Nat.le_trans h.hl h1, Nat.le_trans h.hr h1, Int.le_trans h.sl h2, Int.le_trans h.sr h2, h.kl.wd, h.kr.wd⟩
def cvs (xs : List Lit) (f : List Int) : List Int := xs.foldl (fun s x => x.r.vars (x.l.vars s)) f
theorem mem_cvs {i : Int} : ∀ (xs : List Lit) (f : List Int), i ∈ cvs xs f ↔ i ∈ f ∨ ∃ x ∈ xs, x.l.has i ∨ x.r.has i
  | [], f => by simp [cvs]
  | x :: xs, f => by
    have e : cvs (x :: xs) f = cvs xs (x.r.vars (x.l.vars f)) := rfl
    rw [e, mem_cvs xs, mem_vars, mem_vars]
    simp only [List.mem_cons, exists_eq_or_imp]
    constructor
    · rintro (((h | h) | h) | h)
      · exact .inl ‹_›
      · exact .inr (.inl (.inl ‹_›))
      · exact .inr (.inl (.inr ‹_›))
      · exact .inr (.inr ‹_›)
    · rintro (h | (h | h) | h)
      · exact .inl (.inl (.inl h))
      · exact .inl (.inl (.inr h))
      · exact .inl (.inr h)
      · exact .inr h
def rn (f : List Int) : List (Int × Tm) := f.zipIdx.map fun p => (p.1, .v (p.2 : Nat))
end
section
open PySem L2
mutual
def Tm.sb (θ : Int → Tm) : Tm → Tm
  | .v i => θ i
  | .ap a b c ts => .ap a b c (sbs θ ts)
def sbs (θ : Int → Tm) : List Tm → List Tm
  | [] => []
  | t :: ts => t.sb θ :: sbs θ ts
end
theorem sbs_map (θ : Int → Tm) : ∀ ts, sbs θ ts = ts.map (Tm.sb θ)
  | [] => rfl
  | t :: ts => by rw [sbs, sbs_map θ ts]; rfl
theorem sb_ap {θ : Int → Tm} {a b c : Int} {ts : List Tm} : (Tm.ap a b c ts).sb θ = .ap a b c (ts.map (Tm.sb θ)) := by rw [Tm.sb, sbs_map]
theorem sb_v {θ : Int → Tm} {i : Int} : (Tm.v i).sb θ = θ i := by rw [Tm.sb]
abbrev asF (s : List (Int × Tm)) : Int → Tm := fun i => (subOf s i).getD (.v i)
theorem put_sb (s : List (Int × Tm)) (t : Tm) : t.put s = t.sb (asF s) := by
  induction t using Tm.ind with
  | hv i => rw [sb_v]; simp only [Tm.put]
  | ha a b c ts ih => rw [put_ap, sb_ap, List.map_congr_left ih]
theorem sb_sb (σ θ : Int → Tm) (t : Tm) : (t.sb σ).sb θ = t.sb fun i => (σ i).sb θ := by
  induction t using Tm.ind with
  | hv i => rw [sb_v, sb_v]
  | ha a b c ts ih => rw [sb_ap, sb_ap, sb_ap, List.map_map, List.map_congr_left (f := Tm.sb θ ∘ Tm.sb σ) (g := Tm.sb fun i => (σ i).sb θ) fun t ht => ih t ht]
theorem has_ap {x a b c : Int} {ts : List Tm} : (Tm.ap a b c ts).has x ↔ ∃ t ∈ ts, t.has x := by rw [Tm.has]; exact hasL_iff ts
theorem has_v {x i : Int} : (Tm.v i).has x ↔ i = x := by rw [Tm.has]
theorem sb_congr {θ θ' : Int → Tm} (t : Tm) (h : ∀ x, t.has x → θ x = θ' x) : t.sb θ = t.sb θ' := by
  induction t using Tm.ind with
  | hv i => rw [sb_v, sb_v]; exact h i (has_v.mpr rfl)
  | ha a b c ts ih => rw [sb_ap, sb_ap, List.map_congr_left (g := Tm.sb θ') fun t ht => ih t ht fun x hx => h x (has_ap.mpr ⟨t, ht, hx⟩)]
theorem has_sb {θ : Int → Tm} {y : Int} (t : Tm) : (t.sb θ).has y ↔ ∃ x, t.has x ∧ (θ x).has y := by
  induction t using Tm.ind with
  | hv i => rw [sb_v]; exact ⟨fun h => ⟨i, has_v.mpr rfl, h⟩, fun ⟨x, h1, h2⟩ => by rw [has_v] at h1; rw [h1]; exact h2⟩
  | ha a b c ts ih =>
    rw [sb_ap, has_ap]
    constructor
    · rintro ⟨u, hu, h⟩
      obtain ⟨t, ht, rfl⟩ := List.mem_map.mp hu
      obtain ⟨x, h1, h2⟩ := (ih t ht).mp h
      exact ⟨x, has_ap.mpr ⟨t, ht, h1⟩, h2⟩
    · rintro ⟨x, h1, h2⟩
      obtain ⟨t, ht, h1⟩ := has_ap.mp h1
      exact ⟨_, List.mem_map_of_mem ht, (ih t ht).mpr ⟨x, h1, h2⟩⟩
theorem sz_ap {a b c : Int} {ts : List Tm} : (Tm.ap a b c ts).size = 1 + sizes ts := by rw [Tm.size]
theorem szM : ∀ {ts : List Tm} {t : Tm}, t ∈ ts → t.size ≤ sizes ts
  | t' :: ts, t, h => by
    have h1 := size_pos t'
    have h2 := sizes_nn ts
    rcases List.mem_cons.mp h with e | e
    · subst e; simp only [sizes]; omega
    · have := szM e
      simp only [sizes]; omega
theorem sb_size {θ : Int → Tm} {x : Int} (t : Tm) (h : t.has x) : (θ x).size ≤ (t.sb θ).size := by
  induction t using Tm.ind with
  | hv i => rw [has_v] at h; rw [sb_v, h]; exact Int.le_refl _
  | ha a b c ts ih =>
    obtain ⟨t, ht, h⟩ := has_ap.mp h
    have h1 := ih t ht h
    have h2 := szM (List.mem_map_of_mem (f := Tm.sb θ) ht)
    rw [sb_ap, sz_ap]
    omega
/-- the occurs check -/
theorem sb_occ {θ : Int → Tm} {x : Int} {t : Tm} (h : t.has x) (hv : t.isV = false) : θ x ≠ t.sb θ := by
  cases t with
  | v i => cases hv
  | ap a b c ts =>
    intro e
    obtain ⟨t, ht, h⟩ := has_ap.mp h
    have h1 := sb_size (θ := θ) t h
    have h2 := szM (List.mem_map_of_mem (f := Tm.sb θ) ht)
    rw [e, sb_ap, sz_ap] at h1
    omega
def Unif (ws : List (Tm × Tm)) (θ : Int → Tm) : Prop := ∀ p ∈ ws, p.1.sb θ = p.2.sb θ
def Sat (f : List (Int × Tm)) (θ : Int → Tm) : Prop := ∀ p ∈ f, θ p.1 = p.2.sb θ
theorem unif_app {a b : List (Tm × Tm)} {θ : Int → Tm} : Unif (a ++ b) θ ↔ Unif a θ ∧ Unif b θ :=
  ⟨fun h => ⟨fun p hp => h p (List.mem_append_left _ hp), fun p hp => h p (List.mem_append_right _ hp)⟩, fun h p hp => (List.mem_append.mp hp).elim (h.1 p) (h.2 p)⟩
theorem unif_one {a b : Tm} {θ : Int → Tm} : Unif [(a, b)] θ ↔ a.sb θ = b.sb θ :=
  ⟨fun h => h (a, b) (by simp), fun h p hp => by rw [List.mem_singleton] at hp; subst hp; exact h⟩
def stp (x : Int) (t : Tm) : List (Int × Tm) := [(x, t)]
theorem stp_at {x y : Int} {t : Tm} : asF (stp x t) y = if x = y then t else .v y := by
  simp only [asF, stp, subOf, List.find?_cons, List.find?_nil]
  by_cases h : x = y
  · simp [h]
  · simp [h]
theorem stp_sb {x : Int} {t u : Tm} {θ : Int → Tm} (h : θ x = t.sb θ) : (u.put (stp x t)).sb θ = u.sb θ := by
  rw [put_sb, sb_sb]
  refine sb_congr u fun y _ => ?_
  rw [stp_at]
  by_cases e : x = y
  · rw [if_pos e, ← h, e]
  · rw [if_neg e, sb_v]
def bnd (f : List (Int × Tm)) (x : Int) (t : Tm) : List (Int × Tm) := (f.map fun p => (p.1, p.2.put (stp x t))) ++ [(x, t)]
theorem suApp (a b : List (Int × Tm)) (y : Int) : subOf (a ++ b) y = (subOf a y).or (subOf b y) := by
  unfold subOf
  rw [List.find?_append]
  cases a.find? (fun p => decide (p.1 = y)) <;> simp
theorem suNone {f : List (Int × Tm)} {x : Int} : subOf f x = none ↔ x ∉ f.map (·.1) := by
  unfold subOf
  rw [Option.map_eq_none_iff, List.find?_eq_none]
  constructor
  · intro h hm
    obtain ⟨p, hp, e⟩ := List.mem_map.mp hm
    exact h p hp (by simp [e])
  · intro h p hp e
    exact h (List.mem_map.mpr ⟨p, hp, by simpa using e⟩)
theorem suIn {f : List (Int × Tm)} {x : Int} {t : Tm} (h : subOf f x = some t) : (x, t) ∈ f := by
  unfold subOf at h
  obtain ⟨p, h1, h2⟩ := Option.map_eq_some_iff.mp h
  have h3 := List.find?_some h1
  have h4 := List.mem_of_find?_eq_some h1
  have : p.1 = x := by simpa using h3
  rw [← h2, ← this]; exact h4
theorem subOf_map (f : List (Int × Tm)) (g : Tm → Tm) (y : Int) : subOf (f.map fun p => (p.1, g p.2)) y = (subOf f y).map g := by
  induction f with
  | nil => rfl
  | cons p f ih =>
    unfold subOf at ih ⊢
    by_cases h : p.1 = y
    · simp [h]
    · simp only [List.map_cons, List.find?_cons, h, decide_false]
      exact ih
theorem subOf_bnd {f : List (Int × Tm)} {x : Int} {t : Tm} (y : Int) : subOf (bnd f x t) y = match subOf f y with
    | some s => some (s.put (stp x t))
    | none => if x = y then some t else none := by
  unfold bnd
  rw [suApp, subOf_map]
  cases subOf f y with
  | some s => rfl
  | none =>
    simp only [Option.map_none, Option.none_or]
    unfold subOf
    by_cases h : x = y
    · simp [h]
    · simp [h]
theorem put_bnd {f : List (Int × Tm)} {x : Int} {t : Tm} (u : Tm) : (u.put f).put (stp x t) = u.put (bnd f x t) := by
  rw [put_sb, put_sb, put_sb, sb_sb]
  refine sb_congr u fun y _ => ?_
  show (asF f y).sb (asF (stp x t)) = asF (bnd f x t) y
  unfold asF
  rw [subOf_bnd]
  cases subOf f y with
  | some s => simp only [Option.getD_some]; rw [← put_sb]
  | none =>
    simp only [Option.getD_none]
    rw [sb_v]
    have := stp_at (x := x) (y := y) (t := t)
    unfold asF at this
    rw [this]
    by_cases h : x = y
    · rw [if_pos h, if_pos h]; rfl
    · rw [if_neg h, if_neg h]; rfl
theorem sat_bnd {f : List (Int × Tm)} {x : Int} {t : Tm} {θ : Int → Tm} : Sat (bnd f x t) θ ↔ Sat f θ ∧ θ x = t.sb θ := by
  constructor
  · intro h
    have hx : θ x = t.sb θ := h (x, t) (by simp [bnd])
    refine ⟨fun p hp => ?_, hx⟩
    have := h (p.1, p.2.put (stp x t)) (List.mem_append_left _ (List.mem_map.mpr ⟨p, hp, rfl⟩))
    rw [stp_sb hx] at this
    exact this
  · rintro ⟨h, hx⟩ p hp
    rcases List.mem_append.mp hp with hp | hp
    · obtain ⟨q, hq, rfl⟩ := List.mem_map.mp hp
      rw [stp_sb hx]; exact h q hq
    · rw [List.mem_singleton] at hp; subst hp; exact hx
def ppW (f : List (Int × Tm)) (ws : List (Tm × Tm)) : List (Tm × Tm) := ws.map fun p => (p.1.put f, p.2.put f)
theorem unif_stp {ws : List (Tm × Tm)} {x : Int} {t : Tm} {θ : Int → Tm} (hx : θ x = t.sb θ) : Unif (ppW (stp x t) ws) θ ↔ Unif ws θ := by
  constructor
  · intro h p hp
    have := h _ (List.mem_map_of_mem (f := fun p : Tm × Tm => (p.1.put (stp x t), p.2.put (stp x t))) hp)
    rw [stp_sb hx, stp_sb hx] at this
    exact this
  · intro h p hp
    obtain ⟨q, hq, rfl⟩ := List.mem_map.mp hp
    rw [stp_sb hx, stp_sb hx]; exact h q hq
theorem hgts_got : ∀ ts : List Tm, hgts ts = 0 ∨ ∃ t ∈ ts, t.hgt = hgts ts
  | [] => .inl rfl
  | t :: ts => by
    simp only [hgts]
    rcases Nat.le_total t.hgt (hgts ts) with h | h
    · rw [Nat.max_eq_right h]
      rcases hgts_got ts with e | ⟨u, hu, e⟩
      · exact .inl e
      · exact .inr ⟨u, List.mem_cons_of_mem _ hu, e⟩
    · rw [Nat.max_eq_left h]
      exact .inr ⟨t, by simp, rfl⟩
theorem all_len : ∀ (h : Nat) (L : List Nat), (∀ k, 1 ≤ k → k ≤ h → k ∈ L) → h ≤ L.length
  | 0, _, _ => Nat.zero_le _
  | h + 1, L, hk => by
    have hm := hk (h + 1) (by omega) (by omega)
    have := all_len h (L.erase (h + 1)) fun k h1 h2 => (List.mem_erase_of_ne (by omega)).mpr (hk k h1 (by omega))
    rw [List.length_erase_of_mem hm] at this
    have := List.length_pos_of_mem hm
    omega
theorem nodup_len : ∀ (L M : List Int), L.Nodup → (∀ x ∈ L, x ∈ M) → L.length ≤ M.length
  | [], _, _, _ => Nat.zero_le _
  | x :: L, M, hn, h => by
    have hx := h x (by simp)
    obtain ⟨h1, h2⟩ := List.nodup_cons.mp hn
    have := nodup_len L (M.erase x) h2 fun y hy => (List.mem_erase_of_ne (show y ≠ x from fun e => h1 (by rw [← e]; exact hy))).mpr (h y (List.mem_cons_of_mem _ hy))
    rw [List.length_erase_of_mem hx] at this
    have := List.length_pos_of_mem hx
    simp only [List.length_cons]
    omega
/-- a list of terms with their arguments -/
def Clo (N : List Tm) : Prop := ∀ a b c ts, Tm.ap a b c ts ∈ N → ∀ t ∈ ts, t ∈ N
def Dg (N : List Tm) (f : List (Int × Tm)) : Prop := ∀ p ∈ f, p.2.isV = true ∨ ∃ u ∈ N, u.isV = false ∧ p.2 = u.put f
theorem dg_at {N : List Tm} {f : List (Int × Tm)} (hd : Dg N f) {u : Tm} (hu : u ∈ N) : (u.put f).isV = true ∨ ∃ v ∈ N, v.isV = false ∧ u.put f = v.put f := by
  cases u with
  | ap a b c ts => exact .inr ⟨_, hu, rfl, rfl⟩
  | v i =>
    cases e : subOf f i with
    | none =>
      left
      show ((subOf f i).getD (.v i)).isV = true
      rw [e]; rfl
    | some s =>
      have e2 : (Tm.v i).put f = s := by show (subOf f i).getD (.v i) = s; rw [e]; rfl
      rw [e2]
      exact hd (i, s) (suIn e)
theorem hgt_N {N : List Tm} {f : List (Int × Tm)} (hc : Clo N) (hd : Dg N f) {u : Tm} (hu : u ∈ N) : (u.put f).hgt ≤ N.length := by
  have key : ∀ (n : Nat) (u : Tm), u ∈ N → (u.put f).hgt = n → ∀ k, 1 ≤ k → k ≤ n → ∃ v ∈ N, (v.put f).hgt = k := by
    intro n
    induction n using Nat.strongRecOn with
    | ind n ih =>
      intro u hu hn k h1 h2
      rcases dg_at hd hu with h | ⟨v, hv, h3, h4⟩
      · cases e : u.put f with
        | v i => rw [e] at hn; simp only [Tm.hgt] at hn; omega
        | ap a b c ts => rw [e] at h; cases h
      · cases v with
        | v i => cases h3
        | ap a b c ts =>
          rcases Nat.lt_or_ge k n with hk | hk
          · rw [h4, put_ap, hgt_ap] at hn
            rcases hgts_got (ts.map (Tm.put f)) with e | ⟨w, hw, e⟩
            · omega
            · obtain ⟨t, ht, rfl⟩ := List.mem_map.mp hw
              exact ih (t.put f).hgt (by omega) t (hc _ _ _ _ hv t ht) rfl k h1 (by omega)
          · exact ⟨u, hu, by omega⟩
  have h1 := all_len (u.put f).hgt (N.map fun v => (v.put f).hgt) fun k h1 h2 => by
    obtain ⟨v, hv, e⟩ := key _ u hu rfl k h1 h2
    exact List.mem_map.mpr ⟨v, hv, e⟩
  rw [List.length_map] at h1
  exact h1
theorem dg_bnd {N : List Tm} {f : List (Int × Tm)} (hd : Dg N f) {x : Int} {t : Tm} (ht : t.isV = true ∨ ∃ u ∈ N, u.isV = false ∧ t = u.put f) (hx : ¬ t.has x) : Dg N (bnd f x t) := by
  have hself : t.put (stp x t) = t := put_id t fun i hi => .inl (by
    rw [suNone]
    simp only [stp, List.map_cons, List.map_nil, List.mem_singleton]
    intro e; exact hx (e ▸ hi))
  have hti : t.isV = true ∨ ∃ u ∈ N, u.isV = false ∧ t = u.put (bnd f x t) := by
    rcases ht with h | ⟨u, hu, h1, h2⟩
    · exact .inl h
    · exact .inr ⟨u, hu, h1, by rw [← put_bnd, ← h2, hself]⟩
  intro p hp
  rcases List.mem_append.mp hp with hp | hp
  · obtain ⟨q, hq, rfl⟩ := List.mem_map.mp hp
    show (q.2.put (stp x t)).isV = true ∨ ∃ u ∈ N, u.isV = false ∧ q.2.put (stp x t) = u.put (bnd f x t)
    rcases hd q hq with h | ⟨u, hu, h1, h2⟩
    · cases e : q.2 with
      | ap a b c ts => rw [e] at h; cases h
      | v i =>
        have : (Tm.v i).put (stp x t) = if x = i then t else .v i := by rw [put_sb, sb_v]; exact stp_at
        rw [this]
        by_cases hi : x = i
        · rw [if_pos hi]; exact hti
        · rw [if_neg hi]; exact .inl rfl
    · exact .inr ⟨u, hu, h1, by rw [h2, put_bnd]⟩
  · rw [List.mem_singleton] at hp; subst hp
    exact hti
end
section
open PySem L2
abbrev Sy := Int × Int × Int
abbrev Wt := List (Sy × Int)
def wtF (w : Wt) (s : Sy) : Option Int := (w.find? fun p => decide (p.1 = s)).map (·.2)
/-- a symbol's weight -/
def wtOf (w : Wt) (s : Sy) : Int := (wtF w s).getD 1
section
variable {S : Sto} {Q : D → Sto → Prop}
def putW (w : Wt) (s : Sy) (n : Int) : Wt := if (w.any fun p => decide (p.1 = s)) = true then w.map (fun p => if p.1 = s then (p.1, n) else p) else w ++ [(s, n)]
/-- what weights keep -/
structure WtOk (w : Wt) : Prop where
  nd : (w.map (·.1)).Nodup
  len : w.length ≤ 20
  pos : ∀ p ∈ w, 1 ≤ p.2
theorem WtOk.put {w : Wt} (h : WtOk w) {s : Sy} {n : Int} (hn : 1 ≤ n) (hl : w.length < 20) : WtOk (putW w s n) := by
  unfold putW
  split
  · refine ⟨?_, by rw [List.length_map]; exact h.len, fun p hp => ?_⟩
    · rw [List.map_map, List.map_congr_left (g := (·.1)) fun p _ => by
        show (if p.1 = s then (p.1, n) else p).1 = p.1
        split <;> rfl]
      exact h.nd
    · obtain ⟨q, hq, rfl⟩ := List.mem_map.mp hp
      split
      · exact hn
      · exact h.pos q hq
  · rename_i hne
    refine ⟨?_, by rw [List.length_append, List.length_singleton]; omega, fun p hp => ?_⟩
    · rw [List.map_append, List.nodup_append]
      refine ⟨h.nd, by simp, fun x hx y hy e => ?_⟩
      simp only [List.map_cons, List.map_nil, List.mem_singleton] at hy
      subst hy e
      obtain ⟨q, hq, e⟩ := List.mem_map.mp hx
      exact hne (List.any_eq_true.mpr ⟨q, hq, by simpa using e⟩)
    · rcases List.mem_append.mp hp with z | z
      · exact h.pos p z
      · rw [List.mem_singleton] at z; subst z; exact hn
theorem WtOk.of {w : Wt} (h : WtOk w) (s : Sy) : 1 ≤ wtOf w s := by
  unfold wtOf wtF
  cases e : w.find? fun p => decide (p.1 = s) with
  | none => simp
  | some p => simpa using h.pos p (List.mem_of_find?_eq_some e)
mutual
def Tm.wt (w : Wt) : Tm → Int
  | .v _ => 1
  | .ap a b c ts => wtOf w (a, b, c) + wts w ts
def wts (w : Wt) : List Tm → Int
  | [] => 0
  | t :: ts => t.wt w + wts w ts
end
end
end
section
open PySem L2
section
variable {l : Lo} {S : Sto} {Q : D → Sto → Prop} {QO : O → Sto → Prop} {a : M} {lo hi : MOpt} {QI : Option Int → Sto → Prop}
def symLt (s t : Sy) : Bool := HT.lexLt [s.1, s.2.1, s.2.2] [t.1, t.2.1, t.2.2]
end
/-- no variable occurs more often in u -/
def hav (t u : Tm) : Bool := ((u.vars []).find? fun v => decide (t.occ v < u.occ v)).isNone
def lastT (ts : List Tm) : Tm := ts.getLastD (.v 0)
/-- two of equal weight -/
def gtB (R : Tm → Tm → Bool) (a b c : Int) (ts : List Tm) : Tm → Bool
  | .v _ => false
  | .ap d e f us => if ts.isEmpty = true then us.isEmpty && symLt (d, e, f) (a, b, c) else if us.isEmpty = true then true else
      if teq (.ap a b c ts.dropLast) (.ap d e f us.dropLast) = true then R (lastT ts) (lastT us) else R (.ap a b c ts.dropLast) (.ap d e f us.dropLast)
def gtF (w : Wt) : Nat → Tm → Tm → Bool
  | 0, _, _ => false
  | _ + 1, .v _, _ => false
  | n + 1, .ap a b c ts, u => hav (.ap a b c ts) u && if (Tm.ap a b c ts).wt w = u.wt w then gtB (gtF w n) a b c ts u else decide (u.wt w < (Tm.ap a b c ts).wt w)
mutual
def Tm.rk : Tm → Nat
  | .v _ => 0
  | .ap _ _ _ ts => ts.length + rks ts + 1
def rks : List Tm → Nat
  | [] => 0
  | t :: ts => max t.rk (rks ts)
end
theorem rks_mem : ∀ {ts : List Tm} {t : Tm}, t ∈ ts → t.rk ≤ rks ts
  | t' :: ts, t, h => by
    rcases List.mem_cons.mp h with e | e
    · subst e; simp only [rks]; omega
    · have := rks_mem e
      simp only [rks]; omega
theorem rks_le : ∀ {ts : List Tm} {n : Nat}, (∀ t ∈ ts, t.rk ≤ n) → rks ts ≤ n
  | [], _, _ => by simp [rks]
  | t :: ts, n, h => by
    have h1 := h t (by simp)
    have h2 := rks_le (n := n) fun x hx => h x (List.mem_cons_of_mem _ hx)
    simp only [rks]; omega
def gt (w : Wt) (t u : Tm) : Bool := gtF w (t.rk + 1) t u
theorem size_mem : ∀ {ts : List Tm} {t : Tm}, t ∈ ts → t.size ≤ sizes ts
  | t' :: ts, t, h => by
    have h1 := size_pos t'
    have h2 := sizes_nn ts
    rcases List.mem_cons.mp h with e | e
    · subst e; simp only [sizes]; omega
    · have := size_mem e
      simp only [sizes]; omega
/-- terms of modest size -/
structure TmW (H : Nat) (t : Tm) : Prop where
  hgt : t.hgt ≤ H
  size : t.size ≤ 100000
end
section
open PySem L2
structure T2 (H : Nat) (B : Int) (t : Tm) : Prop where
  hgt : t.hgt ≤ H
  size : t.size ≤ B
  wd : t.Wd 2
theorem T2.mono {H H' : Nat} {B B' : Int} {t : Tm} (h : T2 H B t) (h1 : H ≤ H') (h2 : B ≤ B') : T2 H' B' t := ⟨Nat.le_trans h.hgt h1, Int.le_trans h.size h2, h.wd⟩
theorem T2.w {H H' : Nat} {B : Int} {t : Tm} (h : T2 H B t) (h1 : H ≤ H') (h2 : B ≤ 100000) : TmW H' t := ⟨Nat.le_trans h.hgt h1, Int.le_trans h.size h2⟩
theorem T2.of {d : Nat} {t : Tm} (h : TermOk d t) : T2 (d + 1) (bdT d) t := ⟨h.hgt, h.size, Tm.Ok.wd (fun a b c m z => z.2) h.ok⟩
theorem rk_hgt {t : Tm} (h : t.Wd 2) : t.rk ≤ 3 * t.hgt := by
  induction h with
  | v i => simp [Tm.rk]
  | @ap a b c ts h1 h2 ih =>
    have h3 : rks ts ≤ 3 * hgts ts := rks_le fun t ht => by
      have := ih t ht
      have := hgts_mem ht
      omega
    simp only [Tm.rk, hgt_ap]; omega
theorem Wd.mono {n m : Nat} (h : n ≤ m) {t : Tm} (ht : t.Wd n) : t.Wd m := by
  induction ht with
  | v i => exact .v i
  | ap h1 h2 ih => exact .ap (Nat.le_trans h1 h) ih
end
section
open PySem L2
section
variable {l : Lo} {S : Sto} {Q : D → Sto → Prop} {QS : Fl → Sto → Prop}
abbrev Sb := List (Int × Tm)
/-- what a dict of bindings keeps -/
structure SbOk (n : Int) (s : Sb) : Prop where
  nd : (s.map (·.1)).Nodup
  hg : ∀ p ∈ s, p.2.hgt ≤ 90
  ln : (s.length : Int) ≤ n
theorem subOf_in {s : Sb} {i : Int} {t : Tm} (h : subOf s i = some t) : ∃ p ∈ s, p.2 = t := by
  unfold subOf at h
  rw [Option.map_eq_some_iff] at h
  obtain ⟨p, hp, e⟩ := h
  exact ⟨p, List.mem_of_find?_eq_some hp, e⟩
theorem SbOk.mono {n m : Int} {s : Sb} (h : SbOk n s) (hm : n ≤ m) : SbOk m s := ⟨h.nd, h.hg, Int.le_trans h.ln hm⟩
end
end
section
open PySem L2
structure NV (N : List Tm) (V : List Int) : Prop where
  clo : Clo N
  wd : ∀ u ∈ N, u.Wd 2
  vars : ∀ u ∈ N, ∀ x, u.has x → x ∈ V
  nl : N.length ≤ 90
  vl : V.length ≤ 50
structure UI (orig : List (Tm × Tm)) (N : List Tm) (V : List Int) (ws : List (Tm × Tm)) (f : List (Int × Tm)) : Prop where
  eqv : ∀ θ, Unif orig θ ↔ Unif ws θ ∧ Sat f θ
  nod : (f.map (·.1)).Nodup
  keyV : ∀ x ∈ f.map (·.1), x ∈ V
  ran : ∀ p ∈ f, ∀ x, p.2.has x → x ∈ V ∧ x ∉ f.map (·.1)
  wv : ∀ p ∈ ws, ∀ x, (p.1.has x ∨ p.2.has x) → x ∈ V ∧ x ∉ f.map (·.1)
  dag : ∀ p ∈ ws, (∃ u ∈ N, p.1 = u.put f) ∧ ∃ u ∈ N, p.2 = u.put f
  dg : Dg N f
  wd : ∀ p ∈ f, p.2.Wd 2
  pos : ∀ (i : Nat) (p : Tm × Tm), ws[i]? = some p → i + p.1.hgt ≤ 3 + N.length * (f.length + 1) ∧ i + p.2.hgt ≤ 3 + N.length * (f.length + 1)
section
variable {orig ws rest : List (Tm × Tm)} {N : List Tm} {V : List Int} {f : List (Int × Tm)} {a b t : Tm} {x : Int}
theorem UI.hgt (h : UI orig N V ws f) (hN : NV N V) {p : Tm × Tm} (hp : p ∈ ws) : p.1.hgt ≤ N.length ∧ p.2.hgt ≤ N.length := by
  obtain ⟨⟨u, hu, e1⟩, v, hv, e2⟩ := h.dag p hp
  rw [e1, e2]
  exact ⟨hgt_N hN.clo h.dg hu, hgt_N hN.clo h.dg hv⟩
theorem UI.wdW (h : UI orig N V ws f) (hN : NV N V) {p : Tm × Tm} (hp : p ∈ ws) : p.1.Wd 2 ∧ p.2.Wd 2 := by
  obtain ⟨⟨u, hu, e1⟩, v, hv, e2⟩ := h.dag p hp
  rw [e1, e2]
  exact ⟨(hN.wd u hu).put h.wd, (hN.wd v hv).put h.wd⟩
theorem UI.flen (h : UI orig N V ws f) : f.length ≤ V.length := by
  have := nodup_len (f.map (·.1)) V h.nod h.keyV
  rw [List.length_map] at this
  exact this
theorem UI.len (h : UI orig N V ws f) (hN : NV N V) : ws.length ≤ 5000 := by
  rcases Nat.eq_zero_or_pos ws.length with z | z
  · omega
  · have hl : ws.length - 1 < ws.length := by omega
    have h1 := (h.pos (ws.length - 1) _ (List.getElem?_eq_getElem hl)).1
    have h2 := h.flen
    have h3 := hN.vl
    have h4 : N.length * (f.length + 1) ≤ 90 * 51 := Nat.mul_le_mul hN.nl (by omega)
    omega
theorem UI.drop (h : UI orig N V (rest ++ [(t, t)]) f) : UI orig N V rest f :=
  ⟨fun θ => by rw [h.eqv θ, unif_app]; exact ⟨fun z => ⟨z.1.1, z.2⟩, fun z => ⟨⟨z.1, unif_one.mpr rfl⟩, z.2⟩⟩, h.nod, h.keyV, h.ran, fun p hp => h.wv p (List.mem_append_left _ hp), fun p hp => h.dag p (List.mem_append_left _ hp), h.dg, h.wd, fun i p hi => h.pos i p (by rw [List.getElem?_append_left (List.getElem?_eq_some_iff.mp hi).1]; exact hi)⟩
theorem stp_has {u : Tm} {y : Int} (h : (u.put (stp x t)).has y) : (u.has y ∧ y ≠ x) ∨ t.has y := by
  rw [put_sb, has_sb] at h
  obtain ⟨z, h1, h2⟩ := h
  rw [stp_at] at h2
  by_cases e : x = z
  · rw [if_pos e] at h2; exact .inr h2
  · rw [if_neg e, has_v] at h2
    subst h2
    exact .inl ⟨h1, fun q => e q.symm⟩
theorem bnd_keys : (bnd f x t).map (·.1) = f.map (·.1) ++ [x] := by
  unfold bnd
  rw [List.map_append, List.map_map]
  rfl
theorem bnd_len : (bnd f x t).length = f.length + 1 := by
  unfold bnd
  rw [List.length_append, List.length_map, List.length_singleton]
theorem UI.bind (hN : NV N V) (h : UI orig N V (rest ++ [(.v x, t)]) f) (hx : ¬ t.has x) : UI orig N V (ppW (stp x t) rest) (bnd f x t) := by
  have hlast : ((.v x, t) : Tm × Tm) ∈ rest ++ [(.v x, t)] := by simp
  have hxv := h.wv _ hlast x (.inl (has_v.mpr rfl))
  have htv : ∀ y, t.has y → y ∈ V ∧ y ∉ f.map (·.1) := fun y hy => h.wv _ hlast y (.inr hy)
  have htd : t.isV = true ∨ ∃ u ∈ N, u.isV = false ∧ t = u.put f := by
    obtain ⟨_, u, hu, e⟩ := h.dag _ hlast
    rw [show t = u.put f from e]
    exact dg_at h.dg hu
  have hdg := dg_bnd h.dg htd hx
  have hwt : t.Wd 2 := (h.wdW hN hlast).2
  have hwd : ∀ p ∈ bnd f x t, p.2.Wd 2 := fun p hp => by
    rcases List.mem_append.mp hp with hp | hp
    · obtain ⟨q, hq, rfl⟩ := List.mem_map.mp hp
      exact (h.wd q hq).put fun z hz => by rw [stp, List.mem_singleton] at hz; subst hz; exact hwt
    · rw [List.mem_singleton] at hp; subst hp; exact hwt
  have hnx : ∀ y, y ∉ f.map (·.1) → y ≠ x → y ∉ (bnd f x t).map (·.1) := fun y h1 h2 h3 => by
    rw [bnd_keys, List.mem_append, List.mem_singleton] at h3
    exact h3.elim h1 h2
  have hst : ∀ {u : Tm} {y : Int}, (∀ z, u.has z → z ∈ V ∧ z ∉ f.map (·.1)) → (u.put (stp x t)).has y → y ∈ V ∧ y ∉ (bnd f x t).map (·.1) := fun {u y} hu hy => by
    rcases stp_has hy with ⟨h1, h2⟩ | h1
    · exact ⟨(hu y h1).1, hnx y (hu y h1).2 h2⟩
    · exact ⟨(htv y h1).1, hnx y (htv y h1).2 fun e => hx (e ▸ h1)⟩
  refine ⟨fun θ => ?_, ?_, ?_, fun p hp y hy => ?_, fun p hp y hy => ?_, fun p hp => ?_, hdg, hwd, fun i p hi => ?_⟩
  · rw [h.eqv θ, unif_app, unif_one, sb_v, sat_bnd]
    constructor
    · rintro ⟨⟨h1, h2⟩, h3⟩
      exact ⟨(unif_stp h2).mpr h1, h3, h2⟩
    · rintro ⟨h1, h3, h2⟩
      exact ⟨⟨(unif_stp h2).mp h1, h2⟩, h3⟩
  · rw [bnd_keys, List.nodup_append]
    exact ⟨h.nod, by simp, fun y hy z hz e => by rw [List.mem_singleton] at hz; exact hxv.2 (by rw [← hz, ← e]; exact hy)⟩
  · intro y hy
    rw [bnd_keys, List.mem_append, List.mem_singleton] at hy
    rcases hy with hy | rfl
    · exact h.keyV y hy
    · exact hxv.1
  · rcases List.mem_append.mp hp with hp | hp
    · obtain ⟨q, hq, rfl⟩ := List.mem_map.mp hp
      exact hst (fun z hz => h.ran q hq z hz) hy
    · rw [List.mem_singleton] at hp; subst hp
      exact ⟨(htv y hy).1, hnx y (htv y hy).2 fun e => hx (e ▸ hy)⟩
  · obtain ⟨q, hq, rfl⟩ := List.mem_map.mp hp
    have hq' := List.mem_append_left [((.v x, t) : Tm × Tm)] hq
    rcases hy with hy | hy
    · exact hst (fun z hz => h.wv q hq' z (.inl hz)) hy
    · exact hst (fun z hz => h.wv q hq' z (.inr hz)) hy
  · obtain ⟨q, hq, rfl⟩ := List.mem_map.mp hp
    obtain ⟨⟨u, hu, e1⟩, v, hv, e2⟩ := h.dag q (List.mem_append_left _ hq)
    exact ⟨⟨u, hu, by show q.1.put (stp x t) = _; rw [e1, put_bnd]⟩, v, hv, by show q.2.put (stp x t) = _; rw [e2, put_bnd]⟩
  · have hi' := hi
    unfold ppW at hi'
    rw [List.getElem?_map] at hi'
    obtain ⟨q, hq, e⟩ := Option.map_eq_some_iff.mp hi'
    have hlt := (List.getElem?_eq_some_iff.mp hq).1
    have hpos := h.pos i q (by rw [List.getElem?_append_left hlt]; exact hq)
    have hqm := List.mem_append_left [((.v x, t) : Tm × Tm)] (List.mem_of_getElem? hq)
    obtain ⟨⟨u, hu, e1⟩, v, hv, e2⟩ := h.dag q hqm
    have b1 := hgt_N hN.clo hdg hu
    have b2 := hgt_N hN.clo hdg hv
    rw [← put_bnd, ← e1] at b1
    rw [← put_bnd, ← e2] at b2
    rw [← e, bnd_len]
    have : N.length * (f.length + 1 + 1) = N.length * (f.length + 1) + N.length := by rw [Nat.mul_add, Nat.mul_one]
    rw [this]
    show i + (q.1.put (stp x t)).hgt ≤ _ ∧ i + (q.2.put (stp x t)).hgt ≤ _
    omega
theorem UI.occ (h : UI orig N V (rest ++ [(.v x, t)]) f) (hx : t.has x) (hv : t.isV = false) : ∀ θ, ¬ Unif orig θ := fun θ hu => by
  have h1 := ((h.eqv θ).mp hu).1
  rw [unif_app, unif_one, sb_v] at h1
  exact sb_occ hx hv h1.2
end
end
section
open PySem L2
local macro_rules | `(tactic| walk_at "ev") => `(tactic| (simp only [mSeq, mSet, mRet, mIfS, mIf, mOp, mOpO, mC, mVar, mBool, mFn1, oD, oN, oS, fLen, lenO, seqO, mSkip, fAdd, fMul, fI, fI0, fLt, fLe, fGt, fGe, fSub, fMod, fDiv, fInt, ixF, mNil, mCons, mTup, mCall, mLst, mAlloc, mIsN, mNotN, isNon, mNotT, mAndT, mOrT, mTru, truD, mAsg, mgTup, mgCons, mgNil, mgN, mLisc, mIsI, tyO, isTyB, mDrop, mAug, fIadd, mMax2, mAnd, mOr, mNot, fLtT, fTupc, mApp, mulC_r, mulC_l, divC_r, modC_r, atI_0, atI_1, atI_2, fEq_int, fNe_int, fEq_bl, mSrc, srcO, eT_v, eT_ap, eS, List.length_cons, List.length_nil, Option.bind_some, Option.map_some, List.map_cons, List.map_nil, List.cons_append, List.nil_append, List.replicate, List.getElem?_cons_zero, List.getElem?_cons_succ, List.set_cons_zero, List.set_cons_succ, if_true, decide_true, Int.reduceNeg, Int.reducePow, Int.reduceLT, Nat.reduceAdd, Nat.reduceSub, and_self, Nat.reduceLeDiff, Bool.false_eq_true, if_false, Bool.not_true, Bool.not_false, Int.reduceEq, decide_false, Bool.or_false, Bool.false_or, Bool.or_true, Bool.true_or, Bool.and_true, Bool.true_and, Bool.and_false, Bool.false_and, String.reduceEq, *]))
local macro_rules | `(tactic| walk_at "step") => `(tactic| (refine (Eq.trans (seq_set (by ((try walk_at "ev"); exact rfl))) ?_); simp only [List.set_cons_zero, List.set_cons_succ]))
end
section
open PySem L2
def bindU (rest : List (Tm × Tm)) (f : Sb) (x : Int) (t : Tm) : Option (List (Tm × Tm) × Sb) := if 0 < t.occ x then none else some (ppW (stp x t) rest, bnd f x t)
/-- one turn -/
def stepU (rest : List (Tm × Tm)) (a b : Tm) (f : Sb) : Option (List (Tm × Tm) × Sb) :=
  if teq a b = true then some (rest, f) else
  match a, b with
  | .v x, t => bindU rest f x t
  | .ap a1 a2 a3 ts, .v y => bindU rest f y (.ap a1 a2 a3 ts)
  | .ap a1 a2 a3 ts, .ap b1 b2 b3 us => if (a1, a2, a3) = (b1, b2, b3) ∧ ts.length = us.length then some (rest ++ ts.zip us, f) else none
def nxU (ws : List (Tm × Tm)) (f : Sb) : Option (List (Tm × Tm) × Sb) := ws.getLast?.bind fun p => stepU ws.dropLast p.1 p.2 f
inductive Un : List (Tm × Tm) → Sb → Option Sb → Prop
  | nil {f : Sb} : Un [] f (some f)
  | go {ws ws' : List (Tm × Tm)} {f f' : Sb} {o : Option Sb} : nxU ws f = some (ws', f') → Un ws' f' o → Un ws f o
  | fail {ws : List (Tm × Tm)} {f : Sb} : ws ≠ [] → nxU ws f = none → Un ws f none
end
section
open PySem L2
/-- the size s with arity A -/
def SA (s A : Nat) : Prop := (s + 1) * 2 ^ A ≤ 2 * 3 ^ A
theorem SA.up {s A B : Nat} (h : SA s A) (hB : A ≤ B) : SA s B := by
  obtain ⟨e, rfl⟩ := Nat.exists_eq_add_of_le hB
  unfold SA at *
  rw [Nat.pow_add, Nat.pow_add, ← Nat.mul_assoc, ← Nat.mul_assoc]
  exact Nat.mul_le_mul h (Nat.pow_le_pow_left (by decide) e)
theorem SA.one {A : Nat} : SA 1 A := (show SA 1 0 from by unfold SA; decide).up (Nat.zero_le _)
end
section
open PySem L2
section
variable {w : Wt} (hw : WtOk w)
/-- no variables -/
def Tm.gr (t : Tm) : Prop := ∀ x, t.occ x = 0
end
end
section
open PySem L2
structure TG (H : Nat) (B : Int) (t : Tm) : Prop where
  t2 : T2 H B t
  gr : t.gr
theorem TG.mono {H H' : Nat} {B B' : Int} {t : Tm} (h : TG H B t) (h1 : H ≤ H') (h2 : B ≤ B') : TG H' B' t := ⟨h.t2.mono h1 h2, h.gr⟩
end
section
open PySem L2
section
variable {α : Type} (eqv gt : α → α → Bool)
/-- common elements removed: what is left of the first, of the second -/
def dif : List α → List α → List α → List α × List α
  | [], l, r => (l, r)
  | x :: xs, l, r => match r.findIdx? fun y => eqv y x with
    | none => dif xs (l ++ [x]) r
    | some i => dif xs l (r.eraseIdx i)
def more (xs ys : List α) : Bool := !(dif eqv xs [] ys).1.isEmpty && (dif eqv xs [] ys).2.all fun e => (dif eqv xs [] ys).1.any fun o => gt o e
variable {eqv gt}
end
theorem enumD_mapZ {α : Type} (e : α → D) : ∀ (xs : List α) (k : Nat), enumD k (xs.map e) = (xs.zipIdx k).map fun p => D.tup [.int (p.2 : Nat), e p.1]
  | [], k => rfl
  | x :: xs, k => by simp only [List.map_cons, enumD, List.zipIdx_cons, enumD_mapZ e xs (k + 1)]
end
section
open PySem L2
/-- the state at r was changed and cells laid behind -/
structure KTo (r : Nat) (S S' : Sto) : Prop where
  a : DSt r S
  b : DSt r S'
  e : ∃ c T, S' = S.set r c ++ T
section
variable {r : Nat} {S S1 S2 : Sto}
theorem KTo.of (h : DSt r S) (t : DTo r S S1) : KTo r S S1 := ⟨h, t.1, by
  obtain ⟨_, c, e⟩ := t
  exact ⟨c, [], by rw [List.append_nil]; exact e⟩⟩
theorem KTo.trans (h : KTo r S S1) (h' : KTo r S1 S2) : KTo r S S2 := ⟨h.a, h'.b, by
  obtain ⟨c, T, rfl⟩ := h.e
  obtain ⟨c', T', rfl⟩ := h'.e
  have hl := h.a.lt
  exact ⟨c', T ++ T', by rw [List.set_append_left _ _ (by simpa using hl), List.set_set, List.append_assoc]⟩⟩
theorem KTo.app (h : KTo r S S1) (T : Sto) : KTo r S (S1 ++ T) := ⟨h.a, h.b.app, by
  obtain ⟨c, T', rfl⟩ := h.e
  exact ⟨c, T' ++ T, by rw [List.append_assoc]⟩⟩
theorem KTo.get (h : KTo r S S1) {j : Nat} {c : Cell} (hj : j ≠ r) (hc : S[j]? = some c) : S1[j]? = some c := by
  obtain ⟨c', T, rfl⟩ := h.e
  exact old_get (by rw [List.getElem?_set_ne (fun z => hj z.symm)]; exact hc)
theorem KTo.upd (h : KTo r S S1) {j : Nat} {c c0 : Cell} (hj : S.length ≤ j) (hc : S1[j]? = some c0) (hb : ∀ rows : List Int, 0 < rows.length → c0 ≠ .lst (rows.map D.int)) : KTo r S (S1.set j c) := by
  obtain ⟨rr, a, b, rows, h0, h1, h2, h3⟩ := h.b
  have hr := h.a.lt
  refine ⟨h.a, ⟨rr, a, b, rows, h0, by rw [List.getElem?_set_ne (by omega)]; exact h1, by rw [List.getElem?_set_ne (fun z => by rw [← z, hc] at h2; exact hb rows h3.1 (Option.some.inj h2))]; exact h2, h3⟩, ?_⟩
  obtain ⟨c', T, rfl⟩ := h.e
  exact ⟨c', T.set (j - S.length) c, by rw [List.set_append_right _ _ (by simpa using hj)]; simp⟩
end
/-- the rows are no new cells -/
theorem DSt.rr {r : Nat} {S : Sto} (h : DSt r S) : ∃ rr a c, S[r]? = some (.lst [.int a, .ref rr, .int c]) ∧ rr < S.length := by
  obtain ⟨rr, a, c, rows, h0, h1, h2, h3⟩ := h
  exact ⟨rr, a, c, h1, (List.getElem?_eq_some_iff.mp h2).1⟩
theorem KOk.mk2 {a b c : Int} {ts : List Tm} (ha : 0 ≤ a ∧ a < 6) (h : ts.length ≤ 1000) (hs : ∀ t ∈ ts, KOk t) : KOk (.ap a b c ts) := .ap ⟨ha, h⟩ hs
structure Dr (d : Nat) (t : Tm) : Prop where
  k : KOk t
  h : t.hgt ≤ d
  w : t.Wd 2
theorem Dr.mono {d e : Nat} {t : Tm} (h : Dr d t) (hd : d ≤ e) : Dr e t := ⟨h.k, Nat.le_trans h.h hd, h.w⟩
theorem Dr.v {d : Nat} (i : Int) : Dr d (.v i) := ⟨.v trivial, by simp [Tm.hgt], .v i⟩
theorem Dr.ap {d : Nat} {a b c : Int} {ts : List Tm} (ha : 0 ≤ a ∧ a < 6) (hn : ts.length ≤ 2) (h : ∀ t ∈ ts, Dr d t) : Dr (d + 1) (.ap a b c ts) := ⟨.mk2 ha (by omega) fun t ht => (h t ht).k, by
  rw [hgt_ap]
  have := hgts_le (ts := ts) (n := d) fun t ht => (h t ht).h
  omega, .ap hn fun t ht => (h t ht).w⟩
theorem Dr.put {d m : Nat} {s : Sb} (hs : ∀ p ∈ s, Dr m p.2) {t : Tm} (h : Dr d t) : Dr (d + m) (t.put s) := by
  refine ⟨?_, Nat.le_trans (put_hgt (m := m) (fun p hp => (hs p hp).h) t) (by have := h.h; omega), h.w.put fun p hp => (hs p hp).w⟩
  obtain ⟨hk, _, _⟩ := h
  induction hk with
  | @v i _ =>
    simp only [Tm.put]
    cases e : subOf s i with
    | none => exact .v trivial
    | some u =>
      obtain ⟨p, hp, rfl⟩ := subOf_in e
      exact (hs p hp).k
  | ap h1 h2 ih =>
    rename_i hh hw
    rw [put_ap]
    refine .mk2 h1.1 (by rw [List.length_map]; exact h1.2) fun t ht => ?_
    obtain ⟨u, hu, rfl⟩ := List.mem_map.mp ht
    cases hw with
    | ap _ hw =>
      rw [hgt_ap] at hh
      have := hgts_mem hu
      exact ih u hu (by omega) (hw u hu)
/-- both sides -/
structure LD (d : Nat) (x : Lit) : Prop where
  l : Dr d x.l
  r : Dr d x.r
theorem LD.mono {d e : Nat} {x : Lit} (h : LD d x) (hd : d ≤ e) : LD e x := ⟨h.l.mono hd, h.r.mono hd⟩
theorem LD.put {d m : Nat} {s : Sb} (hs : ∀ p ∈ s, Dr m p.2) {x : Lit} (h : LD d x) : LD (d + m) (putL s x) := ⟨h.l.put hs, h.r.put hs⟩
abbrev CL := List Lit
def eC (c : CL) : D := .tup (c.map eL)
end
section
open PySem L2
theorem bdT_up : ∀ {n m : Nat}, n ≤ m → bdT n ≤ bdT m
  | 0, m, _ => bdT_pos m
  | n + 1, 0, h => by omega
  | n + 1, m + 1, h => by
    have := bdT_up (n := n) (m := m) (by omega)
    simp only [bdT]
    omega
theorem wd2_size {t : Tm} (h : t.Wd 2) : t.size ≤ bdT t.hgt := by
  induction h with
  | v i => simp [Tm.size, Tm.hgt, bdT]
  | @ap a b c ts h1 h2 ih =>
    rw [hgt_ap]
    simp only [Tm.size, bdT]
    match ts, h1, ih with
    | [], _, _ => have := bdT_pos (hgts []); simp [sizes]; omega
    | [t], _, ih =>
      have g1 := ih t (by simp)
      have l1 := bdT_up (hgts_mem (ts := [t]) (t := t) (by simp))
      have p := bdT_pos (hgts [t])
      simp only [sizes]
      omega
    | [t, u], _, ih =>
      have g1 := ih t (by simp)
      have g2 := ih u (by simp)
      have l1 := bdT_up (hgts_mem (ts := [t, u]) (t := t) (by simp))
      have l2 := bdT_up (hgts_mem (ts := [t, u]) (t := u) (by simp))
      simp only [sizes]
      omega
theorem Dr.size {d : Nat} {t : Tm} (h : Dr d t) (hd : d ≤ 20) : t.size ≤ 2097152 := by
  have h1 := wd2_size h.w
  have h2 := bdT_up (n := t.hgt) (m := 20) (by have := h.h; omega)
  have h3 : bdT 20 ≤ 2097152 := by decide
  omega
def sameL (x y : Lit) : Bool := decide (x.pos = y.pos) && sameS x y
def ndL (x : Lit) (rest : List Lit) : Bool := if (!x.pos && teq x.l x.r) = true then false else (rest.find? (sameL x)).isNone
def cln : List Lit → List Lit
  | [] => []
  | x :: r => if ndL x r = true then x :: cln r else cln r
def sI (b : Bool) : Int := if b then 1 else 0
def sdL (x : Lit) (b : Bool) : Tm := if b then x.r else x.l
def wiL (x : Lit) (b : Bool) (n : Tm) : Lit := if b then ⟨x.pos, x.l, n⟩ else ⟨x.pos, n, x.r⟩
inductive Stp where
  | given (a i : Nat)
  | clean (n : Nat)
  | inst (n : Nat) (s : Sb)
  | res (n : Nat) (s : Sb) (k : Nat)
  | fac (n : Nat) (s : Sb) (k : Nat) (b : Bool) (o : Nat) (b2 : Bool)
  | sup (n : Nat) (s : Sb) (k : Nat) (b : Bool) (pl : List Int) (n2 : Nat) (s2 : Sb) (j : Nat) (b2 : Bool)
abbrev st (x : String) : D := .str (Str.ofString x)
def lnB (L : List CL) (n : Nat) (s : Sb) : Option CL := (L[n]?).bind fun c => if s.all (fun p => p.2.ind') = true then some (c.map (putL s)) else none
def wo (c : CL) (i : Nat) : CL := c.take i ++ c.drop (i + 1)
def gRes (c : CL) (k : Nat) : Option CL := (c[k]?).bind fun x => if (x.pos || !teq x.l x.r) = true then none else some (wo c k)
def gFac (c : CL) (k : Nat) (b : Bool) (o : Nat) (b2 : Bool) : Option CL := (c[k]?).bind fun x => (c[o]?).bind fun y =>
  if (decide (k = o) || (!x.pos || !y.pos)) = true then none else if teq (sdL x b) (sdL y b2) = false then none else
  if (sdL x (!b)).isA = (sdL y (!b2)).isA then some (c.take k ++ [⟨false, sdL x (!b), sdL y (!b2)⟩] ++ c.drop (k + 1)) else none
def gSup (c o : CL) (k : Nat) (b : Bool) (pl : List Int) (j : Nat) (b2 : Bool) : Option CL := (c[k]?).bind fun x => (o[j]?).bind fun e =>
  if e.pos = false then none else if e.l.isA = e.r.isA then (atP (sdL x b) pl).bind fun t => if teq t (sdL e b2) = true then some (c.take k ++ [wiL x b (putP (sdL x b) pl (sdL e (!b2)))] ++ c.drop (k + 1) ++ wo o j) else none else none
def con0 (G : Nat → Option (List CL)) (L : List CL) : Stp → Option CL
  | .given a i => (G a).bind fun cs => cs[i]?
  | .clean n => (L[n]?).map cln
  | .inst n s => lnB L n s
  | .res n s k => (lnB L n s).bind fun c => gRes c k
  | .fac n s k b o b2 => (lnB L n s).bind fun c => gFac c k b o b2
  | .sup n s k b pl n2 s2 j b2 => (lnB L n s).bind fun c => (lnB L n2 s2).bind fun o => gSup c o k b pl j b2
def con (G : Nat → Option (List CL)) (L : List CL) (s : Stp) : Option CL := (con0 G L s).bind fun c => if c.all good = true then some c else none
end
section
open PySem L2
def sds (x : Lit) : List Tm := if x.pos = true then [x.l, x.r] else [x.l, x.l, x.r, x.r]
def gtL (w : Wt) (x y : Lit) : Bool := more teq (gt w) (sds x) (sds y)
section
variable {w : Wt}
abbrev Lit.gr (x : Lit) : Prop := x.l.gr ∧ x.r.gr
end
end
section
open PySem L2
/-- small terms, literals -/
structure OkT (n H : Nat) (t : Tm) : Prop where
  rk : t.rk ≤ n
  w : TmW H t
end
section
open PySem L2
def alone (xs : List Lit) (i : Nat) (y : Lit) : Bool := xs.zipIdx.all fun p => decide (p.2 = i) || !sameL p.1 y
def topL (w : Wt) (xs : List Lit) (y : Lit) : Bool := xs.all fun x => !gtL w x y
end
section
open PySem L2
theorem LD.sd {d : Nat} {x : Lit} (h : LD d x) (b : Bool) : Dr d (sdL x b) := by
  cases b
  · exact h.l
  · exact h.r
end
section
open PySem L2
structure TQ (n H : Nat) (B : Int) (t : Tm) : Prop where
  k : KOk t
  rk : t.rk ≤ n
  h : t.hgt ≤ H
  s : t.size ≤ B
theorem TQ.mono {n m H G : Nat} {B C : Int} {t : Tm} (h : TQ n H B t) (h1 : n ≤ m) (h2 : H ≤ G) (h3 : B ≤ C) : TQ m G C t := ⟨h.k, Nat.le_trans h.rk h1, Nat.le_trans h.h h2, Int.le_trans h.s h3⟩
theorem TQ.arg {n H : Nat} {B a b c : Int} {ts : List Tm} {u : Tm} (h : TQ n H B (.ap a b c ts)) (hm : u ∈ ts) : TQ n H B u := by
  obtain ⟨hk, h1, h2, h3⟩ := h
  cases hk with
  | ap _ hk =>
    have z1 := rks_mem hm
    have z2 := hgts_mem hm
    have z3 := size_mem hm
    rw [hgt_ap] at h2
    simp only [Tm.rk] at h1
    simp only [Tm.size] at h3
    exact ⟨hk u hm, by omega, by omega, by omega⟩
theorem TQ.at {n H : Nat} {B : Int} : ∀ (p : List Int) (t x : Tm), atP t p = some x → TQ n H B t → TQ n H B x
  | [], t, x, h, ht => by
    simp only [atP, Option.some.injEq] at h
    subst h
    exact ht
  | s :: p, t, x, h, ht => by
    obtain ⟨a, b, c, ts, u, rfl, h1, h2, h3⟩ := cases_at h
    exact TQ.at p u x h3 (ht.arg (List.mem_of_getElem? h2))
theorem kok_put {s : Sb} (hs : ∀ p ∈ s, KOk p.2) {t : Tm} (h : KOk t) : KOk (t.put s) := by
  induction h with
  | @v i _ =>
    simp only [Tm.put]
    cases e : subOf s i with
    | none => exact .v trivial
    | some u =>
      obtain ⟨p, hp, rfl⟩ := subOf_in e
      exact hs p hp
  | ap h1 h2 ih =>
    rw [put_ap]
    refine .mk2 h1.1 (by rw [List.length_map]; exact h1.2) fun t ht => ?_
    obtain ⟨u, hu, rfl⟩ := List.mem_map.mp ht
    exact ih u hu
theorem rk_put {m : Nat} {s : Sb} (hs : ∀ p ∈ s, p.2.rk ≤ m) (t : Tm) : (t.put s).rk ≤ t.rk + m := by
  induction t using Tm.ind with
  | hv i =>
    simp only [Tm.put]
    cases e : subOf s i with
    | none => simp [Tm.rk]
    | some u =>
      obtain ⟨p, hp, rfl⟩ := subOf_in e
      have := hs p hp
      simp only [Option.getD_some]; omega
  | ha a b c ts ih =>
    rw [put_ap]
    have := rks_le (ts := ts.map (Tm.put s)) (n := rks ts + m) fun x hx => by
      obtain ⟨y, hy, rfl⟩ := List.mem_map.mp hx
      have z1 := ih y hy
      have z2 := rks_mem hy
      omega
    simp only [Tm.rk, List.length_map]; omega
mutual
theorem size_putB {B : Int} {s : List (Int × Tm)} (hB : 1 ≤ B) (hs : ∀ p ∈ s, p.2.size ≤ B) : ∀ t : Tm, (t.put s).size ≤ B * t.size
  | .v i => by
    simp only [Tm.put, subOf, Tm.size, Int.mul_one]
    cases h : s.find? fun p => decide (p.1 = i) with
    | none => simpa [Tm.size] using hB
    | some p => exact hs p (List.mem_of_find?_eq_some h)
  | .ap a b c ts => by
    have := sizes_putB hB hs ts
    simp only [Tm.put, Tm.size, Int.mul_add, Int.mul_one]; omega
theorem sizes_putB {B : Int} {s : List (Int × Tm)} (hB : 1 ≤ B) (hs : ∀ p ∈ s, p.2.size ≤ B) : ∀ ts : List Tm, sizes (puts s ts) ≤ B * sizes ts
  | [] => by simp [puts, sizes]
  | t :: ts => by
    have h1 := size_putB hB hs t
    have h2 := sizes_putB hB hs ts
    simp only [puts, sizes, Int.mul_add]; omega
end
theorem TQ.put {n m H G : Nat} {B C : Int} {s : Sb} {t : Tm} (h : TQ n H B t) (hs : ∀ p ∈ s, TQ m G C p.2) (hC : 1 ≤ C) : TQ (n + m) (H + G) (C * B) (t.put s) := by
  refine ⟨kok_put (fun p hp => (hs p hp).k) h.k, ?_, ?_, ?_⟩
  · have := rk_put (m := m) (fun p hp => (hs p hp).rk) t
    have := h.rk
    omega
  · have := put_hgt (m := G) (fun p hp => (hs p hp).h) t
    have := h.h
    omega
  · exact Int.le_trans (size_putB hC (fun p hp => (hs p hp).s) t) (Int.mul_le_mul_of_nonneg_left h.s (by omega))
end
section
open PySem L2
section
variable {prog : Nat → Option Fb} (hp : ∀ j fb, lZl0[j]? = some fb → prog (0 + j) = some fb) (hp2 : ∀ j fb, lZl2[j]? = some fb → prog (2000 + j) = some fb) (hp9 : ∀ j fb, lZl9[j]? = some fb → prog (9000 + j) = some fb) {V : List Int}
include hp
/-- terms of the law: kinds, two arguments at most, heights, variables -/
structure TX (H : Nat) (V : List Int) (t : Tm) : Prop where
  w : t.Wd 2
  h : t.hgt ≤ H
  v : ∀ x, t.has x → x ∈ V
abbrev LX (H : Nat) (V : List Int) (x : Lit) : Prop := TX H V x.l ∧ TX H V x.r
include hp2
omit hp2
include hp9
end
end
section
open PySem L2
def nbo (cl : List Lit) (f g : Sb) : List Int := (f ++ g).foldl (fun o p => p.2.vars o) (cvs cl [])
def rens (f new : Sb) : Sb := f.map fun p => (p.1, p.2.put new)
def bec (c : List Lit) (s : Sb) (a : Int) : Sb := (cvs c []).map fun x => (x, (Tm.v (x + a)).put s)
/-- substitutions whose terms are within V -/
structure FX (H : Nat) (V : List Int) (f : Sb) : Prop where
  nd : (f.map (·.1)).Nodup
  ts : ∀ p ∈ f, TX H V p.2
abbrev cF9 (a1 a2 a3 a4 a5 a6 a7 a8 a9 : D) : List (Str × D) := [("kind", a1), ("clause", a2), ("literal", a3), ("side", a4), ("place", a5), ("other_literal", a6), ("other_side", a7), ("first", a8), ("second", a9)]
structure Con where
  kind : D
  cl : List Lit
  lit : D
  sd : D
  pl : D
  oth : D
  osd : D
  f : Sb
  g : Sb
def conD (v : Con) (ρ1 ρ2 : Nat) : List (Str × D) := cF9 v.kind (eC v.cl) v.lit v.sd v.pl v.oth v.osd (.ref ρ1) (.ref ρ2)
def ConI (U : Sto) (r : Nat) (v : Con) : Prop := ∃ ρ1 ρ2, U[r]? = some (.ins "Conclusion" (conD v ρ1 ρ2)) ∧ U[ρ1]? = some (.dK (eSub v.f)) ∧ U[ρ2]? = some (.dK (eSub v.g))
def conF (kind : D) (xs : List Lit) (lit sd pl oth osd : D) (f g : Sb) : Con := ⟨kind, xs.map (putL (rn (nbo xs f g))), lit, sd, pl, oth, osd, rens f (rn (nbo xs f g)), rens g (rn (nbo xs f g))⟩
section
variable {prog : Nat → Option Fb} (hp : ∀ j fb, lZl0[j]? = some fb → prog (0 + j) = some fb) (hp1 : ∀ j fb, lZl1[j]? = some fb → prog (1000 + j) = some fb) (hp2 : ∀ j fb, lZl2[j]? = some fb → prog (2000 + j) = some fb) (hp9 : ∀ j fb, lZl9[j]? = some fb → prog (9000 + j) = some fb) {V : List Int} {S : Sto} {H k : Nat}
include hp hp2 hp9
omit hp2
include hp1
include hp2
omit hp hp1 hp2 hp9 in
theorem TX.wd {t : Tm} (h : TX H V t) : t.Wd 1000 := Wd.mono (by decide) h.w
end
end
section
open PySem L2
/-- a list that tells a conclusion -/
def DueI (L : Nat) (U : Sto) (q : Nat) (pre : List D) (cl : List Lit) (f g : Sb) : Prop := ∃ r1 r2, (L ≤ r1 ∧ L ≤ r2) ∧ U[q]? = some (.lst (pre ++ [eC cl, .ref r1, .ref r2])) ∧ U[r1]? = some (.lst (f.map ePr)) ∧ U[r2]? = some (.lst (g.map ePr))
theorem DueI.set {L : Nat} {U : Sto} {q n : Nat} {c : Cell} {pre : List D} {cl : List Lit} {f g : Sb} (h : DueI L U q pre cl f g) (hn : n < L) (hq : L ≤ q) : DueI L (U.set n c) q pre cl f g := by
  obtain ⟨a, b, h0, h1, h2, h3⟩ := h
  exact ⟨a, b, h0, by rw [List.getElem?_set_ne (by omega)]; exact h1, by rw [List.getElem?_set_ne (by omega)]; exact h2, by rw [List.getElem?_set_ne (by omega)]; exact h3⟩
end
section
open PySem L2
inductive J | an | o | im | ii
deriving DecidableEq
def J.s : J → Str
  | .an => Str.ofString "and"
  | .o => Str.ofString "or"
  | .im => Str.ofString "implies"
  | .ii => Str.ofString "iff"
def quS : Bool → Str
  | true => Str.ofString "all"
  | false => Str.ofString "some"
inductive Fm where
  | pr (t : Tm) | eq (l r : Tm) | no (f : Fm) | jn (j : J) (f g : Fm) | qu (a : Bool) (v : Int) (f : Fm)
def eF : Fm → D
  | .pr t => .tup [.str (Str.ofString "atom"), eT t]
  | .eq l r => .tup [.str (Str.ofString "equal"), eT l, eT r]
  | .no f => .tup [.str (Str.ofString "not"), eF f]
  | .jn j f g => .tup [.str j.s, eF f, eF g]
  | .qu a v f => .tup [.str (quS a), .int v, eF f]
def Fm.ht : Fm → Nat
  | .pr _ => 0
  | .eq _ _ => 0
  | .no f => f.ht + 1
  | .jn _ f g => max f.ht g.ht + 1
  | .qu _ _ f => f.ht + 1
/-- terms of height H, of few arguments, over V -/
structure TV (H : Nat) (V : List Int) (t : Tm) : Prop where
  w : t.Wd 1000
  h : t.hgt ≤ H
  v : ∀ x, t.has x → x ∈ V
def Fm.In (H : Nat) (V : List Int) : Fm → Prop
  | .pr t => TV H V t
  | .eq l r => TV H V l ∧ TV H V r
  | .no f => f.In H V
  | .jn _ f g => f.In H V ∧ g.In H V
  | .qu _ v f => v ∈ V ∧ f.In H V
section
variable {S : Sto} {l : Lo} {Q : D → Sto → Prop}
theorem wf_eqSf {a b : Str} (h : decide (a = b) = false) (q : Q (.bl false) S) : wp (fEqS (.str a) (.str b) S) Q := ⟨_, _, by simp only [fEqS, h], q⟩
theorem wf_eqSt {a b : Str} (h : decide (a = b) = true) (q : Q (.bl true) S) : wp (fEqS (.str a) (.str b) S) Q := ⟨_, _, by simp only [fEqS, h], q⟩
abbrev JW : List Str := [Str.ofString "and", Str.ofString "or", Str.ofString "implies", Str.ofString "iff"]
theorem fIn_J {a : Str} (h : stS a = true) : fIn (.d (.str a)) (.d k_JOINTS) S = some (.bl (decide (a ∈ JW)), S) := by
  have h1 : ∀ (n : Nat) (ws : List Str), (∀ q ∈ ws, stS q = true) → allS (snap (n + 1) S) (ws.map D.str) = some (ws.map PyData.str) := fun n ws => by
    induction ws with
    | nil => intro _; rfl
    | cons x ws ih =>
      intro h
      rw [List.map_cons, List.map_cons, allS, snap_str (h x (by simp)), ih fun q hq => h q (List.mem_cons_of_mem _ hq)]
      rfl
  have h2 : ∀ ws : List Str, ((ws.map PyData.str).any fun z => PyData.eqv z (.str a)) = decide (a ∈ ws) := fun ws => by
    induction ws with
    | nil => simp
    | cons x ws ih =>
      rw [List.map_cons, List.any_cons, ih, eqv_str]
      by_cases h : x = a
      · subst h; simp
      · have h' : ¬a = x := fun e => h e.symm
        simp [h, h']
  have e : snapO S (.d k_JOINTS) = some (.tuple (JW.map PyData.str)) := by
    show (allS (snap 189 S) (JW.map D.str)).bind _ = _
    rw [h1 188 JW (by decide +kernel)]
    rfl
  show ((snap 190 S (.str a)).bind fun a => (snapO S (.d k_JOINTS)).bind fun q => (itemsP q).bind fun qs => some (D.bl (qs.any fun z => PyData.eqv z a), S)) = _
  rw [snap_str h, e]
  show some (D.bl ((JW.map PyData.str).any fun z => PyData.eqv z (.str a)), S) = _
  rw [h2]
theorem wf_inJf {a : Str} (h : (stS a && !decide (a ∈ JW)) = true) (q : Q (.bl false) S) : wp (fIn (.d (.str a)) (.d k_JOINTS) S) Q := by
  simp only [Bool.and_eq_true, Bool.not_eq_true'] at h
  exact ⟨_, _, by rw [fIn_J h.1, h.2], q⟩
theorem wf_inJt {a : Str} (h : (stS a && decide (a ∈ JW)) = true) (q : Q (.bl true) S) : wp (fIn (.d (.str a)) (.d k_JOINTS) S) Q := by
  simp only [Bool.and_eq_true] at h
  exact ⟨_, _, by rw [fIn_J h.1, h.2], q⟩
end
end
section
open PySem L2
local macro_rules | `(tactic| walk_at "h2") => `(tactic| first
  | walk_at "g2"
  | ((with_reducible apply wf_eqSf); (focus (decide +kernel)))
  | ((with_reducible apply wf_eqSt); (focus (decide +kernel)))
  | ((with_reducible apply wf_inJf); (focus (decide +kernel)))
  | ((with_reducible apply wf_inJt); (focus (decide +kernel))))
local macro_rules | `(tactic| walk_at "ho") => `(tactic| repeat' (walk_at "h2"))
def addF (b f : List Int) (v : Int) : List Int := if v ∈ b ∨ v ∈ f then f else f ++ [v]
def fvT (b f : List Int) (t : Tm) : List Int := (t.vars []).foldl (addF b) f
def fv : Fm → List Int → List Int → List Int
  | .pr t, b, f => fvT b f t
  | .eq l r, b, f => fvT b (fvT b f l) r
  | .no x, b, f => fv x b f
  | .jn _ x y, b, f => fv y b (fv x b f)
  | .qu _ v x, b, f => fv x (b ++ [v]) f
section
variable {prog : Nat → Option Fb} (hp : ∀ j fb, lZl0[j]? = some fb → prog (0 + j) = some fb) (hp11 : ∀ j fb, lZl11[j]? = some fb → prog (11000 + j) = some fb) {V : List Int} {H : Nat}
include hp
include hp11
/-- what a call that grows the list at rf leaves -/
def Grew (S S' : Sto) (rf : Nat) (f : List Int) : Prop := ∃ T, S' = S.set rf (.lst (f.map D.int)) ++ T
omit hp hp11 in
theorem Grew.at {S S' : Sto} {rf : Nat} {f : List Int} (hlt : rf < S.length) (h : Grew S S' rf f) : S'[rf]? = some (.lst (f.map D.int)) := by
  obtain ⟨T, rfl⟩ := h
  exact old_get (List.getElem?_set_self hlt)
omit hp hp11 in
theorem Grew.oth {S S' : Sto} {rf i : Nat} {f : List Int} {c : Cell} (hi : S[i]? = some c) (hne : i ≠ rf) (h : Grew S S' rf f) : S'[i]? = some c := by
  obtain ⟨T, rfl⟩ := h
  exact old_get (by rw [List.getElem?_set_ne (Ne.symm hne)]; exact hi)
omit hp hp11 in
theorem Grew.app {S S1 T : Sto} {rf : Nat} {f : List Int} (h : Grew S S1 rf f) : Grew S (S1 ++ T) rf f := by
  obtain ⟨T1, rfl⟩ := h
  exact ⟨T1 ++ T, by rw [List.append_assoc]⟩
omit hp hp11 in
theorem Grew.set {S S1 : Sto} {rf : Nat} {f g : List Int} (hlt : rf < S.length) (h : Grew S S1 rf f) : Grew S (S1.set rf (.lst (g.map D.int))) rf g := by
  obtain ⟨T1, rfl⟩ := h
  exact ⟨T1, by rw [List.set_append_left _ _ (by simpa using hlt), List.set_set]⟩
omit hp hp11 in
theorem Grew.len {S S1 : Sto} {rf : Nat} {f : List Int} (h : Grew S S1 rf f) : S.length ≤ S1.length := by
  obtain ⟨T1, rfl⟩ := h
  simp
end
end
section
open PySem L2
local macro_rules | `(tactic| walk_at "h2") => `(tactic| first
  | walk_at "g2"
  | ((with_reducible apply wf_eqSf); (focus (decide +kernel)))
  | ((with_reducible apply wf_eqSt); (focus (decide +kernel)))
  | ((with_reducible apply wf_inJf); (focus (decide +kernel)))
  | ((with_reducible apply wf_inJt); (focus (decide +kernel))))
local macro_rules | `(tactic| walk_at "ho") => `(tactic| repeat' (walk_at "h2"))
/-- all but the cells A stay -/
structure Fr (A : List Nat) (S S' : Sto) : Prop where
  len : S.length ≤ S'.length
  keep : ∀ i, i < S.length → i ∉ A → S'[i]? = S[i]?
theorem Fr.trans {A : List Nat} {S S1 S2 : Sto} (a : Fr A S S1) (b : Fr A S1 S2) : Fr A S S2 := ⟨Nat.le_trans a.len b.len, fun i h n => (b.keep i (Nat.lt_of_lt_of_le h a.len) n).trans (a.keep i h n)⟩
theorem Fr.app {A : List Nat} {S T : Sto} : Fr A S (S ++ T) := ⟨by simp, fun i h _ => List.getElem?_append_left h⟩
theorem Fr.set {A : List Nat} {S : Sto} {n : Nat} {c : Cell} (h : n ∈ A) : Fr A S (S.set n c) := ⟨by simp, fun i _ hi => List.getElem?_set_ne fun (e : n = i) => hi (e ▸ h)⟩
theorem Fr.mono {A B : List Nat} {S S' : Sto} (a : Fr A S S') (h : ∀ i, i < S.length → i ∈ A → i ∈ B) : Fr B S S' := ⟨a.len, fun i hi hn => a.keep i hi fun z => hn (h i hi z)⟩
theorem Fr.ext {S S' : Sto} (a : Fr [] S S') : ∃ T, S' = S ++ T := by
  refine ⟨S'.drop S.length, ?_⟩
  have : S'.take S.length = S := by
    refine List.ext_getElem? fun i => ?_
    by_cases h : i < S.length
    · rw [List.getElem?_take_of_lt h, a.keep i h (by simp)]
    · rw [List.getElem?_eq_none (by rw [List.length_take]; omega), List.getElem?_eq_none (by omega)]
  have h2 := List.take_append_drop S.length S'
  rw [this] at h2
  exact h2.symm
theorem Fr.get {A : List Nat} {S S' : Sto} (a : Fr A S S') {i : Nat} {c : Cell} (h : S[i]? = some c) (hn : i ∉ A) : S'[i]? = some c := by
  rw [a.keep i (List.getElem?_eq_some_iff.mp h).1 hn]
  exact h
def atF (num c : Int) (fr : List Int) : Fm := .pr (.ap 4 num c (fr.map .v))
def nmD (num c : Int) (e : Nat) : List (Str × D) := [("number", .int num), ("count", .int c), ("extra", .ref e)]
structure NmI (S : Sto) (n e : Nat) (num c : Int) (xs : List Fm) : Prop where
  i : S[n]? = some (.ins "Namer" (nmD num c e))
  l : S[e]? = some (.lst (xs.map eF))
theorem NmI.app {S T : Sto} {n e : Nat} {num c : Int} {xs : List Fm} (h : NmI S n e num c xs) : NmI (S ++ T) n e num c xs := ⟨old_get h.i, old_get h.l⟩
theorem NmI.lt {S : Sto} {n e : Nat} {num c : Int} {xs : List Fm} (h : NmI S n e num c xs) : n < S.length ∧ e < S.length := ⟨(List.getElem?_eq_some_iff.mp h.i).1, (List.getElem?_eq_some_iff.mp h.l).1⟩
section
variable {prog : Nat → Option Fb} (hp : ∀ j fb, lZl0[j]? = some fb → prog (0 + j) = some fb) (hp11 : ∀ j fb, lZl11[j]? = some fb → prog (11000 + j) = some fb) {V : List Int} {H : Nat}
include hp11
theorem r_pname (a b : Int) (k : Nat) (S : Sto) : run prog (k + 1) 11005 [.int a, .int b] S = some (eS 4 a b, S) := by
  refine run_pure (hp11 5 _ rfl) rfl (by simp [eS, refLt, refLtL]) ?_
  show wp (c_part_name (run prog k) [some (.int a), some (.int b)] S) _
  unfold c_part_name
  walk_at "go2"
include hp
end
/-- the variables that are not bound are among sc -/
def Fm.cl : List Int → Fm → Prop
  | sc, .pr t => ∀ y, t.has y → y ∈ sc
  | sc, .eq l r => (∀ y, l.has y → y ∈ sc) ∧ ∀ y, r.has y → y ∈ sc
  | sc, .no x => x.cl sc
  | sc, .jn _ x y => x.cl sc ∧ y.cl sc
  | sc, .qu _ v x => x.cl (sc ++ [v])
def Fm.sz : Fm → Nat
  | .pr _ => 1
  | .eq _ _ => 1
  | .no x => x.sz + 1
  | .jn _ x y => x.sz + y.sz + 1
  | .qu _ _ x => x.sz + 1
section
variable {V : List Int} {H : Nat}
theorem atF_in (hH : 1 ≤ H) {num c : Int} {fr : List Int} (hl : fr.length ≤ 1000) (h : ∀ y ∈ fr, y ∈ V) : (atF num c fr).In H V := by
  refine ⟨.ap (by rw [List.length_map]; exact hl) fun t ht => ?_, ?_, fun y hy => ?_⟩
  · obtain ⟨i, _, rfl⟩ := List.mem_map.mp ht
    exact .v i
  · rw [hgt_ap]
    have := hgts_le (ts := fr.map Tm.v) (n := 0) fun t ht => by
      obtain ⟨i, _, rfl⟩ := List.mem_map.mp ht
      simp [Tm.hgt]
    omega
  · obtain ⟨u, hu, z⟩ := has_ap.mp hy
    obtain ⟨i, hi, rfl⟩ := List.mem_map.mp hu
    rw [← has_v.mp z]
    exact h i hi
/-- what naming leaves: the formula, no higher, and the new ones -/
structure TrB (H : Nat) (V sc : List Int) (num : Int) (x : Fm) (xs : List Fm) (r : Fm × Int × List Fm) (h m u : Nat) : Prop where
  i : r.1.In H V
  c : r.1.cl sc
  hh : r.1.ht ≤ x.ht
  s : r.1.sz ≤ x.sz
  l : r.2.2.length ≤ xs.length + m
  n : ∀ y ∈ r.2.2, y ∈ xs ∨ (y.In H V ∧ y.ht ≤ h ∧ y.sz ≤ u)
theorem TrB.mono {sc : List Int} {num : Int} {x : Fm} {xs : List Fm} {r : Fm × Int × List Fm} {h m u h' m' u' : Nat} (b : TrB H V sc num x xs r h m u) (hh : h ≤ h') (hm : m ≤ m') (hu : u ≤ u') : TrB H V sc num x xs r h' m' u' :=
  ⟨b.i, b.c, b.hh, b.s, Nat.le_trans b.l (Nat.add_le_add_left hm _), fun y hy => (b.n y hy).imp id fun ⟨a1, a2, a3⟩ => ⟨a1, Nat.le_trans a2 hh, Nat.le_trans a3 hu⟩⟩
end
end
section
open PySem L2
def V6 : List Int := [0, 1, 2, 3, 4, 5]
structure TM (B : Int) (t : Tm) : Prop where
  k : KOk t
  w : t.Wd 2
  h : t.hgt ≤ 4
  s : t.size ≤ B
  v : ∀ x, t.has x → x ∈ V6
abbrev LM (B : Int) (x : Lit) : Prop := ∀ b, TM B (sdL x b)
theorem TM.mono {B C : Int} {t : Tm} (h : TM B t) (hB : B ≤ C) : TM C t := ⟨h.k, h.w, h.h, Int.le_trans h.s hB, h.v⟩
structure SU (s : Sb) : Prop where
  nd : (s.map (·.1)).Nodup
  ln : s.length ≤ 6
  ts : ∀ p ∈ s, TX 22 V6 p.2
  sz : ∀ p ∈ s, p.2.size ≤ 6649
theorem has_put {s : Sb} {y : Int} (t : Tm) : (t.put s).has y → t.has y ∨ ∃ p ∈ s, p.2.has y := by
  induction t using Tm.ind with
  | hv i =>
    simp only [Tm.put, subOf]
    cases h : s.find? fun p => decide (p.1 = i) with
    | none => exact .inl
    | some p => exact fun z => .inr ⟨p, List.mem_of_find?_eq_some h, z⟩
  | ha a b c ts ih =>
    rw [put_ap]
    intro h
    obtain ⟨u, hu, z⟩ := has_ap.mp h
    obtain ⟨t, ht, rfl⟩ := List.mem_map.mp hu
    exact (ih t ht z).imp (fun q => has_ap.mpr ⟨t, ht, q⟩) id
theorem TX.mono {H G : Nat} {V : List Int} {t : Tm} (h : TX H V t) (hH : H ≤ G) : TX G V t := ⟨h.w, Nat.le_trans h.h hH, h.v⟩
theorem TX.put {H G : Nat} {V : List Int} {t : Tm} {s : Sb} (h : TX H V t) (hs : ∀ p ∈ s, TX G V p.2) : TX (H + G) V (t.put s) :=
  ⟨h.w.put fun p hp => (hs p hp).w, Nat.le_trans (put_hgt (fun p hp => (hs p hp).h) t) (by have := h.h; omega), fun x hx => (has_put t hx).elim (h.v x) fun ⟨p, hp, z⟩ => (hs p hp).v x z⟩
theorem TM.tx {B : Int} {t : Tm} (h : TM B t) : TX 4 V6 t := ⟨h.w, h.h, h.v⟩
theorem SU.tx {s : Sb} (hs : SU s) {B : Int} {t : Tm} (h : TM B t) : TX 26 V6 (t.put s) := h.tx.put hs.ts
theorem SU.ok {s : Sb} (hs : SU s) {t : Tm} (h : TM 15 t) : OkT 78 26 (t.put s) := by
  have z := hs.tx h
  have z1 := rk_hgt z.w
  have z2 := z.h
  have z3 := size_putB (B := 6649) (by decide) hs.sz t
  have z4 := h.s
  exact ⟨by omega, z2, by omega⟩
open Classical in
noncomputable def unF (a b : Tm) : Option Sb := if h : ∃ f, Un [(a, b)] [] (some f) then some (Classical.choose h) else none
section
variable {prog : Nat → Option Fb} {nm : NM} (hp : ∀ j fb, lZl0[j]? = some fb → prog (0 + j) = some fb) (hp1 : ∀ j fb, lZl1[j]? = some fb → prog (1000 + j) = some fb) (hp2 : ∀ j fb, lZl2[j]? = some fb → prog (2000 + j) = some fb) (hp5 : ∀ j fb, lZl5[j]? = some fb → prog (5000 + j) = some fb)
  (hp6 : ∀ j fb, (lZl6 nm)[j]? = some fb → prog (6000 + j) = some fb) (hp7 : ∀ j fb, lZl7[j]? = some fb → prog (7000 + j) = some fb) (hp9 : ∀ j fb, lZl9[j]? = some fb → prog (9000 + j) = some fb) {k : Nat} {S : Sto} {Q : D → Sto → Prop} {w : Wt} {r ρ : Nat} {s : Sb}
include hp hp1 hp2 hp5
omit hp5
def actB (w : Wt) (sel : Option Nat) (ws : List Lit) (i : Nat) (y : Lit) : Bool := match sel with
  | some j => decide ((j : Int) = i)
  | none => topL w ws y
def ledB (w : Wt) (o t : Tm) : Bool := !teq o t && !gt w t o
include hp6 hp9
include hp7
omit hp6 hp7
include hp7
end
end
section
open PySem L2
abbrev Sp := (Lit × Nat) × Bool × (List Int × Tm)
abbrev Ld := (Lit × Nat) × Bool
def spX (p : Lit × Nat) (s : Bool) : List Sp := ((plc (sdL p.1 s)).filter fun q => !q.2.isV).map fun q => (p, s, q)
def spK (p : Lit × Nat) : List Sp := [false, true].flatMap (spX p)
def spotsL (c : List Lit) : List Sp := c.zipIdx.flatMap spK
def ldK (p : Lit × Nat) : List Ld := if p.1.pos = true then [(p, false), (p, true)] else []
def leadsL (c : List Lit) : List Ld := c.zipIdx.flatMap ldK
section
variable {prog : Nat → Option Fb} (hp : ∀ j fb, lZl0[j]? = some fb → prog (0 + j) = some fb) (hp2 : ∀ j fb, lZl2[j]? = some fb → prog (2000 + j) = some fb) (hp9 : ∀ j fb, lZl9[j]? = some fb → prog (9000 + j) = some fb) {k : Nat} {S : Sto}
include hp hp9
omit hp hp9 in
theorem ok_has {P : Int → Prop} {Q : Int → Int → Int → Nat → Prop} {t : Tm} (h : Tm.Ok P Q t) {x : Int} : t.has x → P x := by
  induction h with
  | v hp => intro z; rw [has_v] at z; exact z ▸ hp
  | ap _ _ ih =>
    intro z
    obtain ⟨u, hu, z⟩ := has_ap.mp z
    exact ih u hu z
/-- drawn literals -/
structure LO (B : Int) (x : Lit) : Prop where
  m : LM B x
  v : ∀ b y, (sdL x b).has y → 0 ≤ y ∧ y < 3
  o : ∀ b, OkV (sdL x b)
omit hp hp9 in
theorem LO.of {H : Nat} {B : Int} {x : Lit} (hH : H ≤ 4) (h : LQ H B x) : LO B x := by
  have hv : ∀ b y, (sdL x b).has y → 0 ≤ y ∧ y < 3 := fun b y z => by
    cases b
    · exact ok_has h.ol z
    · exact ok_has h.or z
  refine ⟨fun b => ?_, hv, fun b => by
    cases b
    · exact h.ol
    · exact h.or⟩
  have hv6 : ∀ y, (sdL x b).has y → y ∈ V6 := fun y z => by
    have := hv b y z
    have h3 : y = 0 ∨ y = 1 ∨ y = 2 := by omega
    rcases h3 with rfl | rfl | rfl <;> simp [V6]
  cases b
  · exact ⟨h.kl, h.ol.wd, Nat.le_trans h.hl hH, h.sl, hv6⟩
  · exact ⟨h.kr, h.or.wd, Nat.le_trans h.hr hH, h.sr, hv6⟩
omit hp hp9 in
theorem LO.mono {B C : Int} {x : Lit} (h : LO B x) (hB : B ≤ C) : LO C x := ⟨fun b => (h.m b).mono hB, h.v, h.o⟩
theorem r_clauseO {d m : Nat} {B : Int} (hB : bdT (d + 1) ≤ B) (hd : d ≤ 2) (hm : m ≤ 4) {row : Int} (hrow : 0 ≤ row) (S : Sto) : ∃ xs : List Lit, xs.length ≤ 2 * m ∧ (∀ x ∈ xs, LO B x) ∧ run prog (k + 7) 38 [.int row, .int m, .int d] S = some (.tup (xs.map eL), S) := by
  obtain ⟨xs, h1, h2, h3⟩ := r_clause2 hp (k := k + 2) (d := d) (m := m) (by omega) (by omega) hrow S
  exact ⟨xs, h1, fun x hx => (LO.of (by omega) (h2 x hx)).mono hB, h3⟩
def shS (f : List Int) (a : Int) : Sb := f.map fun x => (x, .v (x + a))
omit hp hp9 in
theorem cvs_O {B : Int} {c : List Lit} (h : ∀ x ∈ c, LO B x) : ∀ y ∈ cvs c [], 0 ≤ y ∧ y < 3 := fun y hy => by
  rcases (mem_cvs c []).mp hy with z | ⟨x, hx, z⟩
  · cases z
  · exact z.elim ((h x hx).v false y) ((h x hx).v true y)
def amt (f : List Int) : Int := match f with
  | [] => 0
  | n :: r => maxI n r + 1
omit hp hp9 in
theorem amt_le {f : List Int} (h : ∀ y ∈ f, 0 ≤ y ∧ y < 3) : 0 ≤ amt f ∧ amt f ≤ 3 := by
  cases f with
  | nil => simp [amt]
  | cons n r =>
    obtain ⟨h1, h2, h3⟩ := maxI_ge r n
    have q : maxI n r ∈ n :: r := h3.elim (fun z => by rw [z]; simp) fun z => List.mem_cons_of_mem _ z
    have := h _ q
    simp only [amt]
    omega
def movC (d : List Lit) (a : Int) : List Lit := d.map (putL (shS (cvs d []) a))
end
end
section
open PySem L2
/-- small, or without variables -/
def UnB (t u : Tm) : Prop := t.size + u.size ≤ 22 ∨ (t.gr ∧ u.gr)
end
section
open PySem L2
def whC (c : List Lit) (i : Nat) (z : Lit) (md : List Lit) (j : Nat) : List Lit := c.take i ++ [z] ++ c.drop (i + 1) ++ md.take j ++ md.drop (j + 1)
structure SP where
  w : Wt
  c : List Lit
  selc : Option Nat
  d : List Lit
  seld : Option Nat
def SP.am (P : SP) : Int := amt (cvs P.c [])
def SP.md (P : SP) : List Lit := movC P.d P.am
def SP.okB (P : SP) (a : Sp) (b : Ld) (σ : Sb) : Bool :=
  actB P.w P.selc (P.c.map (putL σ)) a.1.2 (putL σ a.1.1) && (ledB P.w ((sdL a.1.1 a.2.1).put σ) ((sdL a.1.1 (!a.2.1)).put σ) &&
    ((P.seld.isNone && b.1.1.pos && (alone (P.md.map (putL σ)) b.1.2 (putL σ b.1.1) && topL P.w (P.md.map (putL σ)) (putL σ b.1.1))) && ledB P.w ((sdL b.1.1 b.2).put σ) ((sdL b.1.1 (!b.2)).put σ)))
def SP.wh (P : SP) (a : Sp) (b : Ld) : List Lit := whC P.c a.1.2 (wiL a.1.1 a.2.1 (putP (sdL a.1.1 a.2.1) a.2.2.1 (sdL b.1.1 (!b.2)))) P.md b.1.2
def SP.con (P : SP) (a : Sp) (b : Ld) (σ : Sb) : Con := conF (.str (Str.ofString "superposition")) ((P.wh a b).map (putL σ)) (.int (a.1.2 : Nat)) (.int (sI a.2.1)) (eP a.2.2.1) (.int (b.1.2 : Nat)) (.int (sI b.2)) (bec P.c σ 0) (bec P.d σ P.am)
noncomputable def SP.one (P : SP) (a : Sp) (b : Ld) : Option Con := if a.2.2.2.isA = (sdL b.1.1 b.2).isA then (unF a.2.2.2 (sdL b.1.1 b.2)).bind fun σ => if P.okB a b σ = true then some (P.con a b σ) else none else none
noncomputable def SP.all (P : SP) : List Con := (spotsL P.c).flatMap fun a => (leadsL P.md).filterMap (P.one a)
/-- spots and leads of the superposer -/
structure SP.At (P : SP) (a : Sp) : Prop where
  g : P.c[a.1.2]? = some a.1.1
  p : a.2.2 ∈ plc (sdL a.1.1 a.2.1)
  v : a.2.2.2.isV = false
structure SP.Le (P : SP) (b : Ld) : Prop where
  g : P.md[b.1.2]? = some b.1.1
  p : b.1.1.pos = true
structure SP.Ok (P : SP) : Prop where
  cn : P.c.length ≤ 6
  dn : P.d.length ≤ 6
  co : ∀ x ∈ P.c, LO 15 x
  dO : ∀ x ∈ P.d, LO 15 x
  un : ∀ a b, P.At a → P.Le b → UnB a.2.2.2 (sdL b.1.1 b.2)
theorem SP.Ok.am {P : SP} (h : P.Ok) : 0 ≤ P.am ∧ P.am ≤ 3 := amt_le (cvs_O h.co)
theorem TM.sub {B : Int} {t : Tm} (h : TM B t) {q : List Int × Tm} (hq : q ∈ plc t) : TM B q.2 := by
  have go : ∀ (p : List Int) (t x : Tm), atP t p = some x → TM B t → TM B x := by
    intro p
    induction p with
    | nil =>
      intro t x h ht
      simp only [atP, Option.some.injEq] at h
      exact h ▸ ht
    | cons s p ih =>
      intro t x h ht
      obtain ⟨a, b, c, ts, u, rfl, hs, h1, h2⟩ := cases_at h
      have hu : u ∈ ts := List.mem_of_getElem? h1
      have hw := ht.w
      have hk := ht.k
      have hh := ht.h
      have hs := ht.s
      rw [hgt_ap] at hh
      have z1 := hgts_mem hu
      have z2 := size_mem hu
      simp only [Tm.size] at hs
      cases hw with
      | ap hw1 hw2 =>
      cases hk with
      | ap _ hk2 => exact ih u x h2 ⟨hk2 u hu, hw2 u hu, by omega, by omega, fun y hy => ht.v y (has_ap.mpr ⟨u, hu, hy⟩)⟩
  exact go q.1 t q.2 (plc_at _ q hq) h
section
variable {P : SP} (hP : P.Ok)
include hP
omit hP in
theorem LX.mono {H G : Nat} {V : List Int} {x : Lit} (h : LX H V x) (hH : H ≤ G) : LX G V x := ⟨h.1.mono hH, h.2.mono hH⟩
omit hP in
theorem LX.put {H G : Nat} {V : List Int} {x : Lit} {s : Sb} (h : LX H V x) (hs : ∀ p ∈ s, TX G V p.2) : LX (H + G) V (putL s x) := ⟨h.1.put hs, h.2.put hs⟩
end
end
section
open PySem L2
local macro_rules | `(tactic| walk_at "h2") => `(tactic| first
  | walk_at "g2"
  | ((with_reducible apply wf_eqSf); (focus (decide +kernel)))
  | ((with_reducible apply wf_eqSt); (focus (decide +kernel)))
  | ((with_reducible apply wf_inJf); (focus (decide +kernel)))
  | ((with_reducible apply wf_inJt); (focus (decide +kernel))))
local macro_rules | `(tactic| walk_at "ho") => `(tactic| repeat' (walk_at "h2"))
end
section
open PySem L2
local macro_rules | `(tactic| walk_at "h2") => `(tactic| first
  | walk_at "g2"
  | ((with_reducible apply wf_eqSf); (focus (decide +kernel)))
  | ((with_reducible apply wf_eqSt); (focus (decide +kernel)))
  | ((with_reducible apply wf_inJf); (focus (decide +kernel)))
  | ((with_reducible apply wf_inJt); (focus (decide +kernel))))
local macro_rules | `(tactic| walk_at "ho") => `(tactic| repeat' (walk_at "h2"))
end
section
open PySem L2
local macro_rules | `(tactic| walk_at "h2") => `(tactic| first
  | walk_at "g2"
  | ((with_reducible apply wf_eqSf); (focus (decide +kernel)))
  | ((with_reducible apply wf_eqSt); (focus (decide +kernel)))
  | ((with_reducible apply wf_inJf); (focus (decide +kernel)))
  | ((with_reducible apply wf_inJt); (focus (decide +kernel))))
local macro_rules | `(tactic| walk_at "ho") => `(tactic| repeat' (walk_at "h2"))
abbrev truT : Tm := .ap 0 0 0 []
/-- a literal; whether its right side is the constant TRUTH -/
abbrev KL := Lit × Bool
def eK (x : KL) : D := .tup [.bl x.1.pos, eT x.1.l, if x.2 = true then k_TRUTH else eT x.1.r]
def OkK (x : KL) : Prop := x.2 = true → x.1.r = truT
inductive Tr where
  | lit (x : KL) | jn (an : Bool) (a b : Tr)
def joS : Bool → Str
  | true => Str.ofString "and"
  | false => Str.ofString "or"
def eR : Tr → D
  | .lit x => .tup [.str (Str.ofString "literal"), eK x]
  | .jn an a b => .tup [.str (joS an), eR a, eR b]
section
variable {prog : Nat → Option Fb} (hp : ∀ j fb, lZl0[j]? = some fb → prog (0 + j) = some fb) (hp1 : ∀ j fb, lZl1[j]? = some fb → prog (1000 + j) = some fb) (hp11 : ∀ j fb, lZl11[j]? = some fb → prog (11000 + j) = some fb) {V : List Int} {H : Nat}
include hp11
theorem r_skolem (a b : Int) (k : Nat) (S : Sto) : run prog (k + 1) 11004 [.int a, .int b] S = some (eS 3 a b, S) := by
  refine run_pure (hp11 4 _ rfl) rfl (by simp [eS, refLt, refLtL]) ?_
  show wp (c_skolem (run prog k) [some (.int a), some (.int b)] S) _
  unfold c_skolem
  walk_at "go2"
include hp hp1
end
end
section
open PySem L2
section
variable {k : Nat} {l : Lo} {S : Sto} {Q : D → Sto → Prop} {QS : Fl → Sto → Prop} {QA : List D → Sto → Prop}
theorem tru_str {x : Str} {K : Bool → Prop} (h : x.length ≤ 1000000) (q : K (x.length != 0)) : tru (.str x) S K := ⟨_, by simp only [truD]; rw [if_pos h], q⟩
theorem wp_digit {m : M} (h : wp (m l S) fun x S1 => ∃ y : Str, x = .str y ∧ Q (.bl (Txt.isdigit y)) S1) : wp (mDigit m l S) Q := by
  obtain ⟨x, S1, e1, y, rfl, q⟩ := h
  exact ⟨_, _, by unfold mDigit; simp only [e1, Option.bind_some], q⟩
theorem wp_starts {a b : M} (h : wp (a l S) fun x S1 => ∃ y : Str, x = .str y ∧ wp (b l S1) fun z S2 => ∃ w : Str, z = .str w ∧ Q (.bl (Txt.startswith y w)) S2) : wp (mStarts a b l S) Q := by
  obtain ⟨x, S1, e1, y, rfl, z, S2, e2, w, rfl, q⟩ := h
  exact ⟨_, _, by unfold mStarts; simp only [e1, e2, Option.bind_some], q⟩
theorem wp_split {a b : M} (h : wp (a l S) fun x S1 => ∃ y : Str, x = .str y ∧ wp (b l S1) fun z S2 => ∃ w : Str, z = .str w ∧ (w.length == 0) = false ∧ y.length ≤ 1000000 ∧ QA ((Txt.split y w).map D.str) S2) : wp (mSplit a b l S) QA := by
  obtain ⟨x, S1, e1, y, rfl, z, S2, e2, w, rfl, h1, h2, q⟩ := h
  exact ⟨_, _, by unfold mSplit; simp only [e1, e2, Option.bind_some]; rw [if_pos ⟨h1, h2⟩], q⟩
theorem wf_inT {x y : Str} (q : Q (.bl (inTx x y)) S) : wp (fInT (.str x) (.str y) S) Q := ⟨_, _, rfl, q⟩
theorem wf_ninSg {c : Nat} {z : Str} (q : Q (.bl (!decide (c ∈ z.cps.toList))) S) : wp (fNinS (.str (one c)) (.str z) S) Q := ⟨_, _, rfl, q⟩
theorem wf_intS {x : Str} {i : Int} (h : x.length ≤ 640) (hi : PySem.intText? x = some i) (q : Q (.int i) S) : wp (fIntS (.d (.str x)) S) Q := ⟨_, _, by simp only [fIntS]; rw [if_pos h, hi]; rfl, q⟩
theorem fEq_str {x y : Str} (hx : stS x = true) (hy : stS y = true) : fEq (.d (.str x)) (.d (.str y)) S = some (.bl (decide (x = y)), S) := by
  show ((snap 190 S (.str x)).bind fun p => (snap 190 S (.str y)).bind fun q => _) = _
  rw [snap_str hx, snap_str hy]
  simp only [Option.bind_some, eqv_str]
theorem fNe_str {x y : Str} (hx : stS x = true) (hy : stS y = true) : fNe (.d (.str x)) (.d (.str y)) S = some (.bl (!decide (x = y)), S) := by
  show ((snap 190 S (.str x)).bind fun p => (snap 190 S (.str y)).bind fun q => _) = _
  rw [snap_str hx, snap_str hy]
  simp only [Option.bind_some, eqv_str]
theorem wf_eqTx {x y : Str} (hx : stS x = true) (hy : stS y = true) (q : Q (.bl (decide (x = y))) S) : wp (fEq (.d (.str x)) (.d (.str y)) S) Q := wp_eq (fEq_str hx hy) q
theorem wf_neTx {x y : Str} (hx : stS x = true) (hy : stS y = true) (q : Q (.bl (!decide (x = y))) S) : wp (fNe (.d (.str x)) (.d (.str y)) S) Q := wp_eq (fNe_str hx hy) q
/-- a slice of a text -/
theorem wp_slStr {QO : O → Sto → Prop} {a : M} {lo hi : MOpt} (h : wp (a l S) fun x S1 => wp (lo l S1) fun p S2 => wp (hi l S2) fun q S3 => ∃ z : Str, x = .str z ∧ z.length ≤ 1000000 ∧ QO (.d (.str (cutS z p q))) S3) : wp (mSl a lo hi l S) QO := by
  refine sl_wp (h.imp fun x S1 h => h.imp fun p S2 h => h.imp fun q S3 h => ?_)
  obtain ⟨z, rfl, hz, q'⟩ := h
  exact ⟨_, by simp only [slF]; rw [if_pos hz], q'⟩
end
section
variable {prog : Nat → Option Fb} (hp : ∀ j fb, lZl0[j]? = some fb → prog (0 + j) = some fb) (hp11 : ∀ j fb, lZl11[j]? = some fb → prog (11000 + j) = some fb) (hp14 : ∀ j fb, lZl14[j]? = some fb → prog (14000 + j) = some fb) {k : Nat} {S : Sto}
include hp14
theorem r_predicate (n : Int) : run prog (k + 1) 14000 [.int n] S = some (eS 1 n 0, S) := by
  refine run_pure (hp14 0 _ rfl) rfl (by simp [eS, refLt, refLtL]) ?_
  show wp (c_predicate (run prog k) [some (.int n)] S) _
  unfold c_predicate
  walk_at "go2"
theorem r_function (n : Int) : run prog (k + 1) 14001 [.int n] S = some (eS 2 n 0, S) := by
  refine run_pure (hp14 1 _ rfl) rfl (by simp [eS, refLt, refLtL]) ?_
  show wp (c_function (run prog k) [some (.int n)] S) _
  unfold c_function
  walk_at "go2"
theorem r_rnum {i : Int} (h : 0 ≤ i ∧ i < 10 ^ 15) : run prog (k + 1) 14002 [.str (iS i)] S = some (.int i, S) := by
  refine run_pure (hp14 2 _ rfl) rfl (by simp [refLt]) ?_
  show wp (c_read_number (run prog k) [some (.str (iS i))] S) _
  have hl := iS_len h
  have hne := List.length_pos_iff.mpr (num_ne h.1)
  rw [lx_len] at hne
  unfold c_read_number
  walk_at "go2"
  refine tru_str (by omega) ?_
  rw [show ((iS i).length != 0) = true by rw [bne_iff_ne]; omega]
  walk_at "go2"
  refine wp_digit ?_
  walk_at "go2"
  refine ⟨_, rfl, ?_⟩
  rw [isdigit_num h.1]
  walk_at "go2"
  refine wf_lenStr (by omega) ?_
  walk_at "go2"
  refine way_dec (fun h1 => ?_) fun h1 => ?_
  · obtain ⟨c, r, e, hc⟩ := num_head h.1 (by rw [lx_len]; omega)
    walk_at "go2"
    refine wf_ix1 (c := c) (by omega) (by decide) (by rw [show (iS i).cps.toList = c :: r from e]; rfl) ?_
    walk_at "go2"
    have hd : 48 ≤ c ∧ c ≤ 57 := num_digits h.1 c (by rw [e]; simp)
    refine wf_eqTx (st_iff.mpr fun d hd' => by simp at hd'; omega) (by decide +kernel) ?_
    walk_at "go2"
    rw [decide_eq_false (show ¬ one c = Str.ofString "0" from fun z => hc (by
      have : lx (one c) = lx (Str.ofString "0") := by rw [z]
      rw [show lx (Str.ofString "0") = [48] by decide +kernel] at this
      exact (List.cons.inj (show [c] = [48] from this)).1))]
    walk_at "go2"
    refine wf_intS (by omega) (num_reads h) ?_
    walk_at "go2"
  · walk_at "go2"
    refine wf_intS (by omega) (num_reads h) ?_
    walk_at "go2"
/-- 3_0 and the like -/
theorem r_rpair {i j : Int} {x : Str} (hi : 0 ≤ i ∧ i < 10 ^ 15) (hj : 0 ≤ j ∧ j < 10 ^ 15) (hx : lx x = lx (iS i) ++ 95 :: lx (iS j)) : run prog (k + 2) 14003 [.str x] S = some (.tup [.int i, .int j], S) := by
  refine run_rub (hp14 3 _ rfl) rfl (by simp [refLt, refLtL]) ?_
  show wp (c_read_pair (run prog (k + 1)) [some (.str x), none, none, none] S) _
  have l1 := iS_len hi; have l2 := iS_len hj
  have hl := congrArg List.length hx
  rw [lx_len, List.length_append, List.length_cons, lx_len, lx_len] at hl
  have e : Txt.split x (sq "_") = [iS i, iS j] := by
    refine split_glue (by rw [lx_us]; simp) (by decide +kernel) (by simp) (by rw [hx, lx_us]; rfl) ?_
    intro p hp
    rw [lx_us]
    have no : ∀ {n : Int}, 0 ≤ n → 95 ∉ lx (iS n) := fun hn h => by have := num_digits hn _ h; omega
    simp only [List.mem_cons, List.not_mem_nil, or_false] at hp
    rcases hp with rfl | rfl
    · exact free_one (no hi.1)
    · exact free_one (no hj.1)
  unfold c_read_pair
  walk_at "go2"
  refine wp_split ?_
  walk_at "go2"
  refine ⟨_, rfl, ?_⟩
  walk_at "go2"
  refine ⟨_, rfl, by decide +kernel, by omega, ?_⟩
  rw [show Txt.split x (Str.ofString "_") = _ from e]
  have g : (S ++ [.lst ([iS i, iS j].map D.str)])[S.length]? = some (.lst ([iS i, iS j].map D.str)) := by simp
  generalize hT : S ++ [.lst ([iS i, iS j].map D.str)] = T at *
  walk_at "go2"
  refine way_eq (by simp) ?_
  walk_at "go2"
  refine wf_ixL (d := .str (iS i)) g rfl ?_
  walk_at "go2"
  refine wp_eq (r_rnum hp14 hi) ?_
  walk_at "go2"
  refine wf_ixL (d := .str (iS j)) g rfl ?_
  walk_at "go2"
  refine wp_eq (r_rnum hp14 hj) ?_
  walk_at "go2"
  refine way_ne rfl ?_
  walk_at "go2"
  refine way_ne rfl ?_
  walk_at "go2"
  exact ⟨rfl, _, hT.symm⟩
omit hp14 in
/-- the number of a pair in a table -/
theorem zip_find {nm : List (Bool × Str)} {n : Nat} {p : Bool × Str} (hnd : nm.Nodup) (h : nm[n]? = some p) : (nm.zipIdx 0).find? (fun q => decide (q.1 = p)) = some (p, n) := by
  have h2 : ∀ (k : Nat) (nm : List (Bool × Str)) (n : Nat), nm.Nodup → nm[n]? = some p → (nm.zipIdx k).find? (fun q => decide (q.1 = p)) = some (p, k + n) := by
    intro k nm
    induction nm generalizing k with
    | nil => intro n _ h; simp at h
    | cons x nm ih =>
      intro n hd h
      rw [List.zipIdx_cons, List.find?_cons]
      cases n with
      | zero =>
        have : x = p := by simpa using h
        subst this
        simp
      | succ n =>
        rw [List.getElem?_cons_succ] at h
        rw [List.nodup_cons] at hd
        have hne : x ≠ p := fun e => hd.1 (e ▸ List.mem_of_getElem? h)
        simp only [hne, decide_false]
        rw [ih (k + 1) n hd.2 h]
        congr 2
        omega
  have := h2 0 nm n hnd h
  rwa [Nat.zero_add] at this
omit hp14 in
theorem zip_none {nm : List (Bool × Str)} {p : Bool × Str} (h : p ∉ nm) : (nm.zipIdx 0).find? (fun q => decide (q.1 = p)) = none := by
  rw [List.find?_eq_none]
  intro q hq
  have := List.fst_mem_of_mem_zipIdx hq
  intro e
  rw [decide_eq_true_eq] at e
  exact h (e ▸ this)
def nmV (nm : List (Bool × Str)) (p : Bool × Str) : D := match (nm.zipIdx 0).find? (fun q => decide (q.1 = p)) with
  | some q => if p.1 = true then eS 1 (q.2 : Nat) 0 else eS 2 (q.2 : Nat) 0
  | none => .non
theorem r_namedS {nm : List (Bool × Str)} {r : Nat} {w : Str} {b : Bool} (hr : S[r]? = some (.lst (nm.map nD))) (hw : stS w = true) (hn : ∀ p ∈ nm, stS p.2 = true) : run prog (k + 2) 14004 [.str w, .ref r, .bl b] S = some (nmV nm (b, w), S) := by
  refine run_pure (hp14 4 _ rfl) rfl (by
    unfold nmV
    split
    · split <;> simp [eS, refLt, refLtL]
    · simp [refLt]) ?_
  show wp (c_named_symbol (run prog (k + 1)) [some (.str w), some (.ref r), some (.bl b), none, none] S) _
  unfold c_named_symbol
  refine wp_seq (wp_for (wp_enum ?_))
  walk_at "go2"
  refine wp_findI (fun q : (Bool × Str) × Nat => .tup [.int (q.2 : Nat), nD q.1]) (nm.zipIdx 0) (fun l => ∃ o3 o4, l = [some (.str w), some (.ref r), some (.bl b), o3, o4]) (fun q => decide (q.1 = (b, w))) (fun q => if b = true then eS 1 (q.2 : Nat) 0 else eS 2 (q.2 : Nat) 0) (enumD_mapZ nD nm 0) ⟨none, none, rfl⟩ hr ?_ ?_
  · rintro l ⟨⟨b', w'⟩, n⟩ hx ⟨o3, o4, rfl⟩
    have hm : (b', w') ∈ nm := List.fst_mem_of_mem_zipIdx hx
    simp only [nD]
    walk_at "go2"
    have e : decide ((b', w') = (b, w)) = (decide (b' = b) && decide (w' = w)) := by
      rw [← Bool.decide_and]
      simp only [Prod.mk.injEq]
    rw [e]
    refine way_dec (fun h1 => ?_) fun h1 => ?_
    · rw [decide_eq_true h1, Bool.true_and]
      walk_at "go2"
      refine wf_eqTx (hn _ hm) hw ?_
      walk_at "go2"
      refine way_dec (fun h2 => ?_) fun h2 => ?_
      · rw [decide_eq_true h2]
        walk_at "go2"
        cases b with
        | true =>
          walk_at "go2"
          refine wp_eq (r_predicate hp14 _) ?_
          walk_at "go2"
          exact ⟨rfl, by simp⟩
        | false =>
          walk_at "go2"
          refine wp_eq (r_function hp14 _) ?_
          walk_at "go2"
          exact ⟨rfl, by simp⟩
      · rw [decide_eq_false h2]
        walk_at "go2"
        exact ⟨rfl, by simp⟩
    · rw [decide_eq_false h1, Bool.false_and]
      walk_at "go2"
      exact ⟨rfl, by simp⟩
  · unfold nmV
    cases hf : (nm.zipIdx 0).find? (fun q => decide (q.1 = (b, w))) with
    | some q =>
      walk_at "go2"
    | none =>
      rintro l ⟨o3, o4, rfl⟩
      walk_at "go2"
/-- where a word ends -/
theorem r_wend {z : Str} {p : Nat} {w rest : List Nat} (hz : z.length ≤ 1000000) (he : (lx z).drop p = w ++ rest) (hw : ∀ c ∈ w, c ∉ [40, 41, 44, 32]) (hr : ∀ c r, rest = c :: r → c ∈ [40, 41, 44, 32]) (hpz : p ≤ z.length) :
    run prog (k + 1) 14006 [.str z, .int (p : Nat)] S = some (.int ((p + w.length : Nat) : Int), S) := by
  refine run_pure (hp14 6 _ rfl) rfl (by simp [refLt]) ?_
  show wp (c_word_end (run prog k) [some (.str z), some (.int (p : Nat)), none] S) _
  have hl := congrArg List.length he
  rw [List.length_drop, lx_len, List.length_append] at hl
  unfold c_word_end
  walk_at "go2"
  refine wp_while w.length (fun m l S1 => ∃ j : Nat, j ≤ w.length ∧ m = w.length - j ∧ l = [some (.str z), some (.int (p : Nat)), some (.int ((p + j : Nat) : Int))] ∧ S = S1) ⟨0, Nat.zero_le _, rfl, rfl, rfl⟩ ?_
  rintro m l S1 ⟨j, h1, h2, rfl, rfl⟩
  have hg : (lx z)[p + j]? = (w ++ rest)[j]? := by rw [← he, List.getElem?_drop]
  walk_at "go2"
  refine wf_lenStr hz ?_
  walk_at "go2"
  by_cases hj : j < w.length
  · rw [List.getElem?_append_left hj, List.getElem?_eq_getElem hj] at hg
    refine way_eq (by rw [decide_eq_true_eq]; omega) ?_
    walk_at "go2"
    refine wf_ix1 (c := w[j]) hz (by omega) (by rw [Int.toNat_natCast]; exact hg) ?_
    walk_at "go2"
    refine wf_ninSg ?_
    walk_at "go2"
    rw [show (Str.ofString "(), ").cps.toList = [40, 41, 44, 32] from lx_stop]
    refine way_ne (decide_eq_false (hw _ (List.getElem_mem hj))) ?_
    walk_at "go2"
    exact ⟨w.length - (j + 1), by omega, j + 1, by omega, rfl, by simp [Int.add_assoc], rfl⟩
  · have ej : j = w.length := by omega
    subst ej
    rw [List.getElem?_append_right (Nat.le_refl _), Nat.sub_self] at hg
    cases rest with
    | nil =>
      refine way_ne (by rw [decide_eq_false_iff_not]; simp only [List.length_nil] at hl; omega) ?_
      walk_at "go2"
    | cons c r =>
      simp only [List.length_cons] at hl
      refine way_eq (by rw [decide_eq_true_eq]; omega) ?_
      walk_at "go2"
      refine wf_ix1 (c := c) hz (by omega) (by rw [Int.toNat_natCast]; exact hg) ?_
      walk_at "go2"
      refine wf_ninSg ?_
      walk_at "go2"
      rw [show (Str.ofString "(), ").cps.toList = [40, 41, 44, 32] from lx_stop]
      refine way_eq (decide_eq_true (hr c r rfl)) ?_
      walk_at "go2"
end
end
section
open PySem L2
theorem starts_one {x y : Str} {c d : Nat} {r : List Nat} (hx : lx x = d :: r) (hy : lx y = [c]) : Txt.startswith x y = decide (c = d) := by
  rw [Bool.eq_iff_iff, starts_iff, hx, hy, List.cons_prefix_cons, decide_eq_true_eq]
  exact ⟨fun h => h.1, fun h => ⟨h, List.nil_prefix⟩⟩
/-- a symbol of functions, of atoms -/
def IndS (a b c : Int) : Prop := (a = 2 ∧ (0 ≤ b ∧ b < 3) ∧ c = 0) ∨ (a = 3 ∧ (0 ≤ b ∧ b < 10 ^ 15) ∧ 0 ≤ c ∧ c < 10 ^ 15)
def AtS (a b c : Int) : Prop := (a = 0 ∧ b = 0 ∧ c = 0) ∨ (a = 1 ∧ (3 ≤ b ∧ b < 6) ∧ c = 0) ∨ (a = 4 ∧ (0 ≤ b ∧ b < 10 ^ 15) ∧ 0 ≤ c ∧ c < 10 ^ 15) ∨ (a = 5 ∧ (0 ≤ b ∧ b < 10 ^ 15) ∧ c = 0)
theorem IndS.sy {a b c : Int} (h : IndS a b c) : SyV a b c := by unfold IndS at h; unfold SyV; omega
theorem AtS.sy {a b c : Int} (h : AtS a b c) : SyV a b c := by unfold AtS at h; unfold SyV; omega
/-- an atom's symbol as it is read: that of truth is the module's own -/
def eSA (a b c : Int) : D := if a = 0 then .ktup [.int a, .int b, .int c] else eS a b c
section
variable {prog : Nat → Option Fb} (hp : ∀ j fb, lZl0[j]? = some fb → prog (0 + j) = some fb) (hp11 : ∀ j fb, lZl11[j]? = some fb → prog (11000 + j) = some fb) (hp14 : ∀ j fb, lZl14[j]? = some fb → prog (14000 + j) = some fb) {k : Nat} {S : Sto} {r : Nat} {at' : Bool}
include hp14
theorem rs_hash : run prog (k + 1) 14005 [.str (sq "#"), .ref r, .bl at'] S = some (if at' = true then eSA 0 0 0 else .non, S) := by
  refine run_pure (hp14 5 _ rfl) rfl (by split <;> simp [eSA, refLt, refLtL]) ?_
  show wp (c_read_symbol (run prog k) [some (.str (sq "#")), some (.ref r), some (.bl at'), none, none] S) _
  unfold c_read_symbol
  walk_at "go2"
  refine wf_eqTx (by decide +kernel) (by decide +kernel) ?_
  walk_at "go2"
  refine way_eq (by simp) ?_
  walk_at "go2"
  cases at' with
  | true =>
    walk_at "go2"
    exact ⟨_, _, rfl, rfl, rfl⟩
  | false => walk_at "go2"
/-- x is not "#" -/
theorem ne_hash {x : Str} {d : Nat} {r : List Nat} (hx : lx x = d :: r) (hd : d ≠ 35) : ¬ x = Str.ofString "#" := fun z => hd (by
  rw [z, show lx (Str.ofString "#") = [35] from lx_hash] at hx
  exact (List.cons.inj hx).1.symm)
include hp
theorem r_answer (a : Int) : run prog (k + 1) 0 [.int a] S = some (eS 5 a 0, S) := by
  refine run_pure (by have := hp 0 _ rfl; exact this) rfl (by simp [eS, refLt, refLtL]) ?_
  show wp (c_answer (run prog k) [some (.int a)] S) _
  unfold c_answer
  walk_at "go2"
theorem rs_at {x : Str} {i : Int} (hi : 0 ≤ i ∧ i < 10 ^ 15) (hx : lx x = 64 :: lx (iS i)) (hs : stS x = true) : run prog (k + 2) 14005 [.str x, .ref r, .bl at'] S = some (if at' = true then eS 5 i 0 else .non, S) := by
  refine run_pure (hp14 5 _ rfl) rfl (by split <;> simp [eS, refLt, refLtL]) ?_
  show wp (c_read_symbol (run prog (k + 1)) [some (.str x), some (.ref r), some (.bl at'), none, none] S) _
  have l1 := iS_len hi
  have hl := congrArg List.length hx
  rw [lx_len, List.length_cons, lx_len] at hl
  have ec : cutS x (some 1) none = iS i := lx_inj (by rw [show (1 : Int) = ((1 : Nat) : Int) from rfl, lx_from, hx]; rfl)
  unfold c_read_symbol
  walk_at "go2"
  refine wf_eqTx hs (by decide +kernel) ?_
  walk_at "go2"
  refine way_ne (decide_eq_false (ne_hash hp14 hx (by decide))) ?_
  walk_at "go2"
  refine wp_starts ?_
  walk_at "go2"
  refine ⟨_, rfl, ?_⟩
  walk_at "go2"
  refine ⟨_, rfl, ?_⟩
  rw [starts_one hx (show lx (Str.ofString "@") = [64] from lx_at)]
  walk_at "go2"
  refine way_eq (by decide) ?_
  walk_at "go2"
  refine wp_slStr ?_
  walk_at "go2"
  refine soI_wp ?_
  walk_at "go2"
  refine ⟨_, rfl, noI_wp ⟨_, rfl, by omega, ?_⟩⟩
  rw [ec]
  walk_at "go2"
  refine wp_eq (r_rnum hp14 hi) ?_
  walk_at "go2"
  cases at' with
  | true =>
    walk_at "go2"
    refine way_ne rfl ?_
    walk_at "go2"
    refine wp_eq (r_answer hp hp14 i) ?_
    walk_at "go2"
  | false => walk_at "go2"
include hp11
theorem rs_pair {x : Str} {i j : Int} {p : Nat} (hpp : p = 36 ∨ p = 38) (hi : 0 ≤ i ∧ i < 10 ^ 15) (hj : 0 ≤ j ∧ j < 10 ^ 15) (hx : lx x = p :: (lx (iS i) ++ 95 :: lx (iS j))) (hs : stS x = true) :
    run prog (k + 3) 14005 [.str x, .ref r, .bl at'] S = some (if at' = decide (p = 38) then (if p = 38 then eS 4 i j else eS 3 i j) else .non, S) := by
  refine run_pure (hp14 5 _ rfl) rfl (by split <;> (try split) <;> simp [eS, refLt, refLtL]) ?_
  show wp (c_read_symbol (run prog (k + 2)) [some (.str x), some (.ref r), some (.bl at'), none, none] S) _
  have l1 := iS_len hi; have l2 := iS_len hj
  have hl := congrArg List.length hx
  rw [lx_len, List.length_cons, List.length_append, List.length_cons, lx_len, lx_len] at hl
  have ec : lx (cutS x (some 1) none) = lx (iS i) ++ 95 :: lx (iS j) := by rw [show (1 : Int) = ((1 : Nat) : Int) from rfl, lx_from, hx]; rfl
  have e1 : Txt.startswith x (Str.ofString "@") = false := by
    rw [starts_one hx (show lx (Str.ofString "@") = [64] from lx_at), decide_eq_false (by omega)]
  have e2 : Txt.startswith x (Str.ofString "$") = decide (36 = p) := starts_one hx (show lx (Str.ofString "$") = [36] from lx_doll)
  have e3 : Txt.startswith x (Str.ofString "&") = decide (38 = p) := starts_one hx (show lx (Str.ofString "&") = [38] from lx_amp)
  have inner : wp ((mSeq (mSet 4 (mCall (run prog (k + 2) 14003) (mCons (oS (mSl (mVar 0) (mSoI (mC (.int 1))) mNoI)) mNil)))
      (mSeq (mIfS (mOrT (mBool (mIsN (mVar 4))) (mBool (mOpO fNe (oD (mVar 2)) (oD (mStarts (mVar 0) (mC (.str (Str.ofString "&")))))))) (mRet (mC .non)) mSkip)
      (mRet (mIf (mTru (mVar 2)) (mCall (run prog (k + 2) 11005) (mCons (mOp ixF (mVar 4) (mC (.int 0))) (mCons (mOp ixF (mVar 4) (mC (.int 1))) mNil))) (mCall (run prog (k + 2) 11004) (mCons (mOp ixF (mVar 4) (mC (.int 0))) (mCons (mOp ixF (mVar 4) (mC (.int 1))) mNil))))))) [some (.str x), some (.ref r), some (.bl at'), none, none] S) fun f S1 => f = .rt (if at' = decide (p = 38) then (if p = 38 then eS 4 i j else eS 3 i j) else .non) ∧ S1 = S := by
    walk_at "go2"
    refine wp_slStr ?_
    walk_at "go2"
    refine soI_wp ?_
    walk_at "go2"
    refine ⟨_, rfl, noI_wp ⟨_, rfl, by omega, ?_⟩⟩
    walk_at "go2"
    refine wp_eq (r_rpair hp14 hi hj ec) ?_
    walk_at "go2"
    refine way_ne rfl ?_
    walk_at "go2"
    refine wp_starts ?_
    walk_at "go2"
    refine ⟨_, rfl, ?_⟩
    walk_at "go2"
    refine ⟨_, rfl, ?_⟩
    rw [e3]
    walk_at "go2"
    rcases hpp with rfl | rfl
    · cases at' with
      | true =>
        refine way_ne (by decide) ?_
        walk_at "go2"
      | false =>
        refine way_eq (by decide) ?_
        walk_at "go2"
        refine wp_eq (r_skolem hp11 i j _ S) ?_
        walk_at "go2"
    · cases at' with
      | true =>
        refine way_eq (by decide) ?_
        walk_at "go2"
        refine wp_eq (r_pname hp11 i j _ S) ?_
        walk_at "go2"
      | false =>
        refine way_ne (by decide) ?_
        walk_at "go2"
  unfold c_read_symbol
  walk_at "go2"
  refine wf_eqTx hs (by decide +kernel) ?_
  walk_at "go2"
  refine way_ne (decide_eq_false (ne_hash hp14 hx (by omega))) ?_
  walk_at "go2"
  refine wp_starts ?_
  walk_at "go2"
  refine ⟨_, rfl, ?_⟩
  walk_at "go2"
  refine ⟨_, rfl, ?_⟩
  rw [e1]
  walk_at "go2"
  refine wp_starts ?_
  walk_at "go2"
  refine ⟨_, rfl, ?_⟩
  walk_at "go2"
  refine ⟨_, rfl, ?_⟩
  rw [e2]
  walk_at "go2"
  refine way_dec (fun _ => ?_) fun h => ?_
  · refine way_t ?_
    exact inner.imp fun f S1 h => by
      obtain ⟨rfl, rfl⟩ := h
      exact ⟨rfl, rfl⟩
  · walk_at "go2"
    refine wp_starts ?_
    walk_at "go2"
    refine ⟨_, rfl, ?_⟩
    walk_at "go2"
    refine ⟨_, rfl, ?_⟩
    rw [e3]
    walk_at "go2"
    refine way_eq (decide_eq_true (by omega)) ?_
    exact inner.imp fun f S1 h => by
      obtain ⟨rfl, rfl⟩ := h
      exact ⟨rfl, rfl⟩
end
end
section
open PySem L2
theorem nmV_at {nm : List (Bool × Str)} (h : Nw nm) {b : Int} (hb : 0 ≤ b ∧ b < 6) : nmV nm (decide (2 < b), nmAt nm b) = if 2 < b then eS 1 b 0 else eS 2 b 0 := by
  unfold nmV
  rw [zip_find h.nodup (h.at hb)]
  simp only [decide_eq_true_eq, Int.toNat_of_nonneg hb.1]
theorem nmV_no {nm : List (Bool × Str)} {p : Bool × Str} (h : p ∉ nm) : nmV nm p = .non := by
  unfold nmV
  rw [zip_none h]
theorem name_head {nm : List (Bool × Str)} (h : Nw nm) {p : Bool × Str} (hp : p ∈ nm) : ∃ d r, lx p.2 = d :: r ∧ WC d := by
  obtain ⟨c, hc, _⟩ := h.abc p hp
  match hx : lx p.2, hc with
  | d :: r, _ => exact ⟨d, r, rfl, h.ch p hp d (by rw [hx]; simp)⟩
section
variable {prog : Nat → Option Fb} (hp : ∀ j fb, lZl0[j]? = some fb → prog (0 + j) = some fb) (hp11 : ∀ j fb, lZl11[j]? = some fb → prog (11000 + j) = some fb) (hp14 : ∀ j fb, lZl14[j]? = some fb → prog (14000 + j) = some fb) {k : Nat} {S : Sto} {r : Nat} {at' : Bool} {nm : List (Bool × Str)}
include hp14
theorem rs_name {x : Str} {d : Nat} {q : List Nat} (hx : lx x = d :: q) (hd : WC d) (hs : stS x = true) (hr : S[r]? = some (.lst (nm.map nD))) (hn : ∀ p ∈ nm, stS p.2 = true) : run prog (k + 3) 14005 [.str x, .ref r, .bl at'] S = some (nmV nm (at', x), S) := by
  refine run_pure (hp14 5 _ rfl) rfl (by
    unfold nmV
    split
    · split <;> simp [eS, refLt, refLtL]
    · simp [refLt]) ?_
  show wp (c_read_symbol (run prog (k + 2)) [some (.str x), some (.ref r), some (.bl at'), none, none] S) _
  unfold WC at hd
  have e1 : Txt.startswith x (Str.ofString "@") = false := by
    rw [starts_one hx (show lx (Str.ofString "@") = [64] from lx_at), decide_eq_false (by omega)]
  have e2 : Txt.startswith x (Str.ofString "$") = false := by
    rw [starts_one hx (show lx (Str.ofString "$") = [36] from lx_doll), decide_eq_false (by omega)]
  have e3 : Txt.startswith x (Str.ofString "&") = false := by
    rw [starts_one hx (show lx (Str.ofString "&") = [38] from lx_amp), decide_eq_false (by omega)]
  unfold c_read_symbol
  walk_at "go2"
  refine wf_eqTx hs (by decide +kernel) ?_
  walk_at "go2"
  refine way_ne (decide_eq_false (ne_hash hp14 hx (by omega))) ?_
  walk_at "go2"
  refine wp_starts ?_
  walk_at "go2"
  refine ⟨_, rfl, ?_⟩
  walk_at "go2"
  refine ⟨_, rfl, ?_⟩
  rw [e1]
  walk_at "go2"
  refine wp_starts ?_
  walk_at "go2"
  refine ⟨_, rfl, ?_⟩
  walk_at "go2"
  refine ⟨_, rfl, ?_⟩
  rw [e2]
  walk_at "go2"
  refine wp_starts ?_
  walk_at "go2"
  refine ⟨_, rfl, ?_⟩
  walk_at "go2"
  refine ⟨_, rfl, ?_⟩
  rw [e3]
  walk_at "go2"
  refine wp_eq (r_namedS hp14 hr hs hn) ?_
  walk_at "go2"
include hp hp11
/-- a symbol of functions is read -/
theorem rsF (hN : Nw nm) {a b c : Int} (h : IndS a b c) (hr : S[r]? = some (.lst (nm.map nD))) : run prog (k + 3) 14005 [.str (syT nm a b c), .ref r, .bl false] S = some (eS a b c, S) := by
  have hst : stS (syT nm a b c) = true := st_asc fun d hd => by have := (wd_sy hN h.sy).1 d hd; omega
  rcases h with ⟨rfl, hb, rfl⟩ | ⟨rfl, hb, hc⟩
  · rw [sy_nm (.inr rfl)] at hst ⊢
    obtain ⟨d, q, e1, e2⟩ := name_head hN (List.mem_of_getElem? (hN.at (a := b) (by omega)))
    rw [rs_name hp14 e1 e2 hst hr fun p hp => (hN.w p hp).2]
    have := nmV_at hN (b := b) (by omega)
    rw [decide_eq_false (show ¬ 2 < b by omega), if_neg (show ¬ 2 < b by omega)] at this
    rw [this]
  · rw [rs_pair hp hp11 hp14 (.inl rfl) hb hc lx_sy3 hst]
    rfl
/-- a symbol of atoms is read -/
theorem rsA (hN : Nw nm) {a b c : Int} (h : AtS a b c) (hr : S[r]? = some (.lst (nm.map nD))) : run prog (k + 3) 14005 [.str (syT nm a b c), .ref r, .bl true] S = some (eSA a b c, S) := by
  have hst : stS (syT nm a b c) = true := st_asc fun d hd => by have := (wd_sy hN h.sy).1 d hd; omega
  rcases h with ⟨rfl, rfl, rfl⟩ | ⟨rfl, hb, rfl⟩ | ⟨rfl, hb, hc⟩ | ⟨rfl, hb, rfl⟩
  · rw [show syT nm 0 0 0 = sq "#" from rfl, rs_hash hp14 (k := k + 2)]
    rfl
  · rw [sy_nm (.inl rfl)] at hst ⊢
    obtain ⟨d, q, e1, e2⟩ := name_head hN (List.mem_of_getElem? (hN.at (a := b) (by omega)))
    rw [rs_name hp14 e1 e2 hst hr fun p hp => (hN.w p hp).2]
    have := nmV_at hN (b := b) (by omega)
    rw [decide_eq_true (show 2 < b by omega), if_pos (show 2 < b by omega)] at this
    rw [this]
    rfl
  · rw [rs_pair hp hp11 hp14 (.inr rfl) hb hc lx_sy4 hst]
    rfl
  · rw [rs_at hp hp14 (k := k + 1) hb lx_sy5 hst]
    rfl
/-- .. and not as one of functions -/
theorem rsN (hN : Nw nm) {a b c : Int} (h : AtS a b c) (hno : a = 1 → (false, nmAt nm b) ∉ nm) (hr : S[r]? = some (.lst (nm.map nD))) : run prog (k + 3) 14005 [.str (syT nm a b c), .ref r, .bl false] S = some (.non, S) := by
  have hst : stS (syT nm a b c) = true := st_asc fun d hd => by have := (wd_sy hN h.sy).1 d hd; omega
  rcases h with ⟨rfl, rfl, rfl⟩ | ⟨rfl, hb, rfl⟩ | ⟨rfl, hb, hc⟩ | ⟨rfl, hb, rfl⟩
  · rw [show syT nm 0 0 0 = sq "#" from rfl, rs_hash hp14 (k := k + 2)]
    rfl
  · rw [sy_nm (.inl rfl)] at hst ⊢
    obtain ⟨d, q, e1, e2⟩ := name_head hN (List.mem_of_getElem? (hN.at (a := b) (by omega)))
    rw [rs_name hp14 e1 e2 hst hr fun p hp => (hN.w p hp).2, nmV_no (hno rfl)]
  · rw [rs_pair hp hp11 hp14 (.inr rfl) hb hc lx_sy4 hst]
    rfl
  · rw [rs_at hp hp14 (k := k + 1) hb lx_sy5 hst]
    rfl
end
/-- an individual term that has a text -/
def Ind (t : Tm) : Prop := Tm.Ok (fun i => 0 ≤ i ∧ i < 10 ^ 15) (fun a b c n => IndS a b c ∧ n ≤ 2) t
theorem Ind.tv {t : Tm} (h : Ind t) : TxV t := h.imp (fun _ h => h) fun _ _ _ _ h => ⟨h.1.sy, h.2⟩
/-- terms one behind the other -/
def gl (nm : List (Bool × Str)) (ts : List Tm) : List Nat := glue [44, 32] (ts.map fun t => lx (tx nm t))
theorem gl_one {nm : List (Bool × Str)} {t : Tm} : gl nm [t] = lx (tx nm t) := rfl
theorem gl_cons {nm : List (Bool × Str)} {t u : Tm} {ts : List Tm} : gl nm (t :: u :: ts) = lx (tx nm t) ++ 44 :: 32 :: gl nm (u :: ts) := rfl
section
variable {prog : Nat → Option Fb} {r : Nat} {nm : List (Bool × Str)}
/-- the reader of terms reads t with k levels -/
def RdP (prog : Nat → Option Fb) (nm : List (Bool × Str)) (r : Nat) (t : Tm) (k : Nat) : Prop := ∀ {S : Sto} {z : Str} {p : Nat} {rest : List Nat}, z.length ≤ 1000000 → stS z = true → (lx z).drop p = lx (tx nm t) ++ rest → (∀ c q, rest = c :: q → c = 41 ∨ c = 44) → p ≤ z.length → S[r]? = some (.lst (nm.map nD)) →
  run prog k 14008 [.str z, .int (p : Nat), .ref r, .bl false] S = some (.tup [eT t, .int ((p + (lx (tx nm t)).length : Nat) : Int)], S)
variable (hp : ∀ j fb, lZl0[j]? = some fb → prog (0 + j) = some fb) (hp11 : ∀ j fb, lZl11[j]? = some fb → prog (11000 + j) = some fb) (hp14 : ∀ j fb, lZl14[j]? = some fb → prog (14000 + j) = some fb) {k : Nat} {S : Sto}
include hp14
/-- arguments are read -/
theorem r_args {ts : List Tm} (hne : ts ≠ []) (hlen : ts.length ≤ 2) (ih : ∀ t ∈ ts, RdP prog nm r t k) {z : Str} {p : Nat} {rest : List Nat} (hz : z.length ≤ 1000000) (hs : stS z = true) (he : (lx z).drop p = gl nm ts ++ 41 :: rest) (hpz : p ≤ z.length) (hr : S[r]? = some (.lst (nm.map nD))) :
    run prog (k + 1) 14007 [.str z, .int (p : Nat), .ref r] S = some (.tup [.tup (ts.map eT), .int ((p + (gl nm ts).length + 1 : Nat) : Int)], S) := by
  refine run_rub (hp14 7 _ rfl) rfl (by
    rw [refLt_tup, refLtL_cons, refLt_tup, refLtL_cons, refLt_int, refLtL_nil, refLtL_all _ fun x hx => by
      obtain ⟨t, _, rfl⟩ := List.mem_map.mp hx
      exact refLt_eT t]; rfl) ?_
  show wp (c_read_arguments (run prog k) [some (.str z), some (.int (p : Nat)), some (.ref r), none, none, none] S) _
  unfold c_read_arguments
  walk_at "go2"
  refine wp_while ts.length (fun m l S1 => ∃ (dn td : List Tm) (h : Nat) (o : Option D), ts = dn ++ td ∧ td ≠ [] ∧ m = td.length ∧ (lx z).drop h = gl nm td ++ 41 :: rest ∧ h ≤ z.length ∧ h + (gl nm td).length = p + (gl nm ts).length ∧ l = [some (.str z), some (.int (p : Nat)), some (.ref r), some (.ref S.length), some (.int (h : Nat)), o] ∧ S1 = S ++ [.lst (dn.map eT)]) ⟨[], ts, p, none, rfl, hne, rfl, he, hpz, rfl, rfl, rfl⟩ ?_
  rintro m l S1 ⟨dn, td, h, o, h1, h2, h3, h4, h5, h6, rfl, rfl⟩
  have hlt : r < S.length := by
    rcases Nat.lt_or_ge r S.length with h | h
    · exact h
    · rw [List.getElem?_eq_none h] at hr; cases hr
  have hr1 : (S ++ [Cell.lst (dn.map eT)])[r]? = some (.lst (nm.map nD)) := by rw [List.getElem?_append_left hlt, hr]
  have hg : (S ++ [Cell.lst (dn.map eT)])[S.length]? = some (.lst (dn.map eT)) := by simp
  match td, h2 with
  | t :: td, _ =>
  have hm : t ∈ ts := by rw [h1]; simp
  have hdn : dn.length ≤ 2 := by rw [h1, List.length_append] at hlen; omega
  obtain ⟨rs, e1, e2⟩ : ∃ rs, gl nm (t :: td) ++ 41 :: rest = lx (tx nm t) ++ rs ∧ rs = (if td = [] then 41 :: rest else 44 :: 32 :: (gl nm td ++ 41 :: rest)) := by
    cases td with
    | nil => exact ⟨_, by rw [gl_one, if_pos rfl], rfl⟩
    | cons u td => exact ⟨_, by rw [gl_cons, if_neg (by simp)]; simp, rfl⟩
  rw [e1] at h4
  have hl := congrArg List.length h4
  rw [List.length_drop, lx_len, List.length_append] at hl
  have c1 := ih t hm (S := S ++ [Cell.lst (dn.map eT)]) hz hs h4 (fun c q hq => by
    rw [e2] at hq
    split at hq
    · exact .inl (List.cons.inj hq).1.symm
    · exact .inr (List.cons.inj hq).1.symm) h5 hr1
  have hd : (lx z).drop (h + (lx (tx nm t)).length) = rs := by rw [← List.drop_drop, h4, List.drop_left]
  generalize hT : S ++ [Cell.lst (dn.map eT)] = T at *
  generalize hh : h + (lx (tx nm t)).length = h' at *
  walk_at "go2"
  refine wp_eq c1 ?_
  walk_at "go2"
  refine way_ne rfl ?_
  walk_at "go2"
  refine ⟨_, _, rfl, hg, ?_⟩
  walk_at "go2"
  refine ⟨_, hg, by rw [List.length_map]; omega, ?_⟩
  walk_at "go2"
  rw [← hT, last_set, ← List.map_singleton (f := eT), ← List.map_append]
  refine wp_slStr ?_
  walk_at "go2"
  refine soI_wp ?_
  walk_at "go2"
  refine ⟨_, rfl, soI_wp ?_⟩
  walk_at "go2"
  refine ⟨_, rfl, _, rfl, hz, ?_⟩
  walk_at "go2"
  refine wf_eqTx (st_cut hs _ _) (by decide +kernel) ?_
  have q2 : lx (cutS z (some (h' : Nat)) (some ((h' : Nat) + 2))) = rs.take 2 := by
    rw [show ((h' : Nat) : Int) + 2 = ((h' + 2 : Nat) : Int) by omega, lx, cut_list z (by omega), hd, show h' + 2 - h' = 2 by omega]
  have q1 : lx (cutS z (some (h' : Nat)) (some ((h' : Nat) + 1))) = rs.take 1 := by
    rw [show ((h' : Nat) : Int) + 1 = ((h' + 1 : Nat) : Int) by omega, lx, cut_list z (by omega), hd, show h' + 1 - h' = 1 by omega]
  by_cases hn : td = []
  · rw [if_pos hn] at e2
    rw [e2] at q1 q2 hd hl
    subst hn
    walk_at "go2"
    refine way_ne (decide_eq_false fun z => by
      rw [z, show lx (Str.ofString ", ") = [44, 32] from lx_cs] at q2
      have := (List.cons.inj q2).1
      omega) ?_
    walk_at "go2"
    refine wp_slStr ?_
    walk_at "go2"
    refine soI_wp ?_
    walk_at "go2"
    refine ⟨_, rfl, soI_wp ?_⟩
    walk_at "go2"
    refine ⟨_, rfl, _, rfl, hz, ?_⟩
    walk_at "go2"
    refine wf_eqTx (st_cut hs _ _) (by decide +kernel) ?_
    walk_at "go2"
    refine way_eq (decide_eq_true (lx_inj (by rw [q1, show lx (Str.ofString ")") = [41] from lx_cl]; rfl))) ?_
    walk_at "go2"
    refine ⟨?_, _, rfl⟩
    rw [gl_one] at h6
    rw [show ((p + (gl nm ts).length + 1 : Nat) : Int) = (h' : Int) + 1 by omega, h1]
  · rw [if_neg hn] at e2
    rw [e2] at q1 q2 hd hl
    walk_at "go2"
    refine way_eq (decide_eq_true (lx_inj (by rw [q2, show lx (Str.ofString ", ") = [44, 32] from lx_cs]; rfl))) ?_
    walk_at "go2"
    match td, hn with
    | u :: td, _ =>
    simp only [List.length_cons] at hl
    refine ⟨(u :: td).length, by rw [h3]; simp, dn ++ [t], u :: td, h' + 2, _, by rw [h1]; simp, by simp, rfl, ?_, by omega, ?_, rfl, rfl⟩
    · rw [← List.drop_drop, hd]; rfl
    · rw [gl_cons] at h6
      simp only [List.length_append, List.length_cons] at h6
      omega
include hp hp11
/-- a term is read -/
theorem r_part (hN : Nw nm) (t : Tm) : ∀ {k : Nat}, Ind t → 2 * t.hgt + 4 ≤ k → RdP prog nm r t k := by
  induction t using Tm.ind with
  | hv i =>
    intro k ht hk S z p rest hz hs he hrest hpz hr
    cases ht with
    | v hi =>
    obtain ⟨k, rfl⟩ : ∃ j, k = j + 2 := ⟨k - 2, by omega⟩
    refine run_pure (hp14 8 _ rfl) rfl (by simp [eT, refLt, refLtL]) ?_
    show wp (c_read_part (run prog (k + 1)) [some (.str z), some (.int (p : Nat)), some (.ref r), some (.bl false), none, none, none, none, none] S) _
    rw [lx_txv] at he ⊢
    have w := wd_num hi.1 (p := 63) (.inl rfl)
    have c1 := r_wend hp14 (k := k) (S := S) hz he (fun c hc h => by
      have := w.1 c hc
      simp only [List.mem_cons, List.not_mem_nil, or_false] at h
      omega) (fun c q e => by
      have := hrest c q e
      simp only [List.mem_cons, List.not_mem_nil, or_false]
      omega) hpz
    have ew : lx (cutS z (some (p : Nat)) (some ((p + (63 :: lx (iS i)).length : Nat) : Int))) = 63 :: lx (iS i) := by
      rw [lx, cut_list z (by omega), he, Nat.add_sub_cancel_left, List.take_left]
    have en : cutS (cutS z (some (p : Nat)) (some ((p + (63 :: lx (iS i)).length : Nat) : Int))) (some 1) none = iS i := lx_inj (by rw [show (1 : Int) = ((1 : Nat) : Int) from rfl, lx_from, ew]; rfl)
    have hwl : (cutS z (some (p : Nat)) (some ((p + (63 :: lx (iS i)).length : Nat) : Int))).length ≤ 1000000 := by
      rw [← lx_len, ew, List.length_cons, lx_len]
      have := iS_len hi
      omega
    have e1 := starts_one ew (show lx (Str.ofString "?") = [63] from lx_qm)
    unfold c_read_part
    walk_at "go2"
    refine wp_eq c1 ?_
    walk_at "go2"
    refine wp_slStr ?_
    walk_at "go2"
    refine soI_wp ?_
    walk_at "go2"
    refine ⟨_, rfl, soI_wp ?_⟩
    walk_at "go2"
    refine ⟨_, rfl, _, rfl, hz, ?_⟩
    generalize hW : cutS z (some (p : Nat)) (some ((p + (63 :: lx (iS i)).length : Nat) : Int)) = W at *
    walk_at "go2"
    refine wp_starts ?_
    walk_at "go2"
    refine ⟨_, rfl, ?_⟩
    walk_at "go2"
    refine ⟨_, rfl, ?_⟩
    rw [e1]
    walk_at "go2"
    refine way_eq (by decide) ?_
    walk_at "go2"
    refine wp_slStr ?_
    walk_at "go2"
    refine soI_wp ?_
    walk_at "go2"
    refine ⟨_, rfl, noI_wp ⟨_, rfl, hwl, ?_⟩⟩
    rw [en]
    walk_at "go2"
    refine wp_eq (r_rnum hp14 hi) ?_
    walk_at "go2"
    refine way_ne rfl ?_
    walk_at "go2"
  | ha a b c ts ih =>
    intro k ht hk S z p rest hz hs he hrest hpz hr
    cases ht with
    | ap hq hts =>
    have hh : (Tm.ap a b c ts).hgt = hgts ts + 1 := by simp only [Tm.hgt]
    obtain ⟨k, rfl⟩ : ∃ j, k = j + 4 := ⟨k - 4, by omega⟩
    rw [eT_ap]
    refine run_pure (hp14 8 _ rfl) rfl (by rw [← eT_ap, refLt_tup, refLtL_cons, refLt_eT, refLtL_cons, refLt_int, refLtL_nil]; rfl) ?_
    show wp (c_read_part (run prog (k + 3)) [some (.str z), some (.int (p : Nat)), some (.ref r), some (.bl false), none, none, none, none, none] S) _
    have w := wd_sy hN hq.1.sy
    obtain ⟨d, q0, hd, hd63⟩ : ∃ d q0, lx (syT nm a b c) = d :: q0 ∧ 63 ≠ d := by
      rcases hq.1 with ⟨rfl, hb, rfl⟩ | ⟨rfl, hb, hc⟩
      · rw [sy_nm (.inr rfl)]
        obtain ⟨d, q, e1, e2⟩ := name_head hN (List.mem_of_getElem? (hN.at (a := b) (by omega)))
        exact ⟨d, q, e1, by unfold WC at e2; omega⟩
      · rw [lx_sy3]; exact ⟨_, _, rfl, by decide⟩
    -- what follows the word
    obtain ⟨rs, er, ers⟩ : ∃ rs, (lx z).drop p = lx (syT nm a b c) ++ rs ∧ rs = (if ts = [] then rest else 40 :: (gl nm ts ++ 41 :: rest)) := by
      by_cases hn : ts = []
      · subst hn; exact ⟨_, by rw [he, lx_txn, if_pos rfl], rfl⟩
      · exact ⟨_, by rw [he, lx_txa hn, if_neg hn]; simp [gl], rfl⟩
    have c1 := r_wend hp14 (k := k + 2) (S := S) hz er (fun c hc h => by
      have := w.1 c hc
      simp only [List.mem_cons, List.not_mem_nil, or_false] at h
      omega) (fun c q e => by
      rw [ers] at e
      simp only [List.mem_cons, List.not_mem_nil, or_false]
      split at e
      · have := hrest c q e; omega
      · have := (List.cons.inj e).1; omega) hpz
    have ew : cutS z (some (p : Nat)) (some ((p + (lx (syT nm a b c)).length : Nat) : Int)) = syT nm a b c := lx_inj (by
      rw [lx, cut_list z (by omega), er, Nat.add_sub_cancel_left, List.take_left])
    have hl := congrArg List.length er
    rw [List.length_drop, lx_len, List.length_append] at hl
    have hdr : (lx z).drop (p + (lx (syT nm a b c)).length) = rs := by rw [← List.drop_drop, er, List.drop_left]
    have q1 : lx (cutS z (some ((p + (lx (syT nm a b c)).length : Nat) : Int)) (some (((p + (lx (syT nm a b c)).length : Nat) : Int) + 1))) = rs.take 1 := by
      rw [show ((p + (lx (syT nm a b c)).length : Nat) : Int) + 1 = ((p + (lx (syT nm a b c)).length + 1 : Nat) : Int) by omega, lx, cut_list z (by omega), hdr, show p + (lx (syT nm a b c)).length + 1 - (p + (lx (syT nm a b c)).length) = 1 by omega]
    have e1 := starts_one hd (show lx (Str.ofString "?") = [63] from lx_qm)
    have c2 := rsF hp hp11 hp14 (k := k) (S := S) hN hq.1 hr
    generalize hP : p + (lx (syT nm a b c)).length = P at *
    unfold c_read_part
    walk_at "go2"
    refine wp_eq c1 ?_
    walk_at "go2"
    refine wp_slStr ?_
    walk_at "go2"
    refine soI_wp ?_
    walk_at "go2"
    refine ⟨_, rfl, soI_wp ?_⟩
    walk_at "go2"
    refine ⟨_, rfl, _, rfl, hz, ?_⟩
    rw [ew]
    walk_at "go2"
    refine wp_starts ?_
    walk_at "go2"
    refine ⟨_, rfl, ?_⟩
    walk_at "go2"
    refine ⟨_, rfl, ?_⟩
    rw [e1]
    walk_at "go2"
    refine way_ne (decide_eq_false hd63) ?_
    walk_at "go2"
    refine wp_eq c2 ?_
    walk_at "go2"
    refine way_ne rfl ?_
    walk_at "go2"
    refine wp_slStr ?_
    walk_at "go2"
    refine soI_wp ?_
    walk_at "go2"
    refine ⟨_, rfl, soI_wp ?_⟩
    walk_at "go2"
    refine ⟨_, rfl, _, rfl, hz, ?_⟩
    walk_at "go2"
    refine wf_neTx (st_cut hs _ _) (by decide +kernel) ?_
    by_cases hn : ts = []
    · subst hn
      rw [if_pos rfl] at ers
      walk_at "go2"
      refine way_ne (decide_eq_false fun z => by
        rw [z, show lx (Str.ofString "(") = [40] from lx_op, ers] at q1
        cases rest with
        | nil => cases q1
        | cons c q =>
          have h1 := (List.cons.inj q1).1
          have h2 := hrest c q rfl
          omega) ?_
      walk_at "go2"
      refine ⟨?_, rfl⟩
      rw [lx_txn, hP]
      rfl
    · rw [if_neg hn] at ers
      rw [ers] at hl hdr
      simp only [List.length_cons] at hl
      have c3 := r_args hp14 (k := k + 2) (r := r) (S := S) (nm := nm) hn hq.2 (fun t ht => ih t ht (hts t ht) (by have := hgts_mem ht; omega)) (p := P + 1) (rest := rest) hz hs (by rw [← List.drop_drop, hdr]; rfl) (by omega) hr
      walk_at "go2"
      refine way_eq (decide_eq_true (lx_inj (by rw [q1, ers, show lx (Str.ofString "(") = [40] from lx_op]; rfl))) ?_
      walk_at "go2"
      rw [show ((P : Nat) : Int) + 1 = ((P + 1 : Nat) : Int) by omega]
      refine wp_eq c3 ?_
      walk_at "go2"
      refine way_ne rfl ?_
      walk_at "go2"
      refine ⟨?_, rfl⟩
      have : P + 1 + (gl nm ts).length + 1 = p + (lx (tx nm (.ap a b c ts))).length := by
        rw [lx_txa hn, List.length_append, List.length_cons, List.length_append, ← hP]
        simp only [gl, List.length_cons, List.length_nil]
        omega
      rw [this]
end
end
section
open PySem L2
/-- an atom that has a text -/
def AtO (t : Tm) : Prop := ∃ a b c ts, t = .ap a b c ts ∧ AtS a b c ∧ ts.length ≤ 2 ∧ ∀ u ∈ ts, Ind u
theorem AtO.tv {t : Tm} (h : AtO t) : TxV t := by
  obtain ⟨a, b, c, ts, rfl, h1, h2, h3⟩ := h
  exact .ap ⟨h1.sy, h2⟩ fun u hu => (h3 u hu).tv
/-- a literal that has a text -/
def LitTx (x : Lit) : Prop := (AtO x.l ∧ x.r = tTruth) ∨ (Ind x.l ∧ Ind x.r)
theorem tTruth_tv : TxV tTruth := .ap ⟨.inl rfl, by decide⟩ (by simp)
theorem LitTx.tl {x : Lit} (h : LitTx x) : TxV x.l := h.elim (fun h => h.1.tv) fun h => h.1.tv
theorem LitTx.tr {x : Lit} (h : LitTx x) : TxV x.r := h.elim (fun h => h.2 ▸ tTruth_tv) fun h => h.2.tv
theorem Ind.inds {ts : List Tm} (h : ∀ t ∈ ts, t.ind' = true) : Zi.inds ts = true := by
  rw [inds_all, List.all_eq_true]; exact h
theorem Ind.ind {t : Tm} (h : Ind t) : t.ind' = true := by
  induction h with
  | v _ => rfl
  | ap hq hts ih =>
    have h1 := hq.1
    unfold IndS at h1
    rw [Tm.ind', Ind.inds ih, Bool.and_true, decide_eq_true_eq]
    omega
theorem Ind.na {t : Tm} (h : Ind t) : t.atomic = false := by
  cases h with
  | v _ => rfl
  | ap hq hts =>
    have h1 := hq.1
    unfold IndS at h1
    rw [Tm.atomic, decide_eq_true (by omega)]
    rfl
theorem AtO.at' {t : Tm} (h : AtO t) : t.atomic = true := by
  obtain ⟨a, b, c, ts, rfl, h1, h2, h3⟩ := h
  unfold AtS at h1
  rw [Tm.atomic, decide_eq_false (by omega), Ind.inds fun t ht => (h3 t ht).ind]
  rfl
/-- an atom as it is read -/
def eAR : Tm → D
  | .v i => .int i
  | .ap a b c ts => .tup [eSA a b c, .tup (ts.map eT)]
/-- a literal as it is read -/
def eLR (x : Lit) : D := if (x.l.atomic && teq x.r tTruth) = true then .tup [.bl x.pos, eAR x.l, k_TRUTH] else eL x
theorem snap_eSA {n : Nat} {S : Sto} {a b c : Int} : snap n S (eSA a b c) = snap n S (eS a b c) := by
  unfold eSA
  split
  · cases n <;> rfl
  · rfl
theorem snap_eAR {n : Nat} {S : Sto} (t : Tm) : snap n S (eAR t) = snap n S (eT t) := by
  cases t with
  | v i => rw [eAR, eT]
  | ap a b c ts =>
    rw [eAR, eT_ap]
    cases n with
    | zero => rfl
    | succ n =>
      show (allS (snap n S) [eSA a b c, .tup (ts.map eT)]).bind _ = (allS (snap n S) [eS a b c, .tup (ts.map eT)]).bind _
      simp only [allS, snap_eSA]
theorem snap_kT {n : Nat} {S : Sto} : snap n S k_TRUTH = snap n S (eT tTruth) := by
  rw [show eT tTruth = .tup [eS 0 0 0, .tup ([].map eT)] from eT_ap ..]
  match n with
  | 0 => rfl
  | 1 => rfl
  | n + 2 => rfl
theorem snap_eLR {n : Nat} {S : Sto} (x : Lit) : snap n S (eLR x) = snap n S (eL x) := by
  unfold eLR
  split
  · rename_i h
    rw [Bool.and_eq_true, teq_iff] at h
    cases n with
    | zero => rfl
    | succ n =>
      show (allS (snap n S) [.bl x.pos, eAR x.l, k_TRUTH]).bind _ = (allS (snap n S) [.bl x.pos, eT x.l, eT x.r]).bind _
      simp only [allS, snap_eAR, snap_kT, h.2]
  · rfl
theorem refLt_eSA {n : Nat} {a b c : Int} : refLt n (eSA a b c) = true := by unfold eSA; split <;> simp [eS, refLt, refLtL]
theorem refLt_eTm {n : Nat} (ts : List Tm) : refLtL n (ts.map eT) = true := refLtL_all _ fun x hx => by
  obtain ⟨t, _, rfl⟩ := List.mem_map.mp hx
  exact refLt_eT t
theorem refLt_eAR {n : Nat} (t : Tm) : refLt n (eAR t) = true := by
  cases t with
  | v i => exact refLt_int i
  | ap a b c ts => rw [eAR, refLt_tup, refLtL_cons, refLt_eSA, refLtL_cons, refLt_tup, refLt_eTm, refLtL_nil]; rfl
theorem refLt_eLR {n : Nat} (x : Lit) : refLt n (eLR x) = true := by
  unfold eLR
  split
  · rw [refLt_tup, refLtL_cons, refLt_bl, refLtL_cons, refLt_eAR, refLtL_cons, refLtL_nil]
    simp [k_TRUTH, refLt, refLtL]
  · exact refLt_eL x
section
variable {prog : Nat → Option Fb} {r : Nat} {nm : List (Bool × Str)} (hp : ∀ j fb, lZl0[j]? = some fb → prog (0 + j) = some fb) (hp11 : ∀ j fb, lZl11[j]? = some fb → prog (11000 + j) = some fb) (hp14 : ∀ j fb, lZl14[j]? = some fb → prog (14000 + j) = some fb) {k : Nat} {S : Sto} {at' : Bool}
include hp14
/-- what follows a symbol that was read -/
theorem r_apG (hN : Nw nm) {a b c : Int} {ts : List Tm} {z : Str} {dS : D} (hv : SyV a b c) (hlen : ts.length ≤ 2) (h63 : ∃ d q0, lx (syT nm a b c) = d :: q0 ∧ 63 ≠ d) (hdS : ∀ n, refLt n dS = true)
    (ih : ∀ t ∈ ts, RdP prog nm r t (k + 2)) (hz : z.length ≤ 1000000) (hs : stS z = true) (he : lx z = lx (tx nm (.ap a b c ts))) (hr : S[r]? = some (.lst (nm.map nD)))
    (c2 : run prog (k + 3) 14005 [.str (syT nm a b c), .ref r, .bl at'] S = some (dS, S)) :
    run prog (k + 4) 14008 [.str z, .int (0 : Nat), .ref r, .bl at'] S = some (if isNon dS = true then .non else .tup [.tup [dS, .tup (ts.map eT)], .int (z.length : Nat)], S) := by
  refine run_pure (hp14 8 _ rfl) rfl (by
    split
    · exact refLt_non
    · rw [refLt_tup, refLtL_cons, refLt_tup, refLtL_cons, hdS, refLtL_cons, refLt_tup, refLt_eTm, refLtL_nil, refLtL_cons, refLt_int, refLtL_nil]; rfl) ?_
  show wp (c_read_part (run prog (k + 3)) [some (.str z), some (.int (0 : Nat)), some (.ref r), some (.bl at'), none, none, none, none, none] S) _
  have w := wd_sy hN hv
  obtain ⟨d, q0, hd, hd63⟩ := h63
  obtain ⟨rs, er, ers⟩ : ∃ rs, (lx z).drop 0 = lx (syT nm a b c) ++ rs ∧ rs = (if ts = [] then [] else 40 :: (gl nm ts ++ [41])) := by
    rw [List.drop_zero, he]
    by_cases hn : ts = []
    · subst hn; exact ⟨_, by rw [lx_txn, if_pos rfl, List.append_nil], rfl⟩
    · exact ⟨_, by rw [lx_txa hn, if_neg hn]; simp [gl], rfl⟩
  have c1 := r_wend hp14 (k := k + 2) (S := S) hz er (fun c hc h => by
    have := w.1 c hc
    simp only [List.mem_cons, List.not_mem_nil, or_false] at h
    omega) (fun c q e => by
    rw [ers] at e
    simp only [List.mem_cons, List.not_mem_nil, or_false]
    split at e
    · cases e
    · have := (List.cons.inj e).1; omega) (Nat.zero_le _)
  have ew : cutS z (some ((0 : Nat) : Int)) (some ((0 + (lx (syT nm a b c)).length : Nat) : Int)) = syT nm a b c := lx_inj (by
    rw [lx, cut_list z (by omega), er, Nat.add_sub_cancel_left, List.take_left])
  have hl := congrArg List.length er
  rw [List.length_drop, lx_len, List.length_append] at hl
  have hdr : (lx z).drop (0 + (lx (syT nm a b c)).length) = rs := by rw [← List.drop_drop, er, List.drop_left]
  have q1 : lx (cutS z (some ((0 + (lx (syT nm a b c)).length : Nat) : Int)) (some (((0 + (lx (syT nm a b c)).length : Nat) : Int) + 1))) = rs.take 1 := by
    rw [show ((0 + (lx (syT nm a b c)).length : Nat) : Int) + 1 = ((0 + (lx (syT nm a b c)).length + 1 : Nat) : Int) by omega, lx, cut_list z (by omega), hdr, show 0 + (lx (syT nm a b c)).length + 1 - (0 + (lx (syT nm a b c)).length) = 1 by omega]
  have e1 := starts_one hd (show lx (Str.ofString "?") = [63] from lx_qm)
  generalize hP : 0 + (lx (syT nm a b c)).length = P at *
  unfold c_read_part
  walk_at "go2"
  refine wp_eq c1 ?_
  walk_at "go2"
  refine wp_slStr ?_
  walk_at "go2"
  refine soI_wp ?_
  walk_at "go2"
  refine ⟨_, rfl, soI_wp ?_⟩
  walk_at "go2"
  refine ⟨_, rfl, _, rfl, hz, ?_⟩
  rw [ew]
  walk_at "go2"
  refine wp_starts ?_
  walk_at "go2"
  refine ⟨_, rfl, ?_⟩
  walk_at "go2"
  refine ⟨_, rfl, ?_⟩
  rw [e1]
  walk_at "go2"
  refine way_ne (decide_eq_false hd63) ?_
  walk_at "go2"
  refine wp_eq c2 ?_
  walk_at "go2"
  refine way_of (fun hi => ?_) fun hi => ?_
  · rw [if_pos hi]
    walk_at "go2"
  rw [if_neg (by rw [hi]; exact Bool.false_ne_true)]
  walk_at "go2"
  refine wp_slStr ?_
  walk_at "go2"
  refine soI_wp ?_
  walk_at "go2"
  refine ⟨_, rfl, soI_wp ?_⟩
  walk_at "go2"
  refine ⟨_, rfl, _, rfl, hz, ?_⟩
  walk_at "go2"
  refine wf_neTx (st_cut hs _ _) (by decide +kernel) ?_
  by_cases hn : ts = []
  · subst hn
    rw [if_pos rfl] at ers
    rw [ers] at hl
    walk_at "go2"
    refine way_ne (decide_eq_false fun z => by
      rw [z, show lx (Str.ofString "(") = [40] from lx_op, ers] at q1
      cases q1) ?_
    walk_at "go2"
    refine ⟨?_, rfl⟩
    simp only [List.length_nil] at hl
    rw [show P = z.length by omega]
    rfl
  · rw [if_neg hn] at ers
    rw [ers] at hl hdr
    simp only [List.length_cons, List.length_append, List.length_nil] at hl
    have c3 := r_args hp14 (k := k + 2) (r := r) (S := S) (nm := nm) hn hlen ih (p := P + 1) (rest := []) hz hs (by rw [← List.drop_drop, hdr]; rfl) (by omega) hr
    walk_at "go2"
    refine way_eq (decide_eq_true (lx_inj (by rw [q1, ers, show lx (Str.ofString "(") = [40] from lx_op]; rfl))) ?_
    walk_at "go2"
    rw [show ((P : Nat) : Int) + 1 = ((P + 1 : Nat) : Int) by omega]
    refine wp_eq c3 ?_
    walk_at "go2"
    refine way_ne rfl ?_
    walk_at "go2"
    refine ⟨?_, rfl⟩
    rw [show P + 1 + (gl nm ts).length + 1 = z.length by omega]
/-- a whole text -/
theorem r_wholeP {z : Str} {d : D} (hz : z.length ≤ 1000000) (hd : refLt S.length d = true) (h : run prog k 14008 [.str z, .int (0 : Nat), .ref r, .bl at'] S = some (.tup [d, .int (z.length : Nat)], S)) : run prog (k + 1) 14009 [.str z, .ref r, .bl at'] S = some (d, S) := by
  refine run_pure (hp14 9 _ rfl) rfl hd ?_
  show wp (c_read_whole (run prog k) [some (.str z), some (.ref r), some (.bl at'), none] S) _
  unfold c_read_whole
  walk_at "go2"
  refine wp_eq h ?_
  walk_at "go2"
  refine way_ne rfl ?_
  walk_at "go2"
  refine wf_lenStr hz ?_
  walk_at "go2"
  refine way_eq (by simp) ?_
  walk_at "go2"
theorem r_wholeN {z : Str} (h : run prog k 14008 [.str z, .int (0 : Nat), .ref r, .bl at'] S = some (.non, S)) : run prog (k + 1) 14009 [.str z, .ref r, .bl at'] S = some (.non, S) := by
  refine run_pure (hp14 9 _ rfl) rfl refLt_non ?_
  show wp (c_read_whole (run prog k) [some (.str z), some (.ref r), some (.bl at'), none] S) _
  unfold c_read_whole
  walk_at "go2"
  refine wp_eq h ?_
  walk_at "go2"
  refine way_eq rfl ?_
  walk_at "go2"
include hp hp11
/-- a term for its text -/
theorem r_wholeT (hN : Nw nm) {t : Tm} (ht : Ind t) (hk : 2 * t.hgt + 4 ≤ k) {z : Str} (hz : z.length ≤ 1000000) (hs : stS z = true) (he : lx z = lx (tx nm t)) (hr : S[r]? = some (.lst (nm.map nD))) : run prog (k + 1) 14009 [.str z, .ref r, .bl false] S = some (eT t, S) := by
  refine r_wholeP hp14 hz (refLt_eT t) ?_
  have := r_part hp hp11 hp14 hN t (r := r) ht hk (S := S) (z := z) (p := 0) (rest := []) hz hs (by rw [List.drop_zero, he, List.append_nil]) (fun c q e => by cases e) (Nat.zero_le _) hr
  rw [← he, Nat.zero_add, lx_len] at this
  exact this
theorem at_head (hN : Nw nm) {a b c : Int} (h : AtS a b c) : ∃ d q0, lx (syT nm a b c) = d :: q0 ∧ 63 ≠ d := by
  rcases h with ⟨rfl, rfl, rfl⟩ | ⟨rfl, hb, rfl⟩ | ⟨rfl, hb, hc⟩ | ⟨rfl, hb, rfl⟩
  · exact ⟨_, _, lx_hash, by decide⟩
  · rw [sy_nm (.inl rfl)]
    obtain ⟨d, q, e1, e2⟩ := name_head hN (List.mem_of_getElem? (hN.at (a := b) (by omega)))
    exact ⟨d, q, e1, by unfold WC at e2; omega⟩
  · rw [lx_sy4]; exact ⟨_, _, rfl, by decide⟩
  · rw [lx_sy5]; exact ⟨_, _, rfl, by decide⟩
/-- an atom for its text -/
theorem r_wholeA (hN : Nw nm) {t : Tm} (ht : AtO t) (hk : 2 * t.hgt + 4 ≤ k) {z : Str} (hz : z.length ≤ 1000000) (hs : stS z = true) (he : lx z = lx (tx nm t)) (hr : S[r]? = some (.lst (nm.map nD))) : run prog (k + 1) 14009 [.str z, .ref r, .bl true] S = some (eAR t, S) := by
  refine r_wholeP hp14 hz (refLt_eAR t) ?_
  obtain ⟨a, b, c, ts, rfl, h1, h2, h3⟩ := ht
  obtain ⟨k, rfl⟩ : ∃ j, k = j + 4 := ⟨k - 4, by omega⟩
  have hh : (Tm.ap a b c ts).hgt = hgts ts + 1 := by simp only [Tm.hgt]
  rw [r_apG hp14 hN h1.sy h2 (at_head hp hp11 hp14 hN h1) (fun n => refLt_eSA) (fun t ht => r_part hp hp11 hp14 hN t (h3 t ht) (by have := hgts_mem ht; omega)) hz hs he hr (rsA hp hp11 hp14 hN h1 hr)]
  rw [if_neg (by unfold eSA; split <;> simp [isNon, eS])]
  rfl
/-- .. that is no term -/
theorem r_wholeX (hN : Nw nm) {a b c : Int} {ts : List Tm} (h1 : AtS a b c) (h2 : ts.length ≤ 2) (h3 : ∀ u ∈ ts, Ind u) (hno : a = 1 → (false, nmAt nm b) ∉ nm) (hk : 2 * (Tm.ap a b c ts).hgt + 4 ≤ k) {z : Str} (hz : z.length ≤ 1000000) (hs : stS z = true) (he : lx z = lx (tx nm (.ap a b c ts))) (hr : S[r]? = some (.lst (nm.map nD))) : run prog (k + 1) 14009 [.str z, .ref r, .bl false] S = some (.non, S) := by
  refine r_wholeN hp14 ?_
  obtain ⟨k, rfl⟩ : ∃ j, k = j + 4 := ⟨k - 4, by omega⟩
  have hh : (Tm.ap a b c ts).hgt = hgts ts + 1 := by simp only [Tm.hgt]
  rw [r_apG hp14 hN h1.sy h2 (at_head hp hp11 hp14 hN h1) (fun n => refLt_non) (fun t ht => r_part hp hp11 hp14 hN t (h3 t ht) (by have := hgts_mem ht; omega)) hz hs he hr (rsN hp hp11 hp14 hN h1 hno hr)]
  rfl
/-- both sides of a text with one sign -/
theorem r_eqn (hN : Nw nm) {t u : Tm} (ht : Ind t) (hu : Ind u) (hk : 2 * t.hgt + 5 ≤ k) (hk2 : 2 * u.hgt + 5 ≤ k) {z s : Str} {b : Nat} {q : List Nat} (hs : lx s = 32 :: b :: q) (hb : b = 33 ∨ b = 61) (hks : Builtin.Str.strKind s = 1) (hz : z.length ≤ 1000000) (he : lx z = lx (tx nm t) ++ (lx s ++ lx (tx nm u))) (hr : S[r]? = some (.lst (nm.map nD))) :
    run prog (k + 1) 14010 [.str z, .str s, .ref r] S = some (.tup [eT t, eT u], S) := by
  obtain ⟨k, rfl⟩ : ∃ j, k = j + 1 := ⟨k - 1, by omega⟩
  refine run_rub (hp14 10 _ rfl) rfl (by rw [refLt_tup, refLtL_cons, refLt_eT, refLtL_cons, refLt_eT, refLtL_nil]; rfl) ?_
  show wp (c_read_equation (run prog (k + 1)) [some (.str z), some (.str s), some (.ref r), none, none, none] S) _
  have hl := congrArg List.length he
  rw [lx_len, List.length_append, List.length_append, lx_len, lx_len, lx_len] at hl
  have e : Txt.split z s = [tx nm t, tx nm u] := by
    refine split_glue (by rw [hs]; simp) hks (by simp) he ?_
    intro p hp
    have no : ∀ {t : Tm}, TxV t → b ∉ lx (tx nm t) := fun ht h => by have := tx_free hN ht _ h; omega
    rw [hs]
    simp only [List.mem_cons, List.not_mem_nil, or_false] at hp
    rcases hp with rfl | rfl
    · exact free_two (by omega) (no ht.tv)
    · exact free_two (by omega) (no hu.tv)
  have hlt : r < S.length := by
    rcases Nat.lt_or_ge r S.length with h | h
    · exact h
    · rw [List.getElem?_eq_none h] at hr; cases hr
  have hsl : s.length ≠ 0 := by rw [← lx_len, hs]; simp
  unfold c_read_equation
  walk_at "go2"
  refine wp_split ?_
  walk_at "go2"
  refine ⟨_, rfl, ?_⟩
  walk_at "go2"
  refine ⟨_, rfl, by simpa using hsl, by omega, ?_⟩
  rw [e]
  have g : (S ++ [.lst ([tx nm t, tx nm u].map D.str)])[S.length]? = some (.lst ([tx nm t, tx nm u].map D.str)) := by simp
  have hr1 : (S ++ [.lst ([tx nm t, tx nm u].map D.str)])[r]? = some (.lst (nm.map nD)) := by rw [List.getElem?_append_left hlt, hr]
  generalize hT : S ++ [.lst ([tx nm t, tx nm u].map D.str)] = T at *
  walk_at "go2"
  refine way_eq (by simp) ?_
  walk_at "go2"
  refine wf_ixL (d := .str (tx nm t)) g rfl ?_
  walk_at "go2"
  refine wp_eq (r_wholeT hp hp11 hp14 hN ht (by omega) (by omega) (tx_st hN ht.tv) rfl hr1) ?_
  walk_at "go2"
  refine wf_ixL (d := .str (tx nm u)) g rfl ?_
  walk_at "go2"
  refine wp_eq (r_wholeT hp hp11 hp14 hN hu (by omega) (by omega) (tx_st hN hu.tv) rfl hr1) ?_
  walk_at "go2"
  refine way_ne (by cases t <;> simp [eT, isNon]) ?_
  walk_at "go2"
  refine way_ne (by cases u <;> simp [eT, isNon]) ?_
  walk_at "go2"
  exact ⟨rfl, _, hT.symm⟩
omit hp hp11 hp14 in
theorem at_pos {X y : List Nat} {n j : Nat} {c : Nat} (h : y <+: X.drop n) (hc : y[j]? = some c) : X[n + j]? = some c := by
  obtain ⟨q, e⟩ := h
  have : j < y.length := (List.getElem?_eq_some_iff.mp hc).1
  rw [← List.getElem?_drop, ← e, List.getElem?_append_left this, hc]
omit hp hp11 hp14 in
theorem no_eqs {z : Str} (h : ∀ c ∈ lx z, c ≠ 61) : inTx (sq " = ") z = false ∧ inTx (sq " != ") z = false := by
  constructor
  · rw [Bool.eq_false_iff]
    intro e
    obtain ⟨n, e⟩ := (inTx_iff (by rw [lx_eq]; simp)).mp e
    rw [lx_eq] at e
    exact h 61 (List.mem_of_getElem? (at_pos e (j := 1) rfl)) rfl
  · rw [Bool.eq_false_iff]
    intro e
    obtain ⟨n, e⟩ := (inTx_iff (by rw [lx_ne]; simp)).mp e
    rw [lx_ne] at e
    exact h 61 (List.mem_of_getElem? (at_pos e (j := 2) rfl)) rfl
omit hp hp11 hp14 in
theorem in_mid {z s : Str} {u v : List Nat} (hs : lx s ≠ []) (h : lx z = u ++ (lx s ++ v)) : inTx s z = true := (inTx_iff hs).mpr ⟨u.length, by rw [h, List.drop_left]; exact List.prefix_append _ _⟩
omit hp hp11 hp14 in
/-- " != " holds no " = " -/
theorem no_eq2 {z : Str} {u v : List Nat} (hu : ∀ c ∈ u, c ≠ 61) (hv : ∀ c ∈ v, c ≠ 61) (h : lx z = u ++ ([32, 33, 61, 32] ++ v)) : inTx (sq " = ") z = false := by
  rw [Bool.eq_false_iff]
  intro e
  obtain ⟨n, e⟩ := (inTx_iff (by rw [lx_eq]; simp)).mp e
  rw [lx_eq] at e
  have p0 := at_pos e (j := 0) rfl
  have p1 := at_pos e (j := 1) rfl
  rw [h, Nat.add_zero] at p0
  rw [h] at p1
  have key : ∀ i, (u ++ ([32, 33, 61, 32] ++ v))[i]? = some 61 → i = u.length + 2 := fun i hi => by
    rcases Nat.lt_or_ge i u.length with hlt | hge
    · rw [List.getElem?_append_left hlt] at hi
      exact absurd rfl (hu 61 (List.mem_of_getElem? hi))
    · rw [List.getElem?_append_right hge] at hi
      match hj : i - u.length, hi with
      | 0, hi => simp at hi
      | 1, hi => simp at hi
      | 2, hi => omega
      | 3, hi => simp at hi
      | j + 4, hi =>
        have : v[j]? = some 61 := by simpa using hi
        exact absurd rfl (hv 61 (List.mem_of_getElem? this))
  have hn := key _ p1
  have hn' : n = u.length + 1 := by omega
  rw [hn', List.getElem?_append_right (by omega)] at p0
  simp at p0
omit hp hp11 hp14 in
/-- no term's text begins with "not " -/
theorem not_head (hN : Nw nm) {t : Tm} (ht : TxV t) : ¬ [110, 111, 116, 32] <+: lx (tx nm t) := fun h => by
  have key : ∀ (w rs : List Nat), Wd w → lx (tx nm t) = w ++ rs → (rs = [] ∨ ∃ q, rs = 40 :: q) → False := fun w rs hw e hrs => by
    have h3 := at_pos (n := 0) (by rw [List.drop_zero]; exact h) (j := 3) (c := 32) rfl
    rw [Nat.zero_add] at h3
    have hi : ∀ i c, [110, 111, 116, 32][i]? = some c → (w ++ rs)[i]? = some c := fun i c hc => by
      have := at_pos (n := 0) (by rw [List.drop_zero]; exact h) (j := i) (c := c) hc
      rw [Nat.zero_add, e] at this
      exact this
    rcases Nat.lt_or_ge 3 w.length with hl | hl
    · have := hi 3 32 rfl
      rw [List.getElem?_append_left hl] at this
      exact absurd rfl (hw.1 32 (List.mem_of_getElem? this)).1
    · have hc : ∃ c, [110, 111, 116, 32][w.length]? = some c ∧ c ≠ 40 := by
        match hw' : w.length, hl with
        | 0, _ => exact ⟨110, rfl, by decide⟩
        | 1, _ => exact ⟨111, rfl, by decide⟩
        | 2, _ => exact ⟨116, rfl, by decide⟩
        | 3, _ => exact ⟨32, rfl, by decide⟩
      obtain ⟨c, hc, hne⟩ := hc
      have := hi _ _ hc
      rw [List.getElem?_append_right (Nat.le_refl _), Nat.sub_self] at this
      rcases hrs with rfl | ⟨q, rfl⟩
      · cases this
      · exact hne (Option.some.inj this).symm
  cases ht with
  | v hi => exact key _ [] (wd_num hi.1 (p := 63) (.inl rfl)) (by rw [lx_txv, List.append_nil]) (.inl rfl)
  | @ap a b c ts hq hts =>
    by_cases hn : ts = []
    · subst hn
      exact key _ [] (wd_sy hN hq.1) (by rw [lx_txn, List.append_nil]) (.inl rfl)
    · exact key _ _ (wd_sy hN hq.1) (lx_txa hn) (.inr ⟨_, rfl⟩)
/-- a literal for its text -/
theorem r_rlit (hN : Nw nm) {x : Lit} (hx : LitTx x) (hk : 2 * x.l.hgt + 6 ≤ k) (hk2 : 2 * x.r.hgt + 6 ≤ k) (hz : (litTx nm x).length ≤ 1000000) (hr : S[r]? = some (.lst (nm.map nD))) :
    run prog (k + 1) 14011 [.str (litTx nm x), .ref r] S = some (eLR x, S) := by
  obtain ⟨k, rfl⟩ : ∃ j, k = j + 1 := ⟨k - 1, by omega⟩
  have hst : stS (litTx nm x) = true := st_asc (lit_asc hN hx.tl hx.tr)
  have fl := tx_free hN hx.tl; have fr := tx_free hN hx.tr
  refine run_pure (hp14 11 _ rfl) rfl (refLt_eLR x) ?_
  show wp (c_read_literal (run prog (k + 1)) [some (.str (litTx nm x)), some (.ref r), none, none, none, none] S) _
  unfold c_read_literal
  refine wp_seq (wp_for ?_)
  walk_at "go2"
  generalize hZ : litTx nm x = z at *
  refine wp_findI (fun p : Bool × Str => .tup [.bl p.1, .str p.2]) [(true, Str.ofString " = "), (false, Str.ofString " != ")] (fun l => ∃ o2 o3, l = [some (.str z), some (.ref r), o2, o3, none, none]) (fun p => inTx p.2 z) (fun _ => eL x) rfl ⟨none, none, rfl⟩ trivial ?_ ?_
  · rintro l ⟨b, s⟩ hm ⟨o2, o3, rfl⟩
    walk_at "go2"
    refine wf_inT ?_
    walk_at "go2"
    refine way_of (fun h => ?_) fun h => ?_
    · rcases hx with ⟨h1, h2⟩ | ⟨h1, h2⟩
      · exfalso
        have nz : ∀ c ∈ lx z, c ≠ 61 := by
          rw [← hZ]
          unfold litTx
          rw [if_pos (by rw [h1.at', h2, teq_self]; rfl)]
          intro c hc
          split at hc
          · exact (fl c hc).2.1
          · rw [lx_app, lx_not, List.mem_append] at hc
            rcases hc with hc | hc
            · simp only [List.mem_cons, List.not_mem_nil, or_false] at hc; omega
            · exact (fl c hc).2.1
        have := no_eqs nz
        simp only [List.mem_cons, Prod.mk.injEq, List.not_mem_nil, or_false] at hm
        rcases hm with ⟨rfl, rfl⟩ | ⟨rfl, rfl⟩
        · rw [this.1] at h; cases h
        · rw [this.2] at h; cases h
      · have e0 : z = tx nm x.l ++ (if x.pos = true then sq " = " else sq " != ") ++ tx nm x.r := by
          rw [← hZ]
          unfold litTx
          rw [if_neg (by rw [h1.na]; exact Bool.false_ne_true)]
        have eb : b = x.pos := by
          simp only [List.mem_cons, Prod.mk.injEq, List.not_mem_nil, or_false] at hm
          cases hp' : x.pos with
          | true =>
            rw [hp', if_pos rfl] at e0
            rcases hm with ⟨rfl, rfl⟩ | ⟨rfl, rfl⟩
            · rfl
            · exfalso
              obtain ⟨n, e⟩ := (inTx_iff (by rw [show lx (Str.ofString " != ") = [32, 33, 61, 32] from lx_ne]; simp)).mp h
              rw [show lx (Str.ofString " != ") = [32, 33, 61, 32] from lx_ne] at e
              have := List.mem_of_getElem? (at_pos e (j := 1) rfl)
              rw [e0, lx_app, lx_app, lx_eq, List.mem_append, List.mem_append] at this
              rcases this with (h | h) | h
              · exact (fl _ h).1 rfl
              · simp only [List.mem_cons, List.not_mem_nil, or_false] at h; omega
              · exact (fr _ h).1 rfl
          | false =>
            rw [hp', if_neg Bool.false_ne_true] at e0
            rcases hm with ⟨rfl, rfl⟩ | ⟨rfl, rfl⟩
            · exfalso
              have := no_eq2 (z := z) (fun c hc => (fl c hc).2.1) (fun c hc => (fr c hc).2.1) (by rw [e0, lx_app, lx_app, lx_ne, List.append_assoc])
              rw [this] at h; cases h
            · rfl
        have es : s = if x.pos = true then sq " = " else sq " != " := by
          simp only [List.mem_cons, Prod.mk.injEq, List.not_mem_nil, or_false] at hm
          rw [← eb]
          rcases hm with ⟨rfl, rfl⟩ | ⟨rfl, rfl⟩ <;> rfl
        have c1 : run prog (k + 1) 14010 [.str z, .str s, .ref r] S = some (.tup [eT x.l, eT x.r], S) := by
          have he : lx z = lx (tx nm x.l) ++ (lx s ++ lx (tx nm x.r)) := by rw [e0, es, lx_app, lx_app, List.append_assoc]
          simp only [List.mem_cons, Prod.mk.injEq, List.not_mem_nil, or_false] at hm
          rcases hm with ⟨_, rfl⟩ | ⟨_, rfl⟩
          · exact r_eqn hp hp11 hp14 hN h1 h2 (by omega) (by omega) (show lx (Str.ofString " = ") = _ from lx_eq) (.inr rfl) (by decide +kernel) hz he hr
          · exact r_eqn hp hp11 hp14 hN h1 h2 (by omega) (by omega) (show lx (Str.ofString " != ") = _ from lx_ne) (.inl rfl) (by decide +kernel) hz he hr
        walk_at "go2"
        refine wp_eq c1 ?_
        walk_at "go2"
        refine way_ne rfl ?_
        walk_at "go2"
        exact ⟨rfl, by rw [if_pos h, eb]; rfl⟩
    · walk_at "go2"
      exact ⟨rfl, by rw [if_neg (by rw [h]; exact Bool.false_ne_true)]; exact ⟨_, .inl rfl, _, _, rfl⟩⟩
  · rcases hx with ⟨h1, h2⟩ | ⟨h1, h2⟩
    · have hc : (x.l.atomic && teq x.r tTruth) = true := by rw [h1.at', h2, teq_self]; rfl
      have nz : ∀ c ∈ lx z, c ≠ 61 := by
        rw [← hZ]
        unfold litTx
        rw [if_pos hc]
        intro c hc
        split at hc
        · exact (fl c hc).2.1
        · rw [lx_app, lx_not, List.mem_append] at hc
          rcases hc with hc | hc
          · simp only [List.mem_cons, List.not_mem_nil, or_false] at hc; omega
          · exact (fl c hc).2.1
      have nq := no_eqs nz
      have ef : [(true, Str.ofString " = "), (false, Str.ofString " != ")].find? (fun p : Bool × Str => inTx p.2 z) = none := by
        rw [List.find?_cons, show inTx (Str.ofString " = ") z = false from nq.1, List.find?_cons, show inTx (Str.ofString " != ") z = false from nq.2]
        rfl
      rw [ef]
      rintro l ⟨o2, o3, rfl⟩
      have eR : eLR x = .tup [.bl x.pos, eAR x.l, k_TRUTH] := by unfold eLR; rw [if_pos hc]
      rw [eR]
      walk_at "go2"
      refine wp_starts ?_
      walk_at "go2"
      refine ⟨_, rfl, ?_⟩
      walk_at "go2"
      refine ⟨_, rfl, ?_⟩
      have hno : isNon (eAR x.l) = false := by cases x.l <;> rfl
      cases hp' : x.pos with
      | true =>
        have e0 : z = tx nm x.l := by
          rw [← hZ]
          unfold litTx
          rw [if_pos hc, if_pos hp']
        have es : Txt.startswith z (Str.ofString "not ") = false := by
          rw [Bool.eq_false_iff]
          intro e
          rw [starts_iff, show lx (Str.ofString "not ") = _ from lx_not, e0] at e
          exact not_head hN h1.tv e
        rw [es]
        walk_at "go2"
        refine wp_eq (r_wholeA hp hp11 hp14 hN h1 (by omega) hz hst (by rw [e0]) hr) ?_
        walk_at "go2"
        refine way_ne hno ?_
        walk_at "go2"
      | false =>
        have e0 : z = sq "not " ++ tx nm x.l := by
          rw [← hZ]
          unfold litTx
          rw [if_pos hc, if_neg (by rw [hp']; exact Bool.false_ne_true)]
        have es : Txt.startswith z (Str.ofString "not ") = true := by
          rw [starts_iff, e0, lx_app]
          exact List.prefix_append _ _
        have ec : lx (cutS z (some 4) none) = lx (tx nm x.l) := by
          rw [show (4 : Int) = ((4 : Nat) : Int) from rfl, lx_from, e0, lx_app, lx_not]; rfl
        rw [es]
        walk_at "go2"
        refine wp_slStr ?_
        walk_at "go2"
        refine soI_wp ?_
        walk_at "go2"
        refine ⟨_, rfl, noI_wp ⟨_, rfl, hz, ?_⟩⟩
        walk_at "go2"
        have hl : (cutS z (some 4) none).length ≤ 1000000 := by
          rw [← lx_len, ec]
          have := congrArg Str.length e0
          rw [Str.length_append] at this
          rw [lx_len]; omega
        refine wp_eq (r_wholeA hp hp11 hp14 hN h1 (by omega) hl (st_cut hst _ _) ec hr) ?_
        walk_at "go2"
        refine way_ne hno ?_
        walk_at "go2"
    · have hin : ∃ p, [(true, Str.ofString " = "), (false, Str.ofString " != ")].find? (fun p : Bool × Str => inTx p.2 z) = some p := by
        have e0 : z = tx nm x.l ++ (if x.pos = true then sq " = " else sq " != ") ++ tx nm x.r := by
          rw [← hZ]
          unfold litTx
          rw [if_neg (by rw [h1.na]; exact Bool.false_ne_true)]
        rw [← Option.isSome_iff_exists, List.find?_isSome]
        cases hp' : x.pos with
        | true =>
          refine ⟨(true, Str.ofString " = "), by simp, in_mid (u := lx (tx nm x.l)) (v := lx (tx nm x.r)) (by rw [show lx (Str.ofString " = ") = _ from lx_eq]; simp) ?_⟩
          rw [e0, hp', if_pos rfl, lx_app, lx_app, List.append_assoc]
        | false =>
          refine ⟨(false, Str.ofString " != "), by simp, in_mid (u := lx (tx nm x.l)) (v := lx (tx nm x.r)) (by rw [show lx (Str.ofString " != ") = _ from lx_ne]; simp) ?_⟩
          rw [e0, hp', if_neg Bool.false_ne_true, lx_app, lx_app, List.append_assoc]
      obtain ⟨p, e⟩ := hin
      rw [e]
      have eR : eLR x = eL x := by unfold eLR; rw [if_neg (by rw [h1.na]; exact Bool.false_ne_true)]
      rw [eR]
      walk_at "go2"
end
end
section
open PySem L2
local macro_rules | `(tactic| walk_at "h2") => `(tactic| first
  | walk_at "g2"
  | ((with_reducible apply wf_eqSf); (focus (decide +kernel)))
  | ((with_reducible apply wf_eqSt); (focus (decide +kernel)))
  | ((with_reducible apply wf_inJf); (focus (decide +kernel)))
  | ((with_reducible apply wf_inJt); (focus (decide +kernel))))
local macro_rules | `(tactic| walk_at "ho") => `(tactic| repeat' (walk_at "h2"))
def Tr.ht : Tr → Nat
  | .lit _ => 0
  | .jn _ a b => max a.ht b.ht + 1
/-- its literals are well told and over V -/
def Tr.In (H : Nat) (V : List Int) : Tr → Prop
  | .lit x => OkK x ∧ TV H V x.1.l ∧ TV H V x.1.r
  | .jn _ a b => a.In H V ∧ b.In H V
end
section
open PySem L2
local macro_rules | `(tactic| walk_at "h2") => `(tactic| first
  | walk_at "g2"
  | ((with_reducible apply wf_eqSf); (focus (decide +kernel)))
  | ((with_reducible apply wf_eqSt); (focus (decide +kernel)))
  | ((with_reducible apply wf_inJf); (focus (decide +kernel)))
  | ((with_reducible apply wf_inJt); (focus (decide +kernel))))
local macro_rules | `(tactic| walk_at "ho") => `(tactic| repeat' (walk_at "h2"))
section
variable {S : Sto} {Q : D → Sto → Prop}
theorem wf_eqP {d d' : D} {t u : Tm} (h : snap 190 S d = some (pT t)) (h' : snap 190 S d' = some (pT u)) (q : Q (.bl (teq t u)) S) : wp (fEq (.d d) (.d d') S) Q := by
  refine wp_eq (a := .bl (teq t u)) ?_ q
  show ((snap 190 S d).bind fun p => (snap 190 S d').bind fun q => some (D.bl (PyData.eqv p q), S)) = _
  rw [h, h']
  rfl
end
local macro_rules | `(tactic| walk_at "k3") => `(tactic| repeat' (first | ((with_reducible apply wf_eqP); (focus (assumption)); (focus (assumption))) | walk_at "g3"))
end
section
open PySem L2
local macro_rules | `(tactic| walk_at "h2") => `(tactic| first
  | walk_at "g2"
  | ((with_reducible apply wf_eqSf); (focus (decide +kernel)))
  | ((with_reducible apply wf_eqSt); (focus (decide +kernel)))
  | ((with_reducible apply wf_inJf); (focus (decide +kernel)))
  | ((with_reducible apply wf_inJt); (focus (decide +kernel))))
local macro_rules | `(tactic| walk_at "ho") => `(tactic| repeat' (walk_at "h2"))
theorem TV.put {H G : Nat} {V : List Int} {t : Tm} {s : Sb} (h : TV H V t) (hs : ∀ p ∈ s, TV G V p.2) : TV (H + G) V (t.put s) :=
  ⟨h.w.put fun p hp => (hs p hp).w, Nat.le_trans (put_hgt (fun p hp => (hs p hp).h) t) (by have := h.h; omega), fun x hx => (has_put t hx).elim (h.v x) fun ⟨p, hp, z⟩ => (hs p hp).v x z⟩
theorem TV.mono {H G : Nat} {V : List Int} {t : Tm} (h : TV H V t) (hH : H ≤ G) : TV G V t := ⟨h.w, Nat.le_trans h.h hH, h.v⟩
theorem TV.vars {V : List Int} {a b c : Int} {vs : List Int} (hl : vs.length ≤ 1000) (h : ∀ y ∈ vs, y ∈ V) {H : Nat} (hH : 1 ≤ H) : TV H V (.ap a b c (vs.map .v)) := by
  have := atF_in (V := V) (H := H) hH (num := b) (c := c) hl h
  refine ⟨.ap (by rw [List.length_map]; exact hl) fun t ht => ?_, ?_, fun x hx => ?_⟩
  · obtain ⟨i, _, rfl⟩ := List.mem_map.mp ht
    exact .v i
  · exact this.h
  · obtain ⟨u, hu, z⟩ := has_ap.mp hx
    obtain ⟨i, hi, rfl⟩ := List.mem_map.mp hu
    rw [← has_v.mp z]
    exact h i hi
end
section
open PySem L2
local macro_rules | `(tactic| walk_at "h2") => `(tactic| first
  | walk_at "g2"
  | ((with_reducible apply wf_eqSf); (focus (decide +kernel)))
  | ((with_reducible apply wf_eqSt); (focus (decide +kernel)))
  | ((with_reducible apply wf_inJf); (focus (decide +kernel)))
  | ((with_reducible apply wf_inJt); (focus (decide +kernel))))
local macro_rules | `(tactic| walk_at "ho") => `(tactic| repeat' (walk_at "h2"))
inductive DrT : Tm → Prop
  | v (i : Int) : DrT (.v i)
  | ap {n : Int} {ts : List Tm} : 0 ≤ n → n < 3 → ts.length ≤ 2 → (∀ t ∈ ts, DrT t) → DrT (.ap 2 n 0 ts)
def DrA (t : Tm) : Prop := ∃ n ts, t = .ap 1 n 0 ts ∧ 3 ≤ n ∧ n < 6 ∧ ts.length ≤ 2 ∧ ∀ t ∈ ts, DrT t
theorem DrT.wd {t : Tm} (h : DrT t) : t.Wd 1000 := by
  induction h with
  | v i => exact .v i
  | ap h1 h2 h3 h4 ih => exact .ap (by omega) ih
theorem DrA.wd {t : Tm} (h : DrA t) : t.Wd 1000 := by
  obtain ⟨n, ts, rfl, h1, h2, h3, h4⟩ := h
  exact .ap (by omega) fun t ht => (h4 t ht).wd
end
section
open PySem L2
inductive F2 {α β : Type} (R : α → β → Prop) : List α → List β → Prop
  | nil : F2 R [] []
  | cons {a : α} {b : β} {as : List α} {bs : List β} : R a b → F2 R as bs → F2 R (a :: as) (b :: bs)
theorem F2.imp {α β : Type} {R R' : α → β → Prop} {as : List α} {bs : List β} (h : F2 R as bs) (f : ∀ a b, R a b → R' a b) : F2 R' as bs := by
  induction h with
  | nil => exact .nil
  | cons h _ ih => exact .cons (f _ _ h) ih
theorem F2.snoc {α β : Type} {R : α → β → Prop} {as : List α} {bs : List β} {a : α} {b : β} (h : F2 R as bs) (hr : R a b) : F2 R (as ++ [a]) (bs ++ [b]) := by
  induction h with
  | nil => exact .cons hr .nil
  | cons h _ ih => exact .cons h ih
theorem F2.len {α β : Type} {R : α → β → Prop} {as : List α} {bs : List β} (h : F2 R as bs) : as.length = bs.length := by
  induction h with
  | nil => rfl
  | cons h _ ih => simp [ih]
theorem ConI.set {U : Sto} {q f : Nat} {v : Con} {xs ys : List D} (h : ConI U q v) (hf : U[f]? = some (.lst xs)) : ConI (U.set f (.lst ys)) q v := by
  obtain ⟨a, b, h1, h2, h3⟩ := h
  have ne : ∀ {r : Nat} {c : Cell}, U[r]? = some c → (∀ zs, c ≠ .lst zs) → (U.set f (.lst ys))[r]? = some c := fun {r c} h hc => by
    have : f ≠ r := fun e => by
      subst e
      rw [hf] at h
      exact hc _ (Option.some.inj h).symm
    rw [List.getElem?_set_ne this]
    exact h
  exact ⟨a, b, ne h1 (by intro zs e; cases e), ne h2 (by intro zs e; cases e), ne h3 (by intro zs e; cases e)⟩
end
section
open PySem L2
theorem F2.zip {α β : Type} {R : α → β → Prop} {as : List α} {bs : List β} (h : F2 R as bs) : ∃ zs : List (α × β), as = zs.map (·.1) ∧ bs = zs.map (·.2) ∧ ∀ z ∈ zs, R z.1 z.2 := by
  induction h with
  | nil => exact ⟨[], rfl, rfl, fun z hz => by cases hz⟩
  | @cons a b as bs h _ ih =>
    obtain ⟨zs, h1, h2, h3⟩ := ih
    exact ⟨(a, b) :: zs, by rw [h1]; rfl, by rw [h2]; rfl, fun z hz => (List.mem_cons.mp hz).elim (fun e => e ▸ h) (h3 z)⟩
theorem FX.mono {H G : Nat} {V : List Int} {f : Sb} (h : FX H V f) (hH : H ≤ G) : FX G V f := ⟨h.nd, fun p hp => (h.ts p hp).mono hH⟩
end
section
open PySem L2
local macro_rules | `(tactic| walk_at "h2") => `(tactic| first
  | walk_at "g2"
  | ((with_reducible apply wf_eqSf); (focus (decide +kernel)))
  | ((with_reducible apply wf_eqSt); (focus (decide +kernel)))
  | ((with_reducible apply wf_inJf); (focus (decide +kernel)))
  | ((with_reducible apply wf_inJt); (focus (decide +kernel))))
local macro_rules | `(tactic| walk_at "ho") => `(tactic| repeat' (walk_at "h2"))
end
section
open PySem L2
local macro_rules | `(tactic| walk_at "h2") => `(tactic| first
  | walk_at "g2"
  | ((with_reducible apply wf_eqSf); (focus (decide +kernel)))
  | ((with_reducible apply wf_eqSt); (focus (decide +kernel)))
  | ((with_reducible apply wf_inJf); (focus (decide +kernel)))
  | ((with_reducible apply wf_inJt); (focus (decide +kernel))))
local macro_rules | `(tactic| walk_at "ho") => `(tactic| repeat' (walk_at "h2"))
end
section
open PySem L2
local macro_rules | `(tactic| walk_at "h2") => `(tactic| first
  | walk_at "g2"
  | ((with_reducible apply wf_eqSf); (focus (decide +kernel)))
  | ((with_reducible apply wf_eqSt); (focus (decide +kernel)))
  | ((with_reducible apply wf_inJf); (focus (decide +kernel)))
  | ((with_reducible apply wf_inJt); (focus (decide +kernel))))
local macro_rules | `(tactic| walk_at "ho") => `(tactic| repeat' (walk_at "h2"))
inductive Ci (K : List NK) : Tm → Prop
  | v (i : Int) : Ci K (.v i)
  | ap {a b c : Int} {ts : List Tm} : a = 2 ∨ a = 3 → ([a, b, c], (ts.length : Int)) ∈ K → ts.length ≤ 100 → teq (.ap a b c ts) truT = false → (∀ t ∈ ts, Ci K t) → Ci K (.ap a b c ts)
def Ca (K : List NK) (t : Tm) : Prop := ∃ a b c ts, t = .ap a b c ts ∧ ([a, b, c], (ts.length : Int)) ∈ K ∧ ts.length ≤ 100 ∧ teq (.ap a b c ts) truT = false ∧ ∀ t ∈ ts, Ci K t
mutual
def Tm.val (W : NK → List Int) (m : Int) (ρ : Int → Int) : Tm → Int
  | .v i => ρ i
  | .ap a b c ts => (W ([a, b, c], (ts.length : Int)))[(valL W m ρ ts 0).toNat]?.getD 0
def valL (W : NK → List Int) (m : Int) (ρ : Int → Int) : List Tm → Int → Int
  | [], x => x
  | t :: ts, x => valL W m ρ ts (x * m + t.val W m ρ)
end
end
section
open PySem L2
local macro_rules | `(tactic| walk_at "h2") => `(tactic| first
  | walk_at "g2"
  | ((with_reducible apply wf_eqSf); (focus (decide +kernel)))
  | ((with_reducible apply wf_eqSt); (focus (decide +kernel)))
  | ((with_reducible apply wf_inJf); (focus (decide +kernel)))
  | ((with_reducible apply wf_inJt); (focus (decide +kernel))))
local macro_rules | `(tactic| walk_at "ho") => `(tactic| repeat' (walk_at "h2"))
def updI (ρ : Int → Int) (v j : Int) : Int → Int := fun y => if v = y then j else ρ y
def Fm.hd (W : NK → List Int) (m : Int) : Fm → (Int → Int) → Bool
  | .pr t, ρ => decide (t.val W m ρ = 1)
  | .eq l r, ρ => decide (l.val W m ρ = r.val W m ρ)
  | .no x, ρ => !x.hd W m ρ
  | .jn .an x y, ρ => x.hd W m ρ && y.hd W m ρ
  | .jn .o x y, ρ => x.hd W m ρ || y.hd W m ρ
  | .jn .im x y, ρ => !x.hd W m ρ || y.hd W m ρ
  | .jn .ii x y, ρ => decide (x.hd W m ρ = y.hd W m ρ)
  | .qu true v x, ρ => (List.range m.toNat).all fun j => x.hd W m (updI ρ v (j : Nat))
  | .qu false v x, ρ => (List.range m.toNat).any fun j => x.hd W m (updI ρ v (j : Nat))
end
section
open PySem L2
local macro_rules | `(tactic| walk_at "h2") => `(tactic| first
  | walk_at "g2"
  | ((with_reducible apply wf_eqSf); (focus (decide +kernel)))
  | ((with_reducible apply wf_eqSt); (focus (decide +kernel)))
  | ((with_reducible apply wf_inJf); (focus (decide +kernel)))
  | ((with_reducible apply wf_inJt); (focus (decide +kernel))))
local macro_rules | `(tactic| walk_at "ho") => `(tactic| repeat' (walk_at "h2"))
theorem Ci.mono {K K' : List NK} (hK : ∀ u ∈ K, u ∈ K') {t : Tm} (h : Ci K t) : Ci K' t := by
  induction h with
  | v i => exact .v i
  | ap h1 h2 h3 h4 _ ih => exact .ap h1 (hK _ h2) h3 h4 ih
theorem Ca.mono {K K' : List NK} (hK : ∀ u ∈ K, u ∈ K') {t : Tm} : Ca K t → Ca K' t := fun ⟨a, b, c, ts, e, h1, h2, h3, h4⟩ => ⟨a, b, c, ts, e, hK _ h1, h2, h3, fun t ht => (h4 t ht).mono hK⟩
end
section
open PySem L2
section
variable {W : NK → List Int} {m : Int} {K : List NK} {kvs : List (NK × D)}
/-- atoms -/
def Aw (K : List NK) (t : Tm) : Prop := ∃ a b c ts, t = .ap a b c ts ∧ ¬(a = 2 ∨ a = 3) ∧ ts.length ≤ 100 ∧ (t = truT ∨ ([a, b, c], (ts.length : Int)) ∈ K) ∧ ∀ u ∈ ts, Ci K u
def Lit.tr (W : NK → List Int) (m : Int) (ρ : Int → Int) (x : Lit) : Bool := decide (decide (x.l.val W m ρ = x.r.val W m ρ) = x.pos)
def LW (K : List NK) (x : Lit) : Prop := (Ci K x.l ∧ Ci K x.r) ∨ (Aw K x.l ∧ x.r = truT)
end
end
section
open PySem L2
section
variable {K : List NK}
theorem Aw.mono {K K' : List NK} (hK : ∀ u ∈ K, u ∈ K') {t : Tm} (h : Aw K t) : Aw K' t := by
  obtain ⟨a, b, c, ts, e, h1, h2, h3, h4⟩ := h
  exact ⟨a, b, c, ts, e, h1, h2, h3.imp id fun z => hK _ z, fun u hu => (h4 u hu).mono hK⟩
theorem LW.mono {K K' : List NK} (hK : ∀ u ∈ K, u ∈ K') {x : Lit} (h : LW K x) : LW K' x := h.imp (fun z => ⟨z.1.mono hK, z.2.mono hK⟩) fun z => ⟨z.1.mono hK, z.2⟩
end
end
section
open PySem L2
local macro_rules | `(tactic| walk_at "h2") => `(tactic| first
  | walk_at "g2"
  | ((with_reducible apply wf_eqSf); (focus (decide +kernel)))
  | ((with_reducible apply wf_eqSt); (focus (decide +kernel)))
  | ((with_reducible apply wf_inJf); (focus (decide +kernel)))
  | ((with_reducible apply wf_inJt); (focus (decide +kernel))))
local macro_rules | `(tactic| walk_at "ho") => `(tactic| repeat' (walk_at "h2"))
end
section
open PySem L2
local macro_rules | `(tactic| walk_at "h2") => `(tactic| first
  | walk_at "g2"
  | ((with_reducible apply wf_eqSf); (focus (decide +kernel)))
  | ((with_reducible apply wf_eqSt); (focus (decide +kernel)))
  | ((with_reducible apply wf_inJf); (focus (decide +kernel)))
  | ((with_reducible apply wf_inJt); (focus (decide +kernel))))
local macro_rules | `(tactic| walk_at "ho") => `(tactic| repeat' (walk_at "h2"))
def tabT : Tm → Tm
  | .v i => .v i
  | .ap a b c ts => if a = 1 then .ap 1 (b + 3) 0 ts else .ap a b c ts
def tabL (x : Lit) : Lit := ⟨x.pos, tabT x.l, x.r⟩
theorem tabT_ap (a b c : Int) (ts : List Tm) : ∃ b' c', tabT (.ap a b c ts) = .ap a b' c' ts ∧ (a ≠ 1 → b' = b ∧ c' = c) := by
  simp only [tabT]
  split
  · rename_i h
    exact ⟨_, _, by rw [h], fun z => absurd h z⟩
  · exact ⟨_, _, rfl, fun _ => ⟨rfl, rfl⟩⟩
theorem TM.tab {B : Int} {t : Tm} (h : TM B t) : TM B (tabT t) := by
  cases t with
  | v i => exact h
  | ap a b c ts =>
    obtain ⟨b', c', e, _⟩ := tabT_ap a b c ts
    rw [e]
    refine ⟨?_, ?_, ?_, ?_, fun x hx => h.v x ?_⟩
    · cases h.k with
      | ap h1 h2 => exact .ap h1 h2
    · cases h.w with
      | ap h1 h2 => exact .ap h1 h2
    · have := h.h
      rw [hgt_ap] at this ⊢
      exact this
    · have := h.s
      simp only [Tm.size] at this ⊢
      exact this
    · rw [has_ap] at hx ⊢
      exact hx
theorem has_tab {t : Tm} {x : Int} (h : (tabT t).has x) : t.has x := by
  cases t with
  | v i => exact h
  | ap a b c ts =>
    obtain ⟨b', c', e, _⟩ := tabT_ap a b c ts
    rw [e, has_ap] at h
    rw [has_ap]
    exact h
theorem okv_tab {t : Tm} (h : OkV t) : OkV (tabT t) := by
  cases t with
  | v i => exact h
  | ap a b c ts =>
    obtain ⟨b', c', e, ez⟩ := tabT_ap a b c ts
    rw [e]
    cases h with
    | ap h1 h2 =>
      refine .ap ⟨h1.1, h1.2.1, fun ha => ?_⟩ h2
      obtain ⟨e1, e2⟩ := ez (by omega)
      rw [e1, e2]
      exact h1.2.2 ha
theorem LO.tab {B : Int} {x : Lit} (h : LO B x) : LO B (tabL x) := by
  refine ⟨fun b => ?_, fun b y hy => ?_, fun b => ?_⟩
  · cases b
    · exact (h.m false).tab
    · exact h.m true
  · cases b
    · exact h.v false y (has_tab hy)
    · exact h.v true y hy
  · cases b
    · exact okv_tab (h.o false)
    · exact h.o true
/-- the law's well formed clause -/
def wfC (c : List Lit) : List Lit := (c.map tabL).filter good
section
variable {prog : Nat → Option Fb} (hp : ∀ j fb, lZl0[j]? = some fb → prog (0 + j) = some fb) (hp2 : ∀ j fb, lZl2[j]? = some fb → prog (2000 + j) = some fb) (hp8 : ∀ j fb, lZl8[j]? = some fb → prog (8000 + j) = some fb) (hp10 : ∀ j fb, lZl10[j]? = some fb → prog (10000 + j) = some fb) (hp12 : ∀ j fb, lZl12[j]? = some fb → prog (12000 + j) = some fb) {k : Nat} {S : Sto}
include hp hp8 in
theorem r_tabled (x : Lit) : run prog (k + 2) 8015 [eL x] S = some (eL (tabL x), S) := by
  refine run_pure (hp8 15 _ rfl) rfl (refLt_eL _) ?_
  show wp (c__law_tabled (run prog (k + 1)) [some (eL x), none] S) _
  unfold c__law_tabled eL
  walk_at "go2"
  obtain ⟨p, l, r⟩ := x
  cases l with
  | v i =>
    walk_at "go2"
    refine way_eq rfl ?_
    walk_at "go2"
    all_goals rfl
  | ap a b c ts =>
    refine way_ne rfl ?_
    rw [eT_ap]
    walk_at "go2"
    refine way_dec (fun h => ?_) fun h => ?_
    · walk_at "go2"
      unfold tabL tabT
      simp only [if_pos h, eT_ap]
      exact ⟨by first | rfl | trivial, trivial⟩
    · walk_at "go2"
      unfold tabL tabT
      simp only [if_neg h, eT_ap]
      exact ⟨by first | rfl | trivial, trivial⟩
include hp hp8 hp10 in
theorem r_wellf {c : List Lit} (hc : ∀ x ∈ c, LO 15 x) (hn : c.length ≤ 1000) : run prog (k + 12) 10002 [.tup (c.map eL)] S = some (.tup ((wfC c).map eL), S) := by
  refine run_rub (hp10 2 _ rfl) rfl (by rw [refLt_tup]; exact refLtL_eL _) ?_
  show wp (c__law_well_formed (run prog (k + 11)) [some (.tup (c.map eL)), none, none, none] S) _
  unfold c__law_well_formed
  walk_at "go2"
  refine wp_inv eL c (fun dn l S' => ∃ o2 o3, l = [some (.tup (c.map eL)), some (.ref S.length), o2, o3] ∧ S' = S ++ [.lst ((wfC dn).map eL)]) rfl ⟨_, _, rfl, rfl⟩ (fun _ _ _ _ => trivial) ?_ ?_
  · rintro dn x rest l S' hall ⟨o2, o3, rfl, rfl⟩
    have hx := (hc x (by rw [hall]; simp)).tab
    have hdn : (wfC dn).length ≤ 1000 := by
      have h1 : (wfC dn).length ≤ dn.length := by unfold wfC; exact Nat.le_trans (List.length_filter_le _ _) (by rw [List.length_map]; omega)
      have h2 := congrArg List.length hall
      rw [List.length_append, List.length_cons] at h2
      omega
    have hwf : wfC (dn ++ [x]) = wfC dn ++ if good (tabL x) = true then [tabL x] else [] := by
      unfold wfC
      rw [List.map_append, List.filter_append, List.map_cons, List.map_nil, List.filter_cons, List.filter_nil]
    have w1 : (tabL x).l.Wd 1000 := Wd.mono (by decide) (hx.m false).w
    have w2 : (tabL x).r.Wd 1000 := Wd.mono (by decide) (hx.m true).w
    have k1 : (tabL x).l.hgt ≤ 4 := (hx.m false).h
    have k2 : (tabL x).r.hgt ≤ 4 := (hx.m true).h
    walk_at "go2"
    refine wp_eq (r_tabled hp hp8 (k := k + 9) x) ?_
    have hg : good (tabL x) = ((tabL x).l.ind' && (tabL x).r.ind' || (tabL x).l.atomic && teq (tabL x).r tTruth) := rfl
    rw [hwf, hg]
    generalize tabL x = y at *
    have hat : D.tup [.tup [.int 0, .int 0, .int 0], .tup []] = eT truT := by
      unfold truT
      rw [eT_ap]
      rfl
    unfold eL
    walk_at "go2"
    refine wp_eq (r_lind hp y.l (k := k + 9) (by omega) w1 _) ?_
    walk_at "go2"
    cases i1 : y.l.ind' <;> walk_at "go2"
    · refine wp_eq (r_latomic hp w1 (k := k + 8) (by omega)) ?_
      walk_at "go2"
      cases i2 : y.l.atomic <;> walk_at "go2"
      · exact ⟨_, _, rfl, by simp⟩
      · rw [hat]
        refine wf_eqT (by omega) (by decide) ?_
        cases i3 : teq y.r truT <;> walk_at "go2"
        · exact ⟨_, _, rfl, by simp [show teq y.r tTruth = false from i3]⟩
        · refine ⟨_, _, rfl, last_get, ?_⟩
          walk_at "go2"
          refine ⟨_, last_get, by rw [List.length_map]; omega, ?_⟩
          walk_at "go2"
          refine ⟨_, _, rfl, ?_⟩
          rw [last_set]
          simp [show teq y.r tTruth = true from i3, eL]
    · refine wp_eq (r_lind hp y.r (k := k + 9) (by omega) w2 _) ?_
      walk_at "go2"
      cases i2 : y.r.ind' <;> walk_at "go2"
      · refine wp_eq (r_latomic hp w1 (k := k + 8) (by omega)) ?_
        walk_at "go2"
        cases i2 : y.l.atomic <;> walk_at "go2"
        · exact ⟨_, _, rfl, by simp⟩
        · rw [hat]
          refine wf_eqT (by omega) (by decide) ?_
          cases i3 : teq y.r truT <;> walk_at "go2"
          · exact ⟨_, _, rfl, by simp [show teq y.r tTruth = false from i3]⟩
          · refine ⟨_, _, rfl, last_get, ?_⟩
            walk_at "go2"
            refine ⟨_, last_get, by rw [List.length_map]; omega, ?_⟩
            walk_at "go2"
            refine ⟨_, _, rfl, ?_⟩
            rw [last_set]
            simp [show teq y.r tTruth = true from i3, eL]
      · refine ⟨_, _, rfl, last_get, ?_⟩
        walk_at "go2"
        refine ⟨_, last_get, by rw [List.length_map]; omega, ?_⟩
        walk_at "go2"
        refine ⟨_, _, rfl, ?_⟩
        rw [last_set]
        simp [eL]
  · rintro l S' ⟨o2, o3, rfl, rfl⟩
    walk_at "go2"
    exact ⟨rfl, _, rfl⟩
end
end
section
open PySem L2
section
variable {k : Nat} {l : Lo} {S : Sto} {Q : D → Sto → Prop} {QS : Fl → Sto → Prop} {nm : List (Bool × Str)} {r : Nat}
theorem ix_nm (hN : Nm nm) {a : Int} (ha : 0 ≤ a ∧ a < 6) (hr : S[r]? = some (.lst (nm.map nD))) (q : ∀ b, Q (.tup [.bl b, .str (nmAt nm a)]) S) : wp (ixF (.ref r) (.int a) S) Q := by
  obtain ⟨b, h1, h2⟩ := hN.at ha
  exact wf_ixL (d := nD (b, nmAt nm a)) hr (by rw [atI_nn ha.1, List.getElem?_map, h1]; rfl) (q b)
theorem txs_bound {ts : List Tm} (hN : Nm nm) (hts : ∀ t ∈ ts, TxV t) : ((ts.map (tx nm)).map Str.length).sum + (ts.map (tx nm)).length * 2 ≤ 200 * sizes ts := by
  induction ts with
  | nil => simp [sizes]
  | cons t ts ih =>
    have a1 := tx_len hN (hts t (by simp))
    have a2 := ih fun x hx => hts x (List.mem_cons_of_mem _ hx)
    simp only [sizes, List.map_cons, List.sum_cons, List.length_cons]
    omega
theorem txv_k {t : Tm} (h : TxV t) : KOk t := h.imp (fun _ _ => trivial) (fun a b c n z => by
  have z1 := z.1
  have z2 := z.2
  unfold SyV at z1
  exact ⟨by omega, by omega⟩)
/-- a literal that has a text -/
structure LXt (x : Lit) : Prop where
  l : TxV x.l
  r : TxV x.r
  sl : x.l.size ≤ 1000
  sr : x.r.size ≤ 1000
  hl : x.l.hgt ≤ 10
  hr : x.r.hgt ≤ 10
theorem wf_eqTr2 {t : Tm} (h : t.hgt ≤ 94) (q : Q (.bl (teq t tTruth)) S) : wp (fEq (.d (eT t)) (.d (.tup [.tup [.int 0, .int 0, .int 0], .tup []])) S) Q := wp_eq (a := .bl (teq t tTruth)) (by
  have := fEq_tm (t := t) (u := tTruth) (S := S) h (by simp [tTruth, Tm.hgt, hgts])
  rw [tTruth, eT_ap] at this
  exact this) q
abbrev letters : Str := Str.ofString "abcdefghijklmnopqrstuvwxyzABCDEFGHIJKLMNOPQRSTUVWXYZ0123456789_"
theorem letters_st : stS letters = true := by decide +kernel
theorem letters_wc : ∀ c ∈ letters.cps.toList, WC c := by
  have : ∀ c ∈ letters.cps.toList, (48 ≤ c ∧ c ≤ 57) ∨ (65 ≤ c ∧ c ≤ 90) ∨ (97 ≤ c ∧ c ≤ 122) ∨ c = 95 := by decide +kernel
  exact this
theorem cut_sub {x : Str} {lo hi : Option Int} {c : Nat} (h : c ∈ lx (cutS x lo hi)) : c ∈ lx x := List.mem_of_mem_drop (List.mem_of_mem_take h)
theorem letters_len : letters.length = 63 := one_len (by decide)
theorem snap_nD {n : Nat} {p : Bool × Str} (h : stS p.2 = true) : snap (n + 2) S (nD p) = some (.tuple [.bool p.1, .str p.2]) := by
  show snap (n + 2) S (.tup [.bl p.1, .str p.2]) = _
  rw [snap_tup]
  show (allS (snap (n + 1) S) [.bl p.1, .str p.2]).bind _ = _
  rw [allS, allS, allS, snap_str h]
  rfl
theorem eqv_nD (p q : Bool × Str) : PyData.eqv (.tuple [.bool p.1, .str p.2]) (.tuple [.bool q.1, .str q.2]) = decide (p = q) := by
  have h1 : PyData.eqv (.bool p.1) (.bool q.1) = decide (p.1 = q.1) := by cases p.1 <;> cases q.1 <;> decide
  simp only [PyData.eqv, PyData.eqvAll, h1, eqv_str]
  obtain ⟨a, b⟩ := p; obtain ⟨c, d⟩ := q
  exact Bool.eq_iff_iff.mpr (by simp)
theorem any_nD (p : Bool × Str) : ∀ tb : List (Bool × Str), ((tb.map fun q => PyData.tuple [.bool q.1, .str q.2]).any fun z => PyData.eqv z (.tuple [.bool p.1, .str p.2])) = decide (p ∈ tb)
  | [] => by simp
  | q :: tb => by
    rw [List.map_cons, List.any_cons, any_nD p tb, eqv_nD]
    by_cases h : q = p
    · subst h; simp
    · have h' : ¬p = q := fun e => h e.symm
      simp [h, h']
theorem allS_nD {n : Nat} : ∀ (tb : List (Bool × Str)), (∀ p ∈ tb, stS p.2 = true) → allS (snap (n + 2) S) (tb.map nD) = some (tb.map fun q => PyData.tuple [.bool q.1, .str q.2])
  | [], _ => rfl
  | p :: tb, h => by
    rw [List.map_cons, List.map_cons, allS, snap_nD (h p (by simp)), allS_nD tb fun q hq => h q (List.mem_cons_of_mem _ hq)]
    rfl
theorem inG_nD {f : Bool → Bool} {p : Bool × Str} {tb : List (Bool × Str)} {r : Nat} (hr : S[r]? = some (.lst (tb.map nD))) (hp : stS p.2 = true) (ht : ∀ q ∈ tb, stS q.2 = true) : fInG f (.d (nD p)) (.d (.ref r)) S = some (.bl (f (decide (p ∈ tb))), S) := by
  show ((snap 190 S (nD p)).bind fun a => (snap 190 S (.ref r)).bind fun q => (itemsP q).bind fun qs => some (D.bl (f (qs.any fun z => PyData.eqv z a)), S)) = _
  rw [snap_nD hp, snap_lst hr (allS_nD tb ht)]
  simp only [Option.bind_some, itemsP, any_nD]
theorem wf_inNm {b : Bool} {w : Str} {tb : List (Bool × Str)} {r : Nat} (hr : S[r]? = some (.lst (tb.map nD))) (hp : stS w = true) (ht : ∀ q ∈ tb, stS q.2 = true) (q : Q (.bl (decide ((b, w) ∈ tb))) S) : wp (fIn (.d (.tup [.bl b, .str w])) (.d (.ref r)) S) Q := wp_eq (inG_nD (f := fun b => b) (p := (b, w)) hr hp ht) q
theorem wf_ninNm {b : Bool} {w : Str} {tb : List (Bool × Str)} {r : Nat} (hr : S[r]? = some (.lst (tb.map nD))) (hp : stS w = true) (ht : ∀ q ∈ tb, stS q.2 = true) (q : Q (.bl (!decide ((b, w) ∈ tb))) S) : wp (fNin (.d (.tup [.bl b, .str w])) (.d (.ref r)) S) Q := wp_eq (inG_nD (f := fun b => !b) (p := (b, w)) hr hp ht) q
/-- how many of a table are as long -/
def lng (n : Nat) (tb : List (Bool × Str)) : Nat := tb.countP fun p => decide (n ≤ p.2.length)
theorem lng_le {n : Nat} : ∀ tb : List (Bool × Str), lng (n + 1) tb ≤ lng n tb := fun tb => List.countP_mono_left fun p _ h => by
  have h' : n + 1 ≤ p.2.length := of_decide_eq_true h
  exact decide_eq_true (by omega)
theorem lng_lt {b : Bool} {w : Str} : ∀ {tb : List (Bool × Str)}, (b, w) ∈ tb → lng (w.length + 1) tb < lng w.length tb
  | q :: tb, h => by
    have a := lng_le (n := w.length) tb
    simp only [lng, List.countP_cons] at *
    rcases List.mem_cons.mp h with rfl | h
    · have e1 : decide (w.length + 1 ≤ w.length) = false := decide_eq_false (by omega)
      have e2 : decide (w.length ≤ w.length) = true := decide_eq_true (by omega)
      simp only [e1, e2, if_true, Bool.false_eq_true, if_false]
      omega
    · have := lng_lt h
      simp only [lng] at this
      by_cases h1 : w.length + 1 ≤ q.2.length
      · have e1 : decide (w.length + 1 ≤ q.2.length) = true := decide_eq_true h1
        have e2 : decide (w.length ≤ q.2.length) = true := decide_eq_true (by omega)
        simp only [e1, e2, if_true]
        omega
      · have e1 : decide (w.length + 1 ≤ q.2.length) = false := decide_eq_false h1
        simp only [e1, Bool.false_eq_true, if_false]
        omega
abbrev kws : List Str := [Str.ofString "all", Str.ofString "some", Str.ofString "not", Str.ofString "and", Str.ofString "or", Str.ofString "implies", Str.ofString "iff"]
theorem kws_st : ∀ q ∈ kws, stS q = true := by decide +kernel
end
section
variable {prog : Nat → Option Fb} (hp : ∀ j fb, lZl0[j]? = some fb → prog (0 + j) = some fb) (hp14 : ∀ j fb, lZl14[j]? = some fb → prog (14000 + j) = some fb) {k : Nat} {S : Sto} {nm : List (Bool × Str)} {r : Nat}
include hp14
theorem rl_sym {a b c : Int} (hv : SyV a b c) (hN : Nm nm) (hr : S[r]? = some (.lst (nm.map nD))) : run prog (k + 1) 14014 [eS a b c, .ref r] S = some (.str (syT nm a b c), S) := by
  refine run_rub (hp14 14 _ rfl) rfl (refLt_str _) ?_
  show wp (c__law_symbol_text (run prog k) [some (.tup [.int a, .int b, .int c]), some (.ref r), none] S) _
  have n2 := one_len (x := "$") (n := 1); have n3 := one_len (x := "_") (n := 1); have n4 := one_len (x := "&") (n := 1); have n5 := one_len (x := "@") (n := 1)
  unfold c__law_symbol_text
  walk_at "go3"
  have hr' : ∀ c, (S ++ [c])[r]? = some (.lst (nm.map nD)) := fun c => by rw [List.getElem?_append_left (by have := List.getElem?_eq_some_iff.mp hr; exact this.1)]; exact hr
  refine way_dec (fun h0 => ?_) fun h0 => ?_
  · walk_at "go3"
    exact ⟨by unfold syT; rw [if_pos h0], _, rfl⟩
  walk_at "go3"
  refine way_of (fun h1 => ?_) fun h1 => ?_
  · have h1' : a = 1 ∨ a = 2 := by simpa using h1
    walk_at "go3"
    refine ix_nm hN (by unfold SyV at hv; omega) (hr' _) fun b' => ?_
    walk_at "go3"
    exact ⟨by unfold syT; rw [if_neg h0, if_neg (by omega), if_neg (by omega), if_neg (by omega)], _, rfl⟩
  have h1' : ¬ (a = 1 ∨ a = 2) := by simpa using h1
  have hb : 0 ≤ b ∧ b < 10 ^ 15 := by unfold SyV at hv; omega
  have b1 := iS_len hb
  walk_at "go3"
  refine way_dec (fun h3 => ?_) fun h3 => ?_
  · walk_at "go3"
    refine wf_strI hb (wf_addS (by omega) ?_)
    walk_at "go3"
    exact ⟨by unfold syT; rw [if_neg h0, if_neg (by omega), if_neg (by omega), if_pos h3], _, rfl⟩
  have hc : 0 ≤ c ∧ c < 10 ^ 15 := by unfold SyV at hv; omega
  have b2 := iS_len hc
  walk_at "go3"
  have h4 : a = 3 ∨ a = 4 := by unfold SyV at hv; omega
  rcases h4 with rfl | rfl
  · refine wf_ixL last_get atI_3 ?_
    walk_at "go3"
    refine wf_strI hb (wf_addS (by omega) (wp_c (wf_addS (by simp only [Str.length_append]; omega) ?_)))
    walk_at "go3"
    refine wf_strI hc (wf_addS (by simp only [Str.length_append]; omega) ?_)
    walk_at "go3"
    exact ⟨rfl, _, rfl⟩
  · refine wf_ixL last_get atI_4 ?_
    walk_at "go3"
    refine wf_strI hb (wf_addS (by omega) (wp_c (wf_addS (by simp only [Str.length_append]; omega) ?_)))
    walk_at "go3"
    refine wf_strI hc (wf_addS (by simp only [Str.length_append]; omega) ?_)
    walk_at "go3"
    exact ⟨rfl, _, rfl⟩
theorem rl_word {row : Int} (hrow : 0 ≤ row) {sg : Str} (hs : stS sg = true) (hsw : ∀ c ∈ lx sg, WC c) (hl : sg.length = 1) : ∃ w : Str, (stS w = true ∧ (∀ c ∈ lx w, WC c) ∧ ∀ c ∈ lx sg, c ∈ lx w) ∧ w.length ≤ 31 ∧ run prog (k + 1) 14012 [.int row, .str sg] S = some (.str w, S) := by
  have out : wp (c__law_word (run prog k) [some (.int row), some (.str sg), none, none, none, none, none] S) fun f S1 => ∃ w : Str, (stS w = true ∧ (∀ c ∈ lx w, WC c) ∧ ∀ c ∈ lx sg, c ∈ lx w) ∧ w.length ≤ 31 ∧ f = .rt (.str w) ∧ S1 = S := by
    unfold c__law_word
    walk_at "go3"
    refine way_cut (fun f S1 => ∃ n : Nat, n ≤ 30 ∧ f = .nx [some (.int row), some (.str sg), some (.str letters), some (.str (Str.ofString "")), some (.int n), none, none] ∧ S = S1) ?_ ?_
    · refine way_dec (fun h => ?_) fun h => ?_
      · walk_at "go3"
        exact ⟨30, by omega, rfl, rfl⟩
      · walk_at "go3"
        refine ⟨(1 + row % 4).toNat, by omega, ?_, rfl⟩
        rw [show (((1 + row % 4).toNat : Nat) : Int) = 1 + row % 4 by omega]
    · rintro f S1 ⟨n, hn, rfl, rfl⟩
      walk_at "go3"
      refine wp_rngN ?_
      walk_at "go3"
      refine ⟨n, rfl, by omega, ?_⟩
      refine wp_inv (fun k : Nat => D.int (0 + (k : Nat))) (List.range n) (fun dn l S' => ∃ (w : Str) (rw' : Int) (o5 : Option D), (stS w = true ∧ ∀ c ∈ lx w, WC c) ∧ w.length ≤ dn.length ∧ 0 ≤ rw' ∧ l = [some (.int rw'), some (.str sg), some (.str letters), some (.str w), some (.int n), o5, none] ∧ S' = S) rfl ⟨Str.ofString "", _, _, ⟨by decide +kernel, by rw [show lx (Str.ofString "") = [] by decide +kernel]; simp⟩, Nat.le_of_eq (one_len (x := "") (n := 0)), by omega, rfl, rfl⟩ (fun _ _ _ _ => trivial) ?_ ?_
      · rintro dn j rest l S' hall ⟨w, rw', o5, h1, h2, h3, rfl, rfl⟩
        have hlen := congrArg List.length hall
        rw [List.length_range, List.length_append, List.length_cons] at hlen
        rw [show D.int (0 + (j : Nat)) = D.int (j : Nat) by rw [Int.zero_add]]
        generalize hj : ((j : Nat) : Int) = i
        have hi : 0 ≤ i := by omega
        have e3 : (rw' % 63).toNat < letters.cps.toList.length := by
          have e : letters.cps.toList.length = letters.length := Array.length_toList
          rw [e, letters_len]; omega
        have hc := (st_iff.mp letters_st) _ (List.getElem_mem e3)
        have hcw := letters_wc _ (List.getElem_mem e3)
        walk_at "go3"
        refine wf_ixStr (c := letters.cps.toList[(rw' % 63).toNat]) (by rw [letters_len]; decide) (by rw [atI_nn (by omega), List.getElem?_eq_getElem e3]) ?_
        have l1 : (⟨#[letters.cps.toList[(rw' % 63).toNat]]⟩ : Str).length = 1 := rfl
        have l2 : stS ⟨#[letters.cps.toList[(rw' % 63).toNat]]⟩ = true := st_iff.mpr fun c h => by
          have : c = letters.cps.toList[(rw' % 63).toNat] := by simpa using h
          rw [this]; exact hc
        have l3 : ∀ c ∈ lx ⟨#[letters.cps.toList[(rw' % 63).toNat]]⟩, WC c := fun c h => by
          have : c = letters.cps.toList[(rw' % 63).toNat] := by simpa using h
          rw [this]; exact hcw
        generalize (⟨#[letters.cps.toList[(rw' % 63).toNat]]⟩ : Str) = one at *
        refine wf_addS (by omega) ?_
        walk_at "go3"
        exact ⟨w ++ one, _, _, ⟨st_app h1.1 l2, fun c hc => by rw [lx_app, List.mem_append] at hc; exact hc.elim (h1.2 c) (l3 c)⟩, by simp only [Str.length_append, List.length_append, List.length_singleton]; omega, by omega, rfl, rfl⟩
      · rintro l S' ⟨w, rw', o5, h1, h2, h3, rfl, rfl⟩
        rw [List.length_range] at h2
        have hpos : 0 ≤ rw' % ((w.length : Nat) + 1 : Int) ∧ rw' % ((w.length : Nat) + 1 : Int) ≤ w.length := ⟨Int.emod_nonneg _ (by omega), by have := Int.emod_lt_of_pos rw' (show (0 : Int) < (w.length : Nat) + 1 by omega); omega⟩
        have hcut := cut_nn hpos
        walk_at "go3"
        refine wf_lenStr (by omega) ?_
        walk_at "go3"
        generalize hz : rw' % ((w.length : Nat) + 1 : Int) = z at *
        refine sl_wp ?_
        walk_at "go3"
        refine noI_wp (soI_wp ?_)
        walk_at "go3"
        refine ⟨_, rfl, _, by simp only [slF]; rw [if_pos (by omega)], ?_⟩
        walk_at "go3"
        refine wf_addS (by omega) ?_
        walk_at "go3"
        refine sl_wp ?_
        walk_at "go3"
        refine soI_wp ?_
        walk_at "go3"
        refine ⟨_, rfl, noI_wp ⟨_, by simp only [slF]; rw [if_pos (by omega)], ?_⟩⟩
        walk_at "go3"
        refine wf_addS (by simp only [Str.length_append]; omega) ?_
        walk_at "go3"
        exact ⟨_, ⟨st_app (st_app (st_cut h1.1 _ _) hs) (st_cut h1.1 _ _), fun c hc => by
          rw [lx_app, lx_app, List.mem_append, List.mem_append] at hc
          exact hc.elim (fun hc => hc.elim (fun hc => h1.2 c (cut_sub hc)) (hsw c)) fun hc => h1.2 c (cut_sub hc), fun c hc => by
          rw [lx_app, lx_app, List.mem_append, List.mem_append]
          exact .inl (.inr hc)⟩, by simp only [Str.length_append]; omega, rfl, rfl⟩
  obtain ⟨f, S1, e, w, h1, h2, rfl, rfl⟩ := out
  exact ⟨w, h1, h2, call_pure (hp14 12 _ rfl) rfl e (refLt_str _)⟩
include hp
theorem rl_tx (hN : Nm nm) (t : Tm) : ∀ {k : Nat} {S : Sto}, TxV t → t.size ≤ 4000 → t.hgt ≤ k → S[r]? = some (.lst (nm.map nD)) → run prog (k + 2) 14015 [eT t, .ref r] S = some (.str (tx nm t), S) := by
  induction t using Tm.ind with
  | hv i =>
    intro k S ht hs hk hr
    cases ht with
    | v hi =>
    refine run_pure (hp14 15 _ rfl) rfl (refLt_str _) ?_
    show wp (c__law_text (run prog (k + 1)) [some (eT (.v i)), some (.ref r), none, none] S) _
    have n1 := one_len (x := "?") (n := 1)
    have b1 := iS_len hi
    unfold c__law_text
    walk_at "go3"
    refine way_eq rfl ?_
    simp only [eT]
    walk_at "go3"
    refine wf_strI hi (wf_addS (by omega) ?_)
    walk_at "go3"
  | ha a b c ts ih =>
    intro k S ht hs hk hr
    cases ht with
    | ap hq hts =>
    obtain ⟨k, rfl⟩ : ∃ j, k = j + 1 := ⟨k - 1, by simp only [Tm.hgt] at hk; omega⟩
    refine run_pure (hp14 15 _ rfl) rfl (refLt_str _) ?_
    rw [eT_ap]
    show wp (c__law_text (run prog (k + 2)) [some (.tup [eS a b c, .tup (ts.map eT)]), some (.ref r), none, none] S) _
    have n1 := one_len (x := "(") (n := 1); have n2 := one_len (x := ")") (n := 1); have n3 := one_len (x := ", ") (n := 2)
    have b1 := syT_len hN hq.1
    unfold c__law_text
    walk_at "go3"
    refine wp_eq (show run prog (k + 2) 14 [.tup [eS a b c, .tup (ts.map eT)]] S = _ from by rw [← eT_ap]; exact r_lisvar hp (k := k + 1) (.ap a b c ts)) ?_
    walk_at "go3"
    refine way_ne rfl ?_
    walk_at "go3"
    refine wp_eq (rl_sym hp14 hq.1 hN hr) ?_
    walk_at "go3"
    refine way_of (fun h => ?_) fun h => ?_
    · have h' : ts = [] := by simpa using h
      walk_at "go3"
      exact ⟨by rw [tx, if_pos h'], rfl⟩
    · have h' : ts ≠ [] := by simpa using h
      have hb := txs_bound hN hts
      have hsz : sizes ts ≤ 4000 := by simp only [Tm.size] at hs; omega
      have hj := join_le (sep := Str.ofString ", ") (ys := ts.map (tx nm))
      rw [n3] at hj
      walk_at "go3"
      refine wf_addS (by omega) ?_
      refine wp_joinN (wp_c ⟨_, rfl, ?_⟩)
      walk_at "go3"
      refine ⟨by simp only [List.length_map]; exact Nat.le_trans hq.2 (by decide), wp_mapE eT ts D.str (tx nm) rfl trivial (fun t ht => ?_) ?_⟩
      · have hsz' := sz_mem ht
        have hh := hgts_mem ht
        walk_at "go3"
        refine wp_eq (ih t ht (k := k) (hts t ht) (by simp only [Tm.size] at hs; omega) (by simp only [Tm.hgt] at hk; omega) hr) ?_
        walk_at "go3"
      · refine ⟨_, rfl, by rw [show (Str.ofString ", ").length = 2 from n3]; omega, ?_⟩
        refine wf_addS (by simp only [Str.length_append]; omega) ?_
        walk_at "go3"
        refine wf_addS (by simp only [Str.length_append]; omega) ?_
        walk_at "go3"
        exact ⟨by rw [tx, if_neg h', txs_map], rfl⟩
theorem rl_lit {x : Lit} (hN : Nm nm) (hx : LXt x) (hr : S[r]? = some (.lst (nm.map nD))) : run prog (k + 16) 14016 [eL x, .ref r] S = some (.str (litTx nm x), S) := by
  refine run_pure (hp14 16 _ rfl) rfl (refLt_str _) ?_
  show wp (c__law_literal_text (run prog (k + 15)) [some (.tup [.bl x.pos, eT x.l, eT x.r]), some (.ref r), none] S) _
  have a1 := tx_len hN hx.l; have a2 := tx_len hN hx.r; have a3 := hx.sl; have a4 := hx.sr; have a5 := hx.hl; have a6 := hx.hr
  have n1 := one_len (x := "not ") (n := 4); have n2 := one_len (x := " = ") (n := 3); have n3 := one_len (x := " != ") (n := 4)
  have c1 := rl_tx hp hp14 (r := r) hN x.l (k := k + 13) (S := S) hx.l (by omega) (by omega) hr
  have c2 := rl_tx hp hp14 (r := r) hN x.r (k := k + 13) (S := S) hx.r (by omega) (by omega) hr
  have join : (x.l.atomic && teq x.r tTruth) = false → wp ((mRet (mOp fAdd (mOp fAdd (mVar 2) (mIf (mTru (mOp ixF (mVar 0) (mC (.int 0)))) (mC (.str (Str.ofString " = "))) (mC (.str (Str.ofString " != "))))) (mCall (run prog ((k+15)) 14015) (mCons (mOp ixF (mVar 0) (mC (.int 2))) (mCons (mVar 1) mNil))))) [some (.tup [.bl x.pos, eT x.l, eT x.r]), some (.ref r), some (.str (tx nm x.l))] S) fun f S1 => f = .rt (.str (litTx nm x)) ∧ S1 = S := fun hc => by
    unfold litTx
    rw [if_neg (by rw [hc]; exact Bool.false_ne_true)]
    walk_at "go3"
    cases e : x.pos with
    | true =>
      walk_at "go3"
      refine wf_addS (by omega) ?_
      refine wp_call ?_
      walk_at "go3"
      refine wp_eq c2 (wf_addS (by simp only [sq, Str.length_append]; omega) ?_)
      walk_at "go3"
    | false =>
      walk_at "go3"
      refine wf_addS (by omega) ?_
      refine wp_call ?_
      walk_at "go3"
      refine wp_eq c2 (wf_addS (by simp only [sq, Str.length_append]; omega) ?_)
      walk_at "go3"
  unfold c__law_literal_text
  walk_at "go3"
  refine wp_eq c1 ?_
  walk_at "go3"
  refine wp_eq (r_latomic hp (k := k + 12) (txv_k hx.l).wd (by omega)) ?_
  walk_at "go3"
  refine wf_eqTr2 (by omega) ?_
  walk_at "go3"
  refine way_of (fun hc => ?_) fun hc => ?_
  · unfold litTx
    rw [if_pos hc]
    walk_at "go3"
    refine way_of (fun h3 => ?_) fun h3 => ?_
    · walk_at "go3"
      exact ⟨by rw [if_pos h3], rfl⟩
    · walk_at "go3"
      refine wf_addS (by omega) ?_
      walk_at "go3"
      exact ⟨by rw [if_neg (by rw [h3]; exact Bool.false_ne_true)], rfl⟩
  · exact wp_skip (nxt_nx (join hc))
end
end
section
open PySem L2
theorem sg_okW (j : Nat) (hj : j < 6) : ∃ sg : Str, (stS sg = true ∧ (∀ c ∈ lx sg, c = 97 ∨ c = 98 ∨ c = 99) ∧ ∃ c, c ∈ lx sg) ∧ sg.length = 1 ∧ atI [D.str (Str.ofString "a"), D.str (Str.ofString "b"), D.str (Str.ofString "c")] ((j : Int) % 3) = some (D.str sg) := by
  have h : ((j : Int) % 3 = 0 ∨ (j : Int) % 3 = 1) ∨ (j : Int) % 3 = 2 := by omega
  rcases h with (h | h) | h <;> rw [h]
  · exact ⟨_, ⟨by decide +kernel, by decide +kernel, 97, by decide +kernel⟩, one_len (by decide), atI_0⟩
  · exact ⟨_, ⟨by decide +kernel, by decide +kernel, 98, by decide +kernel⟩, one_len (by decide), atI_1⟩
  · exact ⟨_, ⟨by decide +kernel, by decide +kernel, 99, by decide +kernel⟩, one_len (by decide), atI_2⟩
/-- a word of a table -/
def WT (w : Str) : Prop := stS w = true ∧ (∀ c ∈ lx w, WC c) ∧ ∃ c ∈ lx w, c = 97 ∨ c = 98 ∨ c = 99
theorem WT.app {w v : Str} (h : WT w) (hv : stS v = true) (hc : ∀ c ∈ lx v, WC c) : WT (w ++ v) := by
  refine ⟨st_app h.1 hv, fun c z => ?_, ?_⟩
  · rw [lx_app, List.mem_append] at z
    exact z.elim (h.2.1 c) (hc c)
  · obtain ⟨c, h1, h2⟩ := h.2.2
    exact ⟨c, by rw [lx_app]; exact List.mem_append_left _ h1, h2⟩
theorem abc_wc {c : Nat} (h : c = 97 ∨ c = 98 ∨ c = 99) : WC c := by unfold WC; omega
/-- the first entries of a table -/
structure TbO (tb : List (Bool × Str)) : Prop where
  nd : tb.Nodup
  fl : ∀ (i : Nat) (p : Bool × Str), tb[i]? = some p → p.1 = decide (2 < i)
  w : ∀ p ∈ tb, WT p.2
section
variable {prog : Nat → Option Fb} (hp : ∀ j fb, lZl0[j]? = some fb → prog (0 + j) = some fb) (hp14 : ∀ j fb, lZl14[j]? = some fb → prog (14000 + j) = some fb) {k : Nat} {S : Sto} {nm : List (Bool × Str)} {r : Nat}
include hp14
theorem rl_table {row : Int} (hrow : 0 ≤ row) : ∃ nm, Nw nm ∧ run prog (k + 2) 14013 [.int row] S = some (.ref S.length, S ++ [.lst (nm.map nD)]) := by
  let sl : List D := [D.str (Str.ofString "a"), D.str (Str.ofString "b"), D.str (Str.ofString "c")]
  have out : wp (c__law_table (run prog (k + 1)) [some (.int row), none, none, none, none] S) fun f S1 => ∃ nm, Nw nm ∧ f = .rt (.ref (S.length + 1)) ∧ S1 = S ++ [.lst sl, .lst (nm.map nD)] := by
    unfold c__law_table
    walk_at "go3"
    refine wp_rngN ?_
    walk_at "go3"
    refine ⟨6, rfl, by decide, ?_⟩
    refine wp_inv (fun k : Nat => D.int (0 + (k : Nat))) (List.range 6) (fun dn l S' => ∃ (tb : List (Bool × Str)) (rw' : Int) (o3 o4 : Option D), tb.length = dn.length ∧ (TbO tb ∧ ∀ p ∈ tb, p.2.length ≤ 40 ∧ stS p.2 = true) ∧ 0 ≤ rw' ∧ l = [some (.int rw'), some (.ref S.length), some (.ref (S.length + 1)), o3, o4] ∧ S' = S ++ [.lst sl, .lst (tb.map nD)]) rfl ⟨[], row, none, none, rfl, ⟨⟨List.nodup_nil, by simp, by simp⟩, by simp⟩, hrow, by simp, by simp [sl]⟩ (fun _ _ _ _ => trivial) ?_ ?_
    · rintro dn j rest l S' hall ⟨tb, rw', o3, o4, h1, ⟨hO, h2⟩, h3, rfl, rfl⟩
      have hjd : j = dn.length := by
        have e : (List.range 6)[dn.length]? = some j := by rw [hall]; simp
        rw [List.getElem?_range (by have := congrArg List.length hall; rw [List.length_range, List.length_append, List.length_cons] at this; omega)] at e
        exact (Option.some.inj e).symm
      have hlen := congrArg List.length hall
      rw [List.length_range, List.length_append, List.length_cons] at hlen
      have hj6 : j < 6 := by
        have : j ∈ List.range 6 := by rw [hall]; simp
        exact List.mem_range.mp this
      obtain ⟨sg, ⟨s1, sa, sn⟩, s2, s3⟩ := sg_okW j hj6
      rw [show D.int (0 + (j : Nat)) = D.int (j : Nat) by rw [Int.zero_add]]
      generalize hj : ((j : Nat) : Int) = i at *
      have hi : 0 ≤ i := by omega
      have g1 : (S ++ [.lst sl, .lst (tb.map nD)])[S.length]? = some (.lst sl) := by simp
      have g2 : (S ++ [.lst sl, .lst (tb.map nD)])[S.length + 1]? = some (.lst (tb.map nD)) := by simp
      obtain ⟨w0, ⟨w1, wa, wb⟩, w2, w3⟩ := rl_word hp14 (k := k) (S := S ++ [.lst sl, .lst (tb.map nD)]) h3 s1 (fun c hc => abc_wc (sa c hc)) s2
      have w1t : WT w0 := ⟨w1, wa, by obtain ⟨c, hc⟩ := sn; exact ⟨c, wb c hc, sa c hc⟩⟩
      have ht : ∀ q ∈ tb, stS q.2 = true := fun q hq => (h2 q hq).2
      generalize hT : S ++ [.lst sl, .lst (tb.map nD)] = T at *
      walk_at "go3"
      refine wf_ixL g1 s3 ?_
      walk_at "go3"
      refine wp_eq w3 ?_
      walk_at "go3"
      refine wf_inWords (ws := kws) w1 kws_st ?_
      walk_at "go3"
      refine way_cut (fun f S1 => ∃ w : Str, WT w ∧ w.length ≤ 32 ∧ f = .nx [some (.int rw'), some (.ref S.length), some (.ref (S.length + 1)), some (.int i), some (.str w)] ∧ T = S1) ?_ ?_
      · refine way_dec (fun h => ?_) fun h => ?_
        · have n1 := one_len (x := "_") (n := 1)
          walk_at "go3"
          refine wf_addS (by omega) ?_
          walk_at "go3"
          exact ⟨_, w1t.app (by decide +kernel) (by rw [show lx (Str.ofString "_") = [95] from lx_us]; intro c hc; rw [List.mem_singleton] at hc; subst hc; unfold WC; omega), by simp only [Str.length_append]; omega, rfl, rfl⟩
        · walk_at "go3"
          exact ⟨_, w1t, by omega, rfl, rfl⟩
      · rintro f S1 ⟨w, u1, u2, rfl, rfl⟩
        clear w3
        refine nxt_nx ?_
        refine wp_seq (wp_while (lng w.length tb) (fun m l S1 => ∃ v : Str, WT v ∧ lng v.length tb = m ∧ v.length + m ≤ w.length + lng w.length tb ∧ l = [some (.int rw'), some (.ref S.length), some (.ref (S.length + 1)), some (.int i), some (.str v)] ∧ T = S1) ⟨w, u1, rfl, Nat.le_refl _, rfl, rfl⟩ ?_)
        rintro m l S1 ⟨v, v1, v2, v3, rfl, rfl⟩
        have hl : lng w.length tb ≤ 5 := Nat.le_trans List.countP_le_length (by omega)
        walk_at "go3"
        refine wf_inNm g2 v1.1 ht ?_
        walk_at "go3"
        refine way_dec (fun h => ?_) fun h => ?_
        · have hlt := lng_lt h
          walk_at "go3"
          refine wf_ixL g1 s3 ?_
          refine wf_addS (by omega) ?_
          walk_at "go3"
          refine ⟨lng (v.length + 1) tb, by omega, v ++ sg, v1.app s1 (fun c hc => abc_wc (sa c hc)), by rw [Str.length_append, s2], by rw [Str.length_append, s2]; omega, rfl, rfl⟩
        · walk_at "go3"
          refine ⟨_, _, rfl, g2, ?_⟩
          walk_at "go3"
          refine ⟨_, g2, by rw [List.length_map]; omega, ?_⟩
          walk_at "go3"
          refine ⟨tb ++ [(decide ((2 : Int) < i), v)], _, _, _, by rw [List.length_append, List.length_append, h1]; rfl, ⟨⟨?_, ?_, ?_⟩, ?_⟩, by omega, rfl, ?_⟩
          · rw [List.nodup_append]
            exact ⟨hO.nd, by simp, fun a ha b hb e => by rw [List.mem_singleton] at hb; subst hb e; exact h ha⟩
          · intro i p hp
            rcases Nat.lt_or_ge i tb.length with hlt | hge
            · rw [List.getElem?_append_left hlt] at hp
              exact hO.fl i p hp
            · rw [List.getElem?_append_right hge] at hp
              have hi0 : i - tb.length = 0 := by
                rcases Nat.eq_zero_or_pos (i - tb.length) with h | h
                · exact h
                · rw [List.getElem?_eq_none (by simp; omega)] at hp; cases hp
              rw [hi0] at hp
              have hp' : (decide ((2 : Int) < _), v) = p := Option.some.inj hp
              rw [← hp']
              show decide _ = decide _
              rw [decide_eq_decide]
              omega
          · intro p hp
            rcases List.mem_append.mp hp with hp | hp
            · exact hO.w p hp
            · rw [List.mem_singleton] at hp; subst hp; exact v1
          · intro p hp
            rcases List.mem_append.mp hp with hp | hp
            · exact h2 p hp
            · rw [List.mem_singleton] at hp; subst hp
              exact ⟨by show v.length ≤ 40; omega, v1.1⟩
          · rw [← hT, List.map_append]
            simp [nD]
    · rintro l S' ⟨tb, rw', o3, o4, h1, ⟨hO, h2⟩, h3, rfl, rfl⟩
      rw [List.length_range] at h1
      walk_at "go3"
      exact ⟨tb, ⟨⟨h1, fun p hp => ⟨by have := (h2 p hp).1; omega, (h2 p hp).2⟩⟩, hO.nd, hO.fl, fun p hp => (hO.w p hp).2.1, fun p hp => (hO.w p hp).2.2⟩, rfl, rfl⟩
  obtain ⟨f, S1, e, nm, hN, rfl, rfl⟩ := out
  refine ⟨nm, hN, run_own (c := .lst (nm.map nD)) (hp14 13 _ rfl) rfl ?_ ⟨_, _, e, _, _, rfl, rfl, by omega, by simp⟩⟩
  exact refLtL_all _ fun x hx => by
    obtain ⟨p, hp, rfl⟩ := List.mem_map.mp hx
    exact (Pu.tup (n := 1) (.cons (.bl _) (.cons (.str (hN.w p hp).2) .nil))).lt
end
end
section
open PySem L2
local macro_rules | `(tactic| walk_at "ev") => `(tactic| (simp only [mSeq, mSet, mRet, mIfS, mIf, mOp, mOpO, mC, mVar, mBool, mFn1, oD, oN, oS, fLen, lenO, seqO, mSkip, fAdd, fMul, fI, fI0, fLt, fLe, fGt, fGe, fSub, fMod, fDiv, fInt, ixF, mNil, mCons, mTup, mCall, mLst, mAlloc, mIsN, mNotN, isNon, mNotT, mAndT, mOrT, mTru, truD, mAsg, mgTup, mgCons, mgNil, mgN, mLisc, mIsI, tyO, isTyB, mDrop, mAug, fIadd, mMax2, mAnd, mOr, mNot, fLtT, fTupc, mApp, mulC_r, mulC_l, divC_r, modC_r, atI_0, atI_1, atI_2, fEq_int, fNe_int, fEq_bl, mSrc, srcO, eT_v, eT_ap, eS, List.length_cons, List.length_nil, Option.bind_some, Option.map_some, List.map_cons, List.map_nil, List.cons_append, List.nil_append, List.replicate, List.getElem?_cons_zero, List.getElem?_cons_succ, List.set_cons_zero, List.set_cons_succ, if_true, decide_true, Int.reduceNeg, Int.reducePow, Int.reduceLT, Nat.reduceAdd, Nat.reduceSub, and_self, Nat.reduceLeDiff, Bool.false_eq_true, if_false, Bool.not_true, Bool.not_false, Int.reduceEq, decide_false, Bool.or_false, Bool.false_or, Bool.or_true, Bool.true_or, Bool.and_true, Bool.true_and, Bool.and_false, Bool.false_and, String.reduceEq, *]))
local macro_rules | `(tactic| walk_at "step") => `(tactic| (refine (Eq.trans (seq_set (by ((try walk_at "ev"); exact rfl))) ?_); simp only [List.set_cons_zero, List.set_cons_succ]))
/-- a drawn literal, its terms told by what drew them -/
def LitK (d : Nat) (x : Lit) : Prop := (AtomOk d x.l ∧ x.r = tTruth) ∨ (TermOk d x.l ∧ TermOk d x.r)
section
variable {prog : Nat → Option Fb} (hp : ∀ j fb, lZl0[j]? = some fb → prog (0 + j) = some fb) {k : Nat} {S : Sto}
include hp
theorem r_literalK {d : Nat} (hd : d ≤ k) {row : Int} (hrow : 0 ≤ row) (S : Sto) : ∃ x row', LitK d x ∧ 0 ≤ row' ∧ run prog (k + 4) 37 [.int row, .int d] S = some (.tup [eL x, .int row'], S) := by
  obtain ⟨t0, w0, f0, g0, h0⟩ := r_atom hp d hd (show 0 ≤ row / 6 by omega) S
  obtain ⟨t1, w1, f1, g1, h1⟩ := r_term hp d (k := k + 1) (by omega) (show 0 ≤ row / 6 by omega) S
  obtain ⟨t2, w2, f2, g2, h2⟩ := r_term hp d (k := k + 1) (by omega) g1 S
  have hb := bdT_pos d
  have e1 : ∀ l : Lo, l[0]? = some (some (.int row)) → mOpO fEq (oD (mOp fMod (mFn1 fInt (oD (mVar 0))) (mC (.int 2)))) (oD (mC (.int 0))) l S = some (.bl (decide (row % 2 = 0)), S) := fun l h => by
    clear h0 h1 h2
    walk_at "ev"
  have b1 := f1.size
  have b2 := f2.size
  have hh1 := f1.hgt
  have hh2 := f2.hgt
  by_cases hk : row / 2 % 3 = 0
  · refine ⟨⟨decide (row % 2 = 0), t0, tTruth⟩, w0, .inl ⟨f0, rfl⟩, g0, ?_⟩
    refine call_pure (hp 37 _ rfl) rfl ?_ (by rw [refLt_tup, refLtL_cons, refLt_eL, refLtL_cons, refLt_int, refLtL_nil]; rfl)
    show c__law_literal (run prog (k + 3)) [some (.int row), some (.int d), none, none, none, none, none] S = _
    unfold c__law_literal
    rw [seq_set (e1 _ rfl)]
    rw [seq_set (v := .int (row / 2 % 3)) (S1 := S) (by clear h0 h1 h2 e1 hk; walk_at "ev"), seq_set (v := .int (row / 6)) (S1 := S) (by clear h0 h1 h2 e1 hk; walk_at "ev")]
    rw [seq_ifT (S1 := S) (by clear h0 h1 h2 e1; walk_at "ev"), seq_seq]
    rw [seq_set (v := .tup [eT t0, .int w0]) (S1 := S) (call2 (var_of rfl) (var_of rfl) h0)]
    simp only [List.set_cons_zero, List.set_cons_succ]
    clear h0 h1 h2 e1
    simp only [eL, tTruth, eT_ap, List.map_nil]
    generalize eT t0 = dt
    exact seq_rt (by walk_at "ev")
  · refine ⟨⟨decide (row % 2 = 0), t1, t2⟩, w2, .inr ⟨f1, f2⟩, g2, ?_⟩
    refine call_pure (hp 37 _ rfl) rfl ?_ (by rw [refLt_tup, refLtL_cons, refLt_eL, refLtL_cons, refLt_int, refLtL_nil]; rfl)
    show c__law_literal (run prog (k + 3)) [some (.int row), some (.int d), none, none, none, none, none] S = _
    unfold c__law_literal
    rw [seq_set (e1 _ rfl)]
    rw [seq_set (v := .int (row / 2 % 3)) (S1 := S) (by clear h0 h1 h2 e1 hk; walk_at "ev"), seq_set (v := .int (row / 6)) (S1 := S) (by clear h0 h1 h2 e1 hk; walk_at "ev")]
    rw [seq_ifF (S1 := S) (by clear h0 h1 h2 e1; walk_at "ev"), seq_skip]
    rw [seq_set (v := .tup [eT t1, .int w1]) (S1 := S) (call2 (var_of rfl) (var_of rfl) h1)]
    simp only [List.set_cons_zero, List.set_cons_succ]
    rw [seq_set (v := .tup [eT t2, .int w2]) (S1 := S) (call2 (by
      clear h0 h1 h2 e1
      generalize eT t1 = dt
      walk_at "ev") (var_of rfl) h2)]
    simp only [List.set_cons_zero, List.set_cons_succ]
    clear h0 h1 h2 e1
    simp only [eL]
    generalize eT t1 = dt
    generalize eT t2 = du
    walk_at "ev"
theorem r_clauseK {d m : Nat} (hd : d ≤ k) (hm : m ≤ 100) {row : Int} (hrow : 0 ≤ row) (S : Sto) : ∃ xs : List Lit, xs.length ≤ 2 * m ∧ (∀ x ∈ xs, LitK d x) ∧ run prog (k + 5) 38 [.int row, .int m, .int d] S = some (.tup (xs.map eL), S) := by
  obtain ⟨many, hmany⟩ : ∃ many : Nat, row % ((m : Int) + 1) = many := ⟨(row % ((m : Int) + 1)).toNat, by have := Int.emod_nonneg row (show (m : Int) + 1 ≠ 0 by omega); omega⟩
  have hle : many ≤ m := by have := Int.emod_lt_of_pos row (show (0 : Int) < (m : Int) + 1 by omega); omega
  obtain ⟨l', S', h1, xs, row', o5, o6, h2, h3, h4, h5, h6, h7⟩ := forL_inv (ok := fun _ => True) (tg := mgN 5) (body := (mSeq (mSet 6 (mCall (run prog ((k+4)) 37) (mCons (mVar 0) (mCons (mVar 2) mNil))))
    (mSeq (mDrop (mApp (mVar 4) (mOp ixF (mVar 6) (mC (.int 0)))))
    (mSeq (mSet 0 (mOp ixF (mVar 6) (mC (.int 1))))
    (mIfS (mBool (mOpO fEq (oD (mOp fMod (mOp fDiv (mVar 0) (mC (.int 3))) (mC (.int 4)))) (oD (mC (.int 1))))) (mDrop (mApp (mVar 4) (mOp ixF (mVar 4) (mOp fMod (mFn1 fInt (oD (mVar 0))) (mFn1 fLen (oD (mVar 4))))))) mSkip))))) (fun j : Nat => D.int (0 + (j : Nat)))
    (fun dn l S' => ∃ (xs : List Lit) (row' : Int) (o5 o6 : Option D), 0 ≤ row' ∧ dn.length ≤ xs.length ∧ xs.length ≤ 2 * dn.length ∧ (∀ x ∈ xs, LitK d x) ∧ l = [some (.int row'), some (.int m), some (.int d), some (.int many), some (.ref S.length), o5, o6] ∧ S' = S ++ [.lst (xs.map eL)]) (fun _ _ _ _ => trivial) (List.range many)
    (fun dn j rest l S' hall ⟨xs, row', o5, o6, h2, h3, h4, h5, h6, h7⟩ => by
      subst h6 h7
      have hlen := congrArg List.length hall
      rw [List.length_range, List.length_append, List.length_cons] at hlen
      obtain ⟨x, row2, g1, g2, g3⟩ := r_literalK hp (k := k) hd h2 (S ++ [.lst (xs.map eL)])
      have ho1 : ∀ y ∈ xs ++ [x], LitK d y := fun y hy => by
        rcases List.mem_append.mp hy with z | z
        · exact h5 y z
        · rw [List.mem_singleton] at z; subst z; exact g1
      have a1 := app_of (o := mVar 4) (x := mOp ixF (mVar 6) (mC (.int 0))) (l := [some (.int row'), some (.int m), some (.int d), some (.int many), some (.ref S.length), some (.int (0 + (j : Nat))), some (.tup [eL x, .int row2])]) (S := S ++ [.lst (xs.map eL)]) (d := eL x) rfl last_get (by
        simp only [mOp, mVar, mC, List.getElem?_cons_zero, List.getElem?_cons_succ, Option.bind_some, ixF, atI_0]) (by rw [List.length_map]; omega)
      rw [last_set, show xs.map eL ++ [eL x] = (xs ++ [x]).map eL by rw [List.map_append]; rfl] at a1
      have head : ∀ c : MS, mSeq (mSet 6 (mCall (run prog (k + 4) 37) (mCons (mVar 0) (mCons (mVar 2) mNil)))) (mSeq (mDrop (mApp (mVar 4) (mOp ixF (mVar 6) (mC (.int 0))))) (mSeq (mSet 0 (mOp ixF (mVar 6) (mC (.int 1)))) c)) [some (.int row'), some (.int m), some (.int d), some (.int many), some (.ref S.length), some (.int (0 + (j : Nat))), o6] (S ++ [.lst (xs.map eL)]) = c [some (.int row2), some (.int m), some (.int d), some (.int many), some (.ref S.length), some (.int (0 + (j : Nat))), some (.tup [eL x, .int row2])] (S ++ [.lst ((xs ++ [x]).map eL)]) := fun c => by
        rw [seq_set (call2 (var_of rfl) (var_of rfl) g3)]
        simp only [List.set_cons_zero, List.set_cons_succ]
        rw [seq_nx a1]
        rw [seq_set (v := .int row2) (S1 := S ++ [.lst ((xs ++ [x]).map eL)]) (by simp only [mOp, mVar, mC, List.getElem?_cons_zero, List.getElem?_cons_succ, Option.bind_some, ixF, atI_1])]
        simp only [List.set_cons_zero, List.set_cons_succ]
      have hg := last_get (S := S) (c := .lst ((xs ++ [x]).map eL))
      have hlx : (xs ++ [x]).length = xs.length + 1 := by simp
      generalize hxs : xs ++ [x] = ys at *
      have tst : (mBool (mOpO fEq (oD (mOp fMod (mOp fDiv (mVar 0) (mC (.int 3))) (mC (.int 4)))) (oD (mC (.int 1))))) [some (.int row2), some (.int m), some (.int d), some (.int many), some (.ref S.length), some (.int (0 + (j : Nat))), some (.tup [eL x, .int row2])] (S ++ [.lst (ys.map eL)]) = some (decide (row2 / 3 % 4 = 1), S ++ [.lst (ys.map eL)]) := by
        clear hmany hall hlen a1 head g3 hg hrow hle h2 h3 h4 hlx
        generalize eL x = dx
        generalize (0 : Int) + (j : Nat) = jj
        walk_at "ev"
      by_cases hr : row2 / 3 % 4 = 1
      · have hpos : 0 < ((ys.length : Nat) : Int) := by omega
        have e1 := Int.emod_nonneg row2 (show ((ys.length : Nat) : Int) ≠ 0 by omega)
        have e2 := Int.emod_lt_of_pos row2 hpos
        obtain ⟨y, z1, z2⟩ := atI_lt (xs := ys.map eL) e1 (by rw [List.length_map]; exact e2)
        obtain ⟨q, z3, rfl⟩ := List.mem_map.mp z2
        have hmod : modC row2 ((ys.length : Nat) : Int) = true := modC_r hpos
        have a2 := app_of (o := mVar 4) (x := mOp ixF (mVar 4) (mOp fMod (mFn1 fInt (oD (mVar 0))) (mFn1 fLen (oD (mVar 4))))) (l := [some (.int row2), some (.int m), some (.int d), some (.int many), some (.ref S.length), some (.int (0 + (j : Nat))), some (.tup [eL x, .int row2])]) (S := S ++ [.lst (ys.map eL)]) (d := eL q) rfl hg (by
          simp only [mOp, mVar, mFn1, oD, List.getElem?_cons_zero, List.getElem?_cons_succ, Option.bind_some, fInt, fLen, lenO, seqO, hg, List.length_map, fMod, fI]
          rw [if_pos hmod]
          simp only [Option.bind_some, ixF, hg, z1]) (by rw [List.length_map]; omega)
        rw [last_set, show ys.map eL ++ [eL q] = (ys ++ [q]).map eL by rw [List.map_append]; rfl] at a2
        refine ⟨_, [some (.int row2), some (.int m), some (.int d), some (.int many), some (.ref S.length), some (.int (0 + (j : Nat))), some (.tup [eL x, .int row2])], S ++ [.lst ((ys ++ [q]).map eL)], rfl, (head _).trans ?_, ys ++ [q], row2, _, _, g2, by simp only [List.length_append, List.length_singleton]; omega, by simp only [List.length_append, List.length_singleton]; omega, ?_, rfl, rfl⟩
        · rw [decide_eq_true hr] at tst
          unfold mIfS
          rw [tst]
          exact a2
        · intro y hy
          rcases List.mem_append.mp hy with z | z
          · exact ho1 y z
          · rw [List.mem_singleton] at z; subst z; exact ho1 _ z3
      · refine ⟨_, [some (.int row2), some (.int m), some (.int d), some (.int many), some (.ref S.length), some (.int (0 + (j : Nat))), some (.tup [eL x, .int row2])], S ++ [.lst (ys.map eL)], rfl, (head _).trans ?_, ys, row2, _, _, g2, by simp only [List.length_append, List.length_singleton]; omega, by simp only [List.length_append, List.length_singleton]; omega, ho1, rfl, rfl⟩
        rw [decide_eq_false hr] at tst
        unfold mIfS
        rw [tst]
        rfl) (List.range many) [] [some (.int (row / ((m : Int) + 1))), some (.int m), some (.int d), some (.int many), some (.ref S.length), none, none] (S ++ [.lst []]) rfl ⟨[], _, none, none, Int.ediv_nonneg hrow (by omega), by simp, by simp, (fun _ h => by cases h), rfl, rfl⟩
  rw [List.length_range] at h4
  subst h6 h7
  refine ⟨xs, by omega, h5, ?_⟩
  refine run_more (T := [.lst (xs.map eL)]) (hp 38 _ rfl) rfl ?_ (by rw [refLt_tup]; exact refLtL_eL _)
  show c__law_clause (run prog (k + 4)) [some (.int row), some (.int m), some (.int d), none, none, none, none] S = _
  unfold c__law_clause
  have hmod : modC row ((m : Int) + 1) = true := modC_r (by omega)
  have hdiv : divC row ((m : Int) + 1) = true := by
    refine divC_r ⟨by omega, ?_⟩
    have : (m : Int) + 1 ≤ 1000 := by omega
    exact Int.lt_of_le_of_lt this (by decide)
  rw [seq_set (v := .int many) (S1 := S) (by
    rw [← hmany]
    simp only [mOp, mVar, mC, mFn1, oD, List.getElem?_cons_zero, List.getElem?_cons_succ, Option.bind_some, fInt, fAdd, fMod, fI]
    rw [if_pos hmod])]
  rw [seq_set (v := .int (row / ((m : Int) + 1))) (S1 := S) (by
    simp only [mOp, mVar, mC, List.set_cons_zero, List.set_cons_succ, List.getElem?_cons_zero, List.getElem?_cons_succ, Option.bind_some, fAdd, fDiv, fI]
    rw [if_pos hdiv])]
  rw [seq_set (v := .ref S.length) (S1 := S ++ [.lst []]) (by rfl)]
  simp only [List.set_cons_zero, List.set_cons_succ]
  refine (seq_nx ((for_of (rng1_of (n := many) rfl (by omega))).trans h1)).trans ?_
  have hg := last_get (S := S) (c := .lst (xs.map eL))
  simp only [mRet, mFn1, oD, mVar, List.getElem?_cons_zero, List.getElem?_cons_succ, Option.bind_some, fTupc, seqO, hg]
end
end
end Zi
set_option maxRecDepth 100000
set_option maxHeartbeats 1000000
namespace Lk21
open PySem L2 Zi
local macro_rules | `(tactic| walk_at "dec") => `(tactic| first | decide | omega | assumption)
local macro_rules | `(tactic| walk_at "g1") => `(tactic| first
  | ((with_reducible apply wp_var); (focus (exact rfl)))
  | with_reducible refine wp_c ?_
  | with_reducible refine wp_op ?_
  | with_reducible refine wp_oD ?_
  | with_reducible refine wp_cons ?_
  | with_reducible refine wp_nil ?_
  | ((with_reducible refine nxt_nx ?_); (try dsimp only [List.set_cons_zero, List.set_cons_succ]))
  | with_reducible refine wp_seq ?_
  | with_reducible refine wp_set ?_
  | with_reducible refine wp_ret ?_
  | with_reducible refine nxt_rt ?_
  | with_reducible refine wp_call ?_
  | with_reducible refine wp_opO ?_
  | with_reducible refine wp_bool ?_
  | with_reducible refine isB_bl ?_
  | with_reducible refine wp_ifS ?_
  | with_reducible refine way_t ?_
  | with_reducible refine way_f ?_
  | with_reducible refine way_not ?_
  | ((with_reducible apply wf_ixT); (focus (first | exact atI_0 | exact atI_1 | exact atI_2 | exact atI_3 | exact atI_4 | exact atI_5 | exact atI_6 | exact atI_7 | exact atI_8 | exact atI_9 | assumption)))
  | with_reducible refine wp_fn1 ?_
  | with_reducible refine wf_int ?_
  | with_reducible refine wf_add ?_
  | with_reducible refine wf_sub ?_
  | ((with_reducible refine wf_mod ?_ ?_); (focus (exact modC_r (by walk_at "dec"))))
  | ((with_reducible refine wf_div ?_ ?_); (focus (exact divC_r (by walk_at "dec"))))
  | ((with_reducible refine wf_mul ?_ ?_); (focus (exact mulC_r (by walk_at "dec"))))
  | ((with_reducible refine wf_mul ?_ ?_); (focus (exact mulC_l (by walk_at "dec"))))
  | with_reducible refine wf_eqI ?_
  | with_reducible refine wf_neI ?_
  | ((with_reducible refine wf_pow ?_ ?_); (focus (decide)))
  | with_reducible refine wf_lt ?_
  | with_reducible refine wf_le ?_
  | with_reducible refine wf_gt ?_
  | with_reducible refine wf_ge ?_
  | with_reducible refine wf_eqB ?_
  | with_reducible refine wf_neB ?_
  | with_reducible refine wp_tup ?_
  | ((with_reducible refine shrt_of ?_ ?_); (focus (exact Nat.le_of_ble_eq_true (by exact rfl))))
  | with_reducible refine wp_tru ?_
  | with_reducible refine tru_bl ?_
  | with_reducible refine tru_int ?_
  | with_reducible refine tru_non ?_
  | with_reducible refine tru_tup ?_
  | ((with_reducible apply tru_lst); (focus (first | assumption | exact last_get)))
  | with_reducible refine wp_notT ?_
  | with_reducible refine wp_andT ?_
  | with_reducible refine wp_orT ?_
  | with_reducible refine wp_and ?_
  | with_reducible refine wp_or ?_
  | with_reducible refine wp_not ?_
  | with_reducible refine wp_if ?_
  | with_reducible refine wp_skip ?_
  | with_reducible refine wp_drop ?_
  | with_reducible refine wp_break ?_
  | with_reducible refine wp_cont ?_
  | with_reducible refine nxt_bk ?_
  | with_reducible refine nxt_ct ?_
  | with_reducible refine wp_alloc ?_
  | with_reducible refine wp_lst ?_
  | with_reducible refine wp_oN ?_
  | with_reducible refine wp_oS ?_
  | with_reducible refine valO_d ?_
  | with_reducible refine valO_n ?_
  | with_reducible refine wp_setL ?_
  | with_reducible refine wf_lenT ?_
  | with_reducible refine wf_lenN ?_
  | with_reducible refine wf_lenS ?_
  | ((with_reducible apply wf_lenL); (focus (first | assumption | exact last_get)))
  | with_reducible refine wf_tupcT ?_
  | with_reducible refine wf_tupcN ?_
  | ((with_reducible apply wf_tupcL); (focus (first | assumption | exact last_get)))
  | with_reducible refine wp_for ?_
  | with_reducible refine wp_src ?_
  | with_reducible refine src_tupK ?_
  | with_reducible refine src_nK ?_
  | with_reducible refine src_slK ?_
  | ((with_reducible apply src_lstK); (focus (first | assumption | exact last_get)))
  | with_reducible refine wp_asg ?_
  | with_reducible refine wl_n ?_
  | ((with_reducible refine wl_tup ?_ ?_); (focus (exact rfl)))
  | with_reducible refine wl_cons ?_
  | with_reducible refine wl_nil ?_
  | ((with_reducible apply wp_aug); (focus (exact rfl)))
  | with_reducible refine wf_iadd ?_
  | with_reducible refine wp_isN ?_
  | with_reducible refine wp_notN ?_
  | with_reducible refine wp_isI ?_
  | ((with_reducible apply isI_t); (focus (exact rfl)); (focus (decide)))
  | ((with_reducible apply isI_f); (focus (exact rfl)); (focus (decide)))
  | with_reducible refine loopK_nx ?_
  | with_reducible refine loopK_ct ?_
  | with_reducible refine loopK_bk ?_
  | with_reducible refine loopK_rt ?_
  | with_reducible refine wp_enum ?_
  | with_reducible refine wp_lisc ?_
  | with_reducible refine wp_comp ?_
  | with_reducible refine wp_neg ?_
  | with_reducible refine wp_dnewK ?_
  | with_reducible refine wp_dnewT ?_
  | with_reducible refine wp_get2 ?_
  | with_reducible refine wp_get1 ?_
  | with_reducible refine wp_setD ?_
  | with_reducible refine wp_app ?_
  | with_reducible refine wp_rev ?_
  | with_reducible refine wp_dcopy ?_
  | with_reducible exact ⟨rfl, rfl⟩)
local macro_rules | `(tactic| walk_at "g2") => `(tactic| first
  | walk_at "g1"
  | with_reducible refine wf_ixA0 ?_
  | with_reducible refine wf_ixA1 ?_
  | with_reducible refine wf_ixS0 ?_
  | with_reducible refine wf_ixS1 ?_
  | with_reducible refine wf_ixS2 ?_
  | with_reducible refine wf_ixL0 ?_
  | with_reducible refine wf_ixL1 ?_
  | with_reducible refine wf_ixL2 ?_
  | ((with_reducible refine wf_eqT ?_ ?_ ?_); (focus (walk_at "dec")); (focus (walk_at "dec")))
  | ((with_reducible refine wf_neT ?_ ?_ ?_); (focus (walk_at "dec")); (focus (walk_at "dec")))
  | ((with_reducible refine wf_eqLs ?_ ?_ ?_); (focus (assumption)); (focus (assumption)))
  | ((with_reducible refine wf_neLs ?_ ?_ ?_); (focus (assumption)); (focus (assumption)))
  | ((with_reducible refine wf_eqL ?_ ?_ ?_ ?_ ?_); (focus (walk_at "dec")); (focus (walk_at "dec")); (focus (walk_at "dec")); (focus (walk_at "dec")))
  | ((with_reducible refine wf_neL ?_ ?_ ?_ ?_ ?_); (focus (walk_at "dec")); (focus (walk_at "dec")); (focus (walk_at "dec")); (focus (walk_at "dec")))
  | with_reducible refine way_eq lseq_self ?_
  | with_reducible refine way_eq leq_self ?_
  | with_reducible refine way_eq (teq_self _) ?_
  | with_reducible refine isI_vi ?_
  | with_reducible refine isI_vb ?_
  | with_reducible refine isI_vt ?_
  | ((with_reducible refine wp_eq (r_isvar ?_ _) ?_); (focus (assumption)))
  | ((with_reducible refine wp_eq (r_lisvar ?_ _) ?_); (focus (assumption)))
  | ((with_reducible refine wp_eq (r_lint ?_ _) ?_); (focus (assumption)))
  | ((with_reducible refine wp_eq (run_cell ?_ _ _ ?_ _) ?_); (focus (exact rfl)); (focus (walk_at "dec"))))
local macro_rules | `(tactic| walk_at "go2") => `(tactic| repeat' (walk_at "g2"))
local macro_rules | `(tactic| walk_at "go") => `(tactic| repeat' (walk_at "g1"))
local macro_rules | `(tactic| walk_at "g3") => `(tactic| first
  | with_reducible refine wp_andP ?_
  | with_reducible refine wp_orP ?_
  | with_reducible refine wp_andB ?_
  | with_reducible refine wp_orB ?_
  | with_reducible refine ⟨rfl, rfl, ?_⟩
  | walk_at "g2")
local macro_rules | `(tactic| walk_at "go3") => `(tactic| repeat' (walk_at "g3"))
section
open PySem L2 Zi
mutual
def scT (m : Int) : Tm → Tm
  | .v i => .v (i * m + i)
  | .ap a b c ts => .ap a (if 2 < a then b * m else b) c (scTs m ts)
def scTs (m : Int) : List Tm → List Tm
  | [] => []
  | t :: ts => scT m t :: scTs m ts
end
theorem scTs_map (m : Int) : ∀ ts, scTs m ts = ts.map (scT m)
  | [] => rfl
  | t :: ts => by rw [scTs, scTs_map m ts, List.map_cons]
def SmS (a b c : Int) : Prop := (a = 2 ∧ (0 ≤ b ∧ b < 3) ∧ c = 0) ∨ (a = 3 ∧ (0 ≤ b ∧ b ≤ 4) ∧ 0 ≤ c ∧ c ≤ 1)
def AmS (a b c : Int) : Prop := (a = 0 ∧ b = 0 ∧ c = 0) ∨ (a = 1 ∧ (3 ≤ b ∧ b < 6) ∧ c = 0) ∨ (a = 4 ∧ (0 ≤ b ∧ b ≤ 4) ∧ c = 0) ∨ (a = 5 ∧ (0 ≤ b ∧ b ≤ 4) ∧ c = 0)
abbrev Sm : Tm → Prop := Tm.Ok (fun i => 0 ≤ i ∧ i < 3) (fun a b c n => SmS a b c ∧ n ≤ 2)
def AmO (t : Tm) : Prop := ∃ a b c ts, t = .ap a b c ts ∧ AmS a b c ∧ ts.length ≤ 2 ∧ ∀ u ∈ ts, Sm u
/-- a drawn literal of the law -/
structure LitS (x : Lit) : Prop where
  k : (AmO x.l ∧ x.r = tTruth) ∨ (Sm x.l ∧ Sm x.r)
  sl : x.l.size ≤ 15
  sr : x.r.size ≤ 15
  hl : x.l.hgt ≤ 4
  hr : x.r.hgt ≤ 4
/-- a literal of the law -/
structure Wf (x : Lit) : Prop where
  t : LitTx x
  s : LXt x
  sl : x.l.size ≤ 15
  sr : x.r.size ≤ 15
  hl : x.l.hgt ≤ 4
  hr : x.r.hgt ≤ 4
theorem big {m : Int} (hm : 0 ≤ m ∧ m < 10 ^ 12) {b : Int} (hb : 0 ≤ b ∧ b ≤ 4) : 0 ≤ b * m ∧ b * m ≤ 4 * m := ⟨Int.mul_nonneg hb.1 hm.1, Int.mul_le_mul_of_nonneg_right hb.2 hm.1⟩
theorem Sm.ind {t : Tm} (h : Sm t) : Ind t := h.imp (fun i h => by omega) fun a b c n h => ⟨by have := h.1; unfold SmS at this; unfold IndS; omega, h.2⟩
theorem AmO.at' {t : Tm} (h : AmO t) : AtO t := by
  obtain ⟨a, b, c, ts, e, h1, h2, h3⟩ := h
  exact ⟨a, b, c, ts, e, by unfold AmS at h1; unfold AtS; omega, h2, fun u hu => (h3 u hu).ind⟩
theorem Sm.sc {m : Int} (hm : 0 ≤ m ∧ m < 10 ^ 12) {t : Tm} (h : Sm t) : Ind (scT m t) := by
  induction h with
  | v hi =>
    rename_i i
    have := big hm (b := i) (by omega)
    rw [scT]
    exact .v (by omega)
  | ap hq hts ih =>
    rename_i a b c ts
    rw [scT, scTs_map]
    refine .ap ⟨?_, by rw [List.length_map]; exact hq.2⟩ fun u hu => ?_
    · have h1 := hq.1
      unfold SmS at h1
      have := big hm (b := b) (by omega)
      unfold IndS
      split <;> omega
    · obtain ⟨t, ht, rfl⟩ := List.mem_map.mp hu
      exact ih t ht
theorem AmO.sc {m : Int} (hm : 0 ≤ m ∧ m < 10 ^ 12) {t : Tm} (h : AmO t) : AtO (scT m t) := by
  obtain ⟨a, b, c, ts, rfl, h1, h2, h3⟩ := h
  rw [scT, scTs_map]
  refine ⟨_, _, _, _, rfl, ?_, by rw [List.length_map]; exact h2, fun u hu => ?_⟩
  · unfold AmS at h1
    have := big hm (b := if 2 < a then b else 0) (by split <;> omega)
    unfold AtS
    split <;> (simp only [*, if_true, if_false] at this <;> omega)
  · obtain ⟨t, ht, rfl⟩ := List.mem_map.mp hu
    exact (h3 t ht).sc hm
theorem sc_dim (m : Int) (t : Tm) : (scT m t).hgt = t.hgt ∧ (scT m t).size = t.size := by
  induction t using Tm.ind with
  | hv i => exact ⟨rfl, rfl⟩
  | ha a b c ts ih =>
    have key : hgts (scTs m ts) = hgts ts ∧ sizes (scTs m ts) = sizes ts := by
      induction ts with
      | nil => exact ⟨rfl, rfl⟩
      | cons t ts ih2 =>
        have h1 := ih t (by simp)
        have h2 := ih2 fun x hx => ih x (List.mem_cons_of_mem _ hx)
        simp only [scTs, hgts, sizes, h1.1, h1.2, h2.1, h2.2, and_self]
    simp only [scT, Tm.hgt, Tm.size, key.1, key.2, and_self]
def scL (m : Int) (x : Lit) : Lit := ⟨x.pos, scT m x.l, scT m x.r⟩
theorem LitS.wf {x : Lit} (h : LitS x) : Wf x := by
  have ht : LitTx x := h.k.imp (fun h => ⟨h.1.at', h.2⟩) fun h => ⟨h.1.ind, h.2.ind⟩
  have := h.sl; have := h.sr; have := h.hl; have := h.hr
  exact ⟨ht, ⟨ht.tl, ht.tr, by omega, by omega, by omega, by omega⟩, h.sl, h.sr, h.hl, h.hr⟩
theorem LitS.sc {m : Int} (hm : 0 ≤ m ∧ m < 10 ^ 12) {x : Lit} (h : LitS x) : Wf (scL m x) := by
  have ht : LitTx (scL m x) := h.k.imp (fun h => ⟨h.1.sc hm, by show scT m x.r = _; rw [h.2]; rfl⟩) fun h => ⟨h.1.sc hm, h.2.sc hm⟩
  have d1 := sc_dim m x.l; have d2 := sc_dim m x.r
  have := h.sl; have := h.sr; have := h.hl; have := h.hr
  exact ⟨ht, ⟨ht.tl, ht.tr, by show (scT m x.l).size ≤ _; omega, by show (scT m x.r).size ≤ _; omega, by show (scT m x.l).hgt ≤ _; omega, by show (scT m x.r).hgt ≤ _; omega⟩, by show (scT m x.l).size ≤ _; omega, by show (scT m x.r).size ≤ _; omega, by show (scT m x.l).hgt ≤ _; omega, by show (scT m x.r).hgt ≤ _; omega⟩
section
variable {k : Nat} {S : Sto} {nm : List (Bool × Str)} {r : Nat}
abbrev ScO : Tm → Prop := Tm.Ok (fun i => 0 ≤ i ∧ i < 3) (fun a b c n => (0 ≤ b ∧ b < 10) ∧ n ≤ 2)
theorem Sm.so {t : Tm} (h : Sm t) : ScO t := h.imp (fun _ h => h) fun a b c n h => ⟨by have := h.1; unfold SmS at this; omega, h.2⟩
theorem AmO.so {t : Tm} (h : AmO t) : ScO t := by
  obtain ⟨a, b, c, ts, rfl, h1, h2, h3⟩ := h
  exact .ap ⟨by unfold AmS at h1; omega, h2⟩ fun u hu => (h3 u hu).so
theorem LitS.so {x : Lit} (h : LitS x) : ScO x.l ∧ ScO x.r := h.k.elim (fun h => ⟨h.1.so, by rw [h.2]; exact .ap ⟨by decide, by decide⟩ (by simp)⟩) fun h => ⟨h.1.so, h.2.so⟩
theorem r_scaled {m : Int} (hm : 0 ≤ m ∧ m < 10 ^ 12) (t : Tm) : ∀ {k : Nat} {S : Sto}, ScO t → t.hgt ≤ k → run prog (k + 2) 90003 [eT t, .int m] S = some (eT (scT m t), S) := by
  induction t using Tm.ind with
  | hv i =>
    intro k S ht hk
    cases ht with
    | v hi =>
    refine run_pure (k := k + 1) (i := 90003) (n := 2) (j := 4) (ms := m__law_scaled) rfl rfl (refLt_eT _) ?_
    show wp (m__law_scaled (run prog (k + 1)) [some (eT (.v i)), some (.int m), none, none] S) _
    unfold m__law_scaled
    walk_at "go3"
    refine wp_eq (r_lisvar hp0 (k := k) (.v i)) ?_
    walk_at "go3"
    refine way_eq rfl ?_
    simp only [eT]
    walk_at "go3"
  | ha a b c ts ih =>
    intro k S ht hk
    cases ht with
    | ap hq hts =>
    obtain ⟨k, rfl⟩ : ∃ j, k = j + 1 := ⟨k - 1, by simp only [Tm.hgt] at hk; omega⟩
    refine run_pure (k := k + 2) (i := 90003) (n := 2) (j := 4) (ms := m__law_scaled) rfl rfl (refLt_eT _) ?_
    rw [eT_ap]
    show wp (m__law_scaled (run prog (k + 2)) [some (.tup [eS a b c, .tup (ts.map eT)]), some (.int m), none, none] S) _
    unfold m__law_scaled
    walk_at "go3"
    refine wp_eq (show run prog (k + 2) 14 [.tup [eS a b c, .tup (ts.map eT)]] S = _ from by rw [← eT_ap]; exact r_lisvar hp0 (k := k + 1) (.ap a b c ts)) ?_
    walk_at "go3"
    refine way_ne rfl ?_
    walk_at "go3"
    refine way_cut (fun f S1 => f = .nx [some (.tup [eS a b c, .tup (ts.map eT)]), some (.int m), some (eS a (if 2 < a then b * m else b) c), none] ∧ S = S1) ?_ ?_
    · refine way_dec (fun h => ?_) fun h => ?_
      · rw [if_pos h]
        walk_at "go3"
      · rw [if_neg h]
        walk_at "go3"
    · rintro f S1 ⟨rfl, rfl⟩
      refine nxt_nx ?_
      walk_at "go3"
      refine ⟨by simp only [List.length_map]; exact Nat.le_trans hq.2 (by decide), wp_mapE eT ts eT (scT m) rfl trivial (fun t ht => ?_) ?_⟩
      · have hh := hgts_mem ht
        walk_at "go3"
        refine wp_eq (ih t ht (k := k) (hts t ht) (by simp only [Tm.hgt] at hk; omega)) ?_
        walk_at "go3"
      · walk_at "go3"
        exact ⟨by rw [scT, scTs_map, eT_ap, List.map_map], rfl⟩
theorem r_scl {m : Int} (hm : 0 ≤ m ∧ m < 10 ^ 12) {xs : List Lit} (hx : ∀ x ∈ xs, LitS x) (hn : xs.length ≤ 1000) : run prog (k + 8) 90004 [.tup (xs.map eL), .int m] S = some (.tup ((xs.map (scL m)).map eL), S) := by
  refine run_pure (k := k + 7) (i := 90004) (n := 2) (j := 3) (ms := m__law_scaled_clause) rfl rfl (by rw [refLt_tup]; exact refLtL_eL _) ?_
  show wp (m__law_scaled_clause (run prog (k + 7)) [some (.tup (xs.map eL)), some (.int m), none] S) _
  unfold m__law_scaled_clause
  walk_at "go3"
  refine ⟨by rw [List.length_map]; omega, wp_mapE eL xs eL (scL m) rfl trivial (fun x hx' => ?_) ?_⟩
  · have h := hx x hx'
    have := h.hl; have := h.hr
    walk_at "go3"
    refine wp_eq (r_scaled hm x.l (k := k + 5) h.so.1 (by omega)) ?_
    walk_at "go3"
    refine wp_eq (r_scaled hm x.r (k := k + 5) h.so.2 (by omega)) ?_
    walk_at "go3"
  · walk_at "go3"
theorem r_rterm (hN : Nw nm) {t : Tm} (ht : Ind t) (hk : 2 * t.hgt + 5 ≤ k) (hz : (tx nm t).length ≤ 1000000) (hr : S[r]? = some (.lst (nm.map nD))) : run prog (k + 1) 90000 [.str (tx nm t), .ref r] S = some (eT t, S) := by
  obtain ⟨k, rfl⟩ : ∃ j, k = j + 1 := ⟨k - 1, by omega⟩
  refine run_pure (k := k + 1) (i := 90000) (n := 2) (j := 3) (ms := m_read_term) rfl rfl (refLt_eT _) ?_
  show wp (m_read_term (run prog (k + 1)) [some (.str (tx nm t)), some (.ref r), none] S) _
  unfold m_read_term
  walk_at "go3"
  refine wp_eq (r_wholeT hp0 hp11 hp14 hN ht (by omega) hz (tx_st hN ht.tv) rfl hr) ?_
  walk_at "go3"
  refine way_ne (by cases t <;> simp [eT, Zi.isNon]) ?_
  walk_at "go3"
theorem r_ratT (hN : Nw nm) {t : Tm} (ht : Ind t) (hk : 2 * t.hgt + 5 ≤ k) (hz : (tx nm t).length ≤ 1000000) (hr : S[r]? = some (.lst (nm.map nD))) : run prog (k + 1) 90001 [.str (tx nm t), .ref r] S = some (eT t, S) := by
  obtain ⟨k, rfl⟩ : ∃ j, k = j + 1 := ⟨k - 1, by omega⟩
  refine run_pure (k := k + 1) (i := 90001) (n := 2) (j := 3) (ms := m_read_atom_or_term) rfl rfl (refLt_eT _) ?_
  show wp (m_read_atom_or_term (run prog (k + 1)) [some (.str (tx nm t)), some (.ref r), none] S) _
  have hno : Zi.isNon (eT t) = false := by cases t <;> simp [eT, Zi.isNon]
  unfold m_read_atom_or_term
  walk_at "go3"
  refine wp_eq (r_wholeT hp0 hp11 hp14 hN ht (by omega) hz (tx_st hN ht.tv) rfl hr) ?_
  walk_at "go3"
  refine way_ne hno ?_
  walk_at "go3"
  refine way_ne hno ?_
  walk_at "go3"
theorem r_ratA (hN : Nw nm) {a b c : Int} {ts : List Tm} (h1 : AtS a b c) (h2 : ts.length ≤ 2) (h3 : ∀ u ∈ ts, Ind u) (hno : a = 1 → (false, nmAt nm b) ∉ nm) (hk : 2 * (Tm.ap a b c ts).hgt + 5 ≤ k) (hz : (tx nm (.ap a b c ts)).length ≤ 1000000) (hr : S[r]? = some (.lst (nm.map nD))) :
    run prog (k + 1) 90001 [.str (tx nm (.ap a b c ts)), .ref r] S = some (eAR (.ap a b c ts), S) := by
  obtain ⟨k, rfl⟩ : ∃ j, k = j + 1 := ⟨k - 1, by omega⟩
  have ht : AtO (.ap a b c ts) := ⟨a, b, c, ts, rfl, h1, h2, h3⟩
  refine run_pure (k := k + 1) (i := 90001) (n := 2) (j := 3) (ms := m_read_atom_or_term) rfl rfl (refLt_eAR _) ?_
  show wp (m_read_atom_or_term (run prog (k + 1)) [some (.str (tx nm (.ap a b c ts))), some (.ref r), none] S) _
  unfold m_read_atom_or_term
  walk_at "go3"
  refine wp_eq (r_wholeX hp0 hp11 hp14 hN h1 h2 h3 hno (by omega) hz (tx_st hN ht.tv) rfl hr) ?_
  walk_at "go3"
  refine way_eq rfl ?_
  walk_at "go3"
  refine wp_eq (r_wholeA hp0 hp11 hp14 hN ht (by omega) hz (tx_st hN ht.tv) rfl hr) ?_
  walk_at "go3"
  refine way_ne rfl ?_
  walk_at "go3"
end
end
section
open PySem L2 Zi
theorem tab_one {a b c : Int} {ts : List Tm} : Zi.tabT (.ap a b c ts) = if a = 1 then .ap 1 (b + 3) 0 ts else .ap a b c ts := rfl
theorem term_sm {d : Nat} {t : Tm} (h : TermOk d t) : Sm t := h.ok.imp (fun i h => h) fun a b c n h => ⟨by
  have := h.1
  simp only [SymT, fiveS, List.mem_cons, Prod.mk.injEq, List.not_mem_nil, or_false] at this
  unfold SmS; omega, h.2⟩
theorem lits_of {x : Lit} (h : LitK 2 x) : LitS (tabL x) := by
  have b1 : bdT 2 = 7 := by decide
  have b2 : bdT (2 + 1) = 15 := by decide
  obtain ⟨p, t, u⟩ := x
  rcases h with ⟨h1, h2⟩ | ⟨h1, h2⟩
  · obtain ⟨a, b, c, ts, e, hs, hl, hts⟩ := h1.is
    have hsz := h1.size
    have hh := h1.hgt
    simp only at *
    subst e h2
    simp only [SymA, sixA, List.mem_cons, Prod.mk.injEq, List.not_mem_nil, or_false] at hs
    have hts' : ∀ u ∈ ts, Sm u := fun u hu => term_sm (hts u hu)
    have e : ∃ a' b' c', Zi.tabT (.ap a b c ts) = .ap a' b' c' ts ∧ AmS a' b' c' := by
      rw [tab_one]
      split
      · exact ⟨_, _, _, rfl, by unfold AmS; omega⟩
      · exact ⟨_, _, _, rfl, by unfold AmS; omega⟩
    obtain ⟨a', b', c', e, he⟩ := e
    have hs1 : (Tm.ap a' b' c' ts).size = (Tm.ap a b c ts).size := by simp only [Tm.size]
    have hs2 : (Tm.ap a' b' c' ts).hgt = (Tm.ap a b c ts).hgt := by simp only [Tm.hgt]
    refine ⟨.inl ⟨⟨a', b', c', ts, e, he, hl, hts'⟩, rfl⟩, ?_, ?_, ?_, ?_⟩
    · show (Zi.tabT (.ap a b c ts)).size ≤ 15
      rw [e]; omega
    · show tTruth.size ≤ 15
      simp [tTruth, Tm.size, sizes]
    · show (Zi.tabT (.ap a b c ts)).hgt ≤ 4
      rw [e]; omega
    · show tTruth.hgt ≤ 4
      simp [tTruth, Tm.hgt, hgts]
  · have e1 := h1.size; have e2 := h2.size; have e3 := h1.hgt; have e4 := h2.hgt
    simp only at *
    have e : Zi.tabT t = t := by
      have ho := h1.ok
      cases ho with
      | v _ => rfl
      | ap hq _ =>
        have z1 := hq.1
        simp only [SymT, fiveS, List.mem_cons, Prod.mk.injEq, List.not_mem_nil, or_false] at z1
        rw [tab_one, if_neg (by omega)]
    refine ⟨.inr ⟨?_, term_sm h2⟩, ?_, ?_, ?_, ?_⟩
    · show Sm (Zi.tabT t)
      rw [e]; exact term_sm h1
    · show (Zi.tabT t).size ≤ 15
      rw [e]; omega
    · show u.size ≤ 15
      omega
    · show (Zi.tabT t).hgt ≤ 4
      rw [e]; omega
    · show u.hgt ≤ 4
      omega
section
variable {k : Nat} {l : Lo} {S : Sto} {Q : D → Sto → Prop} {nm : List (Bool × Str)} {r : Nat}
theorem lit_len (hN : Nw nm) {x : Lit} (hx : Wf x) : (litTx nm x).length ≤ 6010 := by
  have a1 := tx_len hN.toNm hx.s.l; have a2 := tx_len hN.toNm hx.s.r; have a3 := hx.sl; have a4 := hx.sr
  have n1 := one_len (x := "not ") (n := 4); have n2 := one_len (x := " = ") (n := 3); have n3 := one_len (x := " != ") (n := 4)
  unfold litTx
  split
  · split
    · omega
    · simp only [sq, Str.length_append]; omega
  · split <;> (simp only [sq, Str.length_append]; omega)
theorem lits_len (hN : Nw nm) : ∀ {ys : List Lit}, (∀ y ∈ ys, Wf y) → ((ys.map (litTx nm)).map Str.length).sum ≤ ys.length * 6010
  | [], _ => by simp
  | y :: ys, h => by
    have h1 := lit_len hN (h y (by simp))
    have h2 := lits_len hN (ys := ys) fun x hx => h x (List.mem_cons_of_mem _ hx)
    simp only [List.map_cons, List.sum_cons, List.length_cons]
    omega
theorem cl_len (hN : Nw nm) {ys : List Lit} (h : ∀ y ∈ ys, Wf y) (hn : ys.length ≤ 8) : (clTx nm ys).length ≤ 100000 := by
  have h1 := lits_len hN h
  have n1 := one_len (x := " or ") (n := 4); have n2 : (sq "[]").length = 2 := one_len (by decide)
  unfold clTx
  split
  · omega
  · have := join_le (sep := sq " or ") (ys := ys.map (litTx nm))
    rw [show (sq " or ").length = 4 from n1, List.length_map] at this
    omega
theorem lx_cl2 {ys : List Lit} (h : ys ≠ []) : lx (clTx nm ys) = glue [32, 111, 114, 32] (ys.map fun y => lx (litTx nm y)) := by
  unfold clTx
  rw [if_neg h, lx_join, lx_or, List.map_map]
  rfl
theorem r_rcl (hN : Nw nm) {ys : List Lit} (hy : ∀ y ∈ ys, Wf y) (hn : ys.length ≤ 8) (hk : 15 ≤ k) (hr : S[r]? = some (.lst (nm.map nD))) : run prog (k + 1) 90002 [.str (clTx nm ys), .ref r] S = some (.tup (ys.map eLR), S) := by
  obtain ⟨k, rfl⟩ : ∃ j, k = j + 1 := ⟨k - 1, by omega⟩
  refine run_rub (k := k + 1) (i := 90002) (n := 2) (j := 5) (ms := m_read_clause) rfl rfl (by
    rw [refLt_tup]
    exact refLtL_all _ fun x hx => by
      obtain ⟨t, _, rfl⟩ := List.mem_map.mp hx
      exact refLt_eLR t) ?_
  show wp (m_read_clause (run prog (k + 1)) [some (.str (clTx nm ys)), some (.ref r), none, none, none] S) _
  have hl := cl_len hN hy hn
  have hlt : r < S.length := by
    rcases Nat.lt_or_ge r S.length with h | h
    · exact h
    · rw [List.getElem?_eq_none h] at hr; cases hr
  by_cases he : ys = []
  · subst he
    rw [show clTx nm [] = Str.ofString "[]" from rfl]
    unfold m_read_clause
    walk_at "go3"
    refine wf_eqTx (by decide +kernel) (by decide +kernel) ?_
    walk_at "go3"
    refine way_eq (by simp) ?_
    walk_at "go3"
    exact ⟨rfl, [], (List.append_nil S).symm⟩
  have hx := lx_cl2 (nm := nm) he
  have asc : ∀ c ∈ lx (clTx nm ys), c < 128 ∧ c ≠ 91 := fun c hc => by
    rw [hx] at hc
    rcases mem_glue hc with hc | ⟨p, hp, hc⟩
    · simp only [List.mem_cons, List.not_mem_nil, or_false] at hc; omega
    · obtain ⟨y, hy', rfl⟩ := List.mem_map.mp hp
      exact ⟨lit_asc hN (hy y hy').s.l (hy y hy').s.r c hc, lit_91 hN (hy y hy').s.l (hy y hy').s.r c hc⟩
  have hs : stS (clTx nm ys) = true := st_asc fun c hc => (asc c hc).1
  have hne : ¬ clTx nm ys = Str.ofString "[]" := fun z => (asc 91 (by rw [z, show lx (Str.ofString "[]") = [91, 93] from lx_nil2]; simp)).2 rfl
  have hsp : Txt.split (clTx nm ys) (sq " or ") = ys.map (litTx nm) := by
    refine split_glue (by rw [lx_or]; simp) (by decide +kernel) (by simpa using he) (by rw [hx, lx_or, List.map_map]; rfl) fun p hp => ?_
    obtain ⟨y, hy', rfl⟩ := List.mem_map.mp hp
    rw [lx_or]
    exact free_lit hN (hy y hy').s.l (hy y hy').s.r
  have n1 := one_len (x := " or ") (n := 4)
  generalize hZ : clTx nm ys = z at *
  unfold m_read_clause
  walk_at "go3"
  refine wf_eqTx hs (by decide +kernel) ?_
  walk_at "go3"
  refine way_ne (decide_eq_false hne) ?_
  walk_at "go3"
  refine wp_split ?_
  walk_at "go3"
  refine ⟨_, rfl, ?_⟩
  walk_at "go3"
  refine ⟨_, rfl, by rw [n1]; rfl, by omega, ?_⟩
  rw [show Txt.split z (Str.ofString " or ") = _ from hsp]
  walk_at "go3"
  refine wp_inv (fun y => D.str (litTx nm y)) ys (fun dn l S' => ∃ o3 o4, l = [some (.str z), some (.ref r), some (.ref S.length), o3, o4] ∧ S' = S ++ [.lst (dn.map eLR)]) (by rw [List.map_map]; rfl) ⟨_, _, rfl, rfl⟩ (fun _ _ _ _ => trivial) ?_ ?_
  · rintro dn x rest l S' hall ⟨o3, o4, rfl, rfl⟩
    have hxx := hy x (by rw [hall]; simp)
    have hdn : dn.length < 8 := by have := congrArg List.length hall; rw [List.length_append, List.length_cons] at this; omega
    have hh := hxx.hl; have hh2 := hxx.hr
    have hlx := lit_len hN hxx
    have c1 := r_rlit (S := S ++ [.lst (dn.map eLR)]) (k := k) (r := r) hp0 hp11 hp14 hN hxx.t (by omega) (by omega) (by omega) (by rw [List.getElem?_append_left hlt]; exact hr)
    have hno : Zi.isNon (eLR x) = false := by unfold eLR; split <;> rfl
    walk_at "go3"
    refine wp_eq c1 ?_
    walk_at "go3"
    refine way_ne hno ?_
    walk_at "go3"
    refine ⟨_, _, rfl, last_get, ?_⟩
    walk_at "go3"
    refine ⟨_, last_get, by rw [List.length_map]; omega, ?_⟩
    walk_at "go3"
    rw [last_set]
    exact ⟨_, _, rfl, by rw [List.map_append]; rfl⟩
  · rintro l S' ⟨o3, o4, rfl, rfl⟩
    walk_at "go3"
    exact ⟨rfl, _, rfl⟩
theorem ne_self {x y : O} {p : PyData} (hx : snapO S x = some p) (hy : snapO S y = some p) (hp : PyData.eqv p p = true) (q : Q (.bl false) S) : wp (fNe x y S) Q := by
  refine wp_eq (a := .bl false) ?_ q
  show ((snapO S x).bind fun p => (snapO S y).bind fun q => some (D.bl (!PyData.eqv p q), S)) = _
  rw [hx, hy]
  simp only [Option.bind_some, hp, Bool.not_true]
theorem snap_eL {n : Nat} {x : Lit} (h1 : x.l.hgt ≤ 4) (h2 : x.r.hgt ≤ 4) (hn : 20 ≤ n) : ∃ p, snap n S (eL x) = some p := by
  obtain ⟨n, rfl⟩ : ∃ j, n = j + 2 := ⟨n - 2, by omega⟩
  refine ⟨.tuple [.bool x.pos, pT x.l, pT x.r], ?_⟩
  show (allS (snap (n + 1) S) [.bl x.pos, eT x.l, eT x.r]).bind _ = _
  simp only [allS, snap_eT x.l (S := S) (n := n + 1) (by omega), snap_eT x.r (S := S) (n := n + 1) (by omega), Option.bind_some]
  rfl
theorem allS_eL {n : Nat} (hn : 20 ≤ n) : ∀ {ys : List Lit}, (∀ y ∈ ys, Wf y) → ∃ ps, allS (snap n S) (ys.map eL) = some ps ∧ allS (snap n S) (ys.map eLR) = some ps
  | [], _ => ⟨[], rfl, rfl⟩
  | y :: ys, h => by
    obtain ⟨p, e⟩ := snap_eL (S := S) (h y (by simp)).hl (h y (by simp)).hr hn
    obtain ⟨ps, e1, e2⟩ := allS_eL hn (ys := ys) fun x hx => h x (List.mem_cons_of_mem _ hx)
    exact ⟨p :: ps, by rw [List.map_cons, allS, e, e1]; rfl, by rw [List.map_cons, allS, snap_eLR, e, e2]; rfl⟩
theorem wf_neTold {ys : List Lit} (h : ∀ y ∈ ys, Wf y) (q : Q (.bl false) S) : wp (fNe (.d (.tup (ys.map eLR))) (.d (.tup (ys.map eL))) S) Q := by
  obtain ⟨ps, e1, e2⟩ := allS_eL (S := S) (n := 189) (by decide) h
  have s1 : snap 190 S (.tup (ys.map eL)) = some (.tuple ps) := by
    show (allS (snap 189 S) (ys.map eL)).bind _ = _
    rw [e1]; rfl
  have s2 : snap 190 S (.tup (ys.map eLR)) = some (.tuple ps) := by
    show (allS (snap 189 S) (ys.map eLR)).bind _ = _
    rw [e2]; rfl
  exact ne_self (x := .d _) (y := .d _) s2 s1 (eqv_self s1) q
theorem wf_neNm {r1 r2 : Nat} (hn : ∀ p ∈ nm, stS p.2 = true) (h1 : S[r1]? = some (.lst (nm.map nD))) (h2 : S[r2]? = some (.lst (nm.map nD))) (q : Q (.bl false) S) : wp (fNe (.d (.ref r1)) (.d (.ref r2)) S) Q := by
  have e := allS_nD (S := S) (n := 187) nm hn
  have s : ∀ r, S[r]? = some (.lst (nm.map nD)) → snap 190 S (.ref r) = some (.list (nm.map fun q => PyData.tuple [.bool q.1, .str q.2])) := fun r hr => by
    show (match S[r]? with
      | some (.lst xs) => (allS (snap 189 S) xs).bind fun r => some (PyData.list r)
      | _ => none) = _
    rw [hr]
    show (allS (snap 189 S) (nm.map nD)).bind _ = _
    rw [e]; rfl
  exact ne_self (x := .d _) (y := .d _) (s r1 h1) (s r2 h2) (eqv_self (s r1 h1)) q
theorem wf_neAR {t : Tm} (h : t.hgt ≤ 4) (q : Q (.bl false) S) : wp (fNe (.d (eAR t)) (.d (eT t)) S) Q := by
  have s := snap_eT t (S := S) (n := 190) (by omega)
  exact ne_self (x := .d _) (y := .d _) (by show snap 190 S (eAR t) = _; rw [snap_eAR]; exact s) s (eqv_self s) q
end
end
section
open PySem L2 Zi
theorem eT_inj {t u : Tm} (h : eT t = eT u) : t = u := by
  have h1 := snap_eT t (S := []) (n := 2 * (t.hgt + u.hgt) + 1) (by omega)
  have h2 := snap_eT u (S := []) (n := 2 * (t.hgt + u.hgt) + 1) (by omega)
  rw [h, h2] at h1
  refine (teq_iff t u).mp ?_
  show PyData.eqv (pT t) (pT u) = true
  rw [← Option.some.inj h1]
  exact teq_self u
theorem eL_inj {x y : Lit} (h : eL x = eL y) : x = y := by
  obtain ⟨p, t, u⟩ := x
  obtain ⟨p', t', u'⟩ := y
  simp only [eL, D.tup.injEq, List.cons.injEq, D.bl.injEq, and_true] at h
  rw [h.1, eT_inj h.2.1, eT_inj h.2.2]
theorem eLs_inj : ∀ {xs ys : List Lit}, xs.map eL = ys.map eL → xs = ys
  | [], [], _ => rfl
  | [], y :: ys, h => by cases h
  | x :: xs, [], h => by cases h
  | x :: xs, y :: ys, h => by
    simp only [List.map_cons, List.cons.injEq] at h
    rw [eL_inj h.1, eLs_inj h.2]
theorem at_ind {t : Tm} (h : AtO t) : t.ind' = false := by
  obtain ⟨a, b, c, ts, rfl, h1, h2, h3⟩ := h
  unfold AtS at h1
  rw [Tm.ind', decide_eq_false (by omega)]
  rfl
theorem law_true (ns : List Int) (_ : ns.length ≤ 63) : ∃ S', run prog 230 90005 [.sl ns] [] = some (.bl true, S') := by
  have n0 := cellV_nn ns (j := 0) (by decide)
  have n1 := cellV_nn ns (j := 1) (by decide)
  have n2 := cellV_nn ns (j := 2) (by decide)
  have n3 := cellV_nn ns (j := 3) (by decide)
  obtain ⟨nm, hN, h1⟩ := rl_table (k := 227) (S := []) hp14 n0
  have hst : ∀ q ∈ nm, stS q.2 = true := fun q hq => (hN.w q hq).2
  let S1 : Sto := [] ++ [.lst (nm.map nD)]
  obtain ⟨xs, c1, c2, h2⟩ := r_clauseK hp0 (k := 224) (d := 2) (m := 4) (by omega) (by omega) n1 S1
  obtain ⟨xs', c1', c2', h2'⟩ := r_clauseO hp0 hp9 (k := 222) (d := 2) (m := 4) (B := 15) (by decide) (by omega) (by omega) n1 S1
  have exs : xs'.map eL = xs.map eL := by
    have := h2'.symm.trans h2
    simpa using this
  have hw := r_wellf hp0 hp8 hp10 (k := 217) (S := S1) (c := xs') c2' (by omega)
  have hxx : xs' = xs := eLs_inj exs
  subst hxx
  have hL : ∀ y ∈ wfC xs', LitS y := fun y hy => by
    obtain ⟨x, hx, rfl⟩ := List.mem_map.mp (List.mem_filter.mp hy).1
    exact lits_of (c2 x hx)
  have hln : (wfC xs').length ≤ 8 := Nat.le_trans (List.length_filter_le ..) (by rw [List.length_map]; omega)
  generalize wfC xs' = zs at *
  have out : wp (m_law (run prog 229) [some (.sl ns), none, none, none, none, none, none, none, none, none] []) fun f S1 => ∃ T, f = .rt (.bl true) ∧ S1 = [] ++ T := by
    unfold m_law
    walk_at "go3"
    refine wp_eq h1 ?_
    walk_at "go3"
    refine wp_eq h2 ?_
    walk_at "go3"
    refine wp_eq hw ?_
    walk_at "go3"
    refine way_cut (fun f S => ∃ ys : List Lit, (∀ y ∈ ys, Wf y) ∧ ys.length ≤ 8 ∧ f = .nx [some (.sl ns), some (.ref 0), some (.tup (ys.map eL)), none, none, none, none, none, none, none] ∧ S1 = S) (way_dec (fun _ => ?_) fun _ => ?_) ?_
    · walk_at "go3"
      have hm : 0 ≤ cellV ns 3 % (10 : Int) ^ (12 : Int).toNat ∧ cellV ns 3 % (10 : Int) ^ (12 : Int).toNat < 10 ^ 12 := by
        rw [show (10 : Int) ^ (12 : Int).toNat = 10 ^ 12 from rfl]
        omega
      refine wp_eq (r_scl hm hL (by omega) (k := 221)) ?_
      walk_at "go3"
      exact ⟨_, fun y hy => by
        obtain ⟨x, hx, rfl⟩ := List.mem_map.mp hy
        exact (hL x hx).sc hm, by rw [List.length_map]; exact hln, rfl, rfl⟩
    · walk_at "go3"
      exact ⟨zs, fun y hy => (hL y hy).wf, hln, rfl, rfl⟩
    clear h1 h2 h2' hw c1 c2 c1' c2' hL hln
    rintro f S ⟨ys, hy, hn, rfl, rfl⟩
    have hlen := lits_len hN hy
    have q4 := one_len (x := " or ") (n := 4)
    refine nxt_nx ?_
    walk_at "go3"
    refine way_cut (fun f S => f = .nx [some (.sl ns), some (.ref 0), some (.tup (ys.map eL)), some (.str (clTx nm ys)), none, none, none, none, none, none] ∧ S1 = S) (way_of (fun h => ?_) fun h => ?_) ?_
    · have h' : ys = [] := by simpa using h
      walk_at "go3"
      exact ⟨by rw [h']; rfl, rfl⟩
    · have h' : ys ≠ [] := by simpa using h
      walk_at "go3"
      refine wp_joinN (wp_c ⟨_, rfl, ?_⟩)
      walk_at "go3"
      refine ⟨by rw [List.length_map]; omega, wp_mapE eL ys D.str (litTx nm) rfl trivial (fun y hyy => ?_) ?_⟩
      · walk_at "go3"
        refine wp_eq (rl_lit hp0 hp14 (r := 0) (k := 213) hN.toNm (hy y hyy).s rfl) ?_
        walk_at "go3"
      · refine ⟨_, rfl, by rw [q4, List.length_map]; omega, ?_⟩
        walk_at "go3"
        exact ⟨by unfold clTx; rw [if_neg h']; rfl, rfl⟩
    rintro f S ⟨rfl, rfl⟩
    refine nxt_nx ?_
    walk_at "go3"
    refine ⟨nm.map nD, rfl, ?_⟩
    walk_at "go3"
    refine wp_eq (r_rcl hN hy hn (k := 228) (by decide) rfl) ?_
    walk_at "go3"
    refine wf_neTold hy ?_
    walk_at "go3"
    refine wf_neNm hst rfl rfl ?_
    walk_at "go3"
    refine way_ne rfl ?_
    walk_at "go3"
    have eT2 : ∃ T : Sto, S1 ++ [.lst (nm.map nD)] = T := ⟨_, rfl⟩
    obtain ⟨T, hT⟩ := eT2
    have gT : T[0]? = some (.lst (nm.map nD)) := by rw [← hT]; rfl
    refine wp_inv eL ys (fun dn l S => ∃ o6 o7 o8, l = [some (.sl ns), some (.ref 0), some (.tup (ys.map eL)), some (.str (clTx nm ys)), some (.ref 1), some (.tup (ys.map eLR)), o6, o7, o8, none] ∧ S = T) rfl ⟨none, none, none, rfl, hT⟩ (fun _ _ _ _ => trivial) ?_ ?_
    · rintro dn x rest l S hall ⟨o6, o7, o8, rfl, rfl⟩
      have hx := hy x (by rw [hall]; simp)
      walk_at "go3"
      refine wp_inv eT [x.l, x.r] (fun dn' l S' => ∃ o7 o8, l = [some (.sl ns), some (.ref 0), some (.tup (ys.map eL)), some (.str (clTx nm ys)), some (.ref 1), some (.tup (ys.map eLR)), some (eL x), o7, o8, none] ∧ S' = S) rfl ⟨_, _, rfl, rfl⟩ (fun _ _ _ _ => trivial) ?_ ?_
      · rintro dn' t rest' l S' hall' ⟨o7, o8, rfl, rfl⟩
        have ht : (Ind t ∨ AtO t) ∧ t.size ≤ 15 ∧ t.hgt ≤ 4 := by
          have hm : t ∈ [x.l, x.r] := by rw [hall']; simp
          have tr : AtO tTruth := ⟨0, 0, 0, [], rfl, .inl ⟨rfl, rfl, rfl⟩, by decide, by simp⟩
          rcases List.mem_cons.mp hm with rfl | h
          · exact ⟨hx.t.elim (fun h => .inr h.1) fun h => .inl h.1, hx.sl, hx.hl⟩
          · rw [List.mem_singleton] at h; subst h
            exact ⟨hx.t.elim (fun h => .inr (h.2 ▸ tr)) fun h => .inl h.2, hx.sr, hx.hr⟩
        obtain ⟨hk, hs, hh⟩ := ht
        have tv : TxV t := hk.elim (fun h => h.tv) fun h => h.tv
        have hz := tx_len hN.toNm tv
        have q1 := rl_tx hp0 hp14 (r := 0) hN.toNm t (k := 227) (S := S') tv (by omega) (by omega) gT
        have q2 := r_lind hp0 t (k := 227) (by omega) (txv_k tv).wd S'
        walk_at "go3"
        refine wp_eq q1 ?_
        walk_at "go3"
        refine wp_eq q2 ?_
        rcases hk with hk | hk
        · rw [hk.ind]
          walk_at "go3"
          refine wp_eq (r_rterm hN hk (k := 228) (by omega) (by omega) gT) ?_
          walk_at "go3"
          refine wp_eq (r_ratT hN hk (k := 228) (by omega) (by omega) gT) ?_
          walk_at "go3"
          refine way_ne (by rw [teq_self]; rfl) ?_
          walk_at "go3"
          exact ⟨_, _, rfl, rfl⟩
        · rw [at_ind hk]
          obtain ⟨a, b, c, ts, rfl, a1, a2, a3⟩ := hk
          have q3 := rl_sym hp14 (r := 0) (k := 228) (S := S') a1.sy hN.toNm gT
          walk_at "go3"
          refine wp_eq q3 ?_
          walk_at "go3"
          refine wf_ninNm gT (st_asc fun d hd => by have := (wd_sy hN a1.sy).1 d hd; omega) hst ?_
          walk_at "go3"
          refine way_dec (fun hin => ?_) fun hin => ?_
          · walk_at "go3"
            exact ⟨_, _, rfl, rfl⟩
          · walk_at "go3"
            refine wp_eq (r_ratA hN a1 a2 a3 (fun h1 => by rw [← sy_nm (c := c) (.inl h1)]; exact hin) (k := 228) (by omega) (by omega) gT) ?_
            walk_at "go3"
            refine wf_neAR hh ?_
            walk_at "go3"
            exact ⟨_, _, rfl, rfl⟩
      · rintro l S' ⟨o7, o8, rfl, rfl⟩
        walk_at "go3"
        exact ⟨_, _, _, rfl, rfl⟩
    · rintro l S ⟨o6, o7, o8, rfl, rfl⟩
      walk_at "go3"
      exact ⟨S, rfl, rfl⟩
  obtain ⟨f, S1, e, T, rfl, rfl⟩ := out
  exact ⟨_, run_more (prog := prog) (k := 229) (i := 90005) (n := 1) (j := 10) (ms := m_law) rfl rfl e (refLt_bl _)⟩
end
end Lk21
set_option maxRecDepth 100000
open PySem PySem.W PyProof.Rows
set_option maxHeartbeats 0 in
theorem PySem.Challenge.cw_lastproof_k21_texts_are_read_back_holds : PySem.Challenge.rw_lastproof_k21_texts_are_read_back.Holds := by
  w_on; o_law; k_head; (case hw => w_witness2)
  k_fill
  refine L2.walk_of (l := PySem.Challenge.rw_lastproof_k21_texts_are_read_back) (n := 63) (k := 230) (x := "_law_script") (CX := fun _ => L2.CX0) (sp := fun w => Zi.spLaw _ (Zi.run Lk21.prog 230 90005)) rfl (by decide) rfl Zi.room230 (fun w h Y => PySem.W.kIn_of Y) ?F (fun _ _ a ns hl hO hS => Zi.law_sp hO hS (Lk21.law_true ns hl)) (fun _ _ _ _ _ h => h)
  case F =>
    intro w mg fa h KX G hmg
    refine' Lk21.all_mk KX G hmg ?a0 ?l0 ?c0 ?k0 ?a1 ?l1 ?c1 ?k1 ?a2 ?l2 ?c2 ?k2 ?a3 ?l3 ?c3 ?k3 ?a4 ?l4 ?c4 ?k4 ?a5 ?l5 ?c5 ?k5 ?a6 ?l6 ?c6 ?k6 ?a7 ?l7 ?c7 ?k7 ?a8 ?l8 ?c8 ?k8 ?a9 ?l9 ?c9 ?k9 ?a10 ?l10 ?c10 ?k10 ?a11 ?l11 ?c11 ?k11 ?a12 ?l12 ?c12 ?k12 ?a13 ?l13 ?c13 ?k13 ?a14 ?l14 ?c14 ?k14 ?a15 ?l15 ?c15 ?k15 ?a16 ?l16 ?c16 ?k16 ?a17 ?l17 ?c17 ?k17 ?a18 ?l18 ?c18 ?k18 ?a19 ?l19 ?c19 ?k19 ?a20 ?l20 ?c20 ?k20 ?a21 ?l21 ?c21 ?k21 ?a22 ?l22 ?c22 ?k22 ?a23 ?l23 ?c23 ?k23 ?a24 ?l24 ?c24 ?k24 ?a25 ?l25 ?c25 ?k25 ?a26 ?l26 ?c26 ?k26 ?a27 ?l27 ?c27 ?k27 ?a28 ?l28 ?c28 ?k28 ?a29 ?l29 ?c29 ?k29 ?a30 ?l30 ?c30 ?k30 ?a31 ?l31 ?c31 ?k31 ?a32 ?l32 ?c32 ?k32 ?a33 ?l33 ?c33 ?k33 ?a34 ?l34 ?c34 ?k34 ?a35 ?l35 ?c35 ?k35 ?a36 ?l36 ?c36 ?k36 ?z_len ?z_int ?z_enumerate ?gTRUTH ?pTRUTH0 ?pTRUTH1 ?pTRUTH2 ?z_tuple ?z_range ?z_isinstance ?z_all ?z_str ?z_list
    (case a0 => k_is); (case l0 => k_is); (case c0 => k_is); (case k0 => k_is); (case a1 => k_is); (case l1 => k_is); (case c1 => k_is); (case k1 => k_is); (case a2 => k_is); (case l2 => k_is); (case c2 => k_is); (case k2 => k_is); (case a3 => k_is); (case l3 => k_is); (case c3 => k_is); (case k3 => k_is); (case a4 => k_is); (case l4 => k_is); (case c4 => k_is); (case k4 => k_is); (case a5 => k_is); (case l5 => k_is); (case c5 => k_is); (case k5 => k_is); (case a6 => k_is); (case l6 => k_is); (case c6 => k_is); (case k6 => k_is); (case a7 => k_is); (case l7 => k_is); (case c7 => k_is); (case k7 => k_is); (case a8 => k_is); (case l8 => k_is); (case c8 => k_is); (case k8 => k_is); (case a9 => k_is); (case l9 => k_is); (case c9 => k_is); (case k9 => k_is); (case a10 => k_is); (case l10 => k_is); (case c10 => k_is); (case k10 => k_is); (case a11 => k_is); (case l11 => k_is); (case c11 => k_is); (case k11 => k_is); (case a12 => k_is); (case l12 => k_is); (case c12 => k_is); (case k12 => k_is); (case a13 => k_is); (case l13 => k_is); (case c13 => k_is); (case k13 => k_is); (case a14 => k_is); (case l14 => k_is); (case c14 => k_is); (case k14 => k_is); (case a15 => k_is); (case l15 => k_is); (case c15 => k_is); (case k15 => k_is); (case a16 => k_is); (case l16 => k_is); (case c16 => k_is); (case k16 => k_is); (case a17 => k_is); (case l17 => k_is); (case c17 => k_is); (case k17 => k_is); (case a18 => k_is); (case l18 => k_is); (case c18 => k_is); (case k18 => k_is); (case a19 => k_is); (case l19 => k_is); (case c19 => k_is); (case k19 => k_is); (case a20 => k_is); (case l20 => k_is); (case c20 => k_is); (case k20 => k_is); (case a21 => k_is); (case l21 => k_is); (case c21 => k_is); (case k21 => k_is); (case a22 => k_is); (case l22 => k_is); (case c22 => k_is); (case k22 => k_is); (case a23 => k_is); (case l23 => k_is); (case c23 => k_is); (case k23 => k_is); (case a24 => k_is); (case l24 => k_is); (case c24 => k_is); (case k24 => k_is); (case a25 => k_is); (case l25 => k_is); (case c25 => k_is); (case k25 => k_is); (case a26 => k_is); (case l26 => k_is); (case c26 => k_is); (case k26 => k_is); (case a27 => k_is); (case l27 => k_is); (case c27 => k_is); (case k27 => k_is); (case a28 => k_is); (case l28 => k_is); (case c28 => k_is); (case k28 => k_is); (case a29 => k_is); (case l29 => k_is); (case c29 => k_is); (case k29 => k_is); (case a30 => k_is); (case l30 => k_is); (case c30 => k_is); (case k30 => k_is); (case a31 => k_is); (case l31 => k_is); (case c31 => k_is); (case k31 => k_is); (case a32 => k_is); (case l32 => k_is); (case c32 => k_is); (case k32 => k_is); (case a33 => k_is); (case l33 => k_is); (case c33 => k_is); (case k33 => k_is); (case a34 => k_is); (case l34 => k_is); (case c34 => k_is); (case k34 => k_is); (case a35 => k_is); (case l35 => k_is); (case c35 => k_is); (case k35 => k_is); (case a36 => k_is); (case l36 => k_is); (case c36 => k_is); (case k36 => k_is); (case z_len => k_is); (case z_int => k_is); (case z_enumerate => k_is); (case gTRUTH => k_is); (case pTRUTH0 => k_is); (case pTRUTH1 => k_is); (case pTRUTH2 => k_is); (case z_tuple => k_is); (case z_range => k_is); (case z_isinstance => k_is); (case z_all => k_is); (case z_str => k_is); (case z_list => k_is)
