import PyProof.Rows.All
import Wide.All
import OpenK.AllK
import Wide.FinOn
import HandS.ForMost
import HandS.Wide
import HandS.TupAny
import HandS.TupMul
import HandS.Style
import HandS.Iter
import KE.KDictWalk
import KE.KDictExact
import KE.KDictCopyH
import KE.KDictOf
import HandS.Zip
import HandS.Zip0
import KE.KDictZip
import HandS.Dict
import HandS.More
import KE.KDictDisplayH
import KE.KEqDict
import HandS.Deep
import KE.DataCmp
import KE.SortData
import KE.DataMinMax
import HandS.Flt
import HandS.SortInts
import HandS.Conv
import PyProof.Transfer
import HandS.IsInst
import HandS.Star
import HandS.Small
import HandS.Defaults
import HandS.Codes
import HandS.Ends
import HandS.Words
import HandS.WordsExc
import HandS.Head0
import HandS.Head1
import HandS.Head2
import HandS.HeadEnd
import HandS.HeadHook1
import HandS.HeadHook2
import HandS.HeadHook3
import HandS.HeadHook4
import KE.KStateDown
import PySem.Challenge.RW_finecloud_k59_whole_numbers
set_option Elab.async false
set_option linter.all false
set_option maxRecDepth 100000
set_option maxHeartbeats 0
/-! VE1: data, owned objects, the relation between an abstract state and the layer's heap -/
namespace VE
open PySem L2

/-! ### data -/
inductive D where
  | non | bl (b : Bool) | int (i : Int) | str (s : Str)
  | tup (xs : List D) | lst (xs : List D) | scr (ns : List Int)
  | dic (t : Bool) (ks : List D) (vs : List D)
  | ins (c : Nat) (fs : List D)
  | rng (lo hi : Int)

mutual
def D.beq : D → D → Bool
  | .non, .non => true
  | .bl a, .bl b => a == b
  | .int a, .int b => decide (a = b)
  | .str a, .str b => decide (a = b)
  | .tup a, .tup b => D.beqs a b
  | .lst a, .lst b => D.beqs a b
  | .scr a, .scr b => decide (a = b)
  | .dic t a x, .dic u b y => t == u && (D.beqs a b && D.beqs x y)
  | .ins c a, .ins e b => c == e && D.beqs a b
  | .rng a b, .rng c e => decide (a = c) && decide (b = e)
  | _, _ => false
def D.beqs : List D → List D → Bool
  | [], [] => true
  | x :: xs, y :: ys => D.beq x y && D.beqs xs ys
  | _, _ => false
end
mutual
theorem D.beq_iff : ∀ a b : D, D.beq a b = true ↔ a = b
  | .non, b => by cases b <;> simp [D.beq]
  | .bl a, b => by cases b <;> simp [D.beq]
  | .int a, b => by cases b <;> simp [D.beq]
  | .str a, b => by cases b <;> simp [D.beq]
  | .tup a, b => by cases b <;> simp [D.beq, D.beqs_iff]
  | .lst a, b => by cases b <;> simp [D.beq, D.beqs_iff]
  | .scr a, b => by cases b <;> simp [D.beq]
  | .dic t a x, b => by cases b <;> simp [D.beq, D.beqs_iff]
  | .ins c a, b => by cases b <;> simp [D.beq, D.beqs_iff]
  | .rng c a, b => by cases b <;> simp [D.beq]
theorem D.beqs_iff : ∀ a b : List D, D.beqs a b = true ↔ a = b
  | [], b => by cases b <;> simp [D.beqs]
  | x :: xs, b => by cases b <;> simp [D.beqs, D.beq_iff, D.beqs_iff]
end
instance : DecidableEq D := fun a b => decidable_of_iff _ (D.beq_iff a b)

/-- owned objects: a tree; .d: data that stand still -/
inductive O where
  | d (x : D) | lst (xs : List D) | dic (t : Bool) (ks : List D) (vs : List D) | ins (c : Nat) (fs : List O)
  | lock (o : Obj) (t : Bool) (ks : List D) (ws : List V) (vs : List D)

mutual
def O.toD : O → D
  | .d x => x
  | .lst xs => .lst xs
  | .dic t ks vs => .dic t ks vs
  | .ins c fs => .ins c (O.toDs fs)
  | .lock _ t ks _ vs => .dic t ks vs
def O.toDs : List O → List D
  | [] => []
  | o :: os => o.toD :: O.toDs os
end
theorem O.toDs_map : ∀ os : List O, O.toDs os = os.map O.toD
  | [] => rfl
  | o :: os => by rw [O.toDs, O.toDs_map os]; rfl

/-- the classes: where they stand, their attributes by place -/
structure CT where
  addr : Nat → Addr
  names : Nat → List Str

/-! ### keys -/
def toKey : D → Key
  | .int i => .inl i
  | .str s => .inr s
  | _ => .inl 0
def isKey : D → Bool
  | .int _ => true
  | .str _ => true
  | _ => false
def toKeyT : D → List Key
  | .tup xs => xs.map toKey
  | _ => []
def isKeyT : D → Bool
  | .tup xs => xs.all isKey
  | _ => false
def keysOk (t : Bool) (ks : List D) : Bool := if t then ks.all isKeyT else ks.all isKey
def dHO (t : Bool) (ks : List D) (vs : List V) : HO := if t then .dT ((ks.map toKeyT).zip vs) else .dK ((ks.map toKey).zip vs)

/-! ### data in the heap -/
mutual
def Rep (C : CT) (K : PySem.W.Frag) (G : Hp) : D → V → Prop
  | .non, v => v = .non
  | .bl b, v => v = .bl b
  | .int i, v => v = .int i
  | .str s, v => v = .str s
  | .tup xs, v => ∃ p vs, v = .ref p ∧ G p = some (.tup vs) ∧ Reps C K G xs vs
  | .lst xs, v => ∃ p vs, v = .ref p ∧ G p = some (.lst vs) ∧ Reps C K G xs vs
  | .scr ns, v => ∃ p, v = .ref p ∧ SqL K G p (ns.map V.int)
  | .dic t ks xs, v => ∃ p vs, v = .ref p ∧ Rd G p (dHO t ks vs) ∧ (keysOk t ks = true ∧ ks.length = xs.length) ∧ Reps C K G xs vs
  | .ins c fs, v => ∃ p dx vs, v = .ref p ∧ G p = some (.ins (C.addr c) dx ((C.names c).zip vs)) ∧ fs.length ≤ (C.names c).length ∧ Reps C K G fs vs
  | .rng i j, v => ∃ p, v = .ref p ∧ G p = some (.rng i j)
def Reps (C : CT) (K : PySem.W.Frag) (G : Hp) : List D → List V → Prop
  | [], vs => vs = []
  | x :: xs, vs => ∃ v r, vs = v :: r ∧ Rep C K G x v ∧ Reps C K G xs r
end

section
variable {C : CT} {K : PySem.W.Frag} {G G' H H' : Hp}
theorem Same.rd {p : Addr} {u : HO} (e : Same G G') (h : Rd G p u) : Rd G' p u := by
  rcases h with h | ⟨o, h⟩
  · exact .inl (e _ _ h)
  · exact .inr ⟨o, e _ _ h⟩
mutual
theorem Rep.mono (e : Same G G') : ∀ (x : D) (v : V), Rep C K G x v → Rep C K G' x v
  | .non, _, h => h
  | .bl _, _, h => h
  | .int _, _, h => h
  | .str _, _, h => h
  | .tup xs, _, ⟨p, vs, e1, h1, h2⟩ => ⟨p, vs, e1, e _ _ h1, Reps.mono e xs vs h2⟩
  | .lst xs, _, ⟨p, vs, e1, h1, h2⟩ => ⟨p, vs, e1, e _ _ h1, Reps.mono e xs vs h2⟩
  | .scr ns, _, ⟨p, e1, h1⟩ => ⟨p, e1, e.seq h1⟩
  | .dic t ks xs, _, ⟨p, vs, e1, h1, h3, h2⟩ => ⟨p, vs, e1, Same.rd e h1, h3, Reps.mono e xs vs h2⟩
  | .ins c fs, _, ⟨p, dx, vs, e1, h1, h3, h2⟩ => ⟨p, dx, vs, e1, e _ _ h1, h3, Reps.mono e fs vs h2⟩
  | .rng i j, _, ⟨p, e1, h1⟩ => ⟨p, e1, e _ _ h1⟩
theorem Reps.mono (e : Same G G') : ∀ (xs : List D) (vs : List V), Reps C K G xs vs → Reps C K G' xs vs
  | [], _, h => h
  | x :: xs, _, ⟨v, r, e1, h1, h2⟩ => ⟨v, r, e1, Rep.mono e x v h1, Reps.mono e xs r h2⟩
end
theorem Reps.length : ∀ {xs : List D} {vs : List V}, Reps C K G xs vs → xs.length = vs.length
  | [], _, h => by cases h; rfl
  | _ :: _, _, ⟨_, _, e, _, h⟩ => by subst e; simp [Reps.length h]
theorem Reps.get : ∀ {xs : List D} {vs : List V} {i : Nat} {x : D}, Reps C K G xs vs → xs[i]? = some x → ∃ v, vs[i]? = some v ∧ Rep C K G x v
  | [], _, _, _, _, e => by simp at e
  | _ :: _, _, 0, _, ⟨v, r, e1, h1, _⟩, e => by subst e1; simp at e; subst e; exact ⟨v, rfl, h1⟩
  | _ :: xs, _, i + 1, x, ⟨v, r, e1, _, h2⟩, e => by
    subst e1
    obtain ⟨w, h3, h4⟩ := Reps.get (i := i) (x := x) h2 (by simpa using e)
    exact ⟨w, by simpa using h3, h4⟩
theorem Reps.get' : ∀ {xs : List D} {vs : List V} {i : Nat} {v : V}, Reps C K G xs vs → vs[i]? = some v → ∃ x, xs[i]? = some x ∧ Rep C K G x v
  | [], _, _, _, h, e => by cases h; simp at e
  | _ :: _, _, 0, _, ⟨w, r, e1, h1, _⟩, e => by subst e1; simp at e; subst e; exact ⟨_, rfl, h1⟩
  | _ :: xs, _, i + 1, v, ⟨w, r, e1, _, h2⟩, e => by
    subst e1
    obtain ⟨x, h3, h4⟩ := Reps.get' (i := i) (v := v) h2 (by simpa using e)
    exact ⟨x, by simpa using h3, h4⟩
theorem Reps.append : ∀ {xs ys : List D} {vs ws : List V}, Reps C K G xs vs → Reps C K G ys ws → Reps C K G (xs ++ ys) (vs ++ ws)
  | [], _, _, _, h, k => by cases h; exact k
  | _ :: _, _, _, _, ⟨v, r, e, h1, h2⟩, k => by subst e; exact ⟨v, _, rfl, h1, Reps.append h2 k⟩
theorem Reps.take : ∀ {xs : List D} {vs : List V} (n : Nat), Reps C K G xs vs → Reps C K G (xs.take n) (vs.take n)
  | _, _, 0, _ => rfl
  | [], _, _ + 1, h => by cases h; rfl
  | _ :: _, _, n + 1, ⟨v, r, e, h1, h2⟩ => by subst e; exact ⟨v, _, rfl, h1, Reps.take n h2⟩
theorem Reps.drop : ∀ {xs : List D} {vs : List V} (n : Nat), Reps C K G xs vs → Reps C K G (xs.drop n) (vs.drop n)
  | _, _, 0, h => h
  | [], _, _ + 1, h => by cases h; rfl
  | _ :: _, _, n + 1, ⟨v, r, e, h1, h2⟩ => by subst e; exact Reps.drop n h2
theorem Reps.set : ∀ {xs : List D} {vs : List V} (n : Nat) {x : D} {v : V}, Reps C K G xs vs → Rep C K G x v → Reps C K G (xs.set n x) (vs.set n v)
  | [], _, _, _, _, h, _ => by cases h; rfl
  | _ :: _, _, 0, _, _, ⟨w, r, e, h1, h2⟩, k => by subst e; exact ⟨_, _, rfl, k, h2⟩
  | _ :: _, _, n + 1, _, _, ⟨w, r, e, h1, h2⟩, k => by subst e; exact ⟨_, _, rfl, h1, Reps.set n h2 k⟩
theorem Reps.reverse : ∀ {xs : List D} {vs : List V}, Reps C K G xs vs → Reps C K G xs.reverse vs.reverse
  | [], _, h => by cases h; rfl
  | _ :: _, _, ⟨v, r, e, h1, h2⟩ => by
    subst e
    rw [List.reverse_cons, List.reverse_cons]
    exact Reps.append (Reps.reverse h2) ⟨v, [], rfl, h1, rfl⟩
theorem Reps.one {x : D} {v : V} (h : Rep C K G x v) : Reps C K G [x] [v] := ⟨v, [], rfl, h, rfl⟩
theorem Reps.eraseIdx : ∀ {xs : List D} {vs : List V} (n : Nat), Reps C K G xs vs → Reps C K G (xs.eraseIdx n) (vs.eraseIdx n)
  | [], _, _, h => by cases h; rfl
  | _ :: _, _, 0, ⟨v, r, e, h1, h2⟩ => by subst e; exact h2
  | _ :: _, _, n + 1, ⟨v, r, e, h1, h2⟩ => by subst e; exact ⟨_, _, rfl, h1, Reps.eraseIdx n h2⟩
theorem Reps.dropLast {xs : List D} {vs : List V} (h : Reps C K G xs vs) : Reps C K G xs.dropLast vs.dropLast := by
  rw [List.dropLast_eq_take, List.dropLast_eq_take, h.length]
  exact h.take _
theorem Reps.ints : ∀ {ns : List Int} {vs : List V}, Reps C K G (ns.map D.int) vs → vs = ns.map V.int
  | [], _, h => h
  | n :: ns, _, ⟨v, r, e, h1, h2⟩ => by subst e; cases h1; rw [Reps.ints h2]; rfl
theorem Reps.of_ints : ∀ {ns : List Int}, Reps C K G (ns.map D.int) (ns.map V.int)
  | [] => rfl
  | n :: ns => ⟨_, _, rfl, rfl, Reps.of_ints⟩
theorem Reps.bls : ∀ {bs : List Bool} {vs : List V}, Reps C K G (bs.map D.bl) vs → vs = bs.map V.bl
  | [], _, h => h
  | n :: ns, _, ⟨v, r, e, h1, h2⟩ => by subst e; cases h1; rw [Reps.bls h2]; rfl
end

/-! ### owned objects -/
mutual
/-- o stands at v: what it owns stands at S, its data stand in G -/
def own (C : CT) (K : PySem.W.Frag) (H G : Hp) : O → V → List Addr → Prop
  | .d x, v, S => S = [] ∧ Rep C K G x v
  | .lst xs, v, S => ∃ p vs, v = .ref p ∧ S = [p] ∧ H p = some (.lst vs) ∧ Reps C K G xs vs
  | .dic t ks xs, v, S => ∃ p vs, v = .ref p ∧ S = [p] ∧ H p = some (dHO t ks vs) ∧ (keysOk t ks = true ∧ ks.length = xs.length) ∧ Reps C K G xs vs
  | .ins c fs, v, S => ∃ p dx vs S', v = .ref p ∧ S = p :: S' ∧ H p = some (.ins (C.addr c) dx ((C.names c).zip vs)) ∧ fs.length ≤ (C.names c).length ∧ owns C K H G fs vs S'
  | .lock o t ks ws xs, v, S => S = [] ∧ ∃ p, v = .ref p ∧ G p = some (.frz o (dHO t ks ws)) ∧ (keysOk t ks = true ∧ ks.length = xs.length) ∧ Reps C K G xs ws
def owns (C : CT) (K : PySem.W.Frag) (H G : Hp) : List O → List V → List Addr → Prop
  | [], vs, S => vs = [] ∧ S = []
  | o :: os, vs, S => ∃ v r S1 S2, vs = v :: r ∧ S = S1 ++ S2 ∧ own C K H G o v S1 ∧ owns C K H G os r S2
end

abbrev Prs := List (V × O)
def ownL (C : CT) (K : PySem.W.Frag) (H G : Hp) : Prs → List Addr → Prop
  | [], S => S = []
  | (v, o) :: r, S => ∃ S1 S2, S = S1 ++ S2 ∧ own C K H G o v S1 ∧ ownL C K H G r S2

section
variable {C : CT} {K : PySem.W.Frag} {G G' H H' : Hp}
mutual
/-- what is owned stays as it is, the data grow -/
theorem own.keep : ∀ (o : O) (v : V) (S : List Addr), own C K H G o v S → (∀ p ∈ S, H' p = H p) → Same G G' → own C K H' G' o v S
  | .d x, _, _, ⟨e, h⟩, _, g => ⟨e, Rep.mono g x _ h⟩
  | .lst xs, _, _, ⟨p, vs, e1, e2, h1, h2⟩, k, g => ⟨p, vs, e1, e2, by rw [k p (by simp [e2])]; exact h1, Reps.mono g xs vs h2⟩
  | .dic t ks xs, _, _, ⟨p, vs, e1, e2, h1, h3, h2⟩, k, g => ⟨p, vs, e1, e2, by rw [k p (by simp [e2])]; exact h1, h3, Reps.mono g xs vs h2⟩
  | .ins c fs, _, _, ⟨p, dx, vs, S', e1, e2, h1, h3, h2⟩, k, g => ⟨p, dx, vs, S', e1, e2, by rw [k p (by simp [e2])]; exact h1, h3, owns.keep fs vs S' h2 (fun q hq => k q (by rw [e2]; exact List.mem_cons_of_mem _ hq)) g⟩
  | .lock o t ks vs xs, _, _, ⟨e, p, e1, h1, h3, h2⟩, _, g => ⟨e, p, e1, g _ _ h1, h3, Reps.mono g xs vs h2⟩
theorem owns.keep : ∀ (os : List O) (vs : List V) (S : List Addr), owns C K H G os vs S → (∀ p ∈ S, H' p = H p) → Same G G' → owns C K H' G' os vs S
  | [], _, _, h, _, _ => h
  | o :: os, _, _, ⟨v, r, S1, S2, e1, e2, h1, h2⟩, k, g => ⟨v, r, S1, S2, e1, e2, own.keep o v S1 h1 (fun p hp => k p (by rw [e2]; exact List.mem_append_left _ hp)) g,
      owns.keep os r S2 h2 (fun p hp => k p (by rw [e2]; exact List.mem_append_right _ hp)) g⟩
end
theorem ownL.keep : ∀ (L : Prs) (S : List Addr), ownL C K H G L S → (∀ p ∈ S, H' p = H p) → Same G G' → ownL C K H' G' L S
  | [], _, h, _, _ => h
  | (v, o) :: r, _, ⟨S1, S2, e2, h1, h2⟩, k, g => ⟨S1, S2, e2, own.keep o v S1 h1 (fun p hp => k p (by rw [e2]; exact List.mem_append_left _ hp)) g,
      ownL.keep r S2 h2 (fun p hp => k p (by rw [e2]; exact List.mem_append_right _ hp)) g⟩
mutual
/-- what is owned stands there -/
theorem own.there : ∀ (o : O) (v : V) (S : List Addr), own C K H G o v S → ∀ p ∈ S, ∃ u, H p = some u
  | .d x, _, _, ⟨e, h⟩, p, hp => by rw [e] at hp; cases hp
  | .lst xs, _, _, ⟨q, vs, e1, e2, h1, h2⟩, p, hp => by rw [e2] at hp; cases List.mem_singleton.mp hp; exact ⟨_, h1⟩
  | .dic t ks xs, _, _, ⟨q, vs, e1, e2, h1, h3, h2⟩, p, hp => by rw [e2] at hp; cases List.mem_singleton.mp hp; exact ⟨_, h1⟩
  | .ins c fs, _, _, ⟨q, dx, vs, S', e1, e2, h1, h3, h2⟩, p, hp => by
    rw [e2] at hp
    rcases List.mem_cons.mp hp with rfl | hp
    · exact ⟨_, h1⟩
    · exact owns.there fs vs S' h2 p hp
  | .lock o t ks _ xs, _, _, ⟨e, h⟩, p, hp => by rw [e] at hp; cases hp
theorem owns.there : ∀ (os : List O) (vs : List V) (S : List Addr), owns C K H G os vs S → ∀ p ∈ S, ∃ u, H p = some u
  | [], _, _, ⟨_, e⟩, p, hp => by rw [e] at hp; cases hp
  | o :: os, _, _, ⟨v, r, S1, S2, e1, e2, h1, h2⟩, p, hp => by
    rw [e2] at hp
    rcases List.mem_append.mp hp with hp | hp
    · exact own.there o v S1 h1 p hp
    · exact owns.there os r S2 h2 p hp
end
theorem ownL.there : ∀ (L : Prs) (S : List Addr), ownL C K H G L S → ∀ p ∈ S, ∃ u, H p = some u
  | [], _, e, p, hp => by rw [show _ = [] from e] at hp; cases hp
  | (v, o) :: r, _, ⟨S1, S2, e2, h1, h2⟩, p, hp => by
    rw [e2] at hp
    rcases List.mem_append.mp hp with hp | hp
    · exact own.there o v S1 h1 p hp
    · exact ownL.there r S2 h2 p hp
theorem ownL.append : ∀ {L M : Prs} {S T : List Addr}, ownL C K H G L S → ownL C K H G M T → ownL C K H G (L ++ M) (S ++ T)
  | [], _, _, _, h, k => by rw [show _ = [] from h]; exact k
  | (v, o) :: r, _, _, T, ⟨S1, S2, e2, h1, h2⟩, k => ⟨S1, S2 ++ T, by rw [e2, List.append_assoc], h1, ownL.append h2 k⟩
theorem ownL.split : ∀ {L M : Prs} {S : List Addr}, ownL C K H G (L ++ M) S → ∃ S1 S2, S = S1 ++ S2 ∧ ownL C K H G L S1 ∧ ownL C K H G M S2
  | [], _, S, h => ⟨[], S, rfl, rfl, h⟩
  | (v, o) :: r, _, _, ⟨S1, S2, e2, h1, h2⟩ => by
    obtain ⟨T1, T2, e3, h3, h4⟩ := ownL.split h2
    exact ⟨S1 ++ T1, T2, by rw [e2, e3, List.append_assoc], ⟨S1, T1, rfl, h1, h3⟩, h4⟩
theorem ownL.perm {L M : Prs} (h : L.Perm M) : ∀ {S : List Addr}, ownL C K H G L S → ∃ T, S.Perm T ∧ ownL C K H G M T := by
  induction h with
  | nil => intro S h; exact ⟨S, .refl _, h⟩
  | cons a _ ih =>
    rintro S ⟨S1, S2, e2, h1, h2⟩
    obtain ⟨T, p, k⟩ := ih h2
    exact ⟨S1 ++ T, by rw [e2]; exact p.append_left S1, S1, T, rfl, h1, k⟩
  | swap a b l =>
    rintro S ⟨S1, S2, e2, h1, S3, S4, e4, h3, h4⟩
    refine ⟨S3 ++ (S1 ++ S4), ?_, S3, S1 ++ S4, rfl, h3, S1, S4, rfl, h1, h4⟩
    rw [e2, e4, ← List.append_assoc, ← List.append_assoc]
    exact List.Perm.append_right S4 List.perm_append_comm
  | trans _ _ ih1 ih2 =>
    intro S h
    obtain ⟨T, p, k⟩ := ih1 h
    obtain ⟨U, q, m⟩ := ih2 k
    exact ⟨U, p.trans q, m⟩
end

/-- THE RELATION: L's objects stand in H, apart from each other and from the data -/
def Rel (C : CT) (K : PySem.W.Frag) (H : Hp) (L : Prs) : Prop := ∃ (G : Hp) (S : List Addr), Same G H ∧ ownL C K H G L S ∧ S.Nodup ∧ ∀ p ∈ S, G p = none

section
variable {C : CT} {K : PySem.W.Frag} {G H H' : Hp} {L M : Prs} {v : V} {o : O} {x : D}
theorem Rel.perm (h : Rel C K H L) (p : L.Perm M) : Rel C K H M := by
  obtain ⟨G, S, e, k, nd, no⟩ := h
  obtain ⟨T, q, m⟩ := ownL.perm p k
  exact ⟨G, T, e, m, q.nodup_iff.mp nd, fun p hp => no p (q.mem_iff.mpr hp)⟩
theorem Rel.drop (h : Rel C K H ((v, o) :: L)) : Rel C K H L := by
  obtain ⟨G, S, e, ⟨S1, S2, e2, h1, h2⟩, nd, no⟩ := h
  subst e2
  exact ⟨G, S2, e, h2, (List.nodup_append.mp nd).2.1, fun p hp => no p (List.mem_append_right _ hp)⟩
theorem Rel.dropL : ∀ {L : Prs}, Rel C K H (L ++ M) → Rel C K H M
  | [], h => h
  | _ :: _, h => Rel.dropL (Rel.drop h)
theorem Rel.dup (h : Rel C K H ((v, .d x) :: L)) : Rel C K H ((v, .d x) :: (v, .d x) :: L) := by
  obtain ⟨G, S, e, ⟨S1, S2, e2, ⟨e3, h1⟩, h2⟩, nd, no⟩ := h
  subst e3
  exact ⟨G, S, e, ⟨[], S, rfl, ⟨rfl, h1⟩, [], S2, e2, ⟨rfl, h1⟩, h2⟩, nd, no⟩
mutual
/-- an owned object, seen as data in a heap that has both -/
theorem own.rep : ∀ (o : O) (v : V) (S : List Addr), own C K H G o v S → Same G H → Rep C K H o.toD v
  | .d x, _, _, ⟨e, h⟩, g => Rep.mono g x _ h
  | .lst xs, _, _, ⟨p, vs, e1, e2, h1, h2⟩, g => ⟨p, vs, e1, h1, Reps.mono g xs vs h2⟩
  | .dic t ks xs, _, _, ⟨p, vs, e1, e2, h1, h3, h2⟩, g => ⟨p, vs, e1, .inl h1, h3, Reps.mono g xs vs h2⟩
  | .ins c fs, _, _, ⟨p, dx, vs, S', e1, e2, h1, h3, h2⟩, g => ⟨p, dx, vs, e1, h1, by rw [O.toDs_map, List.length_map]; exact h3, owns.rep fs vs S' h2 g⟩
  | .lock o t ks vs xs, _, _, ⟨e, p, e1, h1, h3, h2⟩, g => ⟨p, vs, e1, .inr ⟨o, g _ _ h1⟩, h3, Reps.mono g xs vs h2⟩
theorem owns.rep : ∀ (os : List O) (vs : List V) (S : List Addr), owns C K H G os vs S → Same G H → Reps C K H (O.toDs os) vs
  | [], _, _, ⟨e, _⟩, _ => e
  | o :: os, _, _, ⟨v, r, S1, S2, e1, e2, h1, h2⟩, g => ⟨v, r, e1, own.rep o v S1 h1 g, owns.rep os r S2 h2 g⟩
end
theorem Rel.rep (h : Rel C K H ((v, o) :: L)) : Rep C K H o.toD v := by
  obtain ⟨G, S, e, ⟨S1, S2, e2, h1, h2⟩, nd, no⟩ := h
  exact own.rep o v S1 h1 e
/-- G with the objects at S of H -/
def addS (G H : Hp) (S : List Addr) : Hp := fun p => if p ∈ S then H p else G p
theorem addS_same (no : ∀ p ∈ S, G p = none) : Same G (addS G H S) := fun p u e => by
  unfold addS
  by_cases hp : p ∈ S
  · rw [no p hp] at e; cases e
  · rw [if_neg hp]; exact e
theorem addS_of (e : Same G H) : Same (addS G H S) H := fun p u q => by
  unfold addS at q
  by_cases hp : p ∈ S
  · rw [if_pos hp] at q; exact q
  · rw [if_neg hp] at q; exact e _ _ q
theorem addS_at {S : List Addr} {p : Addr} (h : p ∈ S) : addS G H S p = H p := by unfold addS; rw [if_pos h]
mutual
theorem own.frozen : ∀ (o : O) (v : V) (S : List Addr), own C K H G o v S → ∀ (T : List Addr), (∀ p ∈ S, p ∈ T) → Same G (addS G H T) → Rep C K (addS G H T) o.toD v
  | .d x, _, _, ⟨e, h⟩, T, _, g => Rep.mono g x _ h
  | .lst xs, _, _, ⟨p, vs, e1, e2, h1, h2⟩, T, m, g => ⟨p, vs, e1, by rw [addS_at (m p (by simp [e2]))]; exact h1, Reps.mono g xs vs h2⟩
  | .dic t ks xs, _, _, ⟨p, vs, e1, e2, h1, h3, h2⟩, T, m, g => ⟨p, vs, e1, .inl (by rw [addS_at (m p (by simp [e2]))]; exact h1), h3, Reps.mono g xs vs h2⟩
  | .ins c fs, _, _, ⟨p, dx, vs, S', e1, e2, h1, h3, h2⟩, T, m, g => ⟨p, dx, vs, e1, by rw [addS_at (m p (by simp [e2]))]; exact h1, by rw [O.toDs_map, List.length_map]; exact h3,
      owns.frozen fs vs S' h2 T (fun q hq => m q (by rw [e2]; exact List.mem_cons_of_mem _ hq)) g⟩
  | .lock o t ks vs xs, _, _, ⟨e, p, e1, h1, h3, h2⟩, T, m, g => ⟨p, vs, e1, .inr ⟨o, g _ _ h1⟩, h3, Reps.mono g xs vs h2⟩
theorem owns.frozen : ∀ (os : List O) (vs : List V) (S : List Addr), owns C K H G os vs S → ∀ (T : List Addr), (∀ p ∈ S, p ∈ T) → Same G (addS G H T) → Reps C K (addS G H T) (O.toDs os) vs
  | [], _, _, ⟨e, _⟩, _, _, _ => e
  | o :: os, _, _, ⟨v, r, S1, S2, e1, e2, h1, h2⟩, T, m, g => ⟨v, r, e1, own.frozen o v S1 h1 T (fun p hp => m p (by rw [e2]; exact List.mem_append_left _ hp)) g,
      owns.frozen os r S2 h2 T (fun p hp => m p (by rw [e2]; exact List.mem_append_right _ hp)) g⟩
end
/-- what is owned becomes data -/
theorem Rel.freeze (h : Rel C K H ((v, o) :: L)) : Rel C K H ((v, .d o.toD) :: L) := by
  obtain ⟨G, S, e, ⟨S1, S2, e2, h1, h2⟩, nd, no⟩ := h
  subst e2
  have no1 : ∀ p ∈ S1, G p = none := fun p hp => no p (List.mem_append_left _ hp)
  have g := addS_same (H := H) no1
  refine ⟨addS G H S1, S2, addS_of e, ⟨[], S2, rfl, ⟨rfl, own.frozen o v S1 h1 S1 (fun _ h => h) g⟩, ownL.keep L S2 h2 (fun _ _ => rfl) g⟩, (List.nodup_append.mp nd).2.1, fun p hp => ?_⟩
  unfold addS
  rw [if_neg fun q => (List.nodup_append.mp nd).2.2 p q p hp rfl]
  exact no p (List.mem_append_right _ hp)
end

/-! ### a dict that is walked is locked, for good -/
structure Lk (d : Addr) (u : HO) (o : Obj) (G G' : Hp) : Prop where
  ne : ∀ p w, p ≠ d → G p = some w → G' p = some w
  old : G d = some u
  new : G' d = some (.frz o u)
def isDk : HO → Prop
  | .dK _ => True
  | .dT _ => True
  | _ => False
theorem dHO_isDk {t : Bool} {ks : List D} {vs : List V} : isDk (dHO t ks vs) := by cases t <;> exact True.intro
section
variable {C : CT} {K : PySem.W.Frag} {G G' H H' : Hp} {d : Addr} {u : HO} {o : Obj}
theorem Lk.is (l : Lk d u o G G') (h : isDk u) {p : Addr} {w : HO} (e : G p = some w) (n : ¬ isDk w) : G' p = some w := l.ne p w (fun z => by
  subst z
  rw [l.old] at e
  cases e
  exact n h) e
theorem Lk.rd (l : Lk d u o G G') (h : isDk u) {p : Addr} {w : HO} (e : Rd G p w) : Rd G' p w := by
  rcases e with e | ⟨o', e⟩
  · by_cases z : p = d
    · subst z
      rw [l.old] at e
      cases e
      exact .inr ⟨o, l.new⟩
    · exact .inl (l.ne _ _ z e)
  · exact .inr ⟨o', l.is h e id⟩
theorem Lk.seq (l : Lk d u o G G') (h : isDk u) {a : Addr} {xs : List V} (e : SqL K G a xs) : SqL K G' a xs := by
  rcases e with e | e
  · exact .inl (l.rd h e)
  · exact .inr e
mutual
theorem Rep.lk (l : Lk d u o G G') (z : isDk u) : ∀ (x : D) (v : V), Rep C K G x v → Rep C K G' x v
  | .non, _, h => h
  | .bl _, _, h => h
  | .int _, _, h => h
  | .str _, _, h => h
  | .tup xs, _, ⟨p, vs, e1, h1, h2⟩ => ⟨p, vs, e1, l.is z h1 id, Reps.lk l z xs vs h2⟩
  | .lst xs, _, ⟨p, vs, e1, h1, h2⟩ => ⟨p, vs, e1, l.is z h1 id, Reps.lk l z xs vs h2⟩
  | .scr ns, _, ⟨p, e1, h1⟩ => ⟨p, e1, l.seq z h1⟩
  | .dic t ks xs, _, ⟨p, vs, e1, h1, h3, h2⟩ => ⟨p, vs, e1, l.rd z h1, h3, Reps.lk l z xs vs h2⟩
  | .ins c fs, _, ⟨p, dx, vs, e1, h1, h3, h2⟩ => ⟨p, dx, vs, e1, l.is z h1 id, h3, Reps.lk l z fs vs h2⟩
  | .rng i j, _, ⟨p, e1, h1⟩ => ⟨p, e1, l.is z h1 id⟩
theorem Reps.lk (l : Lk d u o G G') (z : isDk u) : ∀ (xs : List D) (vs : List V), Reps C K G xs vs → Reps C K G' xs vs
  | [], _, h => h
  | x :: xs, _, ⟨v, r, e1, h1, h2⟩ => ⟨v, r, e1, Rep.lk l z x v h1, Reps.lk l z xs r h2⟩
end
mutual
theorem own.lk (l : Lk d u o G G') (z : isDk u) : ∀ (x : O) (v : V) (S : List Addr), own C K H G x v S → (∀ p ∈ S, H' p = H p) → own C K H' G' x v S
  | .d x, _, _, ⟨e, h⟩, _ => ⟨e, Rep.lk l z x _ h⟩
  | .lst xs, _, _, ⟨p, vs, e1, e2, h1, h2⟩, k => ⟨p, vs, e1, e2, by rw [k p (by simp [e2])]; exact h1, Reps.lk l z xs vs h2⟩
  | .dic t ks xs, _, _, ⟨p, vs, e1, e2, h1, h3, h2⟩, k => ⟨p, vs, e1, e2, by rw [k p (by simp [e2])]; exact h1, h3, Reps.lk l z xs vs h2⟩
  | .ins c fs, _, _, ⟨p, dx, vs, S', e1, e2, h1, h3, h2⟩, k => ⟨p, dx, vs, S', e1, e2, by rw [k p (by simp [e2])]; exact h1, h3, owns.lk l z fs vs S' h2 (fun q hq => k q (by rw [e2]; exact List.mem_cons_of_mem _ hq))⟩
  | .lock o' t ks vs xs, _, _, ⟨e, p, e1, h1, h3, h2⟩, _ => ⟨e, p, e1, l.is z h1 id, h3, Reps.lk l z xs vs h2⟩
theorem owns.lk (l : Lk d u o G G') (z : isDk u) : ∀ (os : List O) (vs : List V) (S : List Addr), owns C K H G os vs S → (∀ p ∈ S, H' p = H p) → owns C K H' G' os vs S
  | [], _, _, h, _ => h
  | x :: os, _, _, ⟨v, r, S1, S2, e1, e2, h1, h2⟩, k => ⟨v, r, S1, S2, e1, e2, own.lk l z x v S1 h1 (fun p hp => k p (by rw [e2]; exact List.mem_append_left _ hp)),
      owns.lk l z os r S2 h2 (fun p hp => k p (by rw [e2]; exact List.mem_append_right _ hp))⟩
end
theorem ownL.lk (l : Lk d u o G G') (z : isDk u) : ∀ (L : Prs) (S : List Addr), ownL C K H G L S → (∀ p ∈ S, H' p = H p) → ownL C K H' G' L S
  | [], _, h, _ => h
  | (v, x) :: r, _, ⟨S1, S2, e2, h1, h2⟩, k => ⟨S1, S2, e2, own.lk l z x v S1 h1 (fun p hp => k p (by rw [e2]; exact List.mem_append_left _ hp)),
      ownL.lk l z r S2 h2 (fun p hp => k p (by rw [e2]; exact List.mem_append_right _ hp))⟩
/-- a frozen dict is locked -/
theorem Rel.lock {t : Bool} {ks xs : List D} {L : Prs} (R : Rel C K H ((.ref d, .d (.dic t ks xs)) :: L)) : ∃ vs, (keysOk t ks = true ∧ ks.length = vs.length) ∧
    ((H d = some (dHO t ks vs) ∧ ∀ o, Rel C K (upd H d (.frz o (dHO t ks vs))) ((.ref d, .lock o t ks vs xs) :: L)) ∨ ∃ o, H d = some (.frz o (dHO t ks vs)) ∧ Rel C K H ((.ref d, .lock o t ks vs xs) :: L)) := by
  obtain ⟨G, S, g, ⟨S1, S2, e2, ⟨e3, p, vs, ev, hrd, hk, hr⟩, h2⟩, nd, no⟩ := R
  cases ev
  subst e3
  have e2' : S = S2 := e2
  subst e2'
  refine ⟨vs, ⟨hk.1, hk.2.trans hr.length⟩, ?_⟩
  rcases hrd with h | ⟨o, h⟩
  · refine .inl ⟨g _ _ h, fun o => ?_⟩
    have nS : ∀ p ∈ S, p ≠ d := fun p hp z => by
      have := no p hp
      rw [z, h] at this; cases this
    have l : Lk d (dHO t ks vs) o G (upd G d (.frz o (dHO t ks vs))) := ⟨fun p w n e => by rw [upd_ne n]; exact e, h, upd_same⟩
    refine ⟨upd G d (.frz o (dHO t ks vs)), S, fun p w e => ?_, ⟨[], S, rfl, ⟨rfl, d, rfl, upd_same, hk, Reps.lk l dHO_isDk xs vs hr⟩, ownL.lk l dHO_isDk L S h2 fun p hp => upd_ne (nS p hp)⟩, nd, fun p hp => by rw [upd_ne (nS p hp)]; exact no p hp⟩
    by_cases z : p = d
    · subst z; rw [upd_same] at e ⊢; exact e
    · rw [upd_ne z] at e ⊢; exact g _ _ e
  · exact .inr ⟨o, g _ _ h, G, S, g, ⟨[], S, rfl, ⟨rfl, d, rfl, h, hk, hr⟩, h2⟩, nd, no⟩
mutual
/-- no owned object is a tuple -/
theorem own.noTup : ∀ (x : O) (v : V) (S : List Addr), own C K H G x v S → ∀ p ∈ S, ∀ ys, H p ≠ some (.tup ys)
  | .d x, _, _, ⟨e, h⟩, p, hp, _ => by rw [e] at hp; cases hp
  | .lst xs, _, _, ⟨q, vs, e1, e2, h1, h2⟩, p, hp, ys => by rw [e2] at hp; cases List.mem_singleton.mp hp; rw [h1]; intro z; cases z
  | .dic t ks xs, _, _, ⟨q, vs, e1, e2, h1, h3, h2⟩, p, hp, ys => by rw [e2] at hp; cases List.mem_singleton.mp hp; rw [h1]; cases t <;> (intro z; cases z)
  | .ins c fs, _, _, ⟨q, dx, vs, S', e1, e2, h1, h3, h2⟩, p, hp, ys => by
    rw [e2] at hp
    rcases List.mem_cons.mp hp with rfl | hp
    · rw [h1]; intro z; cases z
    · exact owns.noTup fs vs S' h2 p hp ys
  | .lock o t ks _ xs, _, _, ⟨e, h⟩, p, hp, _ => by rw [e] at hp; cases hp
theorem owns.noTup : ∀ (os : List O) (vs : List V) (S : List Addr), owns C K H G os vs S → ∀ p ∈ S, ∀ ys, H p ≠ some (.tup ys)
  | [], _, _, ⟨_, e⟩, p, hp, _ => by rw [e] at hp; cases hp
  | x :: os, _, _, ⟨v, r, S1, S2, e1, e2, h1, h2⟩, p, hp, ys => by
    rw [e2] at hp
    rcases List.mem_append.mp hp with hp | hp
    · exact own.noTup x v S1 h1 p hp ys
    · exact owns.noTup os r S2 h2 p hp ys
end
theorem ownL.noTup : ∀ (L : Prs) (S : List Addr), ownL C K H G L S → ∀ p ∈ S, ∀ ys, H p ≠ some (.tup ys)
  | [], _, e, p, hp, _ => by rw [show _ = [] from e] at hp; cases hp
  | (v, x) :: r, _, ⟨S1, S2, e2, h1, h2⟩, p, hp, ys => by
    rw [e2] at hp
    rcases List.mem_append.mp hp with hp | hp
    · exact own.noTup x v S1 h1 p hp ys
    · exact ownL.noTup r S2 h2 p hp ys
/-- tuples of the heap join the data -/
def adp (G H : Hp) (T : List Addr) : Hp := fun p => if p ∈ T then H p else G p
theorem adp_ok {T : List Addr} {L : Prs} {S : List Addr} (g : Same G H) (k : ownL C K H G L S) (no : ∀ p ∈ S, G p = none) (ht : ∀ b ∈ T, ∃ ys, H b = some (.tup ys)) :
    Same G (adp G H T) ∧ Same (adp G H T) H ∧ ownL C K H (adp G H T) L S ∧ (∀ p ∈ S, adp G H T p = none) ∧ ∀ b ∈ T, adp G H T b = H b := by
  have g1 : Same G (adp G H T) := fun p w e => by
    unfold adp
    by_cases z : p ∈ T
    · rw [if_pos z]; exact g _ _ e
    · rw [if_neg z]; exact e
  refine ⟨g1, fun p w e => ?_, ownL.keep L S k (fun _ _ => rfl) g1, fun p hp => ?_, fun b hb => by unfold adp; rw [if_pos hb]⟩
  · unfold adp at e
    by_cases z : p ∈ T
    · rw [if_pos z] at e; exact e
    · rw [if_neg z] at e; exact g _ _ e
  · unfold adp
    rw [if_neg]
    · exact no p hp
    · intro z
      obtain ⟨ys, e⟩ := ht p z
      exact ownL.noTup L S k p hp ys e
theorem keysV_any : ∀ {zs : List D} {vs : List V}, zs.all isKey = true → Reps C K H zs vs → Reps C K G zs vs
  | [], _, _, h => h
  | z :: zs, _, a, ⟨v, r, e, h1, h2⟩ => by
    simp only [List.all_cons, Bool.and_eq_true] at a
    refine ⟨v, r, e, ?_, keysV_any a.2 h2⟩
    cases z <;> first | (cases a.1; done) | exact h1
theorem keyT_adp : ∀ {T : List Addr} {ks : List D} {bs : List Addr}, (∀ b ∈ bs, b ∈ T) → ks.all isKeyT = true → Reps C K H ks (bs.map V.ref) → Reps C K (adp G H T) ks (bs.map V.ref)
  | T, [], bs, _, _, h => h
  | T, k :: ks, [], _, _, ⟨v, r, e, _⟩ => by cases e
  | T, k :: ks, b :: bs, m, a, ⟨v, r, e, h1, h2⟩ => by
    simp only [List.all_cons, Bool.and_eq_true] at a
    cases e
    refine ⟨_, _, rfl, ?_, keyT_adp (fun c hc => m c (List.mem_cons_of_mem _ hc)) a.2 h2⟩
    cases k <;> first | (cases a.1; done) | skip
    obtain ⟨p, vs, e, h3, h4⟩ := h1
    cases e
    exact ⟨b, vs, rfl, by unfold adp; rw [if_pos (m b List.mem_cons_self)]; exact h3, keysV_any a.1 h4⟩
theorem keyT_tup : ∀ {ks : List D} {bs : List Addr}, ks.all isKeyT = true → Reps C K H ks (bs.map V.ref) → ∀ b ∈ bs, ∃ ys, H b = some (.tup ys)
  | [], [], _, _, b, hb => by cases hb
  | [], _ :: _, _, h, _, _ => by cases h
  | _ :: _, [], _, _, b, hb => by cases hb
  | k :: ks, c :: bs, a, ⟨v, r, e, h1, h2⟩, b, hb => by
    simp only [List.all_cons, Bool.and_eq_true] at a
    cases e
    rcases List.mem_cons.mp hb with rfl | hb
    · cases k <;> first | (cases a.1; done) | skip
      obtain ⟨p, vs, e, h3, h4⟩ := h1
      cases e
      exact ⟨vs, h3⟩
    · exact keyT_tup a.2 h2 b hb
/-- a key's tuple, seen -/
theorem Rel.key {q : Addr} {zs : List D} {L : Prs} (R : Rel C K H L) (hk : zs.all isKey = true) (h : H q = some (.tup (zs.map fun z => kV (toKey z)))) : Rel C K H ((.ref q, .d (.tup zs)) :: L) := by
  obtain ⟨G, S, g, k, nd, no⟩ := R
  obtain ⟨a1, a2, a3, a4, a5⟩ := adp_ok (T := [q]) g k no fun b hb => by rw [List.mem_singleton.mp hb]; exact ⟨_, h⟩
  have rp : ∀ {G : Hp} {zs : List D}, zs.all isKey = true → Reps C K G zs (zs.map fun z => kV (toKey z)) := by
    intro G zs
    induction zs with
    | nil => intro _; rfl
    | cons z zs ih =>
      intro a
      simp only [List.all_cons, Bool.and_eq_true] at a
      exact ⟨_, _, rfl, by cases z <;> first | (cases a.1; done) | rfl, ih a.2⟩
  exact ⟨_, S, a2, ⟨[], S, rfl, ⟨rfl, q, _, rfl, by rw [a5 q (by simp)]; exact h, rp hk⟩, a3⟩, nd, a4⟩
end
end VE
/-! VE2: the small syntax, its weakest preconditions over data -/
namespace VE
open PySem L2

/-! ### order, likeness -/
mutual
def D.lt : D → D → Bool
  | .int a, .int b => decide (a < b)
  | .str a, .str b => decide (a.cps.toList < b.cps.toList)
  | .bl a, .bl b => !a && b
  | .tup a, .tup b => D.lts a b
  | .lst a, .lst b => D.lts a b
  | _, _ => false
def D.lts : List D → List D → Bool
  | [], [] => false
  | [], _ :: _ => true
  | _ :: _, [] => false
  | x :: xs, y :: ys => if x = y then D.lts xs ys else D.lt x y
end
mutual
/-- the two can be compared, place by place -/
def D.like : D → D → Bool
  | .int _, .int _ => true
  | .str _, .str _ => true
  | .bl _, .bl _ => true
  | .tup a, .tup b => D.likes a b
  | .lst a, .lst b => D.likes a b
  | _, _ => false
def D.likes : List D → List D → Bool
  | x :: xs, y :: ys => D.like x y && D.likes xs ys
  | _, _ => true
end
mutual
/-- plain data: no truth values, no objects; not deep -/
def D.pur : D → Bool
  | .non => true
  | .int _ => true
  | .str s => PySem.PyData.strOk s
  | .tup xs => D.purs xs
  | .lst xs => D.purs xs
  | _ => false
def D.purs : List D → Bool
  | [] => true
  | x :: xs => D.pur x && D.purs xs
end
mutual
/-- data that hold no dicts, no objects -/
def D.pyb : D → Bool
  | .non => true
  | .bl _ => true
  | .int _ => true
  | .str _ => true
  | .tup xs => D.pybs xs
  | .lst xs => D.pybs xs
  | _ => false
def D.pybs : List D → Bool
  | [] => true
  | x :: xs => D.pyb x && D.pybs xs
end
mutual
def D.dep : D → Nat
  | .tup xs => D.deps xs + 1
  | .lst xs => D.deps xs + 1
  | _ => 0
def D.deps : List D → Nat
  | [] => 0
  | x :: xs => max (D.dep x) (D.deps xs)
end
def D.flat : D → Bool
  | .non => true
  | .int _ => true
  | .str _ => true
  | _ => false
/-- sorted: stable, by lt -/
def dsort (xs : List D) : List D := xs.mergeSort fun a b => !D.lt b a
def dmin (x : D) (xs : List D) : D := xs.foldl (fun a y => if D.lt y a then y else a) x
def dmax (x : D) (xs : List D) : D := xs.foldl (fun a y => if D.lt a y then y else a) x
def addI (a : Int) : D → Int
  | .int i => a + i
  | _ => a
def dsum (xs : List D) : Int := xs.foldl addI 0
def isInt : D → Bool
  | .int _ => true
  | _ => false
def isBl : D → Bool
  | .bl _ => true
  | _ => false
def isStr : D → Bool
  | .str _ => true
  | _ => false
def unB : D → Bool
  | .bl b => b
  | _ => false
/-- a dict: the value at a key, a key put, dropped -/
def dget : List D → List D → D → Option D
  | k :: ks, v :: vs, q => if k = q then some v else dget ks vs q
  | _, _, _ => none
def dput (ks vs : List D) (q z : D) : List D × List D := if q ∈ ks then (ks, List.zipWith (fun k v => if k = q then z else v) ks vs) else (ks ++ [q], vs ++ [z])
/-- the pairs of another one put in, one by one -/
def dputs : List D → List D → List D → List D → List D × List D
  | ks, vs, k :: ks2, v :: vs2 => dputs (dput ks vs k v).1 (dput ks vs k v).2 ks2 vs2
  | ks, vs, _, _ => (ks, vs)
def ddrop (ks vs : List D) (q : D) : List D × List D := (ks.filter fun k => decide (k ≠ q), ((ks.zip vs).filter fun p => decide (p.1 ≠ q)).map (·.2))
def kOk (t : Bool) (k : D) : Bool := if t then isKeyT k else isKey k

/-- keys that are tuples of ints; their hashes -/
def isKeyI : D → Bool
  | .tup xs => xs.all isInt
  | _ => false
def hashI : D → Int
  | .int i => hashInt i
  | _ => 0
def hashT : D → Int
  | .tup xs => reduceHash (Builtin.Tuple.tupleHashOf (xs.map hashI))
  | _ => 0

/-! ### primitives -/
inductive Prim where
  | bop (o : Operator) | cmp (o : CmpOp) | neg | ix | sl (lo hi : Bool) | rev | call (n : String) | ty (n : String) | meth (t n : String)
  deriving DecidableEq
abbrev WO := (O → Prop) → Prop
def b62 (i : Int) : Prop := -(2 ^ 62) ≤ i ∧ i < 2 ^ 62
def rI (i : Int) : O := .d (.int i)
def rB (b : Bool) : O := .d (.bl b)
def MulOk (i j : Int) : Prop := (-(2 ^ 64) < i ∧ i < 2 ^ 64) ∨ (-(2 ^ 64) < j ∧ j < 2 ^ 64) ∨ CMulW i j
def DivOk (j : Int) : Prop := 0 < j ∧ (j < 2 ^ 64 ∨ j.natAbs.log2 < 9000)
def cutD (xs : List D) (lo hi : Option Int) : List D := (xs.drop (HT.sIx xs.length 0 lo)).take (HT.sIx xs.length xs.length hi - HT.sIx xs.length 0 lo)
def wBop : Operator → List D → WO
  | .Add, [.int i, .int j], Q => Q (rI (i + j))
  | .Add, [.int i, .bl b], Q => Q (rI (i + PyProof.Rows.b2i b))
  | .Add, [.tup x, .tup y], Q => x.length + y.length ≤ sizeLine ∧ Q (.d (.tup (x ++ y)))
  | .Add, [.lst x, .lst y], Q => x.length + y.length ≤ sizeLine ∧ Q (.lst (x ++ y))
  | .Add, [.str x, .str y], Q => x.length + y.length ≤ sizeLine ∧ Q (.d (.str (x ++ y)))
  | .Sub, [.int i, .int j], Q => Q (rI (i - j))
  | .Mult, [.int i, .int j], Q => MulOk i j ∧ Q (rI (i * j))
  | .Mult, [.lst x, .int j], Q => (-(2 ^ 63) ≤ j ∧ j < 2 ^ 63 ∧ x.length * j.toNat ≤ sizeLine) ∧ Q (.lst (List.replicate j.toNat x).flatten)

  | .FloorDiv, [.int i, .int j], Q => DivOk j ∧ Q (rI (i / j))
  | .Mod, [.int i, .int j], Q => 0 < j ∧ Q (rI (i % j))
  | .Pow, [.int i, .int j], Q => (0 ≤ j ∧ j ≤ 1000000 ∧ i.natAbs < 2 ^ 64) ∧ Q (rI (i ^ j.toNat))
  | .LShift, [.int i, .int j], Q => (0 ≤ j ∧ j ≤ 1000000 ∧ i.natAbs < 2 ^ 64) ∧ Q (rI (i * 2 ^ j.toNat))
  | _, _, _ => False
def eqOk (x y : D) : Bool := (x.pur && y.pur && decide (x.dep ≤ 60) && decide (y.dep ≤ 60)) || (isBl x && isBl y) || (isStr x && isStr y)
def ltOk (x y : D) : Bool := D.like x y && (x.pyb && y.pyb) && decide (x.dep ≤ 60) && decide (y.dep ≤ 60)
def wIn : D → D → (Bool → Prop) → Prop
  | x, .lst ys, Q => (x.pur && D.purs ys && decide (x.dep ≤ 60) && decide (D.deps ys ≤ 60)) = true ∧ Q (decide (x ∈ ys))
  | x, .tup ys, Q => (x.pur && D.purs ys && decide (x.dep ≤ 60) && decide (D.deps ys ≤ 60)) = true ∧ Q (decide (x ∈ ys))
  | x, .dic t ks vs, Q => kOk t x = true ∧ Q (decide (x ∈ ks))
  | .str x, .str y, Q => Q (!(Builtin.Str.occurrences y x 0 y.length 1).isEmpty)
  | _, _, _ => False
/-- two dicts have the same pairs -/
def dicEq (ks vs ks2 vs2 : List D) : Bool := decide (ks.length = ks2.length) && (ks.zip vs).all fun p => (ks2.zip vs2).any fun q => decide (q.1 = p.1) && decide (q.2 = p.2)
def dicInts : D → Bool
  | .dic true _ vs => vs.all isInt
  | _ => false
def wEq (x y : D) (Q : O → Prop) : Prop := match x with
  | .scr ns => y = .lst [] ∧ Q (rB ns.isEmpty)
  | .dic t ks vs => (dicInts (.dic t ks vs) && dicInts y) = true ∧ Q (rB (match y with
    | .dic _ ks2 vs2 => dicEq ks vs ks2 vs2
    | _ => false))
  | x => eqOk x y = true ∧ Q (rB (decide (x = y)))
def wCmp : CmpOp → List D → WO
  | .Eq, [x, y], Q => wEq x y Q
  | .NotEq, [x, y], Q => eqOk x y = true ∧ Q (rB (!decide (x = y)))
  | .Lt, [x, y], Q => ltOk x y = true ∧ Q (rB (D.lt x y))
  | .LtE, [x, y], Q => ltOk x y = true ∧ Q (rB (!D.lt y x))
  | .Gt, [x, y], Q => ltOk x y = true ∧ Q (rB (D.lt y x))
  | .GtE, [x, y], Q => ltOk x y = true ∧ Q (rB (!D.lt x y))
  | .In, [x, y], Q => wIn x y fun b => Q (rB b)
  | .NotIn, [x, y], Q => wIn x y fun b => Q (rB (!b))
  | .Is, [x, .non], Q => Q (rB (decide (x = .non)))
  | .IsNot, [x, .non], Q => Q (rB (!decide (x = .non)))
  | _, _, _ => False
def wIx : List D → WO
  | [.lst xs, .int i], Q => ∃ x, atI xs i = some x ∧ Q (.d x)
  | [.tup xs, .int i], Q => ∃ x, atI xs i = some x ∧ Q (.d x)
  | [.scr ns, .int i], Q => ∃ n, atI ns i = some n ∧ Q (rI n)
  | [.dic t ks vs, k], Q => kOk t k = true ∧ ∃ x, dget ks vs k = some x ∧ Q (.d x)
  | _, _ => False
def wSl (lo hi : Option Int) : D → WO
  | .lst xs, Q => Q (.lst (cutD xs lo hi))
  | .tup xs, Q => Q (.d (.tup (cutD xs lo hi)))
  | _, _ => False
def wSlice : Bool → Bool → List D → WO
  | false, false, [x], Q => wSl none none x Q
  | true, false, [x, .int i], Q => wSl (some i) none x Q
  | false, true, [x, .int j], Q => wSl none (some j) x Q
  | true, true, [x, .int i, .int j], Q => wSl (some i) (some j) x Q
  | _, _, _, _ => False
def dlen : D → Option Int
  | .lst xs => some xs.length
  | .tup xs => some xs.length
  | .scr ns => some ns.length
  | .str s => some s.length
  | _ => none
def items : D → Option (List D)
  | .lst xs => some xs
  | .tup xs => some xs
  | _ => none
def wCall : String → List D → WO
  | "len", [x], Q => (match x with | .str s => s.length ≤ sizeLine | _ => True) ∧ ∃ n, dlen x = some n ∧ Q (rI n)
  | "abs", [.int i], Q => Q (rI (if i < 0 then -i else i))
  | "max", [.int i, .int j], Q => Q (rI (if j > i then j else i))
  | "min", [.int i, .int j], Q => Q (rI (if j < i then j else i))
  | "sum", [.lst xs], Q => xs.all isInt = true ∧ Q (rI (dsum xs))
  | "any", [.lst xs], Q => xs.all isBl = true ∧ Q (rB (xs.any unB))
  | "all", [.lst xs], Q => xs.all isBl = true ∧ Q (rB (xs.all unB))
  | "max", [.lst (x :: xs)], Q => (∀ a ∈ x :: xs, ∀ b ∈ x :: xs, ltOk a b = true) ∧ Q (.d (dmax x xs))
  | "min", [.lst (x :: xs)], Q => (∀ a ∈ x :: xs, ∀ b ∈ x :: xs, ltOk a b = true) ∧ Q (.d (dmin x xs))
  | "min", [.tup (x :: xs)], Q => (∀ a ∈ x :: xs, ∀ b ∈ x :: xs, ltOk a b = true) ∧ Q (.d (dmin x xs))
  | "max", [.tup (x :: xs)], Q => (∀ a ∈ x :: xs, ∀ b ∈ x :: xs, ltOk a b = true) ∧ Q (.d (dmax x xs))
  | "max", [.int i, .int j, .int l], Q => Q (rI (let m := if j > i then j else i; if l > m then l else m))
  | "sorted", [.dic true ks vs], Q => ((∀ a ∈ ks, ∀ b ∈ ks, ltOk a b = true) ∧ (∀ a ∈ ks, a ≠ .tup [])) ∧ Q (.lst (dsort ks))
  | "sorted", [.dic false ks vs], Q => ks.all isInt = true ∧ Q (.lst (dsort ks))
  | "sorted", [.lst xs], Q => (∀ a ∈ xs, ∀ b ∈ xs, ltOk a b = true) ∧ (∀ a ∈ xs, a ≠ .tup []) ∧ Q (.lst (dsort xs))
  | _, _, _ => False
def wTy : String → List D → WO
  | "int", [.int i], Q => Q (rI i)
  | "int", [.bl b], Q => Q (rI (if b then 1 else 0))
  | "tuple", [.lst xs], Q => Q (.d (.tup xs))
  | "tuple", [.tup xs], Q => Q (.d (.tup xs))
  | "list", [.lst xs], Q => Q (.lst xs)
  | "list", [.tup xs], Q => Q (.lst xs)
  | "dict", [.dic true ks vs], Q => (ks.all isKeyI = true ∧ (ks.map hashT).Nodup) ∧ Q (.dic true ks vs)
  | "dict", [.dic false ks vs], Q => Q (.dic false ks vs)
  | "range", [.int i, .int j], Q => (b62 i ∧ b62 j) ∧ Q (.d (.rng i j))
  | _, _, _ => False
def plainD : D → Bool
  | .int _ => true
  | .bl _ => true
  | .non => true
  | .str _ => true
  | .tup _ => true
  | _ => false
def wMeth : String → String → List D → WO
  | "dict", "get", [.dic t ks vs, k, z], Q => (kOk t k = true ∧ plainD z = true) ∧ Q (.d ((dget ks vs k).getD z))
  | _, _, _, _ => False
def pw : Prim → List D → WO
  | .bop o, ds, Q => wBop o ds Q
  | .cmp o, ds, Q => wCmp o ds Q
  | .neg, [.int i], Q => Q (rI (-i))
  | .ix, ds, Q => wIx ds Q
  | .sl lo hi, ds, Q => wSlice lo hi ds Q
  | .rev, [.lst xs], Q => Q (.lst xs.reverse)
  | .call n, ds, Q => wCall n ds Q
  | .ty n, ds, Q => wTy n ds Q
  | .meth t n, ds, Q => wMeth t n ds Q
  | _, _, _ => False

/-! ### in place -/
inductive Mu where
  | append | extend | pop | popAt | dpop1 | dpop2 | dupd
  deriving DecidableEq
/-- what is done to a list; the others are done to a dict -/
def muL : Mu → Bool
  | .append => true
  | .extend => true
  | .pop => true
  | .popAt => true
  | _ => false
def mw : Mu → O → List D → (O → D → Prop) → Prop
  | .append, .lst xs, [x], Q => xs.length < sizeLine ∧ Q (.lst (xs ++ [x])) .non
  | .extend, .lst xs, [.lst ys], Q => xs.length + ys.length ≤ sizeLine ∧ Q (.lst (xs ++ ys)) .non
  | .pop, .lst xs, [], Q => ∃ x, xs[xs.length - 1]? = some x ∧ Q (.lst xs.dropLast) x
  | .popAt, .lst xs, [.int i], Q => (0 ≤ i ∧ i < xs.length ∧ i < 2 ^ 63) ∧ ∃ x, xs[i.toNat]? = some x ∧ Q (.lst (xs.eraseIdx i.toNat)) x
  | .dpop1, .dic false ks vs, [k], Q => isKey k = true ∧ ∃ x, dget ks vs k = some x ∧ Q (.dic false (ddrop ks vs k).1 (ddrop ks vs k).2) x
  | .dupd, .dic true ks vs, [.dic true ks2 vs2], Q => ((ks2.all isKeyI = true ∧ (ks2.map hashT).Nodup) ∧ ks.length + ks2.length ≤ sizeLine) ∧ Q (.dic true (dputs ks vs ks2 vs2).1 (dputs ks vs ks2 vs2).2) .non
  | _, _, _, _ => False
/-- o[k] = x -/
def sw : O → D → D → (O → Prop) → Prop
  | .lst xs, .int i, x, Q => ∃ j, ixN xs.length i = some j ∧ Q (.lst (xs.set j x))
  | .dic t ks vs, k, x, Q => (kOk t k = true ∧ ks.length < sizeLine) ∧ Q (.dic t (dput ks vs k x).1 (dput ks vs k x).2)
  | _, _, _, _ => False
/-- x op= y -/
def iw : Operator → O → D → (O → Prop) → Prop
  | .Add, .d (.int i), .int j, Q => Q (rI (i + j))
  | .Sub, .d (.int i), .int j, Q => Q (rI (i - j))
  | .Add, .d (.str i), .str j, Q => i.length + j.length ≤ sizeLine ∧ Q (.d (.str (i ++ j)))
  | .Add, .lst xs, .lst ys, Q => xs.length + ys.length ≤ sizeLine ∧ Q (.lst (xs ++ ys))
  | _, _, _, _ => False

/-! ### the syntax -/
inductive ItK where
  | seq | rng | enum | zip | zipN | keys | items | vals
  deriving DecidableEq
mutual
inductive Pat where
  | v (i : Nat)
  | t (ps : Pats)
inductive Pats where
  | nil
  | cons (p : Pat) (ps : Pats)
end
/-- for isinstance -/
inductive Cl where
  | b (n : String)
  | own (c : Nat)
  deriving DecidableEq
mutual
inductive T where
  | var (i : Nat)
  | int (i : Int) | bl (b : Bool) | non | str (s : Str)
  | glob (x : Str) (i : Int)
  | tup (as : Ts) | lst (as : Ts) | dic0 (t : Bool) | star (a b : T) | tupR (a : T) | frz (a : T)
  | prim (u : Prim) (as : Ts)
  | chain (o1 o2 : CmpOp) (a b c : T)
  | and (as : Ts) | or (as : Ts) | not (a : T)
  | ite (c a b : T)
  | call (f : Nat) (as : Ts)
  | call0 (f : Nat)
  | new (c f : Nat) (fz : Bool) (as : Ts)
  | meth (l : List (Nat × Nat)) (m : Str) (r : T) (as : Ts)
  | fld (c j : Nat) (e : T)
  | dget (d : T) (as : Ts)
  | isi (e : T) (k : Cl)
  | mrg (a b : T) | dic1 (a b : T)
  | chain3 (o1 o2 o3 : CmpOp) (a b c d : T)
  | meq (neg : Bool) (l : List (Nat × Nat)) (a b : T)
  | comp (own : List Nat) (p : Pat) (k : ItK) (as : Ts) (ifs : Ts) (e : T)
  | compO (own : List Nat) (p : Pat) (i : Nat) (ifs : Ts) (e : T)
  | comp2 (own : List Nat) (p : Pat) (k : ItK) (as : Ts) (own2 : List Nat) (p2 : Pat) (k2 : ItK) (as2 : Ts) (ifs : Ts) (e : T)
  | mut (u : Mu) (i : Nat) (as : Ts)
inductive Ts where
  | nil
  | cons (a : T) (as : Ts)
end
mutual
inductive S where
  | set (i : Nat) (e : T)
  | asg (p : Pat) (e : T)
  | par (is : List Nat) (as : Ts)
  | parN (is : List Nat) (as : Ts)
  | setIx (i : Nat) (a e : T)
  | aug (i : Nat) (o : Operator) (e : T)
  | augIx (i : Nat) (a : T) (o : Operator) (e : T)
  | setF (c i j : Nat) (e : T)
  | expr (e : T)
  | ret (e : T) | retN | pass | brk | cont
  | ifs (c : T) (a b : Ss)
  | whl (c : T) (b : Ss)
  | for_ (p : Pat) (k : ItK) (as : Ts) (b : Ss)
  | forO (p : Pat) (en : Bool) (i : Nat) (b : Ss)
  | never
inductive Ss where
  | nil
  | cons (a : S) (as : Ss)
end

/-! ### states -/
abbrev Ev := List (Option O)
/-- what an expression gives: a value of its own, or what stands in a slot (in a field of a slot's object) -/
inductive R where
  | obj (x : O) | path (i : Nat)
def slot (env : Ev) (i : Nat) : Option O := match env[i]? with
  | some (some o) => some o
  | _ => none
def getR (env : Ev) : R → Option O
  | .obj x => some x
  | .path i => slot env i
def putR (env : Ev) (o : O) : R → Ev
  | .obj _ => env
  | .path i => env.set i (some o)
def R.nrm : R → R
  | .obj x => .obj (.d x.toD)
  | r => r
/-- frozen -/
def R.val (r : R) (env : Ev) (k : D → Ev → Prop) : Prop := match getR env r with
  | some o => k o.toD (putR env (.d o.toD) r)
  | none => False
/-- a value of its own stays what it is, else frozen -/
def R.get (r : R) (env : Ev) (k : O → Ev → Prop) : Prop := match r with
  | .obj x => k x env
  | r => r.val env fun x e => k (.d x) e
def vals : List R → Ev → (List D → Ev → Prop) → Prop
  | [], env, k => k [] env
  | r :: rs, env, k => r.val env fun x e => vals rs e fun xs e2 => k (x :: xs) e2
def opsO (env : Ev) : List R → Option (List O)
  | [] => some []
  | r :: rs => match getR env r, opsO env rs with
    | some o, some os => some (o :: os)
    | _, _ => none
def puts : Ev → List R → List O → Ev
  | env, r :: rs, o :: os => puts (putR env o r) rs os
  | env, _, _ => env
/-- the slots that are handed on are unlike, no fields among them -/
def apart : List R → List Nat → Bool
  | [], _ => true
  | .obj _ :: rs, is => apart rs is
  | .path i :: rs, is => !is.contains i && apart rs (i :: is)
mutual
def asgP : Pat → D → Ev → (Ev → Prop) → Prop
  | .v i, x, env, k => k (env.set i (some (.d x)))
  | .t ps, .tup xs, env, k => asgPs ps xs env k
  | .t _, _, _, _ => False
def asgPs : Pats → List D → Ev → (Ev → Prop) → Prop
  | .nil, [], env, k => k env
  | .cons p ps, x :: xs, env, k => asgP p x env fun e => asgPs ps xs e k
  | _, _, _, _ => False
end
def wipeE (env : Ev) : List Nat → Ev
  | [] => env
  | i :: is => (wipeE env is).set i none
/-- behind a comprehension: its own names are what they were, if data -/
def backE (e0 env : Ev) : List Nat → Ev
  | [] => env
  | i :: is => (backE e0 env is).set i (match slot e0 i with
    | some (.d x) => some (.d x)
    | _ => none)
/-- own exceptions: the class, its attributes -/
structure Ex where
  cls : Nat
  fs : List D
abbrev DSp := List O → (O → List O → Prop) → (Ex → List O → Prop) → Prop
structure Gam where
  fn : Nat → DSp
/-- a call by what is promised -/
def callW (sp : DSp) (os : List O) (Q : O → List O → Prop) (E : Ex → List O → Prop) : Prop :=
  ∃ Q0 E0, sp os Q0 E0 ∧ (∀ o os', Q0 o os' → os'.length = os.length ∧ Q o os') ∧ ∀ x os', E0 x os' → os'.length = os.length ∧ E x os'
theorem callW.of {sp : DSp} {os : List O} {Q : O → List O → Prop} {E : Ex → List O → Prop} (h : sp os (fun o os' => os'.length = os.length ∧ Q o os') (fun x os' => os'.length = os.length ∧ E x os')) : callW sp os Q E :=
  ⟨_, _, h, fun _ _ h => h, fun _ _ h => h⟩
theorem callW.mono {sp : DSp} {os : List O} {Q Q' : O → List O → Prop} {E E' : Ex → List O → Prop} (h : callW sp os Q E) (q : ∀ o os', os'.length = os.length → Q o os' → Q' o os') (e : ∀ x os', E x os' → E' x os') : callW sp os Q' E' := by
  obtain ⟨Q0, E0, h1, h2, h3⟩ := h
  exact ⟨Q0, E0, h1, fun o os' z => ⟨(h2 o os' z).1, q o os' (h2 o os' z).1 (h2 o os' z).2⟩, fun x os' z => ⟨(h3 x os' z).1, e x os' (h3 x os' z).2⟩⟩

/-! ### walks -/
def rngD (i j : Int) : List D := (List.range (j - i).toNat).map fun (k : Nat) => D.int (i + k)
def rngC (i c : Int) (n : Nat) : List D := (List.range n).map fun (k : Nat) => D.int (i + k * c)
def enumD : Nat → List D → List D
  | _, [] => []
  | i, x :: xs => .tup [.int i, x] :: enumD (i + 1) xs
def zip2 : List D → List D → List D
  | x :: xs, y :: ys => .tup [x, y] :: zip2 xs ys
  | _, _ => []
def zip3 : List D → List D → List D → List D
  | x :: xs, y :: ys, z :: zs => .tup [x, y, z] :: zip3 xs ys zs
  | _, _, _ => []
def zip4 : List D → List D → List D → List D → List D
  | x :: xs, y :: ys, z :: zs, u :: us => .tup [x, y, z, u] :: zip4 xs ys zs us
  | _, _, _, _ => []
def itW : ItK → List D → (List D → Prop) → Prop
  | .seq, [.lst xs], Q => Q xs
  | .seq, [.tup xs], Q => Q xs
  | .seq, [.rng i j], Q => (b62 i ∧ b62 j) ∧ Q (rngD i j)
  | .rng, [.int j], Q => b62 j ∧ Q (rngD 0 j)
  | .rng, [.int i, .int j], Q => (b62 i ∧ b62 j) ∧ Q (rngD i j)
  | .rng, [.int i, .int j, .int c], Q => (b62 i ∧ b62 j ∧ c = -1) ∧ Q (rngC i (-1) (i - j).toNat)
  | .enum, [.lst xs], Q => Q (enumD 0 xs)
  | .zipN, [.tup xs, .tup ys], Q => Q (zip2 xs ys)
  | .zip, [.lst xs, .lst ys], Q => Q (zip2 xs ys)
  | .zip, [.tup xs, .tup ys], Q => Q (zip2 xs ys)
  | .zip, [.tup xs, .tup ys, .tup zs], Q => Q (zip3 xs ys zs)
  | .zip, [.tup xs, .tup ys, .tup zs, .tup us], Q => Q (zip4 xs ys zs us)
  | .items, [.dic true ks vs], Q => Q (zip2 ks vs)
  | _, _, _ => False
def cloop (body : D → List D → Ev → (List D → Ev → Prop) → Prop) : List D → List D → Ev → (List D → Ev → Prop) → Prop
  | [], acc, env, Q => Q acc env
  | x :: xs, acc, env, Q => body x acc env fun acc' e => cloop body xs acc' e Q
def floop (body : D → Ev → (Ev → Prop) → Prop) : List D → Ev → (Ev → Prop) → Prop
  | [], env, Q => Q env
  | x :: xs, env, Q => body x env fun e => floop body xs e Q
/-- a list stands in the slot -/
def lstAt (env : Ev) (i : Nat) : Prop := match slot env i with
  | some (.lst _) => True
  | _ => False
/-- what stands there can be changed so -/
def mutAt (u : Mu) (env : Ev) (i : Nat) : Prop := match slot env i with
  | some (.lst _) => muL u = true
  | some (.dic _ _ _) => muL u = false
  | _ => False
/-- a list or a dict does -/
def ownAt (env : Ev) (i : Nat) : Prop := match slot env i with
  | some (.lst _) => True
  | some (.dic _ _ _) => True
  | _ => False
def tst (r : R) (k : Bool → Prop) : Prop := match r with
  | .obj (.d (.bl b)) => k b
  | _ => False
def vR (i : Nat) : O → R
  | .d x => .obj (.d x)
  | _ => .path i
/-- an attribute -/
def fldW (c j : Nat) (r : R) (e : Ev) (k : R → Prop) : Prop := match r with
  | .obj o => match o.toD with
    | .ins c' fs => c' = c ∧ ∃ x, fs[j]? = some x ∧ k (.obj (.d x))
    | _ => False
  | .path i => match slot e i with
    | some (.ins c' fs) => c' = c ∧ ∃ x, fs[j]? = some (.d x) ∧ k (.obj (.d x))
    | _ => False
/-- the new instance, frozen if it is to be -/
def newK (fz : Bool) (os : List O) (k : O → List O → Prop) : Prop := match os with
  | self :: r => k (if fz then .d self.toD else self) r
  | [] => False
/-- an instance's class -/
def clsK (e : Ev) (r : R) (k : Nat → Prop) : Prop := match getR e r with
  | some (.ins c _) => k c
  | some (.d (.ins c _)) => k c
  | _ => False
/-- two instances of one class -/
def insK (os : List O) (k : Nat → Prop) : Prop := match os.map O.toD with
  | [.ins c _, .ins c' _] => c' = c ∧ k c
  | _ => False
def isDic : D → Prop
  | .dic _ _ _ => True
  | _ => False
def dicAt (e : Ev) (r : R) : Prop := match getR e r with
  | some o => isDic o.toD
  | none => False
/-- isinstance -/
def isiW : Cl → D → (Bool → Prop) → Prop
  | .b "int", .int _, k => k true
  | .b "int", .bl _, k => k true
  | .b "int", .tup _, k => k false
  | .b "int", .str _, k => k false
  | .b "bool", .int _, k => k false
  | .b "bool", .bl _, k => k true
  | .b "bool", .tup _, k => k false
  | .b "tuple", .tup _, k => k true
  | .b "tuple", .int _, k => k false
  | .b "tuple", .lst _, k => k false
  | .b "tuple", .str _, k => k false
  | .own c, .ins c' _, k => c' = c ∧ k true
  | _, _, _ => False
def addA (acc : List D) (y : D) (k : List D → Prop) : Prop := acc.length < sizeLine ∧ k (acc ++ [y])
def E0x : Ex → Ev → Prop := fun _ _ => False

/-! ### weakest preconditions of expressions -/
section
variable (Γ : Gam)
mutual
def ev : T → Ev → (Ex → Ev → Prop) → (R → Ev → Prop) → Prop
  | .var i, env, _, k => match slot env i with
    | some o => k (vR i o) env
    | none => False
  | .int i, env, _, k => k (.obj (rI i)) env
  | .bl b, env, _, k => k (.obj (rB b)) env
  | .non, env, _, k => k (.obj (.d .non)) env
  | .str s, env, _, k => k (.obj (.d (.str s))) env
  | .glob _ i, env, _, k => k (.obj (rI i)) env
  | .tup as, env, E, k => evs as env E fun rs e => vals rs e fun xs e2 => k (.obj (.d (.tup xs))) e2
  | .lst as, env, E, k => evs as env E fun rs e => vals rs e fun xs e2 => k (.obj (.lst xs)) e2
  | .dic0 t, env, _, k => k (.obj (.dic t [] [])) env
  | .frz a, env, E, k => ev a env E fun r e => match r with
    | .obj o => k (.obj (.d o.toD)) e
    | _ => False
  | .tupR a, env, E, k => ev a env E fun r e => match r with
    | .obj (.d (.int j)) => (b62 j ∧ j ≤ 16777216) ∧ k (.obj (.d (.tup (rngD 0 j)))) e
    | _ => False
  | .star a b, env, E, k => ev a env E fun ra e1 => ra.val e1 fun x e2 => match x with
    | .tup xs => ev b e2 E fun rb e3 => rb.val e3 fun y e4 => xs.length < sizeLine ∧ k (.obj (.d (.tup (xs ++ [y])))) e4
    | _ => False
  | .prim u as, env, E, k => evs as env E fun rs e => match opsO e rs with
    | some os => pw u (os.map O.toD) fun o => k (.obj o) e
    | none => False
  | .chain o1 o2 a b c, env, E, k => ev a env E fun ra e1 => ev b e1 E fun rb e2 => match opsO e2 [ra.nrm, rb.nrm] with
    | some os => pw (.cmp o1) (os.map O.toD) fun o => match o with
      | .d (.bl true) => ev c e2 E fun rc e3 => match opsO e3 [rb.nrm, rc.nrm] with
        | some os2 => pw (.cmp o2) (os2.map O.toD) fun o2 => k (.obj o2) e3
        | none => False
      | .d (.bl false) => k (.obj (rB false)) e2
      | _ => False
    | none => False
  | .chain3 o1 o2 o3 a b c d, env, E, k => ev a env E fun ra e1 => ev b e1 E fun rb e2 => match opsO e2 [ra.nrm, rb.nrm] with
    | some os => pw (.cmp o1) (os.map O.toD) fun o => match o with
      | .d (.bl true) => ev c e2 E fun rc e3 => match opsO e3 [rb.nrm, rc.nrm] with
        | some os2 => pw (.cmp o2) (os2.map O.toD) fun o2 => match o2 with
          | .d (.bl true) => ev d e3 E fun rd e4 => match opsO e4 [rc.nrm, rd.nrm] with
            | some os3 => pw (.cmp o3) (os3.map O.toD) fun o3 => k (.obj o3) e4
            | none => False
          | .d (.bl false) => k (.obj (rB false)) e3
          | _ => False
        | none => False
      | .d (.bl false) => k (.obj (rB false)) e2
      | _ => False
    | none => False
  | .mrg a b, env, E, k => ev a env E fun ra e1 => ra.val e1 fun x e2 => match x with
    | .dic true ks vs => (ks.all isKeyI = true ∧ (ks.map hashT).Nodup) ∧ ev b e2 E fun rb e3 => rb.val e3 fun y e4 => match y with
      | .dic true ks2 vs2 => ((ks2.all isKeyI = true ∧ (ks2.map hashT).Nodup) ∧ ks.length + ks2.length ≤ sizeLine) ∧ k (.obj (.dic true (dputs ks vs ks2 vs2).1 (dputs ks vs ks2 vs2).2)) e4
      | _ => False
    | _ => False
  | .dic1 a b, env, E, k => ev a env E fun ra e1 => ra.val e1 fun x e2 => isKeyT x = true ∧ ev b e2 E fun rb e3 => rb.val e3 fun y e4 => k (.obj (.dic true [x] [y])) e4
  | .meq neg l a b, env, E, k => ev a env E fun r0 e0 => ev b e0 E fun r1 e => match opsO e [r0.nrm, r1.nrm] with
    | some os => insK os fun c => match l.lookup c with
      | some f => apart [r0.nrm, r1.nrm] [] = true ∧ callW (Γ.fn f) os (fun o os' => ∃ t, o = .d (.bl t) ∧ k (.obj (rB (t != neg))) (puts e [r0.nrm, r1.nrm] os')) (fun x os' => E x (puts e [r0.nrm, r1.nrm] os'))
      | none => False
    | none => False
  | .and as, env, E, k => evAnd as env E fun b e => k (.obj (rB b)) e
  | .or as, env, E, k => evOr as env E fun b e => k (.obj (rB b)) e
  | .not a, env, E, k => ev a env E fun r e => tst r fun b => k (.obj (rB (!b))) e
  | .ite c a b, env, E, k => ev c env E fun r e => tst r fun t => if t = true then ev a e E k else ev b e E k
  | .call f as, env, E, k => evs as env E fun rs e => match opsO e rs with
    | some os => apart rs [] = true ∧ callW (Γ.fn f) os (fun o os' => k (.obj o) (puts e rs os')) (fun x os' => E x (puts e rs os'))
    | none => False
  | .call0 f, env, E, k => callW (Γ.fn f) [] (fun o _ => k (.obj o) env) (fun x _ => E x env)
  | .new c f fz as, env, E, k => evs as env E fun rs e => match opsO e rs with
    | some os => apart rs [] = true ∧ callW (Γ.fn f) (.ins c [] :: os) (fun o os' => o = .d .non ∧ newK fz os' fun self r => k (.obj self) (puts e rs r)) (fun x os' => match os' with
      | _ :: r => E x (puts e rs r)
      | [] => False)
    | none => False
  | .meth l m r as, env, E, k => ev r env E fun r0 e0 => clsK e0 r0 fun c => match l.lookup c with
    | some f => evs as e0 E fun rs e => match opsO e (r0.nrm :: rs) with
      | some os => apart (r0.nrm :: rs) [] = true ∧ callW (Γ.fn f) os (fun o os' => k (.obj o) (puts e (r0.nrm :: rs) os')) (fun x os' => E x (puts e (r0.nrm :: rs) os'))
      | none => False
    | none => False
  | .fld c j a, env, E, k => ev a env E fun r e => fldW c j r e fun r2 => k r2 e
  | .dget a as, env, E, k => ev a env E fun ra e0 => dicAt e0 ra ∧ evs as e0 E fun rs e => match opsO e (ra.nrm :: rs) with
    | some os => pw (.meth "dict" "get") (os.map O.toD) fun o => k (.obj o) e
    | none => False
  | .isi a q, env, E, k => ev a env E fun r e => match getR e r with
    | some o => isiW q o.toD fun b => k (.obj (rB b)) e
    | none => False
  | .comp ow p kd as ifs a, env, E, k => evs as env E fun rs e => vals rs e fun ds e' => itW kd ds fun xs => cloop (fun x acc e1 kk => asgP p x e1 fun e2 => evIfs ifs e2 E0x fun b e3 =>
        if b = true then ev a e3 E0x fun r e4 => r.val e4 fun y e5 => addA acc y fun acc' => kk acc' (wipeE e5 ow) else kk acc (wipeE e3 ow))
      xs [] (wipeE e' ow) fun ys e6 => k (.obj (.lst ys)) (backE e' e6 ow)
  | .compO ow p i ifs a, env, E, k => match slot env i with
    | some (.lst us) => cloop (fun x acc e1 kk => asgP p x e1 fun e2 => evIfs ifs e2 E0x fun b e3 =>
        if b = true then ev a e3 E0x fun r e4 => r.val e4 fun y e5 => addA acc y fun acc' => kk acc' (wipeE e5 ow) else kk acc (wipeE e3 ow))
      us [] (wipeE (env.set i none) ow) fun ys e6 => k (.obj (.lst ys)) ((backE (env.set i none) e6 ow).set i (some (.lst us)))
    | _ => False
  | .comp2 ow p kd as ow2 p2 kd2 as2 ifs a, env, E, k => evs as env E fun rs e => vals rs e fun ds e' => itW kd ds fun xs => cloop (fun x acc e1 kk => asgP p x e1 fun e2 => evs as2 e2 E0x fun rs2 e3 => vals rs2 e3 fun ds2 e3' =>
        itW kd2 ds2 fun xs2 => cloop (fun x2 acc2 e4 kk2 => asgP p2 x2 e4 fun e5 => evIfs ifs e5 E0x fun b e6 =>
            if b = true then ev a e6 E0x fun r e7 => r.val e7 fun y e8 => addA acc2 y fun acc' => kk2 acc' (wipeE e8 ow2) else kk2 acc2 (wipeE e6 ow2))
          xs2 acc (wipeE e3' ow2) fun acc3 e9 => kk acc3 (wipeE e9 ow))
      xs [] (wipeE e' ow) fun ys e6 => k (.obj (.lst ys)) (backE e' e6 ow)
  | .mut u i as, env, E, k => mutAt u env i ∧ evs as env E fun rs e => vals rs e fun xs e2 => match slot e2 i with
    | some o => mw u o xs fun o' x => k (.obj (.d x)) (e2.set i (some o'))
    | none => False
def evs : Ts → Ev → (Ex → Ev → Prop) → (List R → Ev → Prop) → Prop
  | .nil, env, _, k => k [] env
  | .cons a as, env, E, k => ev a env E fun r e => evs as e E fun rs e2 => k (r.nrm :: rs) e2
def evAnd : Ts → Ev → (Ex → Ev → Prop) → (Bool → Ev → Prop) → Prop
  | .nil, env, _, k => k true env
  | .cons a as, env, E, k => ev a env E fun r e => tst r fun b => if b = true then evAnd as e E k else k false e
def evOr : Ts → Ev → (Ex → Ev → Prop) → (Bool → Ev → Prop) → Prop
  | .nil, env, _, k => k false env
  | .cons a as, env, E, k => ev a env E fun r e => tst r fun b => if b = true then k true e else evOr as e E k
def evIfs : Ts → Ev → (Ex → Ev → Prop) → (Bool → Ev → Prop) → Prop
  | .nil, env, _, k => k true env
  | .cons a as, env, E, k => ev a env E fun r e => tst r fun b => if b = true then evIfs as e E k else k false e
end
def evsO : Ts → Ev → (Ex → Ev → Prop) → (List O → Ev → Prop) → Prop
  | .nil, env, _, k => k [] env
  | .cons a as, env, E, k => ev Γ a env E fun r e => r.get e fun o e1 => evsO as e1 E fun os e2 => k (o :: os) e2
def setAll : Ev → List Nat → List O → Ev
  | env, i :: is, o :: os => setAll (env.set i (some o)) is os
  | env, _, _ => env

/-! ### .. of statements -/
structure Post where
  nx : Ev → Prop
  rt : O → Ev → Prop
  bk : Ev → Prop
  ct : Ev → Prop
  xc : Ex → Ev → Prop
variable (F : List Nat)
mutual
def wpS : S → Ev → Post → Prop
  | .set i e, env, P => ev Γ e env P.xc fun r e1 => r.get e1 fun o e2 => P.nx (e2.set i (some o))
  | .asg p e, env, P => ev Γ e env P.xc fun r e1 => r.val e1 fun x e2 => asgP p x e2 P.nx
  | .par is as, env, P => evsO Γ as env P.xc fun os e => P.nx (setAll e is os)
  | .parN is as, env, P => evsO Γ as env P.xc fun os e => P.nx (setAll e is os)
  | .setIx i a e, env, P => ev Γ e env P.xc fun r e1 => r.val e1 fun x e2 => ownAt e2 i ∧ ev Γ a e2 P.xc fun ra e3 => ra.val e3 fun q e4 => match slot e4 i with
    | some o => sw o q x fun o' => P.nx (e4.set i (some o'))
    | none => False
  | .aug i op e, env, P => (slot env i).isSome = true ∧ ev Γ e env P.xc fun r e1 => r.val e1 fun y e2 => match slot e2 i with
    | some o => iw op o y fun o' => P.nx (e2.set i (some o'))
    | none => False
  | .augIx i a op e, env, P => lstAt env i ∧ ev Γ a env P.xc fun ra e1 => ra.val e1 fun q e2 => match slot e2 i with
    | some (.lst xs) => ∃ k v, q = .int k ∧ atI xs k = some v ∧ ev Γ e e2 P.xc fun r e3 => r.val e3 fun y e4 => iw op (.d v) y fun z => match slot e4 i with
      | some o2 => sw o2 q z.toD fun o3 => P.nx (e4.set i (some o3))
      | none => False
    | _ => False
  | .setF c i j e, env, P => ev Γ e env P.xc fun r e1 => r.get e1 fun o e2 => match slot e2 i with
    | some (.ins c' fs) => c' = c ∧ j ≤ fs.length ∧ P.nx (e2.set i (some (.ins c (if j = fs.length then fs ++ [o] else fs.set j o))))
    | _ => False
  | .expr e, env, P => ev Γ e env P.xc fun _ e1 => P.nx e1
  | .ret e, env, P => ev Γ e env P.xc fun r e1 => match r with
    | .path j => if F.contains j then r.val e1 fun x e2 => P.rt (.d x) e2 else match slot e1 j with
      | some o => P.rt o (e1.set j none)
      | none => False
    | r => r.get e1 P.rt
  | .retN, env, P => P.rt (.d .non) env
  | .pass, env, P => P.nx env
  | .brk, env, P => P.bk env
  | .cont, env, P => P.ct env
  | .ifs c a b, env, P => ev Γ c env P.xc fun r e => tst r fun t => if t = true then wpSs a e P else wpSs b e P
  | .whl c b, env, P => ∃ I : Nat → Ev → Prop, (∃ m, I m env) ∧ ∀ m e, I m e → ev Γ c e P.xc fun r e1 => tst r fun t =>
      if t = true then wpSs b e1 { P with nx := fun e2 => ∃ m', m' < m ∧ I m' e2, ct := fun e2 => ∃ m', m' < m ∧ I m' e2, bk := P.nx } else P.nx e1
  | .for_ p kd as b, env, P => evs Γ as env P.xc fun rs e => vals rs e fun ds e' => itW kd ds fun xs => floop (fun x e1 kk => asgP p x e1 fun e2 => wpSs b e2 { P with nx := kk, ct := kk, bk := P.nx }) xs e' P.nx
  | .forO p en i b, env, P => match slot env i with
    | some (.lst xs) => floop (fun x e1 kk => asgP p x e1 fun e2 => wpSs b e2 { P with nx := fun e => slot e i = some (.lst xs) ∧ kk e, ct := fun e => slot e i = some (.lst xs) ∧ kk e, bk := P.nx }) (if en = true then enumD 0 xs else xs) env P.nx
    | _ => False
  | .never, _, _ => False
def wpSs : Ss → Ev → Post → Prop
  | .nil, env, P => P.nx env
  | .cons s ss, env, P => wpS s env { P with nx := fun e => wpSs ss e P }
end
end
end VE
/-! VE3: monotony -/
namespace VE
open PySem L2
section
variable {Q Q' : O → Prop} (q : ∀ o, Q o → Q' o)
include q
theorem wBop_mono {o : Operator} {ds : List D} (h : wBop o ds Q) : wBop o ds Q' := by
  unfold wBop at h
  split at h <;> first | exact q _ h | exact ⟨h.1, q _ h.2⟩ | exact h.elim
omit q in
theorem wIn_mono {x y : D} {Q Q' : Bool → Prop} (q : ∀ o, Q o → Q' o) (h : wIn x y Q) : wIn x y Q' := by
  unfold wIn at h
  split at h <;> first | exact ⟨h.1, q _ h.2⟩ | exact q _ h | exact h.elim
theorem wEq_mono {x y : D} (h : wEq x y Q) : wEq x y Q' := by
  cases x <;> exact ⟨h.1, q _ h.2⟩
theorem wCmp_mono {o : CmpOp} {ds : List D} (h : wCmp o ds Q) : wCmp o ds Q' := by
  unfold wCmp at h
  split at h <;> first | exact wEq_mono q h | exact wIn_mono (fun b => q _) h | exact q _ h | exact ⟨h.1, q _ h.2⟩ | exact h.elim
theorem wIx_mono {ds : List D} (h : wIx ds Q) : wIx ds Q' := by
  unfold wIx at h
  split at h <;> first | exact ⟨_, h.choose_spec.1, q _ h.choose_spec.2⟩ | exact ⟨h.1, _, h.2.choose_spec.1, q _ h.2.choose_spec.2⟩ | exact h.elim
theorem wSl_mono {lo hi : Option Int} {d : D} (h : wSl lo hi d Q) : wSl lo hi d Q' := by
  unfold wSl at h
  split at h <;> first | exact q _ h | exact h.elim
theorem wSlice_mono {lo hi : Bool} {ds : List D} (h : wSlice lo hi ds Q) : wSlice lo hi ds Q' := by
  unfold wSlice at h
  split at h <;> first | exact wSl_mono q h | exact h.elim
theorem wCall_mono {n : String} {ds : List D} (h : wCall n ds Q) : wCall n ds Q' := by
  unfold wCall at h
  split at h <;> first | exact q _ h | exact ⟨h.1, q _ h.2⟩ | exact ⟨h.1, h.2.1, q _ h.2.2⟩ | exact ⟨h.1, _, h.2.choose_spec.1, q _ h.2.choose_spec.2⟩ | exact h.elim
theorem wTy_mono {n : String} {ds : List D} (h : wTy n ds Q) : wTy n ds Q' := by
  unfold wTy at h
  split at h <;> first | exact q _ h | exact ⟨h.1, q _ h.2⟩ | exact h.elim
theorem wMeth_mono {t n : String} {ds : List D} (h : wMeth t n ds Q) : wMeth t n ds Q' := by
  unfold wMeth at h
  split at h <;> first | exact q _ h | exact ⟨h.1, q _ h.2⟩ | exact h.elim
theorem pw_mono {u : Prim} {ds : List D} (h : pw u ds Q) : pw u ds Q' := by
  unfold pw at h
  split at h <;> first | exact wBop_mono q h | exact wCmp_mono q h | exact wIx_mono q h | exact wSlice_mono q h | exact wCall_mono q h | exact wTy_mono q h | exact wMeth_mono q h | exact q _ h | exact ⟨h.1, q _ h.2⟩ | exact h.elim
end
theorem mw_mono {u : Mu} {o : O} {ds : List D} {Q Q' : O → D → Prop} (q : ∀ o x, Q o x → Q' o x) (h : mw u o ds Q) : mw u o ds Q' := by
  unfold mw at h
  split at h <;> first | exact ⟨h.1, q _ _ h.2⟩ | exact ⟨_, h.choose_spec.1, q _ _ h.choose_spec.2⟩ | exact ⟨h.1, _, h.2.choose_spec.1, q _ _ h.2.choose_spec.2⟩ | exact h.elim
theorem sw_mono {o : O} {k x : D} {Q Q' : O → Prop} (q : ∀ o, Q o → Q' o) (h : sw o k x Q) : sw o k x Q' := by
  unfold sw at h
  split at h <;> first | exact ⟨_, h.choose_spec.1, q _ h.choose_spec.2⟩ | exact ⟨h.1, q _ h.2⟩ | exact h.elim
theorem iw_mono {u : Operator} {o : O} {x : D} {Q Q' : O → Prop} (q : ∀ o, Q o → Q' o) (h : iw u o x Q) : iw u o x Q' := by
  unfold iw at h
  split at h <;> first | exact q _ h | exact ⟨h.1, q _ h.2⟩ | exact h.elim
theorem val_mono {r : R} {env : Ev} {k k' : D → Ev → Prop} (q : ∀ x e, k x e → k' x e) (h : r.val env k) : r.val env k' := by
  unfold R.val at h ⊢
  split at h
  · exact q _ _ h
  · exact h.elim
theorem get_mono {r : R} {env : Ev} {k k' : O → Ev → Prop} (q : ∀ x e, k x e → k' x e) (h : r.get env k) : r.get env k' := by
  cases r with
  | obj x => exact q _ _ h
  | path i => exact val_mono (k := fun x e => k (.d x) e) (k' := fun x e => k' (.d x) e) (fun x e => q _ _) h
theorem vals_mono : ∀ {rs : List R} {env : Ev} {k k' : List D → Ev → Prop}, (∀ x e, k x e → k' x e) → vals rs env k → vals rs env k'
  | [], _, _, _, q, h => q _ _ h
  | r :: rs, _, _, _, q, h => val_mono (fun x e => vals_mono fun xs e => q _ _) h
mutual
theorem asgP_mono : ∀ (p : Pat) {x : D} {env : Ev} {k k' : Ev → Prop}, (∀ e, k e → k' e) → asgP p x env k → asgP p x env k'
  | .v i, x, env, k, k', q, h => by unfold asgP at h ⊢; exact q _ h
  | .t ps, x, env, k, k', q, h => by
    cases x <;> unfold asgP at h ⊢ <;> first | exact asgPs_mono ps q h | exact h.elim
theorem asgPs_mono : ∀ (ps : Pats) {xs : List D} {env : Ev} {k k' : Ev → Prop}, (∀ e, k e → k' e) → asgPs ps xs env k → asgPs ps xs env k'
  | .nil, xs, env, k, k', q, h => by
    cases xs <;> unfold asgPs at h ⊢ <;> first | exact q _ h | exact h.elim
  | .cons p ps, xs, env, k, k', q, h => by
    cases xs <;> unfold asgPs at h ⊢ <;> first | exact asgP_mono p (fun e => asgPs_mono ps q) h | exact h.elim
end
theorem itW_mono {k : ItK} {ds : List D} {Q Q' : List D → Prop} (q : ∀ o, Q o → Q' o) (h : itW k ds Q) : itW k ds Q' := by
  unfold itW at h
  split at h <;> first | exact q _ h | exact ⟨h.1, q _ h.2⟩ | exact h.elim
theorem tst_mono {r : R} {k k' : Bool → Prop} (q : ∀ b, k b → k' b) (h : tst r k) : tst r k' := by
  unfold tst at h ⊢
  split at h
  · exact q _ h
  · exact h.elim
theorem cloop_mono {body body' : D → List D → Ev → (List D → Ev → Prop) → Prop} (hb : ∀ x acc e kk kk', (∀ a e, kk a e → kk' a e) → body x acc e kk → body' x acc e kk') :
    ∀ {xs : List D} {acc : List D} {env : Ev} {Q Q' : List D → Ev → Prop}, (∀ a e, Q a e → Q' a e) → cloop body xs acc env Q → cloop body' xs acc env Q'
  | [], _, _, _, _, q, h => q _ _ h
  | x :: xs, _, _, _, _, q, h => hb _ _ _ _ _ (fun a e => cloop_mono hb q) h
theorem floop_mono {body body' : D → Ev → (Ev → Prop) → Prop} (hb : ∀ x e kk kk', (∀ e, kk e → kk' e) → body x e kk → body' x e kk') :
    ∀ {xs : List D} {env : Ev} {Q Q' : Ev → Prop}, (∀ e, Q e → Q' e) → floop body xs env Q → floop body' xs env Q'
  | [], _, _, _, q, h => q _ h
  | x :: xs, _, _, _, q, h => hb _ _ _ _ (fun e => floop_mono hb q) h
theorem ite_mono {b : Bool} {A A' B B' : Prop} (h1 : A → A') (h2 : B → B') (h : if b = true then A else B) : if b = true then A' else B' := by
  cases b
  · exact h2 h
  · exact h1 h
theorem fldW_mono {c j : Nat} {r : R} {e : Ev} {k k' : R → Prop} (q : ∀ r, k r → k' r) (h : fldW c j r e k) : fldW c j r e k' := by
  unfold fldW at h ⊢
  split at h
  · split at h
    · obtain ⟨h1, x, h2, h3⟩ := h
      exact ⟨h1, x, h2, q _ h3⟩
    · exact h.elim
  · split at h
    · obtain ⟨h1, x, h2, h3⟩ := h
      exact ⟨h1, x, h2, q _ h3⟩
    · exact h.elim
theorem newK_mono {fz : Bool} {os : List O} {k k' : O → List O → Prop} (q : ∀ o r, k o r → k' o r) (h : newK fz os k) : newK fz os k' := by
  cases os with
  | nil => exact h
  | cons a r => exact q _ _ h
theorem clsK_mono {e : Ev} {r : R} {k k' : Nat → Prop} (q : ∀ c, k c → k' c) (h : clsK e r k) : clsK e r k' := by
  unfold clsK at h ⊢
  split at h <;> first | exact q _ h | exact h.elim
theorem insK_mono {os : List O} {k k' : Nat → Prop} (q : ∀ c, k c → k' c) (h : insK os k) : insK os k' := by
  unfold insK at h ⊢
  split at h <;> first | exact ⟨h.1, q _ h.2⟩ | exact h.elim
theorem isiW_mono {c : Cl} {d : D} {k k' : Bool → Prop} (q : ∀ b, k b → k' b) (h : isiW c d k) : isiW c d k' := by
  unfold isiW at h ⊢
  split at h <;> first | exact q _ h | exact ⟨h.1, q _ h.2⟩ | exact h.elim
variable {Γ : Gam}
mutual
theorem ev_mono : ∀ (a : T) {env : Ev} {E E' : Ex → Ev → Prop} {k k' : R → Ev → Prop}, (∀ x e, E x e → E' x e) → (∀ r e, k r e → k' r e) → ev Γ a env E k → ev Γ a env E' k'
  | .var i, env, E, E', k, k', e, q, h => by
    unfold ev at h ⊢
    split at h
    · exact q _ _ h
    · exact h.elim
  | .int i, _, _, _, _, _, e, q, h => by unfold ev at h ⊢; exact q _ _ h
  | .bl i, _, _, _, _, _, e, q, h => by unfold ev at h ⊢; exact q _ _ h
  | .non, _, _, _, _, _, e, q, h => by unfold ev at h ⊢; exact q _ _ h
  | .str i, _, _, _, _, _, e, q, h => by unfold ev at h ⊢; exact q _ _ h
  | .glob _ i, _, _, _, _, _, e, q, h => by unfold ev at h ⊢; exact q _ _ h
  | .dic0 i, _, _, _, _, _, e, q, h => by unfold ev at h ⊢; exact q _ _ h
  | .frz a, _, _, _, _, _, e, q, h => by
    unfold ev at h ⊢
    refine ev_mono a e (fun r e1 h => ?_) h
    split at h
    · exact q _ _ h
    · exact h.elim
  | .tupR a, _, _, _, _, _, e, q, h => by
    unfold ev at h ⊢
    refine ev_mono a e (fun r e1 h => ?_) h
    split at h
    · exact ⟨h.1, q _ _ h.2⟩
    · exact h.elim
  | .star a b, _, _, _, _, _, e, q, h => by
    unfold ev at h ⊢
    refine ev_mono a e (fun ra e1 => val_mono fun x e2 h => ?_) h
    cases x with
    | tup xs => exact ev_mono b e (fun rb e3 => val_mono fun y e4 ⟨h1, h2⟩ => ⟨h1, q _ _ h2⟩) h
    | _ => exact h
  | .tup as, _, _, _, _, _, e, q, h => by
    unfold ev at h ⊢
    exact evs_mono as e (fun rs e => vals_mono fun xs e2 => q _ _) h
  | .lst as, _, _, _, _, _, e, q, h => by
    unfold ev at h ⊢
    exact evs_mono as e (fun rs e => vals_mono fun xs e2 => q _ _) h
  | .prim u as, _, _, _, _, _, e, q, h => by
    unfold ev at h ⊢
    refine evs_mono as e (fun rs e h => ?_) h
    split at h
    · exact pw_mono (fun o => q _ _) h
    · exact h.elim
  | .chain o1 o2 a b c, _, _, _, _, _, e, q, h => by
    unfold ev at h ⊢
    refine ev_mono a e (fun ra e1 h => ev_mono b e (fun rb e2 h => ?_) h) h
    split at h
    · refine pw_mono (fun o h => ?_) h
      split at h
      · refine ev_mono c e (fun rc e3 h => ?_) h
        split at h
        · exact pw_mono (fun o => q _ _) h
        · exact h.elim
      · exact q _ _ h
      · exact h.elim
    · exact h.elim
  | .chain3 o1 o2 o3 a b c d, _, _, _, _, _, e, q, h => by
    unfold ev at h ⊢
    refine ev_mono a e (fun ra e1 h => ev_mono b e (fun rb e2 h => ?_) h) h
    split at h
    · refine pw_mono (fun o h => ?_) h
      split at h
      · refine ev_mono c e (fun rc e3 h => ?_) h
        split at h
        · refine pw_mono (fun o2 h => ?_) h
          split at h
          · refine ev_mono d e (fun rd e4 h => ?_) h
            split at h
            · exact pw_mono (fun o => q _ _) h
            · exact h.elim
          · exact q _ _ h
          · exact h.elim
        · exact h.elim
      · exact q _ _ h
      · exact h.elim
    · exact h.elim
  | .mrg a b, _, _, _, _, _, e, q, h => by
    unfold ev at h ⊢
    refine ev_mono a e (fun ra e1 => val_mono fun x e2 h => ?_) h
    split at h
    · refine ⟨h.1, ev_mono b e (fun rb e3 => val_mono fun y e4 h => ?_) h.2⟩
      split at h
      · exact ⟨h.1, q _ _ h.2⟩
      · exact h.elim
    · exact h.elim
  | .dic1 a b, _, _, _, _, _, e, q, h => by
    unfold ev at h ⊢
    exact ev_mono a e (fun ra e1 => val_mono fun x e2 h => ⟨h.1, ev_mono b e (fun rb e3 => val_mono fun y e4 => q _ _) h.2⟩) h
  | .meq neg l a b, _, _, _, _, _, e, q, h => by
    unfold ev at h ⊢
    refine ev_mono a e (fun r0 e0 h => ev_mono b e (fun r1 e1 h => ?_) h) h
    split at h
    · refine insK_mono (fun c h => ?_) h
      split at h
      · exact ⟨h.1, h.2.mono (fun o os' _ ⟨t, h1, h2⟩ => ⟨t, h1, q _ _ h2⟩) fun x os' => e _ _⟩
      · exact h.elim
    · exact h.elim
  | .and as, _, _, _, _, _, e, q, h => by unfold ev at h ⊢; exact evAnd_mono as e (fun b e => q _ _) h
  | .or as, _, _, _, _, _, e, q, h => by unfold ev at h ⊢; exact evOr_mono as e (fun b e => q _ _) h
  | .not a, _, _, _, _, _, e, q, h => by unfold ev at h ⊢; exact ev_mono a e (fun r e => tst_mono fun b => q _ _) h
  | .ite c a b, _, _, _, _, _, e, q, h => by
    unfold ev at h ⊢
    exact ev_mono c e (fun r e1 => tst_mono fun t => ite_mono (ev_mono a e q) (ev_mono b e q)) h
  | .call f as, _, _, _, _, _, e, q, h => by
    unfold ev at h ⊢
    refine evs_mono as e (fun rs e1 h => ?_) h
    split at h
    · exact ⟨h.1, h.2.mono (fun o os' _ => q _ _) fun x os' => e _ _⟩
    · exact h.elim
  | .call0 f, _, _, _, _, _, e, q, h => by
    unfold ev at h ⊢
    exact h.mono (fun o os' _ => q _ _) fun x os' => e _ _
  | .new c f fz as, _, _, _, _, _, e, q, h => by
    unfold ev at h ⊢
    refine evs_mono as e (fun rs e1 h => ?_) h
    split at h
    · refine ⟨h.1, h.2.mono (fun o os' _ h => ⟨h.1, newK_mono (fun _ _ => q _ _) h.2⟩) fun x os' h => ?_⟩
      · cases os' with
        | nil => exact h
        | cons a r => exact e _ _ h
    · exact h.elim
  | .meth l m r as, _, _, _, _, _, e, q, h => by
    unfold ev at h ⊢
    refine ev_mono r e (fun r0 e0 => clsK_mono fun c h => ?_) h
    split at h
    · refine evs_mono as e (fun rs e1 h => ?_) h
      split at h
      · exact ⟨h.1, h.2.mono (fun o os' _ => q _ _) fun x os' => e _ _⟩
      · exact h.elim
    · exact h.elim
  | .fld c j a, _, _, _, _, _, e, q, h => by
    unfold ev at h ⊢
    exact ev_mono a e (fun r e1 => fldW_mono fun r2 => q _ _) h
  | .dget a as, _, _, _, _, _, e, q, h => by
    unfold ev at h ⊢
    refine ev_mono a e (fun ra e0 h => ⟨h.1, evs_mono as e (fun rs e1 h => ?_) h.2⟩) h
    split at h
    · exact pw_mono (fun o => q _ _) h
    · exact h.elim
  | .isi a q', _, _, _, _, _, e, q, h => by
    unfold ev at h ⊢
    refine ev_mono a e (fun r e1 h => ?_) h
    split at h
    · exact isiW_mono (fun b => q _ _) h
    · exact h.elim
  | .comp ow p kd as ifs a, _, _, _, _, _, e, q, h => by
    unfold ev at h ⊢
    refine evs_mono as e (fun rs e1 h => vals_mono (fun ds e1' h => ?_) h) h
    refine itW_mono (fun xs h => cloop_mono (fun x acc e2 kk kk' qk h => ?_) (fun ys e6 => q _ _) h) h
    refine asgP_mono p (fun e3 h => evIfs_mono ifs (fun _ _ h => h) (fun b e4 => ite_mono (fun h => ?_) (qk _ _)) h) h
    exact ev_mono a (fun _ _ h => h) (fun r e5 => val_mono fun y e6 h => ⟨h.1, qk _ _ h.2⟩) h
  | .compO ow p i ifs a, _, _, _, _, _, e, q, h => by
    unfold ev at h ⊢
    split at h
    · refine cloop_mono (fun x acc e2 kk kk' qk h => ?_) (fun ys e6 => q _ _) h
      refine asgP_mono p (fun e3 h => evIfs_mono ifs (fun _ _ h => h) (fun b e4 => ite_mono (fun h => ?_) (qk _ _)) h) h
      exact ev_mono a (fun _ _ h => h) (fun r e5 => val_mono fun y e6 h => ⟨h.1, qk _ _ h.2⟩) h
    · exact h.elim
  | .comp2 ow p kd as ow2 p2 kd2 as2 ifs a, _, _, _, _, _, e, q, h => by
    unfold ev at h ⊢
    refine evs_mono as e (fun rs e1 h => vals_mono (fun ds e1' h => ?_) h) h
    refine itW_mono (fun xs h => cloop_mono (fun x acc e2 kk kk' qk h => ?_) (fun ys e6 => q _ _) h) h
    refine asgP_mono p (fun e3 h => evs_mono as2 (fun _ _ h => h) (fun rs2 e4 h => vals_mono (fun ds2 e4' h => ?_) h) h) h
    refine itW_mono (fun xs2 h => cloop_mono (fun x acc e2 kk kk' qk h => ?_) (fun ys e6 => qk _ _) h) h
    refine asgP_mono p2 (fun e3 h => evIfs_mono ifs (fun _ _ h => h) (fun b e4 => ite_mono (fun h => ?_) (qk _ _)) h) h
    exact ev_mono a (fun _ _ h => h) (fun r e5 => val_mono fun y e6 h => ⟨h.1, qk _ _ h.2⟩) h
  | .mut u i as, _, _, _, _, _, e, q, h => by
    unfold ev at h ⊢
    refine ⟨h.1, evs_mono as e (fun rs e1 => vals_mono fun xs e2 h => ?_) h.2⟩
    split at h
    · exact mw_mono (fun o x => q _ _) h
    · exact h.elim
theorem evs_mono : ∀ (as : Ts) {env : Ev} {E E' : Ex → Ev → Prop} {k k' : List R → Ev → Prop}, (∀ x e, E x e → E' x e) → (∀ r e, k r e → k' r e) → evs Γ as env E k → evs Γ as env E' k'
  | .nil, _, _, _, _, _, e, q, h => by unfold evs at h ⊢; exact q _ _ h
  | .cons a as, _, _, _, _, _, e, q, h => by
    unfold evs at h ⊢
    exact ev_mono a e (fun r e1 => evs_mono as e fun rs e2 => q _ _) h
theorem evAnd_mono : ∀ (as : Ts) {env : Ev} {E E' : Ex → Ev → Prop} {k k' : Bool → Ev → Prop}, (∀ x e, E x e → E' x e) → (∀ r e, k r e → k' r e) → evAnd Γ as env E k → evAnd Γ as env E' k'
  | .nil, _, _, _, _, _, e, q, h => by unfold evAnd at h ⊢; exact q _ _ h
  | .cons a as, _, _, _, _, _, e, q, h => by
    unfold evAnd at h ⊢
    exact ev_mono a e (fun r e1 => tst_mono fun b => ite_mono (evAnd_mono as e q) (q _ _)) h
theorem evOr_mono : ∀ (as : Ts) {env : Ev} {E E' : Ex → Ev → Prop} {k k' : Bool → Ev → Prop}, (∀ x e, E x e → E' x e) → (∀ r e, k r e → k' r e) → evOr Γ as env E k → evOr Γ as env E' k'
  | .nil, _, _, _, _, _, e, q, h => by unfold evOr at h ⊢; exact q _ _ h
  | .cons a as, _, _, _, _, _, e, q, h => by
    unfold evOr at h ⊢
    exact ev_mono a e (fun r e1 => tst_mono fun b => ite_mono (q _ _) (evOr_mono as e q)) h
theorem evIfs_mono : ∀ (as : Ts) {env : Ev} {E E' : Ex → Ev → Prop} {k k' : Bool → Ev → Prop}, (∀ x e, E x e → E' x e) → (∀ r e, k r e → k' r e) → evIfs Γ as env E k → evIfs Γ as env E' k'
  | .nil, _, _, _, _, _, e, q, h => by unfold evIfs at h ⊢; exact q _ _ h
  | .cons a as, _, _, _, _, _, e, q, h => by
    unfold evIfs at h ⊢
    exact ev_mono a e (fun r e1 => tst_mono fun b => ite_mono (evIfs_mono as e q) (q _ _)) h
end
theorem evsO_mono : ∀ (as : Ts) {env : Ev} {E E' : Ex → Ev → Prop} {k k' : List O → Ev → Prop}, (∀ x e, E x e → E' x e) → (∀ r e, k r e → k' r e) → evsO Γ as env E k → evsO Γ as env E' k'
  | .nil, _, _, _, _, _, e, q, h => by unfold evsO at h ⊢; exact q _ _ h
  | .cons a as, _, _, _, _, _, e, q, h => by
    unfold evsO at h ⊢
    exact ev_mono a e (fun r e1 => get_mono fun o e2 => evsO_mono as e fun rs e2 => q _ _) h
/-- a weaker end -/
structure Post.Le (P P' : Post) : Prop where
  nx : ∀ e, P.nx e → P'.nx e
  rt : ∀ o e, P.rt o e → P'.rt o e
  bk : ∀ e, P.bk e → P'.bk e
  ct : ∀ e, P.ct e → P'.ct e
  xc : ∀ x e, P.xc x e → P'.xc x e
variable {F : List Nat}
mutual
theorem wpS_mono : ∀ (s : S) {env : Ev} {P P' : Post}, P.Le P' → wpS Γ F s env P → wpS Γ F s env P'
  | .set i e, _, _, _, q, h => by unfold wpS at h ⊢; exact ev_mono e q.xc (fun r e1 => get_mono fun o e2 => q.nx _) h
  | .asg p e, _, _, _, q, h => by unfold wpS at h ⊢; exact ev_mono e q.xc (fun r e1 => val_mono fun o e2 => asgP_mono p q.nx) h
  | .par is as, _, _, _, q, h => by unfold wpS at h ⊢; exact evsO_mono as q.xc (fun os e => q.nx _) h
  | .parN is as, _, _, _, q, h => by unfold wpS at h ⊢; exact evsO_mono as q.xc (fun os e => q.nx _) h
  | .setIx i a e, _, _, _, q, h => by
    unfold wpS at h ⊢
    refine ev_mono e q.xc (fun r e1 => val_mono fun x e2 ⟨h1, h2⟩ => ⟨h1, ev_mono a q.xc (fun ra e3 => val_mono fun k e4 h => ?_) h2⟩) h
    split at h
    · exact sw_mono (fun o' => q.nx _) h
    · exact h.elim
  | .aug i op e, _, _, _, q, h => by
    unfold wpS at h ⊢
    refine ⟨h.1, ev_mono e q.xc (fun r e1 => val_mono fun x e2 h => ?_) h.2⟩
    split at h
    · exact iw_mono (fun o' => q.nx _) h
    · exact h.elim
  | .augIx i a op e, _, _, _, q, h => by
    unfold wpS at h ⊢
    refine ⟨h.1, ev_mono a q.xc (fun ra e1 => val_mono fun k e2 h => ?_) h.2⟩
    split at h
    · obtain ⟨k, v, h1, h2, h⟩ := h
      refine ⟨k, v, h1, h2, ev_mono e q.xc (fun r e3 => val_mono fun y e4 => iw_mono fun z' h => ?_) h⟩
      split at h
      · exact sw_mono (fun o' => q.nx _) h
      · exact h.elim
    · exact h.elim
  | .setF c i j e, _, _, _, q, h => by
    unfold wpS at h ⊢
    refine ev_mono e q.xc (fun r e1 => get_mono fun o e2 h => ?_) h
    split at h
    · exact ⟨h.1, h.2.1, q.nx _ h.2.2⟩
    · exact h.elim
  | .expr e, _, _, _, q, h => by unfold wpS at h ⊢; exact ev_mono e q.xc (fun r e1 => q.nx _) h
  | .ret e, _, _, _, q, h => by
    unfold wpS at h ⊢
    refine ev_mono e q.xc (fun r e1 h => ?_) h
    cases r with
    | obj o => exact q.rt _ _ h
    | path j =>
      dsimp only at h ⊢
      refine ite_mono (val_mono fun x e2 => q.rt _ _) (fun h => ?_) h
      split at h
      · exact q.rt _ _ h
      · exact h.elim
  | .retN, _, _, _, q, h => by unfold wpS at h ⊢; exact q.rt _ _ h
  | .pass, _, _, _, q, h => by unfold wpS at h ⊢; exact q.nx _ h
  | .brk, _, _, _, q, h => by unfold wpS at h ⊢; exact q.bk _ h
  | .cont, _, _, _, q, h => by unfold wpS at h ⊢; exact q.ct _ h
  | .ifs c a b, _, _, _, q, h => by
    unfold wpS at h ⊢
    exact ev_mono c q.xc (fun r e1 => tst_mono fun t => ite_mono (wpSs_mono a q) (wpSs_mono b q)) h
  | .whl c b, _, _, _, q, h => by
    unfold wpS at h ⊢
    obtain ⟨I, hi, ht⟩ := h
    refine ⟨I, hi, fun m e hm => ev_mono c q.xc (fun r e1 => tst_mono fun t => ite_mono (wpSs_mono b (by exact ⟨fun _ h => h, q.rt, q.nx, fun _ h => h, q.xc⟩)) (q.nx _)) (ht m e hm)⟩
  | .for_ p kd as b, _, P, P', q, h => by
    unfold wpS at h ⊢
    refine evs_mono as q.xc (fun rs e h => vals_mono (fun ds e' h => ?_) h) h
    refine itW_mono (fun xs h => ?_) h
    refine floop_mono (fun x e1 kk kk' qk h => ?_) q.nx h
    refine asgP_mono p (fun e2 h => ?_) h
    exact wpSs_mono b (P := { P with nx := kk, ct := kk, bk := P.nx }) (P' := { P' with nx := kk', ct := kk', bk := P'.nx }) ⟨qk, q.rt, q.nx, qk, q.xc⟩ h
  | .forO p en i b, _, P, P', q, h => by
    unfold wpS at h ⊢
    split at h
    · refine floop_mono (fun x e1 kk kk' qk h => ?_) q.nx h
      refine asgP_mono p (fun e2 h => ?_) h
      exact wpSs_mono b (by exact ⟨fun e z => ⟨z.1, qk e z.2⟩, q.rt, q.nx, fun e z => ⟨z.1, qk e z.2⟩, q.xc⟩) h
    · exact h.elim
  | .never, _, _, _, _, h => by unfold wpS at h; exact h.elim
theorem wpSs_mono : ∀ (ss : Ss) {env : Ev} {P P' : Post}, P.Le P' → wpSs Γ F ss env P → wpSs Γ F ss env P'
  | .nil, _, _, _, q, h => by unfold wpSs at h ⊢; exact q.nx _ h
  | .cons s ss, _, _, _, q, h => by
    unfold wpSs at h ⊢
    refine wpS_mono s (?_ : Post.Le _ _) h
    exact ⟨fun e => wpSs_mono ss q, q.rt, q.bk, q.ct, q.xc⟩
end
end VE
/-! VE4: the primitives keep what pw says -/
namespace VE
open PySem PySem.Spec PyProof.Rows L2

/-- what an operand is: data, or an owned object's top -/
def Top (C : CT) (K : PySem.W.Frag) (H G : Hp) (d : D) (v : V) : Prop := match d with
  | .lst xs => ∃ p vs, v = .ref p ∧ H p = some (.lst vs) ∧ Reps C K G xs vs
  | .dic t ks xs => ∃ p vs, v = .ref p ∧ Rd H p (dHO t ks vs) ∧ (keysOk t ks = true ∧ ks.length = xs.length) ∧ Reps C K G xs vs
  | .ins c fs => ∃ p dx vs, v = .ref p ∧ H p = some (.ins (C.addr c) dx ((C.names c).zip vs)) ∧ fs.length ≤ (C.names c).length ∧ fs.length = vs.length
  | d => Rep C K G d v
/-- what a primitive gives: data that stand, or one new object -/
inductive Res (C : CT) (K : PySem.W.Frag) (G H : Hp) : O → V → Hp → Prop
  | std {x : D} {v : V} (h : Rep C K G x v) : Res C K G H (.d x) v H
  | lst {p : Addr} {xs : List D} {vs : List V} (hp : H p = none) (h : Reps C K G xs vs) : Res C K G H (.lst xs) (.ref p) (upd H p (.lst vs))
  | tup {p : Addr} {xs : List D} {vs : List V} (hp : H p = none) (h : Reps C K G xs vs) : Res C K G H (.d (.tup xs)) (.ref p) (upd H p (.tup vs))
  | rng {p : Addr} {i j : Int} (hp : H p = none) : Res C K G H (.d (.rng i j)) (.ref p) (upd H p (.rng i j))
  | lstH {p : Addr} {xs : List D} {bs : List Addr} (hp : H p = none) (hk : xs.all isKeyT = true) (h : Reps C K H xs (bs.map V.ref)) : Res C K G H (.lst xs) (.ref p) (upd H p (.lst (bs.map V.ref)))
  | dic {p : Addr} {t : Bool} {ks xs : List D} {vs : List V} (hp : H p = none) (hk : keysOk t ks = true ∧ ks.length = xs.length) (h : Reps C K G xs vs) : Res C K G H (.dic t ks xs) (.ref p) (upd H p (dHO t ks vs))
section
variable {C : CT} {K : PySem.W.Frag} {G H H' : Hp} {v : V} {o : O} {L : Prs} {S : List Addr} {d : D}
theorem own.top : ∀ {o : O} {v : V} {S : List Addr}, own C K H G o v S → Same G H → Top C K H G o.toD v
  | .d x, v, S, ⟨e, h⟩, g => by
    cases x with
    | lst xs => obtain ⟨p, vs, e1, h1, h2⟩ := h; exact ⟨p, vs, e1, g _ _ h1, h2⟩
    | dic t ks xs => obtain ⟨p, vs, e1, h1, h3, h2⟩ := h; exact ⟨p, vs, e1, Same.rd g h1, h3, h2⟩
    | ins c fs => obtain ⟨p, dx, vs, e1, h1, h3, h2⟩ := h; exact ⟨p, dx, vs, e1, g _ _ h1, h3, h2.length⟩
    | _ => exact h
  | .lst xs, _, _, ⟨p, vs, e1, e2, h1, h2⟩, g => ⟨p, vs, e1, h1, h2⟩
  | .dic t ks xs, _, _, ⟨p, vs, e1, e2, h1, h3, h2⟩, g => ⟨p, vs, e1, .inl h1, h3, h2⟩
  | .ins c fs, _, _, ⟨p, dx, vs, S', e1, e2, h1, h3, h2⟩, g => by
    refine ⟨p, dx, vs, e1, h1, by rw [O.toDs_map, List.length_map]; exact h3, ?_⟩
    exact (owns.rep fs vs S' h2 g).length
  | .lock o t ks vs xs, _, _, ⟨e, p, e1, h1, h3, h2⟩, g => ⟨p, vs, e1, .inr ⟨o, g _ _ h1⟩, h3, h2⟩
theorem own_there (g : Same G H) (k : ownL C K H G L S) {p : Addr} (hp : H p = none) : p ∉ S ∧ G p = none := by
  refine ⟨fun q => ?_, g.free hp⟩
  obtain ⟨u, e⟩ := ownL.there L S k p q
  rw [hp] at e; cases e
/-- a result on top -/
theorem rel_res (g : Same G H) (k : ownL C K H G L S) (nd : S.Nodup) (no : ∀ p ∈ S, G p = none) (r : Res C K G H o v H') : Rel C K H' ((v, o) :: L) := by
  cases r with
  | std h => exact ⟨G, S, g, ⟨[], S, rfl, ⟨rfl, h⟩, k⟩, nd, no⟩
  | @lst p xs vs hp h =>
    obtain ⟨n1, n2⟩ := own_there g k hp
    refine ⟨G, p :: S, fun q u e => ?_, ⟨[p], S, rfl, ⟨p, vs, rfl, rfl, upd_same, h⟩, ownL.keep L S k (fun q hq => upd_ne fun e => n1 (e ▸ hq)) (Same.refl G)⟩, List.nodup_cons.mpr ⟨n1, nd⟩, fun q hq => ?_⟩
    · rw [upd_ne (fun z => by rw [z, n2] at e; cases e)]; exact g _ _ e
    · rcases List.mem_cons.mp hq with rfl | hq
      · exact n2
      · exact no q hq
  | @lstH p xs bs hp hk h =>
    obtain ⟨a1, a2, a3, a4, a5⟩ := adp_ok (T := bs) g k no (keyT_tup hk h)
    obtain ⟨n1, n2⟩ := own_there a2 a3 hp
    refine ⟨adp G H bs, p :: S, fun q u e => ?_, ⟨[p], S, rfl, ⟨p, _, rfl, rfl, upd_same, keyT_adp (fun _ h => h) hk h⟩, ownL.keep L S a3 (fun q hq => upd_ne fun e => n1 (e ▸ hq)) (Same.refl _)⟩, List.nodup_cons.mpr ⟨n1, nd⟩, fun q hq => ?_⟩
    · rw [upd_ne (fun z => by rw [z, n2] at e; cases e)]; exact a2 _ _ e
    · rcases List.mem_cons.mp hq with rfl | hq
      · exact n2
      · exact a4 q hq
  | @dic p t ks xs vs hp hk h =>
    obtain ⟨n1, n2⟩ := own_there g k hp
    refine ⟨G, p :: S, fun q u e => ?_, ⟨[p], S, rfl, ⟨p, vs, rfl, rfl, upd_same, hk, h⟩, ownL.keep L S k (fun q hq => upd_ne fun e => n1 (e ▸ hq)) (Same.refl G)⟩, List.nodup_cons.mpr ⟨n1, nd⟩, fun q hq => ?_⟩
    · rw [upd_ne (fun z => by rw [z, n2] at e; cases e)]; exact g _ _ e
    · rcases List.mem_cons.mp hq with rfl | hq
      · exact n2
      · exact no q hq
  | @tup p xs vs hp h =>
    obtain ⟨n1, n2⟩ := own_there g k hp
    have gg : Same G (upd G p (.tup vs)) := fun q u e => by
      rw [upd_ne (fun z => by rw [z, n2] at e; cases e)]; exact e
    refine ⟨upd G p (.tup vs), S, fun q u e => ?_, ⟨[], S, rfl, ⟨rfl, p, vs, rfl, upd_same, Reps.mono gg _ _ h⟩, ownL.keep L S k (fun q hq => upd_ne fun e => n1 (e ▸ hq)) gg⟩, nd, fun q hq => ?_⟩
    · by_cases z : q = p
      · subst z; rw [upd_same] at e ⊢; exact e
      · rw [upd_ne z] at e ⊢; exact g _ _ e
    · rw [upd_ne (fun z : q = p => n1 (by rw [← z]; exact hq))]; exact no q hq
  | @rng p i j hp =>
    obtain ⟨n1, n2⟩ := own_there g k hp
    have gg : Same G (upd G p (.rng i j)) := fun q u e => by
      rw [upd_ne (fun z => by rw [z, n2] at e; cases e)]; exact e
    refine ⟨upd G p (.rng i j), S, fun q u e => ?_, ⟨[], S, rfl, ⟨rfl, p, rfl, upd_same⟩, ownL.keep L S k (fun q hq => upd_ne fun e => n1 (e ▸ hq)) gg⟩, nd, fun q hq => ?_⟩
    · by_cases z : q = p
      · subst z; rw [upd_same] at e ⊢; exact e
      · rw [upd_ne z] at e ⊢; exact g _ _ e
    · rw [upd_ne (fun z : q = p => n1 (by rw [← z]; exact hq))]; exact no q hq
end

/-! ### two-place operators -/
/-- the answer of a primitive, wished for -/
def Wish (C : CT) (K : PySem.W.Frag) (G H : Hp) (w : WO) (Q : VK) : Prop := ∃ P : O → Prop, w P ∧ ∀ o v H', P o → Res C K G H o v H' → Q v H'
def rW2 (C : CT) (K : PySem.W.Frag) (w : List D → WO) : R2 := fun x y H Q => ∃ G a b, Same G H ∧ Top C K H G a x ∧ Top C K H G b y ∧ Wish C K G H (w [a, b]) Q
theorem log2_lt {j : Int} (h0 : 0 < j) (h : j < 2 ^ 64 ∨ j.natAbs.log2 < 9000) : CDivW 0 j := by
  refine ⟨h0, ?_⟩
  rcases h with h | h
  · have : j.natAbs.log2 < 64 := by
      rw [Nat.log2_lt (by omega)]; omega
    omega
  · exact h
theorem tupS {C : CT} {K : PySem.W.Frag} {H G : Hp} {xs : List D} {v : V} (g : Same G H) (h : Rep C K G (.tup xs) v) : ∃ p vs, v = .ref p ∧ SqT K H p vs ∧ H p = some (.tup vs) ∧ Reps C K G xs vs := by
  obtain ⟨p, vs, e, h1, h2⟩ := h
  exact ⟨p, vs, e, .of (g _ _ h1), g _ _ h1, h2⟩
section
variable {X : Cx} {C : CT}
theorem opW {op : Operator} : OpR X (binaryOp op) (rW2 C X.K (wBop op)) := by
  intro pins s σ H x y v u Q I rx ry h
  obtain ⟨G, a, b, g, ha, hb, P, hw, hq⟩ := h
  unfold wBop at hw
  split at hw
  · rename_i e; cases e; cases ha; cases hb
    exact op_add pins s σ H _ _ v u Q I rx ry ⟨_, _, rfl, rfl, hq _ _ _ hw (.std rfl)⟩
  · rename_i e; cases e; cases ha; cases hb
    exact op_add_ib pins s σ H _ _ v u Q I rx ry ⟨_, _, rfl, rfl, hq _ _ _ hw (.std rfl)⟩
  · rename_i e; cases e
    obtain ⟨p, vs, rfl, h1, h2, h3⟩ := tupS g ha
    obtain ⟨q, ws, rfl, k1, k2, k3⟩ := tupS g hb
    refine op_catA pins s σ H _ _ v u Q I rx ry ⟨p, q, vs, ws, rfl, rfl, h1, k1, by rw [← h3.length, ← k3.length]; exact hw.1, fun e => ?_, fun _ e => ?_, fun _ _ r hr => ?_⟩
    · subst e
      have := h3.length
      have e2 := List.eq_nil_of_length_eq_zero this
      subst e2
      exact hq _ _ _ hw.2 (.std hb)
    · subst e
      have := k3.length
      have e2 := List.eq_nil_of_length_eq_zero this
      subst e2
      rw [List.append_nil] at hw
      exact hq _ _ _ hw.2 (.std ha)
    · exact hq _ _ _ hw.2 (.tup hr (h3.append k3))
  · rename_i e; cases e
    obtain ⟨p, vs, rfl, h2, h3⟩ := ha
    obtain ⟨q, ws, rfl, k2, k3⟩ := hb
    exact op_cat pins s σ H _ _ v u Q I rx ry ⟨p, q, vs, ws, rfl, rfl, h2, k2, by rw [← h3.length, ← k3.length]; exact hw.1, fun r hr => hq _ _ _ hw.2 (.lst hr (h3.append k3))⟩
  · rename_i e; cases e; cases ha; cases hb
    exact op_add_str pins s σ H _ _ v u Q I rx ry ⟨_, _, rfl, rfl, hw.1, hq _ _ _ hw.2 (.std rfl)⟩
  · rename_i e; cases e; cases ha; cases hb
    exact op_sub pins s σ H _ _ v u Q I rx ry ⟨_, _, rfl, rfl, hq _ _ _ hw (.std rfl)⟩
  · rename_i e; cases e; cases ha; cases hb
    rcases hw.1 with h | h | h
    · exact op_mul pins s σ H _ _ v u Q I rx ry ⟨_, _, rfl, rfl, .inl h, hq _ _ _ hw.2 (.std rfl)⟩
    · exact op_mul pins s σ H _ _ v u Q I rx ry ⟨_, _, rfl, rfl, .inr h, hq _ _ _ hw.2 (.std rfl)⟩
    · exact op_mulW pins s σ H _ _ v u Q I rx ry ⟨_, _, rfl, rfl, h, hq _ _ _ hw.2 (.std rfl)⟩
  · rename_i e; cases e
    obtain ⟨p, vs, rfl, h2, h3⟩ := ha
    cases hb
    refine op_rep pins s σ H _ _ v u Q I rx ry ⟨p, _, vs, rfl, rfl, h2, hw.1.1, hw.1.2.1, by rw [← h3.length]; exact hw.1.2.2, fun r hr => hq _ _ _ hw.2 (.lst hr ?_)⟩
    generalize Int.toNat _ = n
    induction n with
    | zero => rfl
    | succ n ih => rw [List.replicate_succ, List.replicate_succ, List.flatten_cons, List.flatten_cons]; exact h3.append ih
  · rename_i e; cases e; cases ha; cases hb
    exact op_fdivW pins s σ H _ _ v u Q I rx ry ⟨_, _, rfl, rfl, log2_lt hw.1.1 hw.1.2, hq _ _ _ hw.2 (.std rfl)⟩
  · rename_i e; cases e; cases ha; cases hb
    exact op_mod pins s σ H _ _ v u Q I rx ry ⟨_, _, rfl, rfl, hw.1, hq _ _ _ hw.2 (.std rfl)⟩
  · rename_i e; cases e; cases ha; cases hb
    exact op_pow pins s σ H _ _ v u Q I rx ry ⟨_, _, rfl, rfl, hw.1, hq _ _ _ hw.2 (.std rfl)⟩
  · rename_i e; cases e; cases ha; cases hb
    exact op_shl pins s σ H _ _ v u Q I rx ry ⟨_, _, rfl, rfl, hw.1, hq _ _ _ hw.2 (.std rfl)⟩
  · exact hw.elim
end
end VE
/-! VED: dicts -/
namespace VE
open PySem PySem.Spec PyProof.Rows L2
theorem toKey_inj : ∀ {a b : D}, isKey a = true → isKey b = true → toKey a = toKey b → a = b := by
  intro a b ha hb h
  cases a <;> first | (cases ha; done) | skip
  all_goals (cases b <;> first | (cases hb; done) | skip)
  all_goals first | (cases h; rfl; done) | (cases h; done)
theorem map_inj_on {α β : Type} {f : α → β} {p : α → Bool} (inj : ∀ {a b}, p a = true → p b = true → f a = f b → a = b) : ∀ {xs ys : List α}, xs.all p = true → ys.all p = true → xs.map f = ys.map f → xs = ys
  | [], [], _, _, _ => rfl
  | [], _ :: _, _, _, h => by simp at h
  | _ :: _, [], _, _, h => by simp at h
  | x :: xs, y :: ys, h1, h2, h => by
    simp only [List.all_cons, Bool.and_eq_true] at h1 h2
    simp only [List.map_cons, List.cons.injEq] at h
    rw [inj h1.1 h2.1 h.1, map_inj_on inj h1.2 h2.2 h.2]
theorem toKeyT_inj : ∀ {a b : D}, isKeyT a = true → isKeyT b = true → toKeyT a = toKeyT b → a = b := by
  intro a b ha hb h
  cases a <;> first | (cases ha; done) | skip
  cases b <;> first | (cases hb; done) | skip
  rename_i xs ys
  have e : xs = ys := map_inj_on (f := toKey) (p := isKey) toKey_inj ha hb h
  rw [e]
section
variable {C : CT} {K : PySem.W.Frag} {G : Hp}
section
variable {κ : Type} [DecidableEq κ] {f : D → κ} {p : D → Bool}
theorem valV_dget (inj : ∀ {a b}, p a = true → p b = true → f a = f b → a = b) {k : D} (hk : p k = true) : ∀ {ks xs : List D} {vs : List V}, ks.all p = true → ks.length = xs.length → Reps C K G xs vs →
    (match dget ks xs k with
    | some x => ∃ w, valV ((ks.map f).zip vs) (f k) = some w ∧ Rep C K G x w
    | none => valV ((ks.map f).zip vs) (f k) = none)
  | [], [], vs, _, _, _ => by simp [dget, valV]
  | [], _ :: _, _, _, h, _ => by simp at h
  | _ :: _, [], _, _, h, _ => by simp at h
  | q :: ks, x :: xs, vs, ha, hl, ⟨v, r, e, h1, h2⟩ => by
    subst e
    simp only [List.all_cons, Bool.and_eq_true] at ha
    unfold dget
    by_cases z : q = k
    · subst z
      simp only [if_pos rfl, List.map_cons, List.zip_cons_cons]
      exact ⟨v, valV_pos rfl, h1⟩
    · rw [if_neg z, List.map_cons, List.zip_cons_cons, valV_neg (fun e => z (inj ha.1 hk e))]
      exact valV_dget inj hk ha.2 (by simpa using hl) h2
theorem valV_in (inj : ∀ {a b}, p a = true → p b = true → f a = f b → a = b) {k : D} (hk : p k = true) : ∀ {ks : List D} {vs : List V}, ks.all p = true → ks.length = vs.length → (valV ((ks.map f).zip vs) (f k)).isSome = decide (k ∈ ks)
  | [], [], _, _ => rfl
  | [], _ :: _, _, h => by simp at h
  | _ :: _, [], _, h => by simp at h
  | q :: ks, v :: vs, ha, hl => by
    simp only [List.all_cons, Bool.and_eq_true] at ha
    by_cases z : q = k
    · subst z
      rw [List.map_cons, List.zip_cons_cons, valV_pos rfl]
      simp
    · rw [List.map_cons, List.zip_cons_cons, valV_neg (fun e => z (inj ha.1 hk e)), valV_in inj hk ha.2 (by simpa using hl)]
      have : (k ∈ q :: ks) = (k ∈ ks) := by simp [List.mem_cons, Ne.symm z]
      simp only [this]
theorem any_key (inj : ∀ {a b}, p a = true → p b = true → f a = f b → a = b) {k : D} (hk : p k = true) {ks : List D} {vs : List V} (h : ks.all p = true) (hl : ks.length = vs.length) : (((ks.map f).zip vs).any fun kv => decide (kv.1 = f k)) = decide (k ∈ ks) := by
  rw [valV_any, valV_in inj hk h hl]
theorem putK_dput (inj : ∀ {a b}, p a = true → p b = true → f a = f b → a = b) {k : D} (hk : p k = true) {ks xs : List D} {vs : List V} {x : D} {v : V} (ha : ks.all p = true) (hl : ks.length = xs.length) (hv : Reps C K G xs vs) (hx : Rep C K G x v) :
    ∃ ws, putK ((ks.map f).zip vs) (f k) v = ((dput ks xs k x).1.map f).zip ws ∧ Reps C K G (dput ks xs k x).2 ws ∧ (dput ks xs k x).1.all p = true ∧ (dput ks xs k x).1.length = (dput ks xs k x).2.length := by
  have hl2 : ks.length = vs.length := hl.trans hv.length
  unfold putK dput
  rw [any_key inj hk ha hl2]
  by_cases z : k ∈ ks
  · rw [if_pos (by simpa using z), if_pos z]
    refine ⟨List.zipWith (fun q w => if q = k then v else w) ks vs, ?_, ?_, ha, by simp [hl]⟩
    · clear z
      induction ks generalizing vs xs with
      | nil => rfl
      | cons q ks ih =>
        cases vs with
        | nil => simp at hl2
        | cons w vs =>
          cases xs with
          | nil => simp at hl
          | cons y xs =>
            simp only [List.all_cons, Bool.and_eq_true] at ha
            obtain ⟨w', r', e, h1, h2⟩ := hv
            cases e
            simp only [List.map_cons, List.zip_cons_cons, List.zipWith_cons_cons, List.cons.injEq]
            refine ⟨?_, ih ha.2 (by simpa using hl) h2 (by simpa using hl2)⟩
            by_cases e : q = k
            · rw [if_pos (by rw [e]), if_pos e]
            · rw [if_neg (fun h => e (inj ha.1 hk h)), if_neg e]
    · clear z ha
      induction ks generalizing vs xs with
      | nil => rfl
      | cons q ks ih =>
        cases vs with
        | nil => simp at hl2
        | cons w vs =>
          cases xs with
          | nil => simp at hl
          | cons y xs =>
            obtain ⟨w', r', e, h1, h2⟩ := hv
            cases e
            simp only [List.zipWith_cons_cons]
            refine ⟨_, _, rfl, ?_, ih (by simpa using hl) h2 (by simpa using hl2)⟩
            by_cases e : q = k
            · rw [if_pos e, if_pos e]; exact hx
            · rw [if_neg e, if_neg e]; exact h1
  · rw [if_neg (by simpa using z), if_neg z]
    refine ⟨vs ++ [v], ?_, hv.append (.one hx), by rw [List.all_append, ha]; simp [hk], by simp [hl]⟩
    rw [List.map_append, List.zip_append (by simpa using hl2)]
    rfl
end
theorem keysT {t : Bool} {k : D} : kOk t k = true ↔ (t = false ∧ isKey k = true) ∨ (t = true ∧ isKeyT k = true) := by
  cases t <;> simp [kOk]
theorem key_V {k : D} {y : V} (h : isKey k = true) (r : Rep C K G k y) : y = kV (toKey k) := by
  cases k <;> first | (cases h; done) | exact r
theorem keys_V : ∀ {xs : List D} {vs : List V}, xs.all isKey = true → Reps C K G xs vs → vs = (xs.map toKey).map kV
  | [], _, _, h => h
  | x :: xs, _, ha, ⟨v, r, e, h1, h2⟩ => by
    simp only [List.all_cons, Bool.and_eq_true] at ha
    subst e
    rw [key_V ha.1 h1, keys_V ha.2 h2]; rfl
end
section
variable {C : CT} {K : PySem.W.Frag} {H G : Hp}
/-- what stands at a key -/
theorem top_dget {t : Bool} {ks xs : List D} {k : D} {x y : V} (g : Same G H) (hd : Top C K H G (.dic t ks xs) x) (hk : Top C K H G k y) (ok : kOk t k = true) : ∃ a o, x = .ref a ∧ DGet H a y o ∧ o.isSome = decide (k ∈ ks) ∧ IsD H a ∧ (match dget ks xs k with
    | some z => ∃ w, o = some w ∧ Rep C K G z w
    | none => o = none) := by
  obtain ⟨p, vs, rfl, h1, ⟨h2, h3⟩, h4⟩ := hd
  have hl := h3.trans h4.length
  rcases keysT.mp ok with ⟨rfl, hk1⟩ | ⟨rfl, hk1⟩
  · have e : y = kV (toKey k) := by cases k <;> first | (cases hk1; done) | exact hk
    subst e
    refine ⟨p, _, rfl, .inl ⟨_, toKey k, h1, rfl, rfl⟩, valV_in toKey_inj hk1 h2 hl, .inl ⟨_, h1⟩, ?_⟩
    have := valV_dget (C := C) (K := K) (G := G) (f := toKey) toKey_inj hk1 h2 h3 h4
    cases e : dget ks xs k with
    | none => rw [e] at this; exact this
    | some z => rw [e] at this; exact this
  · cases k <;> first | (cases hk1; done) | skip
    rename_i zs
    obtain ⟨b, ws, rfl, k1, k2⟩ := hk
    have e := keys_V (show zs.all isKey = true from hk1) k2
    refine ⟨p, _, rfl, .inr ⟨_, zs.map toKey, b, h1, rfl, ?_, rfl⟩, valV_in (f := toKeyT) toKeyT_inj hk1 h2 hl, .inr ⟨_, h1⟩, ?_⟩
    · rw [g _ _ k1, e]
    · have := valV_dget (C := C) (K := K) (G := G) (f := toKeyT) toKeyT_inj hk1 h2 h3 h4
      cases e : dget ks xs (.tup zs) with
      | none => rw [e] at this; exact this
      | some z => rw [e] at this; exact this
end
end VE
/-! VDI: walks over the pairs of a dict whose keys are tuples; dict(d) of such a dict -/
namespace VDI
open PySem PyProof.Rows PySem.Spec L2
/-- the pairs, each a new tuple of the key's own tuple and the value -/
def ItiT (d : Addr) (o : Obj) (kvs : List (List Key × V)) : It where
  go := fun i H => H d = some (.frz o (.dT kvs)) ∧ i < kvs.length
  yld := fun i H x H' => ∃ (T : Addr) (k : List Key) (v : V) (q : Addr), kvs[i]? = some (k, v) ∧ x = .ref T ∧ H q = some (.tup (k.map kV)) ∧ H T = none ∧ H' = upd H T (.tup [.ref q, v])
  stop := fun i H => H d = some (.frz o (.dT kvs)) ∧ kvs.length ≤ i
/-- an entry of the table is a pair of the dict -/
def Fits (H : Hp) (p : List Key × V) (en : DictEntry) : Prop := RelV p.2 en.val ∧ ∃ q, en.key = .ref q ∧ H q = some (.tup (p.1.map kV))
/-- what the heap holds for a locked dict -/
structure Held (H : Hp) (h : Heap) (d : Addr) (o : Obj) (kvs : List (List Key × V)) (es : Array DictEntry) (ep : Nat) : Prop where
  own : (d == sysModules) = false
  raw : h.DictRaw d es ep
  dat : h.get? d = some o ∧ o.data = .dict es ep
  many : es.size = kvs.length
  fit : ∀ (i : Nat) (p : List Key × V), kvs[i]? = some p → ∃ en : DictEntry, es[i]? = some en ∧ Fits H p en
section
variable {X : Cx} {pins : List (Addr × Obj)} {σ : L2.St} {H : Hp} {s : Shared} {d : Addr} {o : Obj} {kvs : List (List Key × V)}
theorem held (I : Inv X pins σ H s) (h : H d = some (.frz o (.dT kvs))) : ∃ es ep, Held H s.heap d o kvs es ep := by
  have all := I.hok d _ h
  have e1 := all.1
  obtain ⟨n, xs, pr, o2, es, ep, e2, ex, e3, e4, -⟩ := all.2.2
  obtain rfl : o = o2 := Option.some.inj (e1.symm.trans e2)
  refine ⟨es, ep, n, ⟨o, e1, ex, e3⟩, ⟨e1, e3⟩, (size_of_entries e4).trans (Paired.length pr).symm, fun i p e => ?_⟩
  obtain ⟨x, hx, -, k2, k3⟩ := paired_get pr e
  exact ⟨_, by rw [entry_at e4 i, hx]; rfl, k3, _, rfl, k2⟩
theorem Held.alike {es es' : Array DictEntry} {ep ep' : Nat} {h : Heap} (a : Held H h d o kvs es ep) (e : o.data = .dict es' ep') : es' = es ∧ ep' = ep := by
  have := a.dat.2.symm.trans e
  cases this
  exact ⟨rfl, rfl⟩
end
/-- the iterator's own turns -/
theorem turn_pairs {P : Program} {w : World} {K : PySem.W.Frag} {d : Addr} {o : Obj} {es : Array DictEntry} {ep : Nat} {kvs : List (List Key × V)} {elts : List Expr} {kk : Nat} {tpos : Pos} (it : Addr) (hod : o.data = .dict es ep) :
    Turn P w K (.Tuple elts kk tpos) (ItiT d o kvs) [it] it (fun i h => ∃ a b, IsItemIter h it d i kvs.length ep a b) where
  mem := List.mem_singleton_self _
  obj := fun i h ⟨a, b, e⟩ c hc => (List.mem_singleton.mp hc) ▸ ⟨_, e, fun v z => nomatch z⟩
  keep := fun i h h' ⟨a, b, e⟩ k => ⟨a, b, k it (List.mem_singleton_self _) _ e⟩
  self := fun A i s Q E ⟨a, b, e⟩ h => PySem.W.kcp_self e h
  done := by
    rintro X rfl rfl rfl hc i pins s σ H E I hf ⟨a, b, e⟩ ⟨hd, hi⟩
    obtain ⟨es', ep', D⟩ := held I hd
    obtain ⟨rfl, rfl⟩ := D.alike hod
    rw [← D.many] at e
    obtain ⟨f0, f1, -, f3, f4, f5⟩ := hf it (List.mem_singleton_self _)
    exact wpAny_pyNext_items_end_raw (I.ok.hd hc) e D.raw (D.many ▸ hi) fun h' k => ⟨rfl, I.turned (t' := s.toks) k f0 f1 f3 f4 f5⟩
  item := by
    rintro X rfl rfl rfl hc i pins s σ H E I hf ⟨a, b, e⟩ ⟨hd, hi⟩
    obtain ⟨es', ep', D⟩ := held I hd
    obtain ⟨rfl, rfl⟩ := D.alike hod
    have hl : i < es.size := D.many ▸ hi
    obtain ⟨en, e5, rv, q, kq, hq⟩ := D.fit i kvs[i] (List.getElem?_eq_getElem hi)
    obtain rfl : es[i] = en := Option.some.inj ((Array.getElem?_eq_getElem hl).symm.trans e5)
    rw [← D.many] at e
    have young : it ≠ s.heap.objs.size := Nat.ne_of_lt (Heap.lt_size e)
    refine wpAny_pyNext_items_item_raw e D.raw hl fun h' out tup _ old => ⟨_, rfl, wpAny_letOwnedTupleGo_items (s := { s with heap := h' }) out fun h2 in2 sb => ?_⟩
    have keep : ∀ c u, c ∉ [it] → s.heap.get? c = some u → h2.get? c = some u := fun c u n z => by
      have n : c ≠ it := fun e => n (e ▸ List.mem_singleton_self _)
      exact (sb.2 c n).trans (old c u n z)
    have fresh := I.hok.fresh (Nat.le_refl s.heap.objs.size)
    refine ⟨.ref s.heap.objs.size, upd H s.heap.objs.size (.tup [.ref q, kvs[i].2]), I.turnedNew (t' := s.toks) (ch := [it]) keep hf (Nat.le_refl _) ⟨by show 2 ≤ sizeLine; decide, [es[i].key, es[i].val], ?_, _, (sb.2 _ young.symm).trans tup, rfl, _, rfl⟩, rfl,
      ⟨_, kvs[i].1, kvs[i].2, q, List.getElem?_eq_getElem hi, rfl, hq, fresh, rfl⟩, ⟨_, _, D.many ▸ in2⟩, fun c hc => ?_⟩
    · exact .cons (show es[i].key = Value.ref q from kq) (.cons rv .nil)
    · obtain rfl := List.mem_singleton.mp hc
      rw [upd_ne young]
      exact (hf c hc).1
/-- for k, v in d.items(), d's keys tuples; d is locked from now on -/
def iPairs (td : TE) : TI := fun σ H R => td σ H fun x H1 => ∃ d kvs, x = .ref d ∧ ((H1 d = some (.dT kvs) ∧ ∀ o, R (ItiT d o kvs) (upd H1 d (.frz o (.dT kvs)))) ∨ ∃ o, H1 d = some (.frz o (.dT kvs)) ∧ R (ItiT d o kvs) H1)
theorem pi_pairs {X : Cx} {e : Expr} {td : TE} {apos cpos : Pos} {elts : List Expr} {kk : Nat} {tpos : Pos} (he : PE X e td) (hbase : attributeBase e "items" X.env (eval e X.env) = eval e X.env) (hline : (apos.endLine == cpos.line) = true) :
    PI X (.Tuple elts kk tpos) (.Call (.Attribute e "items" apos) [] [] cpos) (iPairs td) where
  run := fun pins s σ H R I h => by
    refine wpAny_Call_method (T := "dict") hbase rfl hline F.plainAttrs_dict F.slot_dict_items F.type_dict_items (thn (he.run pins s σ H _ I h) ?_)
    rintro _ s1 ⟨_, H1, I1, rx, d, kvs, rfl, q⟩
    cases rx
    have : ∃ o H2, Inv X pins σ H2 s1 ∧ H2 d = some (.frz o (.dT kvs)) ∧ R (ItiT d o kvs) H2 := q.elim
      (fun ⟨hd, q⟩ => let ⟨o, I2⟩ := I1.lock hd True.intro; ⟨o, _, I2, upd_same, q o⟩) fun ⟨o, hd, q⟩ => ⟨o, H1, I1, hd, q⟩
    obtain ⟨o, H2, I2, hd, q⟩ := this
    obtain ⟨es, ep, D⟩ := held I2 hd
    obtain ⟨o', r1, r2, r3⟩ := id D.raw
    refine ⟨D.raw.typeIs, fun b z => ⟨o', Value.ref.inj z ▸ r1, r2.2.1⟩, method_meetsIn F.slot_dict_items F.entry_dict_items rfl (PySem.evalArgs_none ⟨rfl, D.raw.typeIs, F.args_dict_items_1 _, _, meets_dict_items_raw d D.own, ⟨es, ep, D.raw⟩, ?_⟩)⟩
    refine wpAny_pyIter_items_raw (ep := ep) ⟨_, Heap.get?_push_size s1.heap rfl, rfl, rfl⟩ (D.raw.push _) (pi_one (tk := s1.toks) (I2.kept (t' := s1.toks) fun b ob => Heap.get?_push_of_some _) _ (turn_pairs _ D.dat.2) ⟨.none, .none, ?_⟩ q)
    exact D.many ▸ Heap.get?_push_size _ rfl
/-! ### dict(d) -/
/-- keys with their tuples -/
theorem each {H : Hp} {l : List (List Key × V)} {m : List (List Key × Addr × Value)} (r : KT H l m) : (∀ x ∈ m, H x.2.1 = some (.tup (x.1.map kV))) ∧ m.map (·.1) = l.map (·.1) := by
  induction r with
  | nil => exact ⟨fun x h => (List.not_mem_nil h).elim, rfl⟩
  | cons h t ih => exact ⟨List.forall_mem_cons.mpr ⟨by rw [← h.1]; exact h.2.1, ih.1⟩, by rw [List.map_cons, List.map_cons, ih.2, h.1]⟩
theorem copyT {prog : Program} {w : World} {K : Type} [DecidableEq K] {knd : HeapKind prog w K} {A : Around} {E : Value → Shared → Prop} {s : Shared} {o : Addr} {more : List (K × Addr × Value)} {Q : Value → Shared → Prop} (room : knd.room A.in1.in1) (plain : (o == sysModules) = false)
    (at_ : s.heap.DictOfH knd o more) (keys : ∀ x ∈ more, knd.is (s.heap.push { cls := .type "dict", data := .dict #[] }) x.1 x.2.1 ∧ s.TypeIs (.ref x.2.1) "tuple") (hash : (more.map fun x => knd.hash x.1).Nodup) (few : more.length ≤ sizeLine)
    (h : ∀ h', h'.DictOfH knd s.heap.objs.size more → Heap.SameBut s.heap.objs.size (s.heap.push { cls := .type "dict", data := .dict #[] }) h' → Q (.ref s.heap.objs.size) { s with heap := h' }) :
    wpAny (model prog w) A (call (.type "dict") [.ref o]) Q E s := by
  obtain ⟨oo, es, ep, g1, g2, g3, g4, g5, g6⟩ := id at_
  have new := Heap.DictOfH.new (knd := knd) s.heap
  have old : (s.heap.push { cls := .type "dict", data := .dict #[] }).DictOfH knd o more := ⟨oo, es, ep, Heap.get?_push_of_some _ g1, g2, g3, g4, fun x hx => (keys x hx).1, g6⟩
  refine callType_codes (Q₁ := fun a b => a = .ref s.heap.objs.size ∧ b = { s with heap := s.heap.push { cls := .type "dict", data := .dict #[] } }) F.kt_called_dict (F.kt_typeCall_dict_1 _) F.entry_dict_init (kt_code_dict_new _ ⟨rfl, rfl⟩) ?_
  rintro _ _ ⟨rfl, rfl⟩
  refine ⟨new.typeIs, F.args_dict_init_2 _ _, ?_⟩
  have ne : s.heap.objs.size ≠ o := (Nat.ne_of_lt (Heap.lt_size g1)).symm
  simp only [Builtin.«dict.__init__», Builtin.Dict.selfAndRest]
  refine wpAny_bind (wpAny_bind (wpAny_notOrdered_dict new.typeIs (wpAny_pure ?_)))
  refine updateFrom_dictH .none room ne plain new old (.inr ⟨fun x hx => ?_, hash⟩) (by simpa using few) fun h' a _ c => ⟨rfl, h h' (storedAllH_nil_of_nodup more g6 ▸ a) c⟩
  obtain ⟨ob, e1, e2⟩ := (keys x hx).2
  exact ⟨ob, Heap.get?_push_of_some _ e1, e2⟩
section
variable {X : Cx}
theorem call_dictT (hu : X.A.units + 70 < cLine) : CallR X (.type "dict") (fun xs H Q => ∃ a kvs, xs = [.ref a] ∧ Rd H a (.dT kvs) ∧ (kvs.map fun x => tupleKeyHash (mixKind X.prog X.w) x.1).Nodup ∧ ∀ p, H p = none → Q (.ref p) (upd H p (.dT kvs))) := by
  rintro pins s σ H _ us Q I r ⟨a, kvs, rfl, e, hash, q⟩
  obtain ⟨u, rfl, rx⟩ := r.one
  cases rx
  obtain ⟨few, plain, ks, pr, dd⟩ := dt_rd I.hok e
  obtain ⟨e1, e2⟩ := each pr
  have one := Paired.length pr
  have I2 : Inv X pins σ H { s with heap := s.heap.push { cls := .type "dict", data := .dict #[] } } := I.kept (t' := s.toks) fun b ob => Heap.get?_push_of_some _
  have hash' : (ks.map fun x => (tupleKind (mixKind X.prog X.w)).hash x.1).Nodup := by
    have := congrArg (List.map (tupleKeyHash (mixKind X.prog X.w))) e2
    simp only [List.map_map] at this
    show (ks.map (tupleKeyHash (mixKind X.prog X.w) ∘ fun x => x.1)).Nodup
    rw [this]
    exact hash
  refine copyT (knd := tupleKind (mixKind X.prog X.w)) (show X.A.units + 2 < cLine by omega) plain dd (fun x hx => ⟨key_of I2.hok (e1 x hx), ?_⟩) hash' (one ▸ few) fun h' dd' hb => ?_
  · have all := I.hok _ _ (e1 x hx)
    obtain ⟨_, its, _, o, h1, h2, _⟩ := all
    exact ⟨o, h1, h2⟩
  · have fresh := I.hok.fresh (Nat.le_refl s.heap.objs.size)
    obtain ⟨oo, es, ep, g1, g2, g3, g4, _, g6⟩ := dd'
    exact ⟨.ref s.heap.objs.size, _, I.laid (a := s.heap.objs.size) (o := .dT kvs) (t' := s.toks) (fun b ob z => (hb.2 b (Nat.ne_of_lt (Heap.lt_size z))).trans (Heap.get?_push_of_some _ z)) (Nat.le_refl _)
      ⟨few, beq_eq_false_iff_ne.mpr (Nat.ne_of_lt I.big).symm, ks, pr.keeps fun b ys z => by rw [upd_ne (ne_of_none z fresh)]; exact z, oo, es, ep, g1, g2, g3, g4, g6⟩, rfl, q _ fresh⟩
theorem call_dictK : CallR X (.type "dict") (fun xs H Q => ∃ a kvs, xs = [.ref a] ∧ Rd H a (.dK kvs) ∧ ∀ p, H p = none → Q (.ref p) (upd H p (.dK kvs))) := by
  rintro pins s σ H _ us Q I r ⟨a, kvs, rfl, e, q⟩
  obtain ⟨u, rfl, rx⟩ := r.one
  cases rx
  exact d_copyOf I e fun p s' n I' => ⟨.ref p, _, I', rfl, q p n⟩
end
end VDI
/-! VEZ: zip of any number of tuples, for any target -/
namespace VZ
open PySem
/-- two rows alike in length, related place by place -/
def Al {α β : Type} (P : α → β → Prop) : List α → List β → Prop
  | [], [] => True
  | a :: as, b :: bs => P a b ∧ Al P as bs
  | _, _ => False
section
variable {α β : Type} {P P' : α → β → Prop}
theorem Al.len : ∀ {as : List α} {bs : List β}, Al P as bs → as.length = bs.length
  | [], [], _ => rfl
  | _ :: _, _ :: _, h => congrArg Nat.succ h.2.len
theorem Al.get : ∀ {as : List α} {bs : List β} {j : Nat} {a : α}, Al P as bs → as[j]? = some a → ∃ b, bs[j]? = some b ∧ P a b
  | [], [], _, _, _, e => by simp at e
  | x :: _, y :: _, 0, _, h, e => ⟨y, rfl, by simp at e; exact e ▸ h.1⟩
  | _ :: as, _ :: bs, j + 1, a, h, e => by
    obtain ⟨b, e1, e2⟩ := Al.get (j := j) h.2 (by simpa using e)
    exact ⟨b, by simpa using e1, e2⟩
theorem Al.imp (f : ∀ a b, P a b → P' a b) : ∀ {as : List α} {bs : List β}, Al P as bs → Al P' as bs
  | [], [], h => h
  | a :: _, b :: _, h => ⟨f a b h.1, h.2.imp f⟩
end
theorem of_drop {α : Type} {L : List α} {x : α} {rest : List α} {j : Nat} (h : x :: rest = L.drop j) : L[j]? = some x ∧ rest = L.drop (j + 1) :=
  ⟨by have := congrArg (fun l : List α => l[0]?) h; simpa using this.symm, by have := congrArg List.tail h; simpa using this⟩
abbrev ZRec (f0 : Value) (f : Bool) (TI TO : Addr) : Obj := { cls := .type "zip", dict := none, data := .fields #[f0, .bool f, .bool false, .ref TI, .ref TO], slots := #[] }
abbrev TupO (vs : List Value) : Obj := { cls := .type "tuple", data := .seq vs.toArray }
/-- n references, one behind another -/
def refsAt (N n : Nat) : List Value := (List.range n).map fun j => .ref (N + j)
theorem refsAt_get {N n j : Nat} {v : Value} (h : (refsAt N n)[j]? = some v) : j < n ∧ v = .ref (N + j) := by
  unfold refsAt at h
  rw [List.getElem?_map] at h
  by_cases z : j < n
  · rw [List.getElem?_range z] at h
    exact ⟨z, (Option.some.inj h).symm⟩
  · rw [List.getElem?_eq_none (by simpa using z)] at h
    cases h
/-- a zip of the tuples at src whose things lie from N on, ahead of turn i -/
structure Zs (N : Nat) (src : List Addr) (i : Nat) (h : Heap) : Prop where
  own : ∃ f0 f, h.get? (N + src.length + 2) = some (ZRec f0 f (N + src.length) (N + src.length + 1)) ∧ (f0 = .none ∨ ∃ T : Addr, f0 = rawInt T)
  its : h.get? (N + src.length) = some (TupO (refsAt N src.length))
  out : ∃ as : List Value, as.length = src.length ∧ h.get? (N + src.length + 1) = some (TupO as)
  pos : ∀ j l, src[j]? = some l → h.IsTupleIter (N + j) l i
/-- .. amid turn i: the first j of them have been asked -/
structure Zd (N : Nat) (src : List Addr) (i j : Nat) (h0 h : Heap) : Prop where
  sz : h.objs.size = h0.objs.size
  old : ∀ c o, (c < N ∨ N + src.length + 2 < c) → h0.get? c = some o → h.get? c = some o
  its : h.get? (N + src.length) = some (TupO (refsAt N src.length))
  past : ∀ m l, m < j → src[m]? = some l → h.IsTupleIter (N + m) l (i + 1)
  yet : ∀ m l, j ≤ m → src[m]? = some l → h.IsTupleIter (N + m) l i
theorem getlt {α : Type} {l : List α} {j : Nat} {a : α} (h : l[j]? = some a) : j < l.length := by
  rcases Nat.lt_or_ge j l.length with z | z
  · exact z
  · rw [List.getElem?_eq_none z] at h; cases h
theorem Zd.start {N : Nat} {src : List Addr} {i : Nat} {h : Heap} (z : Zs N src i h) : Zd N src i 0 h h := ⟨rfl, fun _ _ _ e => e, z.its, fun _ _ n => (Nat.not_lt_zero _ n).elim, fun m l _ e => z.pos m l e⟩
theorem iter_up {h h' : Heap} {a b : Addr} {l : Addr} {k : Nat} (x : h.IsTupleIter a l k) (s : Heap.SameBut b h h') (n : @Ne Nat a b) : h'.IsTupleIter a l k := x.at fun o e => (s.2 a n).trans e
/-- the next one is asked -/
theorem Zd.ask {N : Nat} {src : List Addr} {i j : Nat} {h0 h h' : Heap} {l : Addr} (d : Zd N src i j h0 h) (hl : src[j]? = some l) (hi : h'.IsTupleIter (N + j) l (i + 1)) (sb : Heap.SameBut (N + j) h h') : Zd N src i (j + 1) h0 h' := by
  have jl := getlt hl
  refine ⟨sb.1.trans d.sz, fun c o z e => (sb.2 c (show @Ne Nat c (N + j) by omega)).trans (d.old c o z e), (sb.2 _ (show @Ne Nat (N + src.length) (N + j) by omega)).trans d.its, fun m k hm e => ?_, fun m k hm e => iter_up (d.yet m k (by omega) e) sb (by omega)⟩
  rcases Nat.lt_or_ge m j with z | z
  · exact iter_up (d.past m k z e) sb (by omega)
  · obtain rfl : m = j := by omega
    rw [hl] at e
    cases e
    exact hi
/-- its row or its record is written -/
theorem Zd.own {N : Nat} {src : List Addr} {i j : Nat} {h0 h h' : Heap} {b : Addr} (d : Zd N src i j h0 h) (hb : @Eq Nat b (N + src.length + 1) ∨ @Eq Nat b (N + src.length + 2)) (sb : Heap.SameBut b h h') : Zd N src i j h0 h' :=
  ⟨sb.1.trans d.sz, fun c o z e => (sb.2 c (show @Ne Nat c b by omega)).trans (d.old c o z e), (sb.2 _ (show @Ne Nat (N + src.length) b by omega)).trans d.its,
    fun m k hm e => iter_up (d.past m k hm e) sb (by have := getlt e; omega), fun m k hm e => iter_up (d.yet m k hm e) sb (by have := getlt e; omega)⟩
/-- what the sources hold at turn i -/
abbrev Srcs (N : Nat) (h : Heap) (i : Nat) : List Addr → List (Option Value) → Prop := Al fun l o => (l : Nat) < N ∧ ∃ items, h.IsTuple l items ∧ items[i]? = o
section
variable {prog : Program} {w : World} {A : Around} {E : Value → Shared → Prop} {s : Shared} {N i j : Nat} {src : List Addr} {os : List (Option Value)} {h0 : Heap}
/-- one of the iterators is asked -/
theorem ask {l : Addr} {o : Option Value} {Q : Value → Shared → Prop} (hh : A.handled = none) (S : Srcs N h0 i src os) (d : Zd N src i j h0 s.heap) (hl : src[j]? = some l) (ho : os[j]? = some o)
    (good : ∀ v h', o = some v → Zd N src i (j + 1) h0 h' → Heap.SameBut (N + j) s.heap h' → Q v { s with heap := h' })
    (bad : o = none → ∀ h' e, Heap.ExtBut (N + j) s.heap h' → (∃ ob, h'.get? e = some ob ∧ ob.cls = .type "StopIteration") → E (.ref e) { s with heap := h' }) :
    wpAny (model prog w) A (Builtin.SmallTypes.nextOf (.ref (N + j))) Q E s := by
  obtain ⟨o', e1, ll, items, ⟨ob, k1, k2⟩, hx⟩ := S.get hl
  rw [ho] at e1
  cases e1
  have there : s.heap.IsTuple l items := ⟨ob, d.old l ob (.inl ll) k1, k2⟩
  cases o with
  | none => exact RZ.nextOf_tuple_end hh (d.yet j l (Nat.le_refl _) hl) there hx (bad rfl)
  | some v => exact RZ.nextOf_tuple_item (d.yet j l (Nat.le_refl _) hl) there hx fun h' a b => good v h' rfl (d.ask hl a b) b
/-- a place of the row is written -/
theorem put {T : Addr} {xs : List Value} {x : Value} {k : Nat} {Q : Unit → Shared → Prop} (hT : s.heap.get? T = some (TupO xs)) (hn : xs.length ≤ 60)
    (h : ∀ h', h'.get? T = some (TupO (xs.set k x)) → Heap.SameBut T s.heap h' → Q () { s with heap := h' }) : wpAny (model prog w) A (updateSeq T (·.setIfInBounds k x)) Q E s := by
  have z : (64 : Nat) ≤ sizeLine := by rw [sizeLine_eq]; omega
  refine wpAny_updateSeq hT rfl (h _ ?_ (.update ..)) (by simp only [List.size_toArray]; omega) (by simp only [Array.size_setIfInBounds, List.size_toArray]; omega)
  rw [Heap.get?_update_self _ hT rfl]
  simp [Obj.mapSeq]
theorem alive {a : Addr} {Q : Option Obj → Shared → Prop} (h : Q (s.heap.get? a) s) : wpAny (model prog w) A (loadIfAlive a) Q E s := fun _ _ _ => h
/-- whether the tuple that was handed out last is still somebody's -/
theorem free {z : Addr} {f0 : Value} {f : Bool} {TI TO : Addr} {Q : Bool → Shared → Prop} (hz : s.heap.get? z = some (ZRec f0 f TI TO)) (hf : f0 = .none ∨ ∃ T : Addr, f0 = rawInt T) (yes : Q true s)
    (no : ∀ h' f', h'.get? z = some (ZRec f0 f' TI TO) → Heap.SameBut z s.heap h' → Q false { s with heap := h' }) : wpAny (model prog w) A (Builtin.SmallTypes.ownedTupleIsFree (.ref z)) Q E s := by
  rcases hf with rfl | ⟨T, rfl⟩
  · simp only [Builtin.SmallTypes.ownedTupleIsFree]
    exact wpAny_bind (wpAny_field hz rfl (x := .none) rfl (wpAny_pure yes))
  · cases e : s.heap.get? T with
    | some o => exact wpAny_tupleHeld_zip hz e fun h' => no h' true
    | none =>
      simp only [Builtin.SmallTypes.ownedTupleIsFree]
      refine wpAny_bind (wpAny_field hz rfl (x := rawInt T) rfl (wpAny_bind (m := loadIfAlive _) ?_))
      refine alive ?_
      rw [show (T : Int).toNat = T from Int.toNat_natCast T, e]
      exact wpAny_pure yes
end
section
variable {prog : Program} {w : World} {A : Around} {E : Value → Shared → Prop} {s : Shared} {N i : Nat} {src : List Addr} {os : List (Option Value)}
/-- what lies outside of the zip's own things stays -/
abbrev Kept (N n : Nat) (h h' : Heap) : Prop := ∀ c o, (c < N ∨ N + n + 2 < c) → h.get? c = some o → h'.get? c = some o
/-- a turn with the row of old -/
theorem turnFree {Q : Value → Shared → Prop} (hh : A.handled = none) (z : Zs N src i s.heap) (S : Srcs N s.heap i src os) (h0 : 0 < src.length) (h60 : src.length ≤ 60)
    (go : ∀ vs h', os = vs.map some → vs.length = src.length → Zs N src (i + 1) h' → h'.get? s.heap.objs.size = some (TupO vs) → Kept N src.length s.heap h' → Q (.ref s.heap.objs.size) { s with heap := h' })
    (no : none ∈ os → ∀ h' e, Kept N src.length s.heap h' → (∃ ob, h'.get? e = some ob ∧ ob.cls = .type "StopIteration") → E (.ref e) { s with heap := h' }) :
    wpAny (model prog w) A (Builtin.«zip.__next__» ⟨[.ref (N + src.length + 2)], []⟩) (fun fin s' => ∃ v, fin = .done (.ret v) ∧ Q v s') E s := by
  obtain ⟨f0, f, hz, hf⟩ := z.own
  show wpAny _ _ (field (.ref (N + src.length + 2)) 2 >>= _) _ _ _
  refine wpAny_bind (wpAny_field hz rfl (x := .bool false) rfl ?_)
  show wpAny _ _ (field (.ref (N + src.length + 2)) 3 >>= _) _ _ _
  refine wpAny_bind (wpAny_field hz rfl (x := .ref (N + src.length)) rfl (wpAny_bind (wpAny_seqItems z.its rfl ?_)))
  show wpAny _ _ (if (refsAt N src.length).toArray.isEmpty = true then _ else _) _ _ _
  rw [if_neg (by simp [refsAt]; intro e; rw [e] at h0; exact Nat.lt_irrefl _ h0)]
  have lo : os.length = src.length := S.len.symm
  have hj : ∀ {j : Nat} {v : Value × Nat}, (refsAt N src.length).zipIdx[j]? = some v → j < src.length ∧ v = (.ref (N + j), j) := fun {j v} e => by
    rw [List.getElem?_zipIdx] at e
    cases e1 : (refsAt N src.length)[j]? with
    | none => rw [e1] at e; cases e
    | some r =>
      obtain ⟨a, b⟩ := refsAt_get e1
      rw [e1, b] at e
      cases e
      exact ⟨a, by rw [Nat.zero_add]⟩
  refine wpAny_bind (free hz hf ?_ fun h1 f1 z1 s1 => ?_)
  · rw [if_pos rfl]
    refine wpAny_bind (wpAny_rule (wpAny_bind (wpAny_field hz rfl (x := .ref (N + src.length + 1)) rfl ?_)))
    refine wpAny_bind (wpAny_setField_rec hz (by simp) fun h1 z1 s1 => ?_)
    obtain ⟨as, la, ha⟩ := z.out
    refine wpAny_bind (wpAny_forIn_list _ (fun rest (b : Option PySem.Fin × Unit) s' => b.1 = none ∧ ∃ j h' as, s' = { s with heap := h' } ∧ rest = (refsAt N src.length).zipIdx.drop j ∧ Zd N src i j s.heap h' ∧
      (∃ f', h'.get? (N + src.length + 2) = some (ZRec .ellipsis f' (N + src.length) (N + src.length + 1))) ∧ as.length = src.length ∧ h'.get? (N + src.length + 1) = some (TupO as) ∧ j ≤ src.length ∧ ∀ m, m < j → os[m]? = some as[m]?)
      _ ?_ ?_ _ _ ⟨rfl, 0, h1, as, rfl, rfl, (Zd.start z).own (.inr rfl) s1, ⟨f, z1⟩, la, (s1.2 _ (show @Ne Nat _ _ by omega)).trans ha, Nat.zero_le _, fun m n => (Nat.not_lt_zero _ n).elim⟩)
    · rintro x rest b _ ⟨hb, j, h', as, rfl, er, d, ⟨f', zr⟩, la, ha, lj, eq⟩
      obtain ⟨ex, rfl⟩ := of_drop er
      obtain ⟨jl, rfl⟩ := hj ex
      obtain ⟨l, hl⟩ : ∃ l, src[j]? = some l := ⟨src[j], List.getElem?_eq_getElem jl⟩
      obtain ⟨o, ho, _⟩ := S.get hl
      refine wpAny_bind (wpAny_onRaise ?_)
      show wpAny _ _ (Builtin.SmallTypes.nextOf (.ref (N + j)) >>= _) _ _ _
      refine wpAny_bind (ask hh S d hl ho (fun v h2 ev d2 sb => wpAny_pure ?_) fun eo h2 e xb ⟨ob, hob, cob⟩ => ?_)
      · subst ev
        have ha2 := (sb.2 (N + src.length + 1) (show @Ne Nat _ _ by omega)).trans ha
        refine wpAny_bind (wpAny_seqItems ha2 rfl (wpAny_bind (put ha2 (by omega) fun h3 a3 sb3 => wpAny_bind (wpAny_letGo (wpAny_pure ⟨rfl, j + 1, h3, _, rfl, rfl, d2.own (.inl rfl) sb3, ⟨f', ?_⟩, by rw [List.length_set, la], a3, jl, fun m lm => ?_⟩)))))
        · exact (sb3.2 _ (show @Ne Nat _ _ by omega)).trans ((sb.2 _ (show @Ne Nat _ _ by omega)).trans zr)
        · rcases Nat.lt_or_ge m j with z | z
          · rw [List.getElem?_set_ne (by omega)]; exact eq m z
          · obtain rfl : m = j := by omega
            rw [List.getElem?_set_self (by omega)]; exact ho
      · have zr2 := xb _ _ (show @Ne Nat _ _ by omega) zr
        refine wpAny_setField_rec zr2 (by simp) fun h3 z3 s3 => no (eo ▸ List.mem_of_getElem? ho) h3 e (fun c o hc q => (s3.2 c (show @Ne Nat _ _ by omega)).trans (xb c o (show @Ne Nat _ _ by omega) (d.old c o hc q))) ⟨ob, (s3.2 e fun q => ?_).trans hob, cob⟩
        rw [q, zr2] at hob
        cases hob
        exact absurd cob (by intro z; injection z with z; exact absurd z (by decide))
    · rintro ⟨_, _⟩ _ ⟨rfl, j, h', as, rfl, er, d, ⟨f', zr⟩, la, ha, lj, eq⟩
      have jn : j = src.length := by
        have := congrArg List.length er
        simp [refsAt] at this
        omega
      subst jn
      have eos : os = as.map some := List.ext_getElem? fun m => by
        rcases Nat.lt_or_ge m src.length with z | z
        · rw [eq m z, List.getElem?_map, List.getElem?_eq_getElem (by omega)]; rfl
        · rw [List.getElem?_eq_none (by omega), List.getElem?_eq_none (by simp; omega)]
      refine wpAny_bind (wpAny_seqItems ha rfl (wpAny_bind (wpAny_newTuple ?_ (by rw [sizeLine_eq]; simp; omega))))
      have zl : @LT.lt Nat _ (N + src.length + 2) h'.objs.size := Heap.lt_size zr
      have tl := Heap.lt_size ha
      simp only [Builtin.SmallTypes.ownedTupleHandOut]
      refine wpAny_bind (wpAny_bind (wpAny_setField_rec (Heap.get?_push_of_some (TupO as) zr) (by simp) fun h2 z2 s2 => wpAny_setField_rec z2 (by simp) fun h3 z3 s3 => ?_))
      have up : ∀ c : Addr, @Ne Nat c (N + src.length + 2) → h3.get? c = (h'.push (TupO as)).get? c := fun c n => (s3.2 c n).trans (s2.2 c n)
      have up' : ∀ c o, @Ne Nat c (N + src.length + 2) → h'.get? c = some o → h3.get? c = some o := fun c o n e => (up c n).trans (Heap.get?_push_of_some _ e)
      refine wpAny_pure ⟨_, rfl, ?_⟩
      show Q (.ref h'.objs.size) _
      rw [d.sz]
      refine go as h3 eos la ⟨⟨_, _, z3, .inr ⟨_, rfl⟩⟩, up' _ _ (by omega) d.its, ⟨as, la, up' _ _ (by omega) ha⟩, fun m l e => (d.past m l (getlt e) e).at fun o => up' _ o (by have := getlt e; omega)⟩ ?_ fun c o hc e => up' c o (by omega) (d.old c o hc e)
      rw [← d.sz]
      exact (up _ (by omega)).trans (Heap.get?_push_size _ rfl)
  · simp only [Bool.false_eq_true, if_false]
    refine wpAny_bind (wpAny_forIn_array' _ (fun rest (b : Option PySem.Fin × Array Value) s' => b.1 = none ∧ ∃ j h', s' = { s with heap := h' } ∧ rest = (refsAt N src.length).drop j ∧ Zd N src i j s.heap h' ∧
      (∃ f', h'.get? (N + src.length + 2) = some (ZRec f0 f' (N + src.length) (N + src.length + 1))) ∧ h'.get? (N + src.length + 1) = s.heap.get? (N + src.length + 1) ∧ j ≤ src.length ∧ os.take j = b.2.toList.map some)
      _ ?_ ?_ _ _ ⟨rfl, 0, h1, rfl, rfl, (Zd.start z).own (.inr rfl) s1, ⟨f1, z1⟩, s1.2 _ (show @Ne Nat _ _ by omega), Nat.zero_le _, rfl⟩)
    · rintro x rest ⟨_, xs⟩ _ ⟨rfl, j, h', rfl, er, d, ⟨f', zr⟩, ho, lj, eq⟩
      obtain ⟨ex, rfl⟩ := of_drop er
      obtain ⟨jl, rfl⟩ := refsAt_get ex
      obtain ⟨l, hl⟩ : ∃ l, src[j]? = some l := ⟨src[j], List.getElem?_eq_getElem jl⟩
      obtain ⟨o, ho', _⟩ := S.get hl
      refine wpAny_bind (wpAny_holding ?_)
      show wpAny _ _ (Builtin.SmallTypes.nextOf (.ref (N + j)) >>= _) _ _ _
      refine wpAny_bind (ask hh S d hl ho' (fun v h2 ev d2 sb => wpAny_pure (wpAny_pure ?_)) fun eo h2 e xb ee => ?_)
      · subst ev
        refine ⟨rfl, j + 1, h2, rfl, rfl, d2, ⟨f', (sb.2 _ (show @Ne Nat _ _ by omega)).trans zr⟩, (sb.2 _ (show @Ne Nat _ _ by omega)).trans ho, jl, ?_⟩
        rw [List.take_succ, eq, ho']
        simp
      · exact no (eo ▸ List.mem_of_getElem? ho') h2 e (fun c o hc q => xb c o (show @Ne Nat _ _ by omega) (d.old c o hc q)) ee
    · rintro ⟨_, xs⟩ _ ⟨rfl, j, h', rfl, er, d, ⟨f', zr⟩, ho, lj, eq⟩
      have jn : j = src.length := by
        have := congrArg List.length er
        simp [refsAt] at this
        omega
      subst jn
      rw [← lo, List.take_length] at eq
      have lx : xs.toList.length = src.length := by rw [← lo, eq, List.length_map]
      refine wpAny_bind (wpAny_newTuple ?_ (by show xs.toList.length ≤ _; rw [sizeLine_eq]; omega))
      obtain ⟨as, la, ha⟩ := z.out
      have up : ∀ c o, h'.get? c = some o → (h'.push (TupO xs.toList)).get? c = some o := fun c o e => Heap.get?_push_of_some _ e
      refine wpAny_pure ⟨_, rfl, ?_⟩
      show Q (.ref h'.objs.size) _
      rw [d.sz]
      refine go xs.toList _ eq lx ⟨⟨_, _, up _ _ zr, hf⟩, up _ _ d.its, ⟨as, la, up _ _ (ho.trans ha)⟩, fun m l e => (d.past m l (getlt e) e).at fun o => up _ o⟩ ?_ fun c o hc e => up c o (d.old c o hc e)
      rw [← d.sz]
      exact Heap.get?_push_size _ rfl
/-- the next row, or the end -/
theorem next {Q : Option Value → Shared → Prop} (hh : A.handled = none) (z : Zs N src i s.heap) (S : Srcs N s.heap i src os) (h0 : 0 < src.length) (h60 : src.length ≤ 60)
    (go : ∀ vs h', os = vs.map some → vs.length = src.length → Zs N src (i + 1) h' → h'.get? s.heap.objs.size = some (TupO vs) → Kept N src.length s.heap h' → Q (some (.ref s.heap.objs.size)) { s with heap := h' })
    (no : none ∈ os → ∀ h', Kept N src.length s.heap h' → Q none { s with heap := h' }) : wpAny (model prog w) A (pyNext (.ref (N + src.length + 2))) Q E s := by
  obtain ⟨f0, f, hz, _⟩ := z.own
  have ty : s.TypeIs (.ref (N + src.length + 2)) "zip" := ⟨_, hz, rfl⟩
  simp only [pyNext]
  refine wpAny_bind (wpAny_attempt (wpAny_callSpecial?_slot (name := Str.ofString "__next__") ty F.slot_zip_next (wpAny_call_entry F.slot_zip_next ty F.entry_zip_next (turnFree hh z S h0 h60 (fun vs h' a b c d e => wpAny_pure (go vs h' a b c d e)) fun a h' e k x => ?_) (F.args_zip_next_1 _))))
  obtain ⟨ob, e1, e2⟩ := x
  exact wpAny_bind (wpAny_isInstance (b := true) ⟨ob, e1, e2⟩ isSubtype_stop (wpAny_pure (no a h' k)))
/-- the row's tuple is let go, by whatever target -/
theorem letGo {tg : Expr} {z : Addr} {u : Value} {f0 : Value} {f : Bool} {TI TO : Addr} {Q : Unit → Shared → Prop} (hz : s.heap.get? z = some (ZRec f0 f TI TO)) (h1 : Q () s)
    (h2 : ∀ h', h'.get? z = some (ZRec .none f TI TO) → Heap.SameBut z s.heap h' → Q () { s with heap := h' }) : wpAny (model prog w) A (letOwnedTupleGo tg (.ref z) u) Q E s := by
  have set : wpAny (model prog w) A (updateField z 0 .none) Q E s := wpAny_setField_rec hz (by simp) h2
  unfold letOwnedTupleGo
  split
  case h_3 => exact wpAny_pure h1
  all_goals
    split
    · rename_i r a e
      cases e
      refine wpAny_bind (wpAny_load hz ?_)
      repeat' split
      all_goals first | exact wpAny_pure h1 | exact wpAny_bind (wpAny_rule set)
    · exact wpAny_pure h1
end
section
variable {prog : Program} {w : World} {A : Around} {E : Value → Shared → Prop} {s : Shared}
/-- iterators of tuples, one behind another -/
theorem iters {src : List Addr} {Q : List Value → Shared → Prop} (ht : ∀ l ∈ src, ∃ items, s.heap.IsTuple l items)
    (h : ∀ h', h'.objs.size = s.heap.objs.size + src.length → (∀ c o, s.heap.get? c = some o → h'.get? c = some o) → (∀ j l, src[j]? = some l → h'.IsTupleIter (s.heap.objs.size + j) l 0) → Q (refsAt s.heap.objs.size src.length) { s with heap := h' }) :
    wpAny (model prog w) A (Builtin.SmallTypes.iterAll (src.map Value.ref)) Q E s := by
  simp only [Builtin.SmallTypes.iterAll]
  refine wpAny_bind (wpAny_forIn_list _ (fun rest (b : Array Value) s' => ∃ j h', s' = { s with heap := h' } ∧ rest = (src.map Value.ref).drop j ∧ j ≤ src.length ∧ b = (refsAt s.heap.objs.size j).toArray ∧ h'.objs.size = s.heap.objs.size + j ∧
    (∀ c o, s.heap.get? c = some o → h'.get? c = some o) ∧ ∀ m l, m < j → src[m]? = some l → h'.IsTupleIter (s.heap.objs.size + m) l 0) _ ?_ ?_ _ _ ⟨0, s.heap, rfl, rfl, Nat.zero_le _, rfl, rfl, fun _ _ e => e, fun m l n => (Nat.not_lt_zero _ n).elim⟩)
  · rintro x rest _ _ ⟨j, h', rfl, er, lj, rfl, sz, old, it⟩
    obtain ⟨ex, rfl⟩ := of_drop er
    rw [List.getElem?_map] at ex
    cases el : src[j]? with
    | none => rw [el] at ex; cases ex
    | some l =>
      rw [el] at ex
      cases ex
      obtain ⟨items, ob, o1, o2⟩ := ht l (List.mem_of_getElem? el)
      refine wpAny_bind (wpAny_holding (wpAny_pyIter_tuple (items := items) ⟨ob, old _ _ o1, o2⟩ (wpAny_pure ⟨j + 1, _, rfl, rfl, getlt el, ?_, ?_, fun c o e => Heap.get?_push_of_some _ (old c o e), fun m k hm e => ?_⟩)))
      · show _ = (refsAt _ (j + 1)).toArray
        simp [refsAt, List.range_succ, sz]
      · rw [Heap.size_push, sz]; omega
      · rcases Nat.lt_or_ge m j with z | z
        · exact (it m k z e).at fun o => Heap.get?_push_of_some _
        · obtain rfl : m = j := by omega
          rw [el] at e
          cases e
          exact ⟨_, by rw [← sz]; exact Heap.get?_push_size _ rfl, rfl, rfl⟩
  · rintro b _ ⟨j, h', rfl, er, lj, rfl, sz, old, it⟩
    have jn : j = src.length := by
      have := congrArg List.length er
      simp at this
      omega
    subst jn
    exact wpAny_pure (h h' sz old fun m l e => it m l (getlt e) e)
end
theorem made (src : List Addr) : Meets (Builtin.«zip.__new__» ⟨.type "zip" :: src.map Value.ref, []⟩) (fun _ R s => (∀ l ∈ src, ∃ items, s.heap.IsTuple l items) ∧ src.length ≤ 60 ∧
    ∀ h', Zs s.heap.objs.size src 0 h' → (∀ c o, s.heap.get? c = some o → h'.get? c = some o) → R (.ok (.ret (.ref (s.heap.objs.size + src.length + 2)))) { s with heap := h' }) :=
  .of_wp fun prog w A R s ⟨ht, hn, h⟩ => by
    have hsub := sub_zip
    wp_walk using iters ht
    intro h' sz old it
    have small : ∀ n, n ≤ 60 → n ≤ sizeLine := fun n h => by rw [sizeLine_eq]; omega
    have ln : (refsAt s.heap.objs.size src.length).length = src.length := by simp [refsAt]
    refine wpAny_bind (wpAny_newTuple ?_ (small _ (by omega)))
    refine wpAny_bind (wpAny_newTuple ?_ (small _ (by rw [List.length_map]; omega)))
    refine wpAny_bind ?_
    simp only [Builtin.SmallTypes.newRecord]
    refine wpAny_newObj_type (wpAny_pure ⟨_, rfl, ?_⟩) (show (5 : Nat) ≤ sizeLine + 2 by rw [sizeLine_eq]; omega)
    simp only [Heap.size_push, sz]
    have up : ∀ {x y z : Obj} {c : Addr} {o : Obj}, h'.get? c = some o → (((h'.push x).push y).push z).get? c = some o := fun e => Heap.get?_push_of_some _ (Heap.get?_push_of_some _ (Heap.get?_push_of_some _ e))
    refine h _ ⟨⟨.none, false, ?_, .inl rfl⟩, ?_, ⟨(refsAt s.heap.objs.size src.length).map fun _ => .none, by rw [List.length_map, ln], ?_⟩, fun j l e => (it j l e).at fun o e => up e⟩ fun c o e => up (old c o e)
    · exact (congrArg _ (by rw [Heap.size_push, Heap.size_push, sz])).symm.trans (Heap.get?_push_size _ rfl)
    · exact (congrArg _ sz).symm.trans (Heap.get?_push_of_some _ (Heap.get?_push_of_some _ (Heap.get?_push_size _ rfl)))
    · exact (congrArg _ (by rw [Heap.size_push, sz])).symm.trans (Heap.get?_push_of_some _ (Heap.get?_push_size _ rfl))
theorem call_zip {prog : Program} {w : World} {A : Around} {E : Value → Shared → Prop} {s : Shared} {src : List Addr} {Q : Value → Shared → Prop} (hl : 2 ≤ src.length ∧ src.length ≤ 4) (ht : ∀ l ∈ src, ∃ items, s.heap.IsTuple l items)
    (h : ∀ h', Zs s.heap.objs.size src 0 h' → (∀ c o, s.heap.get? c = some o → h'.get? c = some o) → Q (.ref (s.heap.objs.size + src.length + 2)) { s with heap := h' }) : wpAny (model prog w) A (call (.type "zip") (src.map Value.ref)) Q E s := by
  have ok : checkTypeCall "zip" ⟨src.map Value.ref, []⟩ = pure () ∧ checkBuiltinCall "zip.__new__" ⟨.type "zip" :: src.map Value.ref, []⟩ = pure () ∧ ∀ obj, argsOk "object.__init__" ⟨obj :: src.map Value.ref, []⟩ := by
    match src, hl with
    | [a, b], _ => exact ⟨by kernel_rfl, by kernel_rfl, fun obj => by unfold argsOk; kernel_rfl⟩
    | [a, b, c], _ => exact ⟨by kernel_rfl, by kernel_rfl, fun obj => by unfold argsOk; kernel_rfl⟩
    | [a, b, c, d], _ => exact ⟨by kernel_rfl, by kernel_rfl, fun obj => by unfold argsOk; kernel_rfl⟩
    | [], h => exact absurd h.1 (by decide)
    | [_], h => exact absurd h.1 (by simp)
    | _ :: _ :: _ :: _ :: _ :: _, h => exact absurd h.2 (by simp)
  refine callType_new F.called_zip (by decide) ok.1 ok.2.1 ok.2.2 F.entry_zip_new (made src) ⟨ht, by omega, fun h' z k => ⟨?_, h h' z k⟩⟩
  obtain ⟨f0, f, e, _⟩ := z.own
  exact ⟨_, e, rfl⟩
end VZ
namespace VZ
open PySem PySem.Spec PyProof.Rows L2
theorem vals_refs : ∀ {src : List Addr} {us : List Value}, Vals (src.map V.ref) us → us = src.map Value.ref
  | [], _, .nil => rfl
  | a :: src, _, .cons h t => by rw [vals_refs t, List.map_cons, show _ = Value.ref a from h]
def ItzG (K : PySem.W.Frag) (src : List Addr) : It where
  go := fun i H => ∃ xss : List (List V), Al (fun l xs => SqT K H l xs ∧ i < xs.length) src xss
  yld := fun i H v H' => ∃ (T : Addr) (ys : List V), v = .ref T ∧ H T = none ∧ H' = upd H T (.tup ys) ∧ Al (fun l y => ∀ xs, SqT K H l xs → xs[i]? = some y) src ys
  stop := fun i H => ∃ xss : List (List V), Al (SqT K H) src xss ∧ ∃ xs ∈ xss, xs.length ≤ i
section
variable {X : Cx} {pins : List (Addr × Obj)} {σ : L2.St} {H : Hp} {s : Shared} {N i : Nat}
/-- what stands at turn i -/
theorem cut (I : Inv X pins σ H s) : ∀ {src : List Addr} {xss : List (List V)}, (∀ l ∈ src, (l : Nat) < N) → Al (fun l xs => SqT X.K H l xs ∧ i < xs.length) src xss →
    ∃ (ys : List V) (us : List Value), Vals ys us ∧ Al (fun l y => ∀ xs, SqT X.K H l xs → xs[i]? = some y) src ys ∧ Srcs N s.heap i src (us.map some)
  | [], [], _, _ => ⟨[], [], .nil, trivial, trivial⟩
  | l :: src, xs :: xss, g, ⟨⟨h1, h2⟩, h3⟩ => by
    obtain ⟨ys, us, r, e1, e2⟩ := cut I (fun l h => g l (List.mem_cons_of_mem _ h)) h3
    obtain ⟨its, rv, p, _⟩ := I.tuple h1
    obtain ⟨u, e3, ru⟩ := rv.get (List.getElem?_eq_getElem h2)
    exact ⟨_ :: ys, u :: us, .cons ru r, ⟨fun xs' h' => by rw [I.tuple_inj h' h1]; exact List.getElem?_eq_getElem h2, e1⟩, ⟨g l List.mem_cons_self, _, p, by simpa using e3⟩, e2⟩
theorem cutEnd (I : Inv X pins σ H s) : ∀ {src : List Addr} {xss : List (List V)}, (∀ l ∈ src, (l : Nat) < N) → Al (SqT X.K H) src xss → ∃ os : List (Option Value), Srcs N s.heap i src os ∧ ∀ vs : List Value, os = vs.map some → ∀ xs ∈ xss, i < xs.length
  | [], [], _, _ => ⟨[], trivial, fun _ _ _ h => (List.not_mem_nil h).elim⟩
  | l :: src, xs :: xss, g, ⟨h1, h2⟩ => by
    obtain ⟨os, e1, e2⟩ := cutEnd I (fun l h => g l (List.mem_cons_of_mem _ h)) h2
    obtain ⟨its, rv, p, _⟩ := I.tuple h1
    refine ⟨its[i]? :: os, ⟨⟨g l List.mem_cons_self, _, p, by simp⟩, e1⟩, fun vs ev xs' hx => ?_⟩
    match vs, ev with
    | v :: vs, ev =>
      simp only [List.map_cons, List.cons.injEq] at ev
      rcases List.mem_cons.mp hx with rfl | hx
      · have := getlt ev.1
        have := rv.length
        omega
      · exact e2 vs ev.2 xs' hx
end
/-- the places of a zip's own things -/
def spots (N n : Nat) : List Nat := (List.range (n + 3)).map fun j => N + j
theorem mem_spots {N n c : Nat} : c ∈ spots N n ↔ N ≤ c ∧ c ≤ N + n + 2 := by
  unfold spots
  simp only [List.mem_map, List.mem_range]
  exact ⟨fun ⟨j, h, e⟩ => by omega, fun h => ⟨c - N, by omega, by omega⟩⟩
theorem out_spots {N n c : Nat} (h : c ∉ spots N n) : c < N ∨ N + n + 2 < c := by
  rcases Nat.lt_or_ge c N with z | z
  · exact .inl z
  · rcases Nat.lt_or_ge (N + n + 2) c with y | y
    · exact .inr y
    · exact (h (mem_spots.mpr ⟨z, y⟩)).elim
theorem there {N : Nat} {src : List Addr} {i : Nat} {h : Heap} (z : Zs N src i h) {c : Nat} (hc : c ∈ spots N src.length) : ∃ o, h.get? c = some o ∧ ∀ v, o.data ≠ .cell v := by
  obtain ⟨a, b⟩ := mem_spots.mp hc
  obtain ⟨f0, f, e, _⟩ := z.own
  obtain ⟨as, _, e2⟩ := z.out
  rcases Nat.lt_or_ge (c - N) src.length with y | y
  · obtain ⟨o, e3, _, e4⟩ := z.pos (c - N) src[c - N] (List.getElem?_eq_getElem y)
    rw [show @Eq Nat (N + (c - N)) c by omega] at e3
    exact ⟨o, e3, fun v q => by rw [e4] at q; cases q⟩
  · have : c = N + src.length ∨ c = N + src.length + 1 ∨ c = N + src.length + 2 := by omega
    rcases this with rfl | rfl | rfl
    · exact ⟨_, z.its, fun v q => by cases q⟩
    · exact ⟨_, e2, fun v q => by cases q⟩
    · exact ⟨_, e, fun v q => by cases q⟩
theorem Zs.keep {N : Nat} {src : List Addr} {i : Nat} {h h' : Heap} (z : Zs N src i h) (k : ∀ b ∈ spots N src.length, ∀ o, h.get? b = some o → h'.get? b = some o) : Zs N src i h' := by
  obtain ⟨f0, f, e, e1⟩ := z.own
  obtain ⟨as, e3, e2⟩ := z.out
  exact ⟨⟨f0, f, k _ (mem_spots.mpr (by omega)) _ e, e1⟩, k _ (mem_spots.mpr (by omega)) _ z.its, ⟨as, e3, k _ (mem_spots.mpr (by omega)) _ e2⟩, fun j l q => (z.pos j l q).at fun o => k _ (mem_spots.mpr (by have := getlt q; omega)) o⟩
theorem turnG {P : Program} {w : World} {K : PySem.W.Frag} {tg : Expr} {N : Nat} {src : List Addr} (h0 : 0 < src.length) (h60 : src.length ≤ 60) (g : ∀ l ∈ src, (l : Nat) < N) :
    Turn P w K tg (ItzG K src) (spots N src.length) (N + src.length + 2) (Zs N src) where
  mem := mem_spots.mpr (by omega)
  obj := fun i h z c hc => there z hc
  keep := fun i h h' z k => z.keep k
  item := by
    intro X hP hw hK hc i pins s σ H E I hf z ⟨xss, hg⟩
    subst hP hw hK
    obtain ⟨ys, us, r, e1, S⟩ := cut (N := N) I g hg
    have below : ∀ b ∈ spots N src.length, b < s.heap.objs.size := fun b hb => by
      obtain ⟨o, e, _⟩ := there z hb
      exact Heap.lt_size e
    refine next (I.ok.hd hc) z S h0 h60 (fun vs h' ev lv z' hT k => ⟨_, rfl, ?_⟩) fun hn => ?_
    · obtain rfl : vs = us := (List.map_inj_right (fun _ _ e => Option.some.inj e)).mp ev.symm
      obtain ⟨f0, f, hz, _⟩ := z'.own
      -- what stands behind the letting go
      have fin : ∀ h'', Zs N src (i + 1) h'' → h''.get? s.heap.objs.size = some (TupO vs) → Kept N src.length s.heap h'' → ∃ x H', Inv X pins σ H' { s with heap := h'' } ∧ RelV x (.ref s.heap.objs.size) ∧ (ItzG X.K src).yld i H x H' ∧ Zs N src (i + 1) h'' ∧ ∀ b ∈ spots N src.length, H' b = none := by
        intro h'' z2 hT2 k2
        have ly : ys.length ≤ sizeLine := by rw [r.length, lv, sizeLine_eq]; omega
        exact ⟨.ref s.heap.objs.size, upd H s.heap.objs.size (.tup ys), I.turnedNew (t' := s.toks) (ch := spots N src.length) (fun b o hb e => k2 b o (out_spots hb) e) hf (Nat.le_refl _) ⟨ly, vs, r, _, hT2, rfl, _, rfl⟩, rfl,
          ⟨_, ys, rfl, I.hok.fresh (Nat.le_refl _), rfl, e1⟩, z2, fun b hb => by rw [upd_ne (Nat.ne_of_lt (below b hb))]; exact (hf b hb).1⟩
      have top : @LT.lt Nat _ (N + src.length + 2) s.heap.objs.size := below _ (mem_spots.mpr (by omega))
      refine letGo (s := { s with heap := h' }) hz (fin h' z' hT k) fun h'' hz'' sb => fin h'' ⟨⟨_, _, hz'', .inl rfl⟩, ?_, ?_, ?_⟩ ?_ fun c o hc e => ?_
      · exact (sb.2 _ (show @Ne Nat _ _ by omega)).trans z'.its
      · obtain ⟨as, e3, e2⟩ := z'.out
        exact ⟨as, e3, (sb.2 _ (show @Ne Nat _ _ by omega)).trans e2⟩
      · exact fun j l q => (z'.pos j l q).at fun o e => (sb.2 _ (show @Ne Nat _ _ by have := getlt q; omega)).trans e
      · exact (sb.2 _ (show @Ne Nat _ _ by omega)).trans hT
      · exact (sb.2 _ (show @Ne Nat _ _ by omega)).trans (k c o hc e)
    · obtain ⟨_, _, q⟩ := List.mem_map.mp hn
      cases q
  done := by
    intro X hP hw hK hc i pins s σ H E I hf z ⟨xss, hg, xs, hx, lx⟩
    subst hP hw hK
    obtain ⟨os, S, q⟩ := cutEnd (N := N) (i := i) I g hg
    refine next (I.ok.hd hc) z S h0 h60 (fun vs h' ev => absurd (q vs ev xs hx) (Nat.not_lt.mpr lx)) fun _ h' k => ⟨rfl, I.turnedL (t' := s.toks) (ch := spots N src.length) (fun b o hb e => k b o (out_spots hb) e) hf⟩
  self := fun A i s Q E z h => by
    obtain ⟨f0, f, e, _⟩ := z.own
    have ty : s.TypeIs (.ref (N + src.length + 2)) "zip" := ⟨_, e, rfl⟩
    exact wpAny_pyIter_slot ty F.slot_zip_iter (wpAny_call_entry F.slot_zip_iter ty F.entry_zip_iter (wpAny_pure ⟨_, rfl, "zip", _, ty, F.slot_zip_next.lookup, h⟩) (F.args_zip_iter_1 _))
/-- for .. in zip(..) of tuples -/
def iZipG (K : PySem.W.Frag) (ta : TA) : TI := fun σ H R => ta σ H fun vs H1 => ∃ (src : List Addr) (xss : List (List V)), (vs = src.map V.ref ∧ 2 ≤ src.length ∧ src.length ≤ 4) ∧ Al (SqT K H1) src xss ∧ R (ItzG K src) H1
theorem pi_zipG {X : Cx} {tg e : Expr} {es : List Expr} {ta : TA} {p pos : Pos} (hg : Gl X "zip") (hm : X.mg "zip" = none) (ha : PA X (e :: es) ta)
    (hs : starEach (e :: es) X.env = (false, eval e X.env) :: starEach es X.env := by rfl) (hpl : (backTo pos (starEach es X.env)).any (·.1) = false := by rfl) :
    PI X tg (.Call (.Name "zip" p) (e :: es) [] pos) (iZipG X.K ta) := by
  refine ⟨fun pins s σ H R I h => Call_ (ld_blt I hg hm PyProof.Rows.boot_zip (PyProof.Rows.callWith_type1 (thn (ha.run pos pins s σ H _ I h) fun us s1 ⟨vs, H1, I1, r1, src, xss, ⟨ev, n2, n4⟩, hq, q⟩ => ?_) hs hpl))⟩
  subst ev
  obtain rfl := vals_refs r1
  have tups : ∀ l ∈ src, ∃ items, s1.heap.IsTuple l items := fun l hl => by
    obtain ⟨j, jl, e⟩ := List.getElem_of_mem hl
    obtain ⟨xs, _, h⟩ := hq.get (j := j) (a := l) (by rw [List.getElem?_eq_getElem jl, e])
    obtain ⟨its, _, p, _⟩ := I1.tuple h
    exact ⟨_, p⟩
  have low : ∀ l ∈ src, (l : Nat) < s1.heap.objs.size := fun l hl => by
    obtain ⟨_, o, e, _⟩ := tups l hl
    exact Heap.lt_size e
  refine call_zip ⟨n2, n4⟩ tups fun h' z k => (turnG (P := X.prog) (w := X.w) (K := X.K) (tg := tg) (by omega) (by omega) low).self _ 0 _ _ _ z ?_
  exact ⟨_, _, _, _, H1, rfl, I1.kept (t' := s1.toks) k, turnG (by omega) (by omega) low, z, fun b hb => I1.fpOk (mem_spots.mp hb).1 (I1.hok.fresh (mem_spots.mp hb).1), q⟩
end VZ
/-! VMR: {**a, **b} of dicts whose keys are tuples, {k: v}; != by a class's own == -/
namespace VMR
open PySem PyProof.Rows PySem.Spec L2
section
variable {prog : Program} {w : World} {K : Type} [DecidableEq K] {knd : HeapKind prog w K} {A : Around} {E : Value → Shared → Prop} {s : Shared}
/-- a display's store is a store -/
theorem put_as_set {M : Model} {d a : Addr} {c : Int} {v : Value} {Q : Unit → Shared → Prop} (h : wpAny M A (dictSetHashed d (.ref a) c v) Q E s) : wpAny M A (dictPut d c (.ref a) v) Q E s := fun Γ p z => by
  have q := h Γ p z
  simp only [dictSetHashed, Sem.wp_holding, Sem.wp_bind', keyPart] at q
  simp only [dictPut, Sem.wp_bind']
  refine Sem.wp_mono _ _ _ (fun o p s r => ?_) (fun _ _ _ r => r) _ _ q
  cases o with
  | none => simpa only [Sem.wp_bind', Sem.wp_cmd_rule] using r
  | some i => simpa only [Sem.wp_bind', Sem.wp_cmd_rule, Sem.wp_cmd_point] using r
/-- the pairs of a plain dict, one by one into another -/
theorem merge {d o : Addr} {kvs more : List (K × Addr × Value)} {Q : Unit → Shared → Prop} (room : knd.room A) (ne : d ≠ o) (plain : (o == sysModules) = false) (hd : s.heap.DictOfH knd d kvs) (ho : s.heap.DictOfH knd o more)
    (keys : kvs ≠ [] ∨ (∀ x ∈ more, s.TypeIs (.ref x.2.1) "tuple") ∧ (more.map fun x => knd.hash x.1).Nodup) (few : kvs.length + more.length ≤ sizeLine)
    (h : ∀ h', h'.DictOfH knd d (storedAllH kvs more) → Heap.SameBut d s.heap h' → Q () { s with heap := h' }) : wpAny (model prog w) A (mergeMapping d (.ref o) false) Q E s := by
  obtain ⟨oo, es, ep, o1, o2, o3, o4, o5, o6⟩ := id ho
  obtain ⟨od, es', ep', d1, d2, d3, d4, -⟩ := id hd
  have ty := ho.typeIs
  have sz := size_of_entries o4
  unfold mergeMapping
  refine wpAny_bind (wpAny_isInstance ty isSubtype_dict_dict ?_)
  rw [if_pos rfl]
  refine wpAny_bind (wpAny_specialOf ty F.slot_dict_iter.lookup (wpAny_bind (wpAny_pure ?_)))
  rw [beq_self_eq_true]
  simp only [plain, Bool.false_eq_true, if_false]
  refine wpAny_bind (wpAny_dictEntries d1 d3 (wpAny_ite ?_))
  split
  rename_i c
  have nil : kvs = [] := List.eq_nil_of_length_eq_zero (by rw [← size_of_entries d4]; simpa using c)
  obtain ⟨tys, hash⟩ := keys.resolve_left fun z => z nil
  refine wpAny_bind (wpAny_dictEntries o1 o3 (wpAny_bind (wpAny_forIn_array' _ (fun rest _ s' => s = s' ∧ ∀ e ∈ rest, e ∈ es.toList) _ ?_ ?_ _ _ ⟨rfl, fun _ h => h⟩)))
  · rintro e rest b _ ⟨rfl, sub⟩
    have mem := sub e List.mem_cons_self
    have rest' : ∀ x ∈ rest, x ∈ es.toList := fun x hx => sub x (List.mem_cons_of_mem _ hx)
    rcases keysApart o4 tys hash e mem with v | ⟨a, k, t, one⟩
    · rw [o4] at mem
      obtain ⟨x, -, rfl⟩ := List.mem_map.mp mem
      cases v
    · simp only [k]
      refine wpAny_bind (wpAny_specialOf t F.slot_tuple_eq.lookup (wpAny_ite ?_))
      split
      · rw [if_neg (Nat.not_lt.mpr one)]
        exact wpAny_pure ⟨rfl, rest'⟩
      · exact wpAny_pure ⟨rfl, rest'⟩
  rintro b _ ⟨rfl, -⟩
  all_goals
    refine wpAny_bind (wpAny_dictEntries o1 o3 (wpAny_bind (wpAny_dictEpoch o1 o3 (wpAny_bind ?_))))
    refine wpAny_forIn_list _ (fun rest _ s' => ∃ i h', s' = { s with heap := h' } ∧ rest = (List.range es.size).drop i ∧ i ≤ es.size ∧ h'.DictOfH knd d (storedAllH kvs (more.take i)) ∧ Heap.SameBut d s.heap h') _ ?_ ?_ _ _ ⟨0, s.heap, rfl, rfl, Nat.zero_le _, hd, Heap.SameBut.refl _ _⟩
    · rintro j rest b _ ⟨i, h', rfl, er, hi, hm, sb⟩
      obtain ⟨e1, rfl⟩ := VZ.of_drop er
      have il : i < es.size := by simpa using VZ.getlt e1
      obtain rfl : i = j := by rw [List.getElem?_range il] at e1; exact Option.some.inj e1
      have o1' := (sb.2 o ne.symm).trans o1
      have im : i < more.length := sz ▸ il
      refine wpAny_bind (wpAny_dictEntries o1' o3 ?_)
      rw [entry_at o4, List.getElem?_eq_getElem im]
      refine wpAny_bind (wpAny_holding (put_as_set (wpAny_dictSetHashed_heap room (knd.keeps (o5 _ (List.getElem_mem im)) d1 d3 sb) hm (fun h2 m2 sb2 => wpAny_bind (wpAny_dictEpoch ((sb2.2 o ne.symm).trans o1') o3 ?_)) ?_)))
      · rw [if_neg (by simp)]
        exact wpAny_pure ⟨i + 1, h2, rfl, rfl, il, by rw [storedAllH_take_succ _ _ _ _ (List.getElem?_eq_getElem im)]; exact m2, sb.trans sb2⟩
      · have := storedAllH_length (more.take i) kvs
        have := List.length_take_le i more
        rw [List.length_take] at *
        omega
    · rintro b _ ⟨i, h', rfl, er, hi, hm, sb⟩
      have : i = es.size := by
        have := congrArg List.length er
        simp at this
        omega
      rw [this, sz, List.take_length] at hm
      exact wpAny_pure (h h' hm sb)
end
/-! ### at the layer of the abstract heap -/
def putKs (kvs more : List (List Key × V)) : List (List Key × V) := more.foldl (fun acc p => putK acc p.1 p.2) kvs
theorem putKs_len : ∀ (more kvs : List (List Key × V)), (putKs kvs more).length ≤ kvs.length + more.length
  | [], kvs => by simp [putKs]
  | p :: more, kvs => by
    have h := putKs_len more (putK kvs p.1 p.2)
    have h2 := length_putK kvs p.1 p.2
    show (putKs (putK kvs p.1 p.2) more).length ≤ kvs.length + (more.length + 1)
    omega
theorem KT.putAll {H : Hp} {more : List (List Key × V)} {ys : List (List Key × Addr × Value)} (r2 : KT H more ys) : ∀ {kvs : List (List Key × V)} {xs : List (List Key × Addr × Value)}, KT H kvs xs → KT H (putKs kvs more) (storedAllH xs ys) := by
  induction r2 with
  | nil => exact fun r => r
  | @cons p q ps qs h t ih =>
    intro kvs xs r
    show KT H (putKs (putK kvs p.1 p.2) ps) (storedAllH (storedH xs q.1 q.2.1 q.2.2) qs)
    have := r.put p.1 (b := q.2.1) h.2.1 h.2.2
    rw [← h.1]
    exact ih this
/-- the keys' hashes are unlike -/
def HashN (P : Program) (w : World) (kvs : List (List Key × V)) : Prop := (kvs.map fun x => tupleKeyHash (mixKind P w) x.1).Nodup
/-- one ** of a display into the new dict at d -/
def rInto (X : Cx) (d : Addr) (x : V) (H : Hp) (k : Hp → Prop) : Prop :=
  ∃ p kvs more, x = .ref p ∧ p ≠ d ∧ Rd H p (.dT more) ∧ H d = some (.dT kvs) ∧ (kvs ≠ [] ∨ HashN X.prog X.w more) ∧ (kvs = [] ∨ kvs.length + more.length ≤ sizeLine) ∧ k (upd H d (.dT (putKs kvs more)))
def tMrg (X : Cx) (ta tb : TE) : TE := fun σ H Q => ∀ d, H d = none → ta σ (upd H d (.dT [])) fun x H1 => rInto X d x H1 fun H2 => tb σ H2 fun y H3 => rInto X d y H3 fun H4 => Q (.ref d) H4
section
variable {X : Cx} {pins : List (Addr × Obj)} {σ : L2.St}
theorem into_ok {H : Hp} {s1 : Shared} {d : Addr} {x : V} {u : Value} {k : Hp → Prop} {R : Unit → Shared → Prop} {E : Value → Shared → Prop} (hu : X.A.units + 70 < cLine) (I : Inv X pins σ H s1) (rx : RelV x u) (q : rInto X d x H k)
    (h : ∀ H' s2, Inv X pins σ H' s2 → k H' → R () s2) : wpAny (model X.prog X.w) X.A (mergeMapping d u false) R E s1 := by
  obtain ⟨p, kvs, more, rfl, ne, e, ed, ap, z, hk⟩ := q
  obtain rfl : u = .ref p := rx
  obtain ⟨z1, plain, ys, pr, dd⟩ := dt_rd I.hok e
  obtain ⟨z2, own, xs, pr2, dd2⟩ := dt_of I.hok ed
  have ly := Paired.length pr
  have lx := Paired.length pr2
  have few : kvs.length + more.length ≤ sizeLine := z.elim (fun z => by rw [z]; simpa using z1) id
  obtain ⟨e1, e2⟩ := VDI.each pr
  have keys : xs ≠ [] ∨ (∀ y ∈ ys, s1.TypeIs (.ref y.2.1) "tuple") ∧ (ys.map fun y => (tupleKind (mixKind X.prog X.w)).hash y.1).Nodup := by
    refine ap.imp (fun n w => n (List.length_eq_zero_iff.mp (by rw [lx, w]; rfl))) fun n => ⟨fun y hy => ?_, ?_⟩
    · have all := I.hok _ _ (e1 y hy)
      obtain ⟨_, its, _, o, h1, h2, _⟩ := all
      exact ⟨o, h1, h2⟩
    · have := congrArg (List.map (tupleKeyHash (mixKind X.prog X.w))) e2
      simp only [List.map_map] at this
      show (ys.map (tupleKeyHash (mixKind X.prog X.w) ∘ fun x => x.1)).Nodup
      rw [this]
      exact n
  refine merge (knd := tupleKind (mixKind X.prog X.w)) (show X.A.units < cLine by omega) (Ne.symm ne) plain dd2 dd keys (by omega) fun h' hd' hb => ?_
  · obtain ⟨o, es, ep, g1, g2, g3, g4, _, g6⟩ := hd'
    have hl := putKs_len more kvs
    refine h _ _ (d_write (t' := s1.toks) (ob := .dT (putKs kvs more)) I (by rw [ed]; exact True.intro) hb ⟨o, g1⟩ ⟨by omega, own, _, (KT.putAll pr pr2).keeps fun c ys ec => ?_, o, es, ep, g1, g2, g3, g4, g6⟩) hk
    rw [upd_ne (ne_of ec ed (fun z => nomatch z))]
    exact ec
theorem pe_mrg {a b : Expr} {ta tb : TE} {pos : Pos} (hu : X.A.units + 70 < cLine) (ha : PE X a ta) (hb : PE X b tb) : PE X (.Dict [none, none] [a, b] pos) (tMrg X ta tb) where
  run := fun pins s σ H Q I h => by
    have fresh := I.hok.fresh (Nat.le_refl s.heap.objs.size)
    have I1 := I.laid (a := s.heap.objs.size) (o := .dT []) (h' := s.heap.push { cls := .type "dict", data := .dict #[] }) (t' := s.toks) (fun _ _ q => Heap.get?_push_of_some _ q) (Nat.le_refl _) (dt_empty s.heap I.big)
    rw [arm_eval_Dict]
    refine wpAny_bind (wpAny_standAt ?_)
    simp only [dictDisplay, evalEachOpt, evalEach, List.map_cons, List.map_nil, List.zip_cons_cons, List.zip_nil_left, List.forIn_cons, List.forIn_nil, evalOpt, List.isEmpty_nil, if_true]
    refine wpAny_bind (wpAny_bind (wpAny_bind (wpAny_pure (wpAny_bind (wpAny_alloc (wpAny_bind (wpAny_holding (wpAny_bind (thn (ha.run pins _ σ _ _ I1 (h _ fresh)) ?_)))))))))
    rintro u s1 ⟨x, H1, J1, r1, q1⟩
    refine wpAny_bind (wpAny_standAt (wpAny_pure (wpAny_bind (wpAny_onRaise (wpAny_tryCatch (wpAny_onRaise (wpAny_holding (into_ok hu J1 r1 q1 fun H2 s2 J2 q2 => wpAny_pure ?_))))))))
    refine wpAny_bind (wpAny_bind (wpAny_pure (wpAny_bind (wpAny_pure (wpAny_bind (wpAny_holding (wpAny_bind (thn (hb.run pins _ σ _ _ J2 q2) ?_))))))))
    rintro u2 s3 ⟨y, H3, J3, r3, q3⟩
    refine wpAny_bind (wpAny_standAt (wpAny_pure (wpAny_bind (wpAny_onRaise (wpAny_tryCatch (wpAny_onRaise (wpAny_holding (into_ok hu J3 r3 q3 fun H4 s4 J4 q4 => wpAny_pure ?_))))))))
    exact wpAny_pure (wpAny_bind (wpAny_pure (wpAny_pure ⟨.ref s.heap.objs.size, H4, J4, rfl, q4⟩)))
/-- {k: v}, k a tuple -/
def tDic1 (ta tb : TE) : TE := fun σ H Q => ∀ d, H d = none → ta σ (upd H d (.dT [])) fun x H1 => tb σ H1 fun y H2 => ∃ p k, x = .ref p ∧ H2 p = some (.tup (k.map kV)) ∧ H2 d = some (.dT []) ∧ Q (.ref d) (upd H2 d (.dT [(k, y)]))
theorem pe_dic1 {a b : Expr} {ta tb : TE} {pos : Pos} (hu : X.A.units + 70 < cLine) (ha : PE X a ta) (hb : PE X b tb) : PE X (.Dict [some a] [b] pos) (tDic1 ta tb) where
  run := fun pins s σ H Q I h => by
    have fresh := I.hok.fresh (Nat.le_refl s.heap.objs.size)
    have I1 := I.laid (a := s.heap.objs.size) (o := .dT []) (h' := s.heap.push { cls := .type "dict", data := .dict #[] }) (t' := s.toks) (fun _ _ q => Heap.get?_push_of_some _ q) (Nat.le_refl _) (dt_empty s.heap I.big)
    have ps : PPs X pos [some a] [b] [(ta, tb)] := pps_cons ha hb pps_nil
    have shape : (evalEachOpt [some a] X.env).zip ((evalEach [b] X.env).map fun v => do let x ← v; standAt pos; pure x) = (pairTrees [some a] [b] X.env pos).map fun p => (some p.1, p.2) := rfl
    rw [arm_eval_Dict, shape, dictDisplay_pairs _ (by exact List.cons_ne_nil _ _) (by show (1 : Nat) < 17; omega)]
    refine wpAny_bind (wpAny_standAt (wpAny_bind (wpAny_subDictH (knd := tupleKind (mixKind X.prog X.w)) (show X.A.units < cLine by omega) (by show (1 : Nat) ≤ 15; omega)
      (thn (ps.run pins _ σ _ (fun ps H2 => match ps with
        | [(x, y)] => ∃ p k, x = .ref p ∧ H2 p = some (.tup (k.map kV)) ∧ H2 s.heap.objs.size = some (.dT []) ∧ Q (.ref s.heap.objs.size) (upd H2 s.heap.objs.size (.dT [(k, y)]))
        | _ => False) I1 (h _ fresh)) ?_))))
    rintro vs s2 ⟨ps, H2, J, rel, q⟩
    split at q
    · rename_i x y
      obtain ⟨p, k, rfl, hp, hd, q⟩ := q
      obtain ⟨⟨kv, vv⟩, rfl, r1, r2⟩ : ∃ p, vs = [p] ∧ RelV (.ref _) p.1 ∧ RelV y p.2 := by
        cases rel with
        | cons a t => cases t; exact ⟨_, rfl, a⟩
      obtain rfl : kv = .ref p := r1
      obtain ⟨_, own, xs, pr, dd⟩ := dt_of J.hok hd
      cases pr
      refine ⟨[(k, p, vv)], ⟨rfl, rfl, key_of J.hok hp, True.intro⟩, dd, fun h' tk hd' hb => wpAny_pure ⟨.ref s.heap.objs.size, upd H2 s.heap.objs.size (.dT [(k, y)]), ?_, rfl, q⟩⟩
      have one : storedAllH [] [(k, p, vv)] = [(k, p, vv)] := storedAllH_nil_of_nodup _ (List.nodup_cons.mpr ⟨List.not_mem_nil, List.nodup_nil⟩)
      rw [one] at hd'
      obtain ⟨o, es, ep, g1, g2, g3, g4, _, g6⟩ := hd'
      refine d_write (t' := tk) (ob := .dT [(k, y)]) J (by rw [hd]; exact True.intro) hb ⟨o, g1⟩ ⟨by show 1 ≤ sizeLine; decide, own, _, .cons ⟨rfl, ?_, r2⟩ .nil, o, es, ep, g1, g2, g3, g4, g6⟩
      rw [upd_ne (ne_of hp hd (fun z => nomatch z))]
      exact hp
    · exact q.elim
end
/-! ### != by object.__ne__ -/
section
variable {prog : Program} {w : World} {A : Around} {E : Value → Shared → Prop} {s : Shared} {K : PySem.W.Frag} {x C f : Addr} {ox : Obj} {od : Option Obj} {name : Str}
/-- a special of the class is called -/
theorem special {g : Value} {args : List Value} {Q : Option Value → Shared → Prop} (X : K.In s.heap) (I : PySem.W.InstAt s.heap x ox C od) (hs : PySem.W.findIn K (.ref C) name = some (some g))
    (hb : ∀ {R : Value × List Value → Shared → Prop} {F : Value → Shared → Prop}, R (g, [.ref x]) s → wpAny (model prog w) A (bindSpecial g (.ref x)) R F s)
    (h : wpAny (model prog w) A (call g (.ref x :: args)) (fun v => Q (some v)) E s) : wpAny (model prog w) A (callSpecialIfBound? (.ref x) name args) Q E s := by
  have run : wpAny (model prog w) A (bindSpecialIfBound? (.ref x) name) (fun r s' => r = some (g, [.ref x]) ∧ s' = s) E s := by
    unfold bindSpecialIfBound?
    refine wpAny_bind (wpAny_bind (I.type.here ((PySem.W.looks_findIn X hs).here (wpAny_bind (wpAny_askSetting (wpAny_ite ?_))))))
    split <;> first | exact wpAny_bind (hb (wpAny_pure ⟨rfl, rfl⟩)) | exact wpAny_tryCatch (wpAny_bind (hb (wpAny_pure ⟨rfl, rfl⟩)))
  unfold callSpecialIfBound?
  refine wpAny_holding (wpAny_bind (wpAny_mono run ?_ fun _ _ e => e))
  rintro r _ ⟨rfl, rfl⟩
  exact wpAny_bind (wpAny_mono h (fun v s' => wpAny_pure) fun _ _ e => e)
/-- !=, where the class has an == of its own and no != -/
theorem ne_K {y : Addr} {oy : Obj} {ody : Option Obj} {Q : Value → Shared → Prop} (hu : A.units + 1 < cLine) (X : K.In s.heap) (I : PySem.W.InstAt s.heap x ox C od) (J : PySem.W.InstAt s.heap y oy C ody)
    (hne : PySem.W.findIn K (.ref C) "__ne__" = some (some (.builtin "object.__ne__"))) (heq : PySem.W.findIn K (.ref C) "__eq__" = some (some (.ref f))) (hf : PySem.W.isFn K (.ref f) = true) (hm : PySem.W.mroIn K C (.type "object") = some true)
    (h : wpAny (model prog w) A.in1 (call (.ref f) [.ref x, .ref y]) (fun v s' => ∃ t, v = .bool t ∧ Q (.bool (!t)) s') E s) : wpAny (model prog w) A (richCompare .NotEq (.ref x) (.ref y)) Q E s := by
  have inner : wpAny (model prog w) A.in1 (Builtin.«object.__ne__» ⟨[.ref x, .ref y], []⟩) (fun r s' => ∃ t, r = .done (.ret (.bool (!t))) ∧ Q (.bool (!t)) s') E s := by
    unfold Builtin.«object.__ne__»
    show wpAny _ _ (cRoomFor _ _ >>= _) _ _ _
    refine wpAny_bind (wpAny_cRoomFor (show A.in1.units < cLine from hu) (wpAny_bind (special X I heq (fun r => (PySem.W.bind_fn X _ (beq_iff_eq.mp hf)).here r) (wpAny_mono h ?_ fun _ _ e => e))))
    rintro _ s' ⟨t, rfl, q⟩
    exact wpAny_bind (wpAny_truthy_bool (wpAny_pure ⟨t, rfl, q⟩))
  have outer : wpAny (model prog w) A (tryCompare (.ref x) "__ne__" (.ref y)) (fun r s' => ∃ v, r = some v ∧ Q v s') E s := by
    unfold tryCompare
    refine wpAny_bind (special X I hne (fun r => wpAny_of_eq (F.cmp_object.ne.bind _) r) (wpAny_call (codeAny_call_builtin F.cmp_object.ne.plain F.cmpEntry_ne
      (PySem.W.check_slot F.cmpKind_ne F.cmpSplit_ne (I.type.andThen (PySem.W.looks_mroIn X hm)) (F.cmpArgs_ne _ _) (wpAny_mono inner ?_ fun _ _ e => e)))))
    rintro _ s' ⟨t, rfl, q⟩
    exact wpAny_pure ⟨_, rfl, q⟩
  simp only [richCompare, oneThing_ref]
  refine wpAny_holding (wpAny_bind (wpAny_cRoomFor (Nat.lt_of_succ_lt hu) (wpAny_bind (I.type.here (wpAny_bind (J.type.here ?_))))))
  rw [if_neg (by simp)]
  refine wpAny_bind (wpAny_pure ?_)
  rw [if_neg (by decide)]
  refine wpAny_bind (wpAny_mono outer ?_ fun _ _ e => e)
  rintro _ s' ⟨v, rfl, q⟩
  exact wpAny_pure q
end
end VMR
/-! VDE: == of two dicts whose keys are tuples and whose values are ints -/
namespace VDE
open PySem PyProof.Rows PySem.Spec L2
/-- an int's number -/
def num : Value → Int
  | .int i _ => i
  | _ => 0
def IsNum (v : Value) : Prop := ∃ i t, v = .int i t
section
variable {prog : Program} {w : World} {K : Type} [DecidableEq K] {knd : HeapKind prog w K} {A : Around} {E : Value → Shared → Prop} {s : Shared}
/-- a pair of the one stands in the other -/
def has (ys : List (K × Addr × Value)) (x : K × Addr × Value) : Bool := ys.any fun y => decide (y.1 = x.1) && decide (num y.2.2 = num x.2.2)
theorem has_at {ys : List (K × Addr × Value)} {x : K × Addr × Value} (nd : (ys.map (·.1)).Nodup) : ∀ {j : Nat} {p : Addr × Value}, ys[j]? = some (x.1, p) → has ys x = decide (num p.2 = num x.2.2) := by
  induction ys with
  | nil => intro j p h; simp at h
  | cons y ys ih =>
    intro j p h
    rw [List.map_cons, List.nodup_cons] at nd
    unfold has at ih ⊢
    rw [List.any_cons]
    cases j with
    | zero =>
      obtain rfl : y = (x.1, p) := by simpa using h
      have none : (ys.any fun y => decide (y.1 = x.1) && decide (num y.2.2 = num x.2.2)) = false := by
        rw [List.any_eq_false]
        intro z hz
        simp only [Bool.and_eq_true, decide_eq_true_eq, not_and]
        intro e
        exact (nd.1 (List.mem_map.mpr ⟨z, hz, e⟩)).elim
      rw [none]
      simp
    | succ j =>
      have h' : ys[j]? = some (x.1, p) := by simpa using h
      rw [ih nd.2 h', decide_eq_false fun e : y.1 = x.1 => nd.1 (List.mem_map.mpr ⟨_, List.mem_of_getElem? h', e.symm⟩)]
      simp
theorem eq_num {u v : Value} (hu : IsNum u) (hv : IsNum v) {Q : Bool → Shared → Prop} (h : Q (decide (num v = num u)) s) : wpAny (model prog w) A (eqBool u v) Q E s := by
  obtain ⟨i, t, rfl⟩ := hu
  obtain ⟨j, t', rfl⟩ := hv
  refine SeqAt.EqAt.int_int i t j t' prog w E Q ?_
  have e : (i == j) = decide (j = i) := by
    by_cases z : j = i
    · rw [z, decide_eq_true rfl]
      exact beq_self_eq_true i
    · rw [decide_eq_false z]
      exact beq_false_of_ne (Ne.symm z)
  rw [e]
  exact h
theorem same_pairs {nm : String} {a b : Addr} {xs ys : List (K × Addr × Value)} {Q : Bool → Shared → Prop} (room : knd.room A) (pa : (a == sysModules) = false) (pb : (b == sysModules) = false)
    (da : s.heap.DictOfH knd a xs) (db : s.heap.DictOfH knd b ys) (nx : ∀ x ∈ xs, IsNum x.2.2) (ny : ∀ y ∈ ys, IsNum y.2.2) (h : Q (decide (xs.length = ys.length) && xs.all (has ys)) s) :
    wpAny (model prog w) A (Builtin.Dict.samePairs nm a b) Q E s := by
  obtain ⟨oa, es, ep, a1, a2, a3, a4, a5, a6⟩ := da
  obtain ⟨ob, fs, ep', b1, b2, b3, b4, b5, b6⟩ := db
  have sa := size_of_entries a4
  have sb := size_of_entries b4
  unfold Builtin.Dict.samePairs Builtin.Dict.showsAll
  rw [if_neg (Bool.eq_false_iff.mp pa), if_neg (Bool.eq_false_iff.mp pb)]
  refine wpAny_bind (wpAny_pure (wpAny_bind (wpAny_pure (wpAny_bind (wpAny_dictEntries a1 a3 (wpAny_bind (wpAny_dictEntries b1 b3 ?_)))))))
  by_cases size : es.size = fs.size
  · rw [if_neg (fun z => by rw [size, bne_self_eq_false] at z; cases z)]
    rw [sa, sb] at size
    rw [decide_eq_true size, Bool.true_and] at h
    refine wpAny_bind (wpAny_dictEpoch a1 a3 (wpAny_bind ?_))
    rw [Std.Legacy.Range.forIn_eq_forIn_range']
    refine wpAny_forIn_list _ (fun rest b s' => s' = s ∧ b = (none, ()) ∧ ∃ i, rest = List.range' i (xs.length - i) ∧ Q ((xs.drop i).all (has ys)) s) _ ?_ ?_ _ _ ⟨rfl, rfl, 0, ?_, by rw [List.drop_zero]; exact h⟩
    rotate_right
    · simp only [Std.Legacy.Range.size, Nat.sub_zero, Nat.add_sub_cancel, Nat.div_one, sa]
    · rintro j rest b _ ⟨rfl, rfl, i, er, q⟩
      have lt : i < xs.length := by
        by_cases z : i < xs.length
        · exact z
        · rw [Nat.sub_eq_zero_of_le (by omega)] at er
          cases er
      rw [show xs.length - i = (xs.length - (i + 1)) + 1 by omega, List.range'_succ] at er
      obtain ⟨rfl, rfl⟩ := List.cons.inj er
      obtain ⟨x, hx⟩ : ∃ x, xs[j]? = some x := ⟨_, List.getElem?_eq_getElem lt⟩
      have mx := List.mem_of_getElem? hx
      have dx : xs.drop j = x :: xs.drop (j + 1) := by
        rw [List.drop_eq_getElem_cons lt]
        rw [List.getElem?_eq_getElem lt] at hx
        rw [Option.some.inj hx]
      rw [dx, List.all_cons] at q
      refine wpAny_bind (wpAny_dictEntries a1 a3 ?_)
      rw [entry_at a4, hx]
      refine wpAny_bind (wpAny_holding (wpAny_bind (wpAny_dictFind_heap (k := x.1) room (a5 x mx) b1 b3 b4 b5 b6 (fun no => wpAny_pure ?_) fun m p hp => ?_)))
      · have f : has ys x = false := by
          unfold has
          rw [List.any_eq_false]
          intro y hy
          obtain ⟨m, hm⟩ := List.getElem?_of_mem hy
          have : y.1 ≠ x.1 := fun e => no m y.2 (by rw [hm, ← e])
          simp [this]
        rw [f, Bool.false_and] at q
        exact wpAny_ite (by rw [if_pos (by decide)]; exact wpAny_pure (wpAny_pure q))
      · refine wpAny_bind (wpAny_dictEntries b1 b3 ?_)
        rw [entry_at b4, hp]
        refine wpAny_holding (eq_num (nx x mx) (ny _ (List.mem_of_getElem? hp)) ?_)
        have f := has_at (x := x) b6 hp
        show wpAny _ _ (if (!decide (num p.2 = num x.2.2)) = true then _ else _) _ _ _
        rw [← f]
        cases z : has ys x
        · rw [z, Bool.false_and] at q
          rw [if_pos (by decide)]
          exact wpAny_pure (wpAny_pure q)
        · rw [z, Bool.true_and] at q
          rw [if_neg (by decide)]
          refine wpAny_bind (wpAny_dictEpoch a1 a3 ?_)
          rw [if_neg (by simp)]
          exact wpAny_pure ⟨rfl, rfl, j + 1, rfl, q⟩
    · rintro b _ ⟨rfl, rfl, i, er, q⟩
      have : xs.length ≤ i := by
        have := congrArg List.length er
        simp at this
        omega
      rw [List.drop_eq_nil_of_le this] at q
      exact wpAny_pure q
  · rw [if_pos (by simpa using size)]
    rw [sa, sb] at size
    rw [decide_eq_false size, Bool.false_and] at h
    exact wpAny_bind (wpAny_rule (wpAny_pure h))
/-- == itself -/
theorem eq_dicts {a b : Addr} {xs ys : List (K × Addr × Value)} {Q : Value → Shared → Prop} (room : knd.room A.in1) (hu : A.units < cLine) (pa : (a == sysModules) = false) (pb : (b == sysModules) = false)
    (da : s.heap.DictOfH knd a xs) (db : s.heap.DictOfH knd b ys) (nx : ∀ x ∈ xs, IsNum x.2.2) (ny : ∀ y ∈ ys, IsNum y.2.2) (h : Q (.bool (decide (xs.length = ys.length) && xs.all (has ys))) s) :
    wpAny (model prog w) A (compareOp .Eq (.ref a) (.ref b)) Q E s := by
  have ta := da.typeIs
  have tb := db.typeIs
  refine wpAny_richCompare_same_room (op := .Eq) ta tb F.slot_dict_eq (wpAny_call_entry F.slot_dict_eq ta F.entry_dict_eq ?_ (F.args_dict_eq_2 _ _)) hu
  show wpAny _ _ (Builtin.Dict.dictSlotArgs "__eq__" _ >>= _) _ _ s
  unfold Builtin.Dict.dictSlotArgs
  refine wpAny_bind (wpAny_bind (wpAny_notOrdered_dict ta (wpAny_pure (wpAny_bind (wpAny_isInstance (T := "dict") tb F.sub_dict_dict ?_)))))
  simp only [Bool.not_true, Bool.false_eq_true, if_false]
  exact wpAny_bind (wpAny_pure (wpAny_bind (wpAny_pure (wpAny_bind (same_pairs room pa pb da db nx ny (wpAny_pure ⟨_, rfl, (fun z => nomatch z), by rw [beq_true]; exact h⟩))))))
end
/-! ### at the layer of the abstract heap -/
def numV : V → Int
  | .int i => i
  | _ => 0
def IsInt (v : V) : Prop := ∃ i, v = .int i
def hasV (more : List (List Key × V)) (p : List Key × V) : Bool := more.any fun q => decide (q.1 = p.1) && decide (numV q.2 = numV p.2)
section
variable {X : Cx} {pins : List (Addr × Obj)} {σ : L2.St} {H : Hp}
theorem rel_num {v : V} {u : Value} (r : L2.RelV v u) (h : IsInt v) : IsNum u ∧ num u = numV v := by
  obtain ⟨i, rfl⟩ := h
  obtain ⟨t, rfl⟩ : ∃ t, u = .int i t := by
    cases u <;> simp_all [L2.RelV]
  exact ⟨⟨i, t, rfl⟩, rfl⟩
theorem kt_num {kvs : List (List Key × V)} {xs : List (List Key × Addr × Value)} (r : KT H kvs xs) (h : ∀ p ∈ kvs, IsInt p.2) : (∀ x ∈ xs, IsNum x.2.2) ∧ xs.map (fun x => (x.1, num x.2.2)) = kvs.map fun p => (p.1, numV p.2) := by
  induction r with
  | nil => exact ⟨(fun x z => nomatch z), rfl⟩
  | @cons p q ps qs c t ih =>
    obtain ⟨i1, i2⟩ := ih fun p hp => h p (List.mem_cons_of_mem _ hp)
    obtain ⟨j1, j2⟩ := rel_num c.2.2 (h p List.mem_cons_self)
    refine ⟨fun x hx => (List.mem_cons.mp hx).elim (fun e => e ▸ j1) (i1 x), ?_⟩
    rw [List.map_cons, List.map_cons, i2, j2, c.1]
theorem has_map {ys : List (List Key × Addr × Value)} {x : List Key × Addr × Value} : has ys x = (ys.map fun y => (y.1, num y.2.2)).any fun q => decide (q.1 = x.1) && decide (q.2 = num x.2.2) := by
  unfold has
  rw [List.any_map]
  rfl
theorem op_eqT {x y : V} {v u : Value} {s : Shared} {Q : VK} {p q : Addr} {kvs more : List (List Key × V)} (hu : X.A.units + 70 < cLine) (I : Inv X pins σ H s) (rx : L2.RelV x v) (ry : L2.RelV y u) (ex : x = .ref p) (ey : y = .ref q)
    (h1 : Rd H p (.dT kvs)) (h2 : Rd H q (.dT more)) (n1 : ∀ z ∈ kvs, IsInt z.2) (n2 : ∀ z ∈ more, IsInt z.2) (h : Q (.bl (decide (kvs.length = more.length) && kvs.all (hasV more))) H) :
    wpAny (model X.prog X.w) X.A (compareOp .Eq v u) (EP X pins σ Q) X.xe s := by
  subst ex ey
  obtain rfl : v = .ref p := rx
  obtain rfl : u = .ref q := ry
  obtain ⟨_, pa, xs, r1, d1⟩ := dt_rd I.hok h1
  obtain ⟨_, pb, ys, r2, d2⟩ := dt_rd I.hok h2
  obtain ⟨i1, e1⟩ := kt_num r1 n1
  obtain ⟨i2, e2⟩ := kt_num r2 n2
  refine eq_dicts (knd := tupleKind (mixKind X.prog X.w)) (show X.A.units + 1 < cLine by omega) (by omega) pa pb d1 d2 i1 i2 (show EP X pins σ Q _ _ from ⟨.bl _, H, I, rfl, ?_⟩)
  have el : xs.all (has ys) = kvs.all (hasV more) := by
    have f : (has ys : List Key × Addr × Value → Bool) = (fun z : List Key × Int => (more.map fun p => (p.1, numV p.2)).any fun q => decide (q.1 = z.1) && decide (q.2 = z.2)) ∘ fun x => (x.1, num x.2.2) := by
      funext x
      rw [has_map, e2]
      rfl
    rw [f, ← List.all_map, e1, List.all_map]
    congr 1
    funext p
    simp only [Function.comp, hasV, List.any_map]
    rfl
  rw [el, ← Paired.length r1, ← Paired.length r2]
  exact h
end
end VDE
/-! VE5: comparisons -/
namespace VE
open PySem PySem.Spec PyProof.Rows L2

mutual
def D.py : D → PyData
  | .non => .none
  | .bl b => .bool b
  | .int i => .int i
  | .str s => .str s
  | .tup xs => .tuple (D.pys xs)
  | .lst xs => .list (D.pys xs)
  | _ => .none
def D.pys : List D → List PyData
  | [] => []
  | x :: xs => D.py x :: D.pys xs
end
mutual
theorem D.py_dep : ∀ x : D, x.py.depth = x.dep
  | .non => rfl
  | .bl _ => rfl
  | .int _ => rfl
  | .str _ => rfl
  | .tup xs => by show PyData.depthAll (D.pys xs) + 1 = D.deps xs + 1; rw [D.pys_dep xs]
  | .lst xs => by show PyData.depthAll (D.pys xs) + 1 = D.deps xs + 1; rw [D.pys_dep xs]
  | .scr _ => rfl
  | .rng _ _ => rfl
  | .dic _ _ _ => rfl
  | .ins _ _ => rfl
theorem D.pys_dep : ∀ xs : List D, PyData.depthAll (D.pys xs) = D.deps xs
  | [] => rfl
  | x :: xs => by show max x.py.depth (PyData.depthAll (D.pys xs)) = max x.dep (D.deps xs); rw [D.py_dep x, D.pys_dep xs]
end
mutual
theorem D.pur_pyb : ∀ x : D, x.pur = true → x.pyb = true
  | .non, _ => rfl
  | .bl _, _ => rfl
  | .int _, _ => rfl
  | .str _, _ => rfl
  | .tup xs, h => D.purs_pyb xs h
  | .lst xs, h => D.purs_pyb xs h
  | .scr _, h => by cases h
  | .rng _ _, h => by cases h
  | .dic _ _ _, h => by cases h
  | .ins _ _, h => by cases h
theorem D.purs_pyb : ∀ xs : List D, D.purs xs = true → D.pybs xs = true
  | [], _ => rfl
  | x :: xs, h => by
    have h' : (x.pur && D.purs xs) = true := h
    rw [Bool.and_eq_true] at h'
    show (x.pyb && D.pybs xs) = true
    rw [D.pur_pyb x h'.1, D.purs_pyb xs h'.2]; rfl
end
mutual
theorem D.pur_lay : ∀ x : D, x.pur = true → x.py.canLay0 = true
  | .non, _ => rfl
  | .bl _, _ => rfl
  | .int _, _ => rfl
  | .str s, h => h
  | .tup xs, h => D.purs_lay xs h
  | .lst xs, h => D.purs_lay xs h
  | .scr _, h => by cases h
  | .rng _ _, h => by cases h
  | .dic _ _ _, h => by cases h
  | .ins _ _, h => by cases h
theorem D.purs_lay : ∀ xs : List D, D.purs xs = true → PyData.canLayAll0 (D.pys xs) = true
  | [], _ => rfl
  | x :: xs, h => by
    have h' : (x.pur && D.purs xs) = true := h
    rw [Bool.and_eq_true] at h'
    show (x.py.canLay0 && PyData.canLayAll0 (D.pys xs)) = true
    rw [D.pur_lay x h'.1, D.purs_lay xs h'.2]; rfl
end
mutual
theorem D.pur_eqv : ∀ x y : D, x.pur = true → y.pur = true → PyData.eqv x.py y.py = decide (x = y)
  | .non, y, _, h => by cases y <;> simp [D.pur] at h <;> simp [D.py, PyData.eqv]
  | .bl _, y, h, _ => by simp [D.pur] at h
  | .int i, y, _, h => by cases y <;> simp [D.pur] at h <;> simp [D.py, PyData.eqv] <;> rfl
  | .str s, y, _, h => by cases y <;> simp [D.pur] at h <;> simp [D.py, PyData.eqv] <;> rfl
  | .tup xs, y, k, h => by
    cases y <;> simp [D.pur] at h k <;> simp [D.py, PyData.eqv]
    rw [D.purs_eqv xs _ k h]
  | .lst xs, y, k, h => by
    cases y <;> simp [D.pur] at h k <;> simp [D.py, PyData.eqv]
    rw [D.purs_eqv xs _ k h]
  | .scr _, y, h, _ => by simp [D.pur] at h
  | .rng _ _, y, h, _ => by simp [D.pur] at h
  | .dic _ _ _, y, h, _ => by simp [D.pur] at h
  | .ins _ _, y, h, _ => by simp [D.pur] at h
theorem D.purs_eqv : ∀ xs ys : List D, D.purs xs = true → D.purs ys = true → PyData.eqvAll (D.pys xs) (D.pys ys) = decide (xs = ys)
  | [], [], _, _ => by simp [D.pys, PyData.eqvAll]
  | [], _ :: _, _, _ => by simp [D.pys, PyData.eqvAll]
  | _ :: _, [], _, _ => by simp [D.pys, PyData.eqvAll]
  | x :: xs, y :: ys, h, k => by
    simp [D.purs] at h k
    simp only [D.pys, PyData.eqvAll]
    rw [D.pur_eqv x y h.1 k.1, D.purs_eqv xs ys h.2 k.2]
    simp
end
mutual
theorem D.like_alike : ∀ x y : D, D.like x y = true → PySem.W.alike x.py y.py = true
  | .int _, y, h => by cases y <;> first | rfl | simp [D.like] at h
  | .str _, y, h => by cases y <;> first | rfl | simp [D.like] at h
  | .bl _, y, h => by cases y <;> first | rfl | simp [D.like] at h
  | .tup xs, y, h => by
    cases y <;> first | simp [D.like] at h | skip
    simp only [D.py, PySem.W.alike]
    exact D.likes_alike xs _ (by simpa [D.like] using h)
  | .lst xs, y, h => by
    cases y <;> first | simp [D.like] at h | skip
    simp only [D.py, PySem.W.alike]
    exact D.likes_alike xs _ (by simpa [D.like] using h)
  | .non, y, h => by simp [D.like] at h
  | .scr _, y, h => by simp [D.like] at h
  | .rng _ _, y, h => by simp [D.like] at h
  | .dic _ _ _, y, h => by simp [D.like] at h
  | .ins _ _, y, h => by simp [D.like] at h
theorem D.likes_alike : ∀ xs ys : List D, D.likes xs ys = true → PySem.W.alikeAll (D.pys xs) (D.pys ys) = true
  | [], ys, _ => by cases ys <;> simp [D.pys, PySem.W.alikeAll]
  | x :: xs, [], _ => by simp [D.pys, PySem.W.alikeAll]
  | x :: xs, y :: ys, h => by
    have h' : (D.like x y && D.likes xs ys) = true := by simpa [D.likes] using h
    rw [Bool.and_eq_true] at h'
    simp only [D.pys, PySem.W.alikeAll]
    rw [D.like_alike x y h'.1, D.likes_alike xs ys h'.2]; rfl
end
mutual
theorem D.like_eqv : ∀ x y : D, D.like x y = true → PyData.eqv x.py y.py = decide (x = y)
  | .int i, y, h => by cases y <;> simp [D.like] at h <;> simp [D.py, PyData.eqv] <;> rfl
  | .str i, y, h => by cases y <;> simp [D.like] at h <;> simp [D.py, PyData.eqv] <;> rfl
  | .bl i, y, h => by cases y <;> simp [D.like] at h <;> simp [D.py, PyData.eqv] <;> rfl
  | .tup xs, y, h => by
    cases y <;> simp [D.like] at h <;> simp [D.py, PyData.eqv]
    rw [D.likes_eqv xs _ h]
  | .lst xs, y, h => by
    cases y <;> simp [D.like] at h <;> simp [D.py, PyData.eqv]
    rw [D.likes_eqv xs _ h]
  | .non, y, h => by simp [D.like] at h
  | .scr _, y, h => by simp [D.like] at h
  | .rng _ _, y, h => by simp [D.like] at h
  | .dic _ _ _, y, h => by simp [D.like] at h
  | .ins _ _, y, h => by simp [D.like] at h
theorem D.likes_eqv : ∀ xs ys : List D, D.likes xs ys = true → PyData.eqvAll (D.pys xs) (D.pys ys) = decide (xs = ys)
  | [], [], _ => by simp [D.pys, PyData.eqvAll]
  | [], _ :: _, _ => by simp [D.pys, PyData.eqvAll]
  | _ :: _, [], _ => by simp [D.pys, PyData.eqvAll]
  | x :: xs, y :: ys, h => by
    have h' : (D.like x y && D.likes xs ys) = true := by simpa [D.likes] using h
    rw [Bool.and_eq_true] at h'
    simp only [D.pys, PyData.eqvAll]
    rw [D.like_eqv x y h'.1, D.likes_eqv xs ys h'.2]
    simp
end
mutual
theorem likeSymm : ∀ {x y : D}, D.like x y = true → D.like y x = true
  | .int i, y, h => by cases y <;> first | rfl | simp [D.like] at h
  | .str i, y, h => by cases y <;> first | rfl | simp [D.like] at h
  | .bl i, y, h => by cases y <;> first | rfl | simp [D.like] at h
  | .tup xs, y, h => by
    cases y <;> first | simp [D.like] at h | skip
    simp only [D.like] at h ⊢
    exact likesSymm h
  | .lst xs, y, h => by
    cases y <;> first | simp [D.like] at h | skip
    simp only [D.like] at h ⊢
    exact likesSymm h
  | .non, y, h => by simp [D.like] at h
  | .scr _, y, h => by simp [D.like] at h
  | .rng _ _, y, h => by simp [D.like] at h
  | .dic _ _ _, y, h => by simp [D.like] at h
  | .ins _ _, y, h => by simp [D.like] at h
theorem likesSymm : ∀ {xs ys : List D}, D.likes xs ys = true → D.likes ys xs = true
  | [], ys, _ => by cases ys <;> rfl
  | x :: xs, [], _ => rfl
  | x :: xs, y :: ys, h => by
    have h' : (D.like x y && D.likes xs ys) = true := by simpa [D.likes] using h
    rw [Bool.and_eq_true] at h'
    show (D.like y x && D.likes ys xs) = true
    rw [likeSymm h'.1, likesSymm h'.2]; rfl
end
theorem lexk_nil (y : PyData) (ys : List PyData) : PyProof.Rows.lexLt PyProof.Rows.itemOrd (PySem.W.keyToksAll []) (PySem.W.keyToksAll (y :: ys)) = true := by
  simp only [PySem.W.keyToksAll]
  rw [PyProof.Rows.lex_diff (by intro h; cases h)]
  rfl
theorem lexk_nil' (x : PyData) (xs : List PyData) : PyProof.Rows.lexLt PyProof.Rows.itemOrd (PySem.W.keyToksAll (x :: xs)) (PySem.W.keyToksAll []) = false := by
  simp only [PySem.W.keyToksAll]
  rw [PyProof.Rows.lex_diff (by intro h; cases h)]
  rfl
mutual
theorem D.like_lt : ∀ x y : D, D.like x y = true → PySem.W.dataLt x.py y.py = D.lt x y
  | .int i, y, h => by cases y <;> simp [D.like] at h <;> simp only [D.py, D.lt] <;> exact PySem.W.dataLt_int _ _
  | .str i, y, h => by cases y <;> simp [D.like] at h <;> simp only [D.py, D.lt] <;> exact PySem.W.dataLt_str _ _
  | .bl i, y, h => by
    cases y <;> simp [D.like] at h <;> simp only [D.py, D.lt]
    rw [PySem.W.dataLt_bool]
    rename_i b
    cases i <;> cases b <;> decide
  | .tup xs, y, h => by
    cases y <;> simp [D.like] at h <;> simp only [D.py, D.lt]
    rw [PySem.W.dataLt_tuple]
    exact D.likes_lt xs _ h
  | .lst xs, y, h => by
    cases y <;> simp [D.like] at h <;> simp only [D.py, D.lt]
    rw [PySem.W.dataLt_list]
    exact D.likes_lt xs _ h
  | .non, y, h => by simp [D.like] at h
  | .scr _, y, h => by simp [D.like] at h
  | .rng _ _, y, h => by simp [D.like] at h
  | .dic _ _ _, y, h => by simp [D.like] at h
  | .ins _ _, y, h => by simp [D.like] at h
theorem D.likes_lt : ∀ xs ys : List D, D.likes xs ys = true → PyProof.Rows.lexLt PyProof.Rows.itemOrd (PySem.W.keyToksAll (D.pys xs)) (PySem.W.keyToksAll (D.pys ys)) = D.lts xs ys
  | [], [], _ => by simp only [D.pys, D.lts]; exact PyProof.Rows.lex_irrefl _
  | [], y :: ys, _ => by simp only [D.pys, D.lts]; exact lexk_nil _ _
  | x :: xs, [], _ => by simp only [D.pys, D.lts]; exact lexk_nil' _ _
  | x :: xs, y :: ys, h => by
    have h' : (D.like x y && D.likes xs ys) = true := by simpa [D.likes] using h
    rw [Bool.and_eq_true] at h'
    simp only [D.pys, D.lts]
    by_cases e : x = y
    · rw [if_pos e, PySem.W.dataLt_all_yes (D.like_alike x y h'.1) (by rw [D.like_eqv x y h'.1]; exact decide_eq_true e)]
      exact D.likes_lt xs ys h'.2
    · rw [if_neg e, PySem.W.dataLt_all_no (D.like_alike x y h'.1) (by rw [D.like_eqv x y h'.1]; exact decide_eq_false e)]
      exact D.like_lt x y h'.1
end
mutual
theorem Rep.dp {C : CT} {K : PySem.W.Frag} {H : Hp} : ∀ (x : D) (v : V), x.pyb = true → Rep C K H x v → Dp K H v x.py
  | .non, _, _, h => by cases h; exact .non
  | .bl b, _, _, h => by cases h; exact .bl b
  | .int b, _, _, h => by cases h; exact .int b
  | .str b, _, _, h => by cases h; exact .str b
  | .tup xs, _, p, ⟨a, vs, e, h1, h2⟩ => by subst e; exact .tup (.of h1) (Reps.dp xs vs p h2)
  | .lst xs, _, p, ⟨a, vs, e, h1, h2⟩ => by subst e; exact .lst (.of h1) (Reps.dp xs vs p h2)
  | .scr _, _, p, _ => by cases p
  | .rng _ _, _, p, _ => by cases p
  | .dic _ _ _, _, p, _ => by cases p
  | .ins _ _, _, p, _ => by cases p
theorem Reps.dp {C : CT} {K : PySem.W.Frag} {H : Hp} : ∀ (xs : List D) (vs : List V), D.pybs xs = true → Reps C K H xs vs → DpAll K H vs (D.pys xs)
  | [], _, _, h => by cases h; exact .nil
  | x :: xs, _, p, ⟨v, r, e, h1, h2⟩ => by
    subst e
    have p' : (x.pyb && D.pybs xs) = true := p
    rw [Bool.and_eq_true] at p'
    exact .cons (Rep.dp x v p'.1 h1) (Reps.dp xs r p'.2 h2)
end
theorem Top.rep {C : CT} {K : PySem.W.Frag} {H G : Hp} {x : D} {v : V} (g : Same G H) (p : x.pyb = true) (h : Top C K H G x v) : Rep C K H x v := by
  cases x with
  | lst xs => obtain ⟨q, vs, e, h1, h2⟩ := h; exact ⟨q, vs, e, h1, Reps.mono g _ _ h2⟩
  | dic _ _ _ => cases p
  | ins _ _ => cases p
  | _ => exact Rep.mono g _ _ h
theorem Top.dp {C : CT} {K : PySem.W.Frag} {H G : Hp} {x : D} {v : V} (g : Same G H) (p : x.pyb = true) (h : Top C K H G x v) : Dp K H v x.py := Rep.dp x v p (h.rep g p)

/-! ### comparisons -/
section
variable {X : Cx} {C : CT}
/-- how much of the stack is left -/
abbrev Stk (X : Cx) : Prop := X.A.units + 70 < cLine
theorem cmp_lt (hu : Stk X) {op : CmpOp} {x y : V} {a b : D} {G H : Hp} {v u : Value} {pins : List (Addr × Obj)} {s : Shared} {σ : L2.St} {Q : VK} (g : Same G H) (ha : Top C X.K H G a x) (hb : Top C X.K H G b y) (hl : ltOk a b = true)
    (I : Inv X pins σ H s) (rx : RelV x v) (ry : RelV y u) (q : Q (.bl (match op with | .Lt => D.lt a b | .LtE => !D.lt b a | .Gt => D.lt b a | _ => !D.lt a b)) H) (ho : op = .Lt ∨ op = .LtE ∨ op = .Gt ∨ op = .GtE) :
    wpAny (model X.prog X.w) X.A (compareOp op v u) (EP X pins σ Q) X.xe s := by
  unfold ltOk at hl
  simp only [Bool.and_eq_true, decide_eq_true_eq] at hl
  obtain ⟨⟨⟨h1, h2, h3⟩, h4⟩, h5⟩ := hl
  obtain ⟨as, r1⟩ := Dp.reads I _ _ _ (ha.dp g h2) rx
  obtain ⟨bs, r2⟩ := Dp.reads I _ _ _ (hb.dp g h3) ry
  have al := D.like_alike a b h1
  have la : D.like b a = true := likeSymm h1
  have nn : a.py ≠ .none := by
    intro e
    cases a <;> simp [D.py, D.like] at e h1
  have hm : X.A.units + min a.py.depth b.py.depth < cLine := by
    rw [D.py_dep, D.py_dep]
    have := Nat.min_le_left a.dep b.dep
    omega
  rcases ho with rfl | rfl | rfl | rfl
  · exact PySem.W.lt_data r1 r2 al nn hm ⟨.bl _, H, I, rfl, by rw [D.like_lt a b h1]; exact q⟩
  · exact PySem.W.le_data r1 r2 al nn hm ⟨.bl _, H, I, rfl, by rw [D.like_lt b a la]; exact q⟩
  · exact PySem.W.gt_data r1 r2 al nn hm ⟨.bl _, H, I, rfl, by rw [D.like_lt b a la]; exact q⟩
  · exact PySem.W.ge_data r1 r2 al nn hm ⟨.bl _, H, I, rfl, by rw [D.like_lt a b h1]; exact q⟩
end
end VE
/-! VE6: comparisons, subscripts, calls of built-ins -/
namespace VE
open PySem PySem.Spec PyProof.Rows L2
theorem shaped_of {x : D} (h : x.pur = true) (hd : x.dep ≤ 60) : SeqAt.shaped x.py = true := by
  unfold SeqAt.shaped
  rw [D.pur_lay x h, D.py_dep]
  simp; omega
theorem ints_lay : ∀ ns : List Int, PyData.canLayAll0 (ns.map PyData.int) = true ∧ PyData.depthAll (ns.map PyData.int) = 0
  | [] => ⟨rfl, rfl⟩
  | n :: ns => ⟨by show (true && _) = true; rw [(ints_lay ns).1]; rfl, by show max 0 (PyData.depthAll (ns.map PyData.int)) = 0; rw [(ints_lay ns).2]; rfl⟩
theorem ints_dp {K : PySem.W.Frag} {H : Hp} : ∀ ns : List Int, DpAll K H (ns.map V.int) (ns.map PyData.int)
  | [] => .nil
  | n :: ns => .cons (.int n) (ints_dp ns)
theorem any_eqv {x : D} (hx : x.pur = true) : ∀ {ys : List D}, D.purs ys = true → ((D.pys ys).any fun z => PyData.eqv z x.py) = decide (x ∈ ys)
  | [], _ => by simp [D.pys]
  | y :: ys, h => by
    have h' : (y.pur && D.purs ys) = true := h
    rw [Bool.and_eq_true] at h'
    simp only [D.pys, List.any_cons]
    rw [D.pur_eqv y x h'.1 hx, any_eqv hx h'.2]
    by_cases e : x = y
    · simp [e]
    · have : ¬ y = x := fun q => e q.symm
      simp [e, this]
theorem topNon {C : CT} {K : PySem.W.Frag} {H G : Hp} {a : D} {x : V} (h : Top C K H G a x) : decide (x = .non) = decide (a = .non) := by
  cases a with
  | non => cases h; rfl
  | bl b => cases h; rfl
  | int b => cases h; rfl
  | str b => cases h; rfl
  | tup xs => obtain ⟨p, vs, e, _⟩ := h; subst e; rfl
  | lst xs => obtain ⟨p, vs, e, _⟩ := h; subst e; rfl
  | scr xs => obtain ⟨p, e, _⟩ := h; subst e; rfl
  | rng i j => obtain ⟨p, e, _⟩ := h; subst e; rfl
  | dic t ks xs => obtain ⟨p, vs, e, _⟩ := h; subst e; rfl
  | ins t xs => obtain ⟨p, dx, vs, e, _⟩ := h; subst e; rfl
section
variable {X : Cx} {C : CT}
/-- dicts of ints -/
def vOf : D → V
  | .int i => .int i
  | _ => .non
theorem reps_ints {C : CT} {K : PySem.W.Frag} {G : Hp} : ∀ {xs : List D} {ws : List V}, xs.all isInt = true → Reps C K G xs ws → ws = xs.map vOf
  | [], _, _, h => h
  | x :: xs, _, a, ⟨v, r, e, h1, h2⟩ => by
    subst e
    simp only [List.all_cons, Bool.and_eq_true] at a
    rw [reps_ints a.2 h2]
    cases x <;> first | (cases a.1; done) | (rw [show v = _ from h1]; rfl)
theorem zip_ints {ks xs : List D} : (ks.map toKeyT).zip (xs.map vOf) = (ks.zip xs).map fun p => (toKeyT p.1, vOf p.2) := by
  rw [List.zip_map]
  rfl
theorem dicEq_is {ks xs ks2 xs2 : List D} (h1 : ks.all isKeyT = true) (h2 : ks2.all isKeyT = true) (l1 : ks.length = xs.length) (l2 : ks2.length = xs2.length) (i1 : xs.all isInt = true) (i2 : xs2.all isInt = true) :
    (decide (((ks.map toKeyT).zip (xs.map vOf)).length = ((ks2.map toKeyT).zip (xs2.map vOf)).length) && ((ks.map toKeyT).zip (xs.map vOf)).all (VDE.hasV ((ks2.map toKeyT).zip (xs2.map vOf)))) = dicEq ks xs ks2 xs2 := by
  unfold dicEq
  rw [zip_ints, zip_ints, List.length_map, List.length_map, List.length_zip, List.length_zip, ← l1, ← l2, Nat.min_self, Nat.min_self, List.all_map]
  congr 1
  rw [Bool.eq_iff_iff, List.all_eq_true, List.all_eq_true]
  refine forall_congr' fun p => forall_congr' fun hp => ?_
  obtain ⟨a1, a2⟩ := List.of_mem_zip (show (p.1, p.2) ∈ ks.zip xs from hp)
  simp only [Function.comp, VDE.hasV, List.any_map]
  rw [List.any_eq_true, List.any_eq_true]
  refine exists_congr fun q => and_congr_right fun hq => ?_
  obtain ⟨b1, b2⟩ := List.of_mem_zip (show (q.1, q.2) ∈ ks2.zip xs2 from hq)
  have k1 := List.all_eq_true.mp h1 _ a1
  have k2 := List.all_eq_true.mp h2 _ b1
  have j1 := List.all_eq_true.mp i1 _ a2
  have j2 := List.all_eq_true.mp i2 _ b2
  simp only [Function.comp, Bool.and_eq_true, decide_eq_true_eq]
  refine and_congr ⟨fun e => toKeyT_inj k2 k1 e, fun e => by rw [e]⟩ ?_
  generalize q.2 = y at j2
  generalize p.2 = x at j1
  cases x <;> first | (cases j1; done) | skip
  cases y <;> first | (cases j2; done) | skip
  simp [vOf, VDE.numV]
theorem zip_int {ks xs : List D} {z : List Key × V} (i1 : xs.all isInt = true) (h : z ∈ (ks.map toKeyT).zip (xs.map vOf)) : VDE.IsInt z.2 := by
  obtain ⟨_, b⟩ := List.of_mem_zip (show (z.1, z.2) ∈ _ from h)
  obtain ⟨x, hx, e⟩ := List.mem_map.mp b
  have j := List.all_eq_true.mp i1 _ hx
  rw [← e]
  cases x <;> first | (cases j; done) | exact ⟨_, rfl⟩
theorem cmpW (hu : Stk X) {op : CmpOp} : OpR X (compareOp op) (rW2 C X.K (wCmp op)) := by
  intro pins s σ H x y v u Q I rx ry h
  obtain ⟨G, a, b, g, ha, hb, P, hw, hq⟩ := h
  have eqs : ∀ {a b : D}, Top C X.K H G a x → Top C X.K H G b y → eqOk a b = true → ∀ neg : Bool, P (rB (if neg then !decide (a = b) else decide (a = b))) →
      wpAny (model X.prog X.w) X.A (compareOp (if neg then .NotEq else .Eq) v u) (EP X pins σ Q) X.xe s := by
    intro a b ha hb hok neg hp
    unfold eqOk at hok
    simp only [Bool.or_eq_true, Bool.and_eq_true, decide_eq_true_eq] at hok
    rcases hok with (⟨⟨⟨h1, h2⟩, h3⟩, h4⟩ | ⟨h1, h2⟩) | ⟨h1, h2⟩
    · have da := ha.dp g (D.pur_pyb a h1)
      have db := hb.dp g (D.pur_pyb b h2)
      have e : PyData.eqv a.py b.py = decide (a = b) := D.pur_eqv a b h1 h2
      cases neg
      · exact op_eqD (by omega) pins s σ H x y v u Q I rx ry ⟨_, _, da, db, shaped_of h1 h3, shaped_of h2 h4, by rw [e]; exact hq _ _ _ hp (.std rfl)⟩
      · exact op_neD (by omega) pins s σ H x y v u Q I rx ry ⟨_, _, da, db, shaped_of h1 h3, shaped_of h2 h4, by rw [e]; exact hq _ _ _ hp (.std rfl)⟩
    · cases a <;> first | (cases h1; done) | skip
      cases b <;> first | (cases h2; done) | skip
      cases ha; cases hb
      rename_i p q
      have e : decide (V.bl p = V.bl q) = decide (D.bl p = D.bl q) := by cases p <;> cases q <;> decide
      cases neg
      · exact op_eq pins s σ H _ _ v u Q I rx ry ⟨rfl, by rw [e]; exact hq _ _ _ hp (.std rfl)⟩
      · exact op_ne pins s σ H _ _ v u Q I rx ry ⟨rfl, by rw [e]; exact hq _ _ _ hp (.std rfl)⟩
    · cases a <;> first | (cases h1; done) | skip
      cases b <;> first | (cases h2; done) | skip
      cases ha; cases hb
      rename_i p q
      have e : decide (V.str p = V.str q) = decide (D.str p = D.str q) := by
        by_cases z : p = q <;> simp [z]
      cases neg
      · exact op_eq pins s σ H _ _ v u Q I rx ry ⟨rfl, by rw [e]; exact hq _ _ _ hp (.std rfl)⟩
      · exact op_ne pins s σ H _ _ v u Q I rx ry ⟨rfl, by rw [e]; exact hq _ _ _ hp (.std rfl)⟩
  have ins : ∀ {a b : D} {R : Bool → Prop}, Top C X.K H G a x → Top C X.K H G b y → wIn a b R → ∀ neg : Bool, (∀ k, R k → P (rB (if neg then !k else k))) →
      wpAny (model X.prog X.w) X.A (compareOp (if neg then .NotIn else .In) v u) (EP X pins σ Q) X.xe s := by
    intro a b R ha hb hw neg hp
    unfold wIn at hw
    split at hw
    · rename_i ys
      simp only [Bool.and_eq_true, decide_eq_true_eq] at hw
      obtain ⟨⟨⟨⟨h1, h2⟩, h3⟩, h4⟩, hr⟩ := hw
      obtain ⟨as, r1⟩ := Dp.reads I _ _ _ (ha.dp g (D.pur_pyb _ h1)) rx
      obtain ⟨bs, r2⟩ := Dp.reads I _ _ _ (hb.dp (x := .lst ys) g (D.purs_pyb ys h2)) ry
      have m : X.A.units + 1 + min (PyData.depthAll (D.pys ys)) a.py.depth < cLine := by
        rw [D.py_dep]
        have := Nat.min_le_right (PyData.depthAll (D.pys ys)) a.dep
        omega
      have e := any_eqv h1 h2
      have f := hq _ _ _ (hp _ hr) (.std rfl)
      cases neg
      · exact SeqAt.in_list_reads r2 r1 (D.purs_lay ys h2) (D.pur_lay _ h1) m ⟨.bl _, H, I, rfl, by rw [e]; exact f⟩
      · exact SeqAt.notIn_list_reads r2 r1 (D.purs_lay ys h2) (D.pur_lay _ h1) m ⟨.bl _, H, I, rfl, by rw [e]; exact f⟩
    · rename_i ys
      simp only [Bool.and_eq_true, decide_eq_true_eq] at hw
      obtain ⟨⟨⟨⟨h1, h2⟩, h3⟩, h4⟩, hr⟩ := hw
      obtain ⟨as, r1⟩ := Dp.reads I _ _ _ (ha.dp g (D.pur_pyb _ h1)) rx
      obtain ⟨bs, r2⟩ := Dp.reads I _ _ _ (hb.dp (x := .tup ys) g (D.purs_pyb ys h2)) ry
      have m : X.A.units + 1 + min (PyData.depthAll (D.pys ys)) a.py.depth < cLine := by
        rw [D.py_dep]
        have := Nat.min_le_right (PyData.depthAll (D.pys ys)) a.dep
        omega
      have e := any_eqv h1 h2
      have f := hq _ _ _ (hp _ hr) (.std rfl)
      cases neg
      · exact SeqAt.in_tuple_reads r2 r1 (D.purs_lay ys h2) (D.pur_lay _ h1) m ⟨.bl _, H, I, rfl, by rw [e]; exact f⟩
      · exact SeqAt.notIn_tuple_reads r2 r1 (D.purs_lay ys h2) (D.pur_lay _ h1) m ⟨.bl _, H, I, rfl, by rw [e]; exact f⟩
    · rename_i t ks vs
      obtain ⟨p, o, rfl, dg, is, _, _⟩ := top_dget g hb ha hw.1
      have f := hq _ _ _ (hp _ hw.2) (.std rfl)
      rw [← is] at f
      obtain rfl : u = Value.ref p := ry
      cases neg
      · exact d_in (by omega) I dg rx fun s' I' => ⟨.bl _, H, I', rfl, f⟩
      · exact d_notIn (by omega) I dg rx fun s' I' => ⟨.bl _, H, I', rfl, f⟩
    · cases ha; cases hb
      have f := hq _ _ _ (hp _ hw) (.std rfl)
      cases neg
      · exact op_in_str pins s σ H _ _ v u Q I rx ry ⟨_, _, rfl, rfl, f⟩
      · exact op_notin_str pins s σ H _ _ v u Q I rx ry ⟨_, _, rfl, rfl, f⟩
    · exact hw.elim
  unfold wCmp at hw
  split at hw
  · rename_i e; cases e
    unfold wEq at hw
    split at hw
    · obtain ⟨rfl, hw⟩ := hw
      rename_i ns
      obtain ⟨p, rfl, h1⟩ := ha
      obtain ⟨q, vs, rfl, h2, h3⟩ := hb
      cases h3
      have d1 : Dp X.K H (.ref p) (.list (ns.map PyData.int)) := .lst (g.seq h1) (ints_dp ns)
      have d2 : Dp X.K H (.ref q) (.list []) := .lst (.of h2) .nil
      have e : PyData.eqv (.list (ns.map PyData.int)) (.list []) = ns.isEmpty := by cases ns <;> simp [PyData.eqv, PyData.eqvAll]
      have s1 : SeqAt.shaped (.list (ns.map PyData.int)) = true := by
        unfold SeqAt.shaped
        rw [show (PyData.list (ns.map PyData.int)).canLay0 = PyData.canLayAll0 (ns.map PyData.int) from rfl, (ints_lay ns).1]
        rw [show (PyData.list (ns.map PyData.int)).depth = PyData.depthAll (ns.map PyData.int) + 1 from rfl, (ints_lay ns).2]
        rfl
      exact op_eqD (by omega) pins s σ H _ _ v u Q I rx ry ⟨_, _, d1, d2, s1, rfl, by rw [e]; exact hq _ _ _ hw (.std rfl)⟩
    · rename_i t ks vs
      obtain ⟨ok, hw⟩ := hw
      rw [Bool.and_eq_true] at ok
      cases t
      · cases ok.1
      · cases b <;> first | (cases ok.2; done) | skip
        rename_i t2 ks2 vs2
        cases t2
        · cases ok.2
        · obtain ⟨p, ws, ex, r1, ⟨k1, l1⟩, s1⟩ := ha
          obtain ⟨q, us, ey, r2, ⟨k2, l2⟩, s2⟩ := hb
          obtain rfl := reps_ints ok.1 s1
          obtain rfl := reps_ints ok.2 s2
          refine VDE.op_eqT hu I rx ry ex ey r1 r2 (fun z hz => zip_int ok.1 hz) (fun z hz => zip_int ok.2 hz) ?_
          rw [dicEq_is k1 k2 l1 l2 ok.1 ok.2]
          exact hq _ _ _ hw (.std rfl)
    · exact eqs ha hb hw.1 false hw.2
  · rename_i e; cases e; exact eqs ha hb hw.1 true hw.2
  · rename_i e; cases e; exact cmp_lt hu g ha hb hw.1 I rx ry (hq _ _ _ hw.2 (.std rfl)) (.inl rfl)
  · rename_i e; cases e; exact cmp_lt hu g ha hb hw.1 I rx ry (hq _ _ _ hw.2 (.std rfl)) (.inr (.inl rfl))
  · rename_i e; cases e; exact cmp_lt hu g ha hb hw.1 I rx ry (hq _ _ _ hw.2 (.std rfl)) (.inr (.inr (.inl rfl)))
  · rename_i e; cases e; exact cmp_lt hu g ha hb hw.1 I rx ry (hq _ _ _ hw.2 (.std rfl)) (.inr (.inr (.inr rfl)))
  · rename_i e; cases e; exact ins ha hb hw false (fun k h => h)
  · rename_i e; cases e; exact ins ha hb hw true (fun k h => h)
  · rename_i e; cases e; cases hb
    have e : decide (x = .non) = decide (a = .non) := topNon ha
    exact op_isN pins s σ H _ _ v u Q I rx ry ⟨rfl, by rw [e]; exact hq _ _ _ hw (.std rfl)⟩
  · rename_i e; cases e; cases hb
    have e : decide (x = .non) = decide (a = .non) := topNon ha
    exact op_notN pins s σ H _ _ v u Q I rx ry ⟨rfl, by rw [e]; exact hq _ _ _ hw (.std rfl)⟩
  · exact hw.elim
end
end VE
/-! VE7: subscripts, slices, calls of built-ins, stores in place -/
namespace VE
open PySem PySem.Spec PyProof.Rows L2

def Tops (C : CT) (K : PySem.W.Frag) (H G : Hp) : List D → List V → Prop
  | [], vs => vs = []
  | d :: ds, vs => ∃ v r, vs = v :: r ∧ Top C K H G d v ∧ Tops C K H G ds r
def rWC (C : CT) (K : PySem.W.Frag) (w : List D → WO) : List V → Hp → VK → Prop := fun xs H Q => ∃ G as, Same G H ∧ Tops C K H G as xs ∧ Wish C K G H (w as) Q
section
variable {C : CT} {K : PySem.W.Frag} {H G : Hp}
theorem Tops.one {d : D} {vs : List V} (h : Tops C K H G [d] vs) : ∃ v, vs = [v] ∧ Top C K H G d v := by
  obtain ⟨v, r, e, h1, h2⟩ := h
  cases h2
  exact ⟨v, e, h1⟩
theorem Tops.two {d e : D} {vs : List V} (h : Tops C K H G [d, e] vs) : ∃ v w, vs = [v, w] ∧ Top C K H G d v ∧ Top C K H G e w := by
  obtain ⟨v, r, q, h1, h2⟩ := h
  obtain ⟨w, q2, h3⟩ := Tops.one h2
  subst q2
  exact ⟨v, w, q, h1, h3⟩
theorem dsum_go : ∀ (xs : List D) (a : Int), xs.all isInt = true → ∃ ns : List Int, xs = ns.map D.int ∧ xs.foldl addI a = a + ns.sum
  | [], a, _ => ⟨[], rfl, by simp⟩
  | x :: xs, a, h => by
    rw [List.all_cons, Bool.and_eq_true] at h
    cases x with
    | int i =>
      obtain ⟨ns, e, q⟩ := dsum_go xs (a + i) h.2
      exact ⟨i :: ns, by rw [e]; rfl, by rw [List.foldl_cons, show addI a (.int i) = a + i from rfl, q, List.sum_cons, Int.add_assoc]⟩
    | _ => cases h.1
theorem dsum_eq {xs : List D} (h : xs.all isInt = true) : ∃ ns : List Int, xs = ns.map D.int ∧ dsum xs = ns.sum := by
  obtain ⟨ns, e, q⟩ := dsum_go xs 0 h
  exact ⟨ns, e, by unfold dsum; rw [q, Int.zero_add]⟩
theorem bls_of : ∀ {xs : List D}, xs.all isBl = true → ∃ bs : List Bool, xs = bs.map D.bl ∧ xs.any unB = bs.any id ∧ xs.all unB = bs.all id
  | [], _ => ⟨[], rfl, rfl, rfl⟩
  | x :: xs, h => by
    rw [List.all_cons, Bool.and_eq_true] at h
    cases x with
    | bl b =>
      obtain ⟨bs, e, q1, q2⟩ := bls_of h.2
      exact ⟨b :: bs, by rw [e]; rfl, by rw [List.any_cons, List.any_cons, q1]; rfl, by rw [List.all_cons, List.all_cons, q2]; rfl⟩
    | _ => cases h.1
theorem pys_map : ∀ xs : List D, D.pys xs = xs.map D.py
  | [] => rfl
  | x :: xs => by show x.py :: D.pys xs = _; rw [pys_map xs]; rfl
theorem deps_le {n : Nat} : ∀ {xs : List D}, (∀ x ∈ xs, x.dep ≤ n) → D.deps xs ≤ n
  | [], _ => Nat.zero_le _
  | x :: xs, h => by
    show max x.dep (D.deps xs) ≤ n
    have := h x (by simp)
    have := deps_le (xs := xs) fun y hy => h y (by simp [hy])
    omega
theorem pybs_of : ∀ {xs : List D}, (∀ x ∈ xs, x.pyb = true) → D.pybs xs = true
  | [], _ => rfl
  | x :: xs, h => by
    show (x.pyb && D.pybs xs) = true
    rw [h x (by simp), pybs_of fun y hy => h y (by simp [hy])]; rfl
theorem ltOk_of {a b : D} (h : ltOk a b = true) : D.like a b = true ∧ a.pyb = true ∧ b.pyb = true ∧ a.dep ≤ 60 ∧ b.dep ≤ 60 := by
  unfold ltOk at h
  simp only [Bool.and_eq_true, decide_eq_true_eq] at h
  exact ⟨h.1.1.1, h.1.1.2.1, h.1.1.2.2, h.1.2, h.2⟩
theorem like_ne {a b : D} (h : D.like a b = true) : a.py ≠ .none := by
  intro e
  cases a <;> simp [D.py, D.like] at e h
theorem minD_py : ∀ (xs : List D) (x : D), (∀ a ∈ x :: xs, ∀ b ∈ x :: xs, ltOk a b = true) → PySem.W.minD x.py (D.pys xs) = (dmin x xs).py ∧ dmin x xs ∈ x :: xs := by
  intro xs
  unfold PySem.W.minD dmin
  induction xs with
  | nil => intro x h; exact ⟨rfl, by simp⟩
  | cons y ys ih =>
    intro x h
    show List.foldl _ (if PySem.W.dataLt y.py x.py then y.py else x.py) (D.pys ys) = (List.foldl _ (if D.lt y x then y else x) ys).py ∧ _
    rw [D.like_lt y x (ltOk_of (h y (by simp) x (by simp))).1]
    have k : ∀ z, (z = x ∨ z = y) → ∀ a ∈ z :: ys, ∀ b ∈ z :: ys, ltOk a b = true := by
      intro z hz a ha b hb
      refine h a ?_ b ?_
      · rcases List.mem_cons.mp ha with rfl | ha
        · rcases hz with rfl | rfl <;> simp
        · simp [ha]
      · rcases List.mem_cons.mp hb with rfl | hb
        · rcases hz with rfl | rfl <;> simp
        · simp [hb]
    by_cases e : D.lt y x = true
    · rw [if_pos e, if_pos e, List.foldl_cons, if_pos e]
      obtain ⟨i1, i2⟩ := ih y (k y (.inr rfl))
      refine ⟨i1, ?_⟩
      rcases List.mem_cons.mp i2 with i2 | i2
      · rw [i2]; simp
      · simp [i2]
    · rw [if_neg e, if_neg e, List.foldl_cons, if_neg e]
      obtain ⟨i1, i2⟩ := ih x (k x (.inl rfl))
      refine ⟨i1, ?_⟩
      rcases List.mem_cons.mp i2 with i2 | i2
      · rw [i2]; simp
      · simp [i2]
theorem maxD_py : ∀ (xs : List D) (x : D), (∀ a ∈ x :: xs, ∀ b ∈ x :: xs, ltOk a b = true) → PySem.W.maxD x.py (D.pys xs) = (dmax x xs).py ∧ dmax x xs ∈ x :: xs := by
  intro xs
  unfold PySem.W.maxD dmax
  induction xs with
  | nil => intro x h; exact ⟨rfl, by simp⟩
  | cons y ys ih =>
    intro x h
    show List.foldl _ (if PySem.W.dataLt x.py y.py then y.py else x.py) (D.pys ys) = (List.foldl _ (if D.lt x y then y else x) ys).py ∧ _
    rw [D.like_lt x y (ltOk_of (h x (by simp) y (by simp))).1]
    have k : ∀ z, (z = x ∨ z = y) → ∀ a ∈ z :: ys, ∀ b ∈ z :: ys, ltOk a b = true := by
      intro z hz a ha b hb
      refine h a ?_ b ?_
      · rcases List.mem_cons.mp ha with rfl | ha
        · rcases hz with rfl | rfl <;> simp
        · simp [ha]
      · rcases List.mem_cons.mp hb with rfl | hb
        · rcases hz with rfl | rfl <;> simp
        · simp [hb]
    by_cases e : D.lt x y = true
    · rw [if_pos e, if_pos e, List.foldl_cons, if_pos e]
      obtain ⟨i1, i2⟩ := ih y (k y (.inr rfl))
      refine ⟨i1, ?_⟩
      rcases List.mem_cons.mp i2 with i2 | i2
      · rw [i2]; simp
      · simp [i2]
    · rw [if_neg e, if_neg e, List.foldl_cons, if_neg e]
      obtain ⟨i1, i2⟩ := ih x (k x (.inl rfl))
      refine ⟨i1, ?_⟩
      rcases List.mem_cons.mp i2 with i2 | i2
      · rw [i2]; simp
      · simp [i2]
theorem alikeAll_of {xs : List D} (h : ∀ a ∈ xs, ∀ b ∈ xs, ltOk a b = true) : PySem.W.AlikeAll (D.pys xs) := by
  rw [pys_map]
  refine ⟨fun a ha b hb => ?_, fun a ha => ?_⟩
  · obtain ⟨x, hx, rfl⟩ := List.mem_map.mp ha
    obtain ⟨y, hy, rfl⟩ := List.mem_map.mp hb
    exact D.like_alike x y (ltOk_of (h x hx y hy)).1
  · obtain ⟨x, hx, rfl⟩ := List.mem_map.mp ha
    exact like_ne (ltOk_of (h x hx x hx)).1
theorem allLike {xs : List D} (h : ∀ a ∈ xs, ∀ b ∈ xs, ltOk a b = true) : (∀ x ∈ xs, x.pyb = true) ∧ ∀ x ∈ xs, x.dep ≤ 60 :=
  ⟨fun x hx => (ltOk_of (h x hx x hx)).2.1, fun x hx => (ltOk_of (h x hx x hx)).2.2.2.1⟩
/-- the items of a list, a tuple, read as data -/
theorem tops_items {xs : List D} {v : V} (g : Same G H) (h : Top C K H G (.lst xs) v ∨ Top C K H G (.tup xs) v) : ∃ p vs, v = .ref p ∧ Reps C K G xs vs ∧ (SqL K H p vs ∨ SqT K H p vs) := by
  rcases h with ⟨p, vs, e, h1, h2⟩ | ⟨p, vs, e, h1, h2⟩
  · exact ⟨p, vs, e, h2, .inl (.of h1)⟩
  · exact ⟨p, vs, e, h2, .inr (.of (g _ _ h1))⟩
end
section
variable {X : Cx} {C : CT}
theorem ix_dict (hu : X.A.units + 1 < cLine) : IxR X (fun x y H Q => ∃ a v, x = .ref a ∧ DGet H a y (some v) ∧ Q v H) := by
  rintro value slice pins s σ H _ y v u Q I rx ry ⟨a, z, rfl, dg, q⟩ hs
  cases rx
  have ty := dict_typeIs I dg
  have got : wpAny (model X.prog X.w) X.A (subscripted slice false (.ref a) u) (fun r s3 => wpAny (model X.prog X.w) X.A (letTemporaryGo value (.ref a) r >>= fun _ => pure r) (EP X pins σ Q) X.xe s3) X.xe s := by
    rw [hs]
    exact wpAny_operating (d_getItem hu I dg ry fun w' s3 I3 rw' => wpAny_bind (wpAny_letTemporaryGo (wpAny_pure ⟨z, H, I3, rw', q⟩)))
  simp only [subscriptTail, getitemInPython_of_ne ty.not_modules]
  refine wpAny_bind (wpAny_bind (wpAny_specialOf ty PySem.F.slot_dict_getitem.lookup ?_))
  exact wpAny_pure (wpAny_bind got)
/-- sorted ints -/
theorem dsort_ints {xs : List D} {ns ys : List Int} (e : xs = ns.map D.int) (p : ys.Perm ns) (h : ys.Pairwise (· ≤ ·)) : dsort xs = ys.map D.int := by
  subst e
  have hp : (dsort (ns.map D.int)).Perm (ys.map D.int) := (List.mergeSort_perm _ _).trans (p.map D.int).symm
  have m : ∀ z ∈ dsort (ns.map D.int), ∃ i, z = .int i := fun z hz => by
    obtain ⟨i, _, rfl⟩ := List.mem_map.mp ((List.mergeSort_perm _ _).mem_iff.mp hz)
    exact ⟨i, rfl⟩
  have s1 : (dsort (ns.map D.int)).Pairwise fun a b => (!D.lt b a) = true := by
    have key : ∀ (l : List Int), (l.map D.int).mergeSort (fun a b => !D.lt b a) = (l.mergeSort fun a b => decide (a ≤ b)).map D.int := fun l => by
      rw [List.map_mergeSort (r := fun a b => decide (a ≤ b)) (f := D.int) (l := l)]
      intro a _ b _
      simp [D.lt, ← decide_not]
    unfold dsort
    rw [key, List.pairwise_map]
    refine (List.pairwise_mergeSort (fun a b c => by simp; omega) (fun a b => by simp; omega) ns).imp fun {a b} h => ?_
    simpa [D.lt] using h
  have s2 : (ys.map D.int).Pairwise fun a b => (!D.lt b a) = true := List.pairwise_map.mpr (h.imp fun {a b} h => by simpa [D.lt] using h)
  refine List.Perm.eq_of_pairwise (le := fun a b => (!D.lt b a) = true) (fun a b ha hb h1 h2 => ?_) s1 s2 hp
  obtain ⟨i, rfl⟩ := m a ha
  obtain ⟨j, _, rfl⟩ := List.mem_map.mp hb
  simp [D.lt] at h1 h2
  congr 1
  omega
theorem ixW (hu : X.A.units + 1 < cLine) : IxR X (rW2 C X.K fun ds => wIx ds) := by
  intro value slice pins s σ H x y v u Q I rx ry h hs
  obtain ⟨G, a, b, g, ha, hb, P, hw, hq⟩ := h
  unfold wIx at hw
  split at hw
  · rename_i xs i e
    cases e
    obtain ⟨p, vs, rfl, h1, h2⟩ := ha
    cases hb
    obtain ⟨x, hx, hp⟩ := hw
    have : ∃ w, atI vs i = some w ∧ Rep C X.K G x w := by
      unfold atI at hx ⊢
      rw [← h2.length]
      cases e : ixN xs.length i with
      | none => rw [e] at hx; cases hx
      | some j => rw [e] at hx; exact h2.get hx
    obtain ⟨w, hw, hr⟩ := this
    exact ix_list value slice pins s σ H _ _ v u Q I rx ry ⟨p, vs, i, w, rfl, rfl, .of h1, hw, hq _ _ _ hp (.std hr)⟩ hs
  · rename_i xs i e
    cases e
    obtain ⟨p, vs, rfl, h1, h2⟩ := ha
    cases hb
    obtain ⟨x, hx, hp⟩ := hw
    have : ∃ w, atI vs i = some w ∧ Rep C X.K G x w := by
      unfold atI at hx ⊢
      rw [← h2.length]
      cases e : ixN xs.length i with
      | none => rw [e] at hx; cases hx
      | some j => rw [e] at hx; exact h2.get hx
    obtain ⟨w, hw, hr⟩ := this
    exact ix_tup value slice pins s σ H _ _ v u Q I rx ry ⟨p, vs, i, w, rfl, rfl, .of (g _ _ h1), hw, hq _ _ _ hp (.std hr)⟩ hs
  · rename_i ns i e
    cases e
    obtain ⟨p, rfl, h1⟩ := ha
    cases hb
    obtain ⟨n, hx, hp⟩ := hw
    have : atI (ns.map V.int) i = some (V.int n) := by
      unfold atI at hx ⊢
      rw [List.length_map]
      cases e : ixN ns.length i with
      | none => rw [e] at hx; cases hx
      | some j =>
        rw [e] at hx
        have hx' : ns[j]? = some n := hx
        show (ns.map V.int)[j]? = _
        rw [List.getElem?_map, hx']; rfl
    exact ix_list value slice pins s σ H _ _ v u Q I rx ry ⟨p, _, i, _, rfl, rfl, g.seq h1, this, hq _ _ _ hp (.std rfl)⟩ hs
  · rename_i t ks vs k e
    cases e
    obtain ⟨ok, x, hx, hp⟩ := hw
    obtain ⟨p, o, rfl, dg, _, _, ho⟩ := top_dget g ha hb ok
    rw [hx] at ho
    obtain ⟨w, rfl, hr⟩ := ho
    exact ix_dict hu value slice pins s σ H _ _ v u Q I rx ry ⟨p, w, rfl, dg, hq _ _ _ hp (.std hr)⟩ hs
  · exact hw.elim
def rSlW (C : CT) (K : PySem.W.Frag) : V → Option Int → Option Int → Hp → VK → Prop := fun x lo hi H Q => ∃ G a, Same G H ∧ Top C K H G a x ∧ Wish C K G H (wSl lo hi a) Q
theorem cut_reps {K : PySem.W.Frag} {G : Hp} {xs : List D} {vs : List V} {lo hi : Option Int} (h : Reps C K G xs vs) : Reps C K G (cutD xs lo hi) (cutV vs lo hi) := by
  unfold cutD cutV
  rw [h.length]
  exact (h.drop _).take _
theorem slW : SlR X (rSlW C X.K) := by
  intro pins s σ H x v vl vu lo hi sl Q I rx hs pl pu h
  obtain ⟨G, a, g, ha, P, hw, hq⟩ := h
  unfold wSl at hw
  split at hw
  · obtain ⟨p, vs, rfl, h1, h2⟩ := ha
    exact sl_list pins s σ H _ v vl vu lo hi sl Q I rx hs pl pu ⟨p, vs, rfl, .of h1, fun q hn => hq _ _ _ hw (.lst hn (cut_reps h2))⟩
  · rename_i xs
    obtain ⟨p, vs, rfl, h1, h2⟩ := id ha
    refine sl_tupA pins s σ H _ v vl vu lo hi sl Q I rx hs pl pu ⟨p, vs, rfl, .of (g _ _ h1), fun e => ?_, fun _ q hn => hq _ _ _ hw (.tup hn (cut_reps h2))⟩
    have e2 : cutD xs lo hi = xs := by
      unfold cutD
      rw [h2.length, e.1, e.2, List.drop_zero, Nat.sub_zero, ← h2.length, List.take_length]
    rw [e2] at hw
    exact hq _ _ _ hw (.std ha)
  · exact hw.elim
theorem negW : UnR X (unaryOp .USub) (fun x H Q => ∃ i, x = .int i ∧ Q (.int (-i)) H) := un_neg
theorem hashT_key {P : Program} {w : World} {k : D} (h : isKeyI k = true) : tupleKeyHash (mixKind P w) (toKeyT k) = hashT k := by
  cases k <;> first | (cases h; done) | skip
  rename_i zs
  show reduceHash _ = reduceHash _
  congr 2
  show (zs.map toKey).map (keyH w) = zs.map hashI
  rw [List.map_map]
  refine List.map_congr_left fun z hz => ?_
  have := List.all_eq_true.mp (show zs.all isInt = true from h) z hz
  cases z <;> first | (cases this; done) | rfl
theorem dHO_T {ks : List D} {vs : List V} : dHO true ks vs = .dT ((ks.map toKeyT).zip vs) := rfl
theorem dHO_K {ks : List D} {vs : List V} : dHO false ks vs = .dK ((ks.map toKey).zip vs) := rfl
theorem callTy (hu : Stk X) {n : String} : CallR X (.type n) (rWC C X.K (wTy n)) := by
  intro pins s σ H xs us Q I r h
  obtain ⟨G, as, g, ha, P, hw, hq⟩ := h
  unfold wTy at hw
  split at hw
  · obtain ⟨v, rfl, h⟩ := ha.one
    cases h
    exact call_int1 pins s σ H _ us Q I r (.inl ⟨_, rfl, hq _ _ _ hw (.std rfl)⟩)
  · obtain ⟨v, rfl, h⟩ := ha.one
    cases h
    exact call_int1 pins s σ H _ us Q I r (.inr ⟨_, rfl, hq _ _ _ hw (.std rfl)⟩)
  · obtain ⟨v, rfl, h⟩ := ha.one
    obtain ⟨p, vs, rfl, h1, h2⟩ := h
    exact call_tuple_of pins s σ H _ us Q I r ⟨p, vs, rfl, .inl ⟨.of h1, fun l hn => hq _ _ _ hw (.tup hn h2)⟩⟩
  · obtain ⟨v, rfl, h⟩ := ha.one
    obtain ⟨p, vs, rfl, h1, h2⟩ := id h
    exact call_tuple_of pins s σ H _ us Q I r ⟨p, vs, rfl, .inr ⟨.of (g _ _ h1), hq _ _ _ hw (.std h)⟩⟩
  · obtain ⟨v, rfl, h⟩ := ha.one
    obtain ⟨p, vs, rfl, h1, h2⟩ := h
    exact call_list_of pins s σ H _ us Q I r ⟨p, vs, rfl, .inl (.of h1), fun l hn => hq _ _ _ hw (.lst hn h2)⟩
  · obtain ⟨v, rfl, h⟩ := ha.one
    obtain ⟨p, vs, rfl, h1, h2⟩ := h
    exact call_list_of pins s σ H _ us Q I r ⟨p, vs, rfl, .inr (.of (g _ _ h1)), fun l hn => hq _ _ _ hw (.lst hn h2)⟩
  · obtain ⟨v, rfl, h⟩ := ha.one
    rename_i ks xs
    obtain ⟨p, vs, rfl, h1, ⟨h2, h3⟩, h4⟩ := h
    obtain ⟨⟨hi, hn⟩, hw⟩ := hw
    refine VDI.call_dictT hu pins s σ H _ us Q I r ⟨p, _, rfl, h1, ?_, fun q hq' => hq (.dic true ks xs) (.ref q) _ hw (.dic (t := true) hq' ⟨h2, h3⟩ h4)⟩
    have e : ((ks.map toKeyT).zip vs).map (fun x => tupleKeyHash (mixKind X.prog X.w) x.1) = ks.map hashT := by
      have z : ((ks.map toKeyT).zip vs).map (fun x => tupleKeyHash (mixKind X.prog X.w) x.1) = (((ks.map toKeyT).zip vs).map (·.1)).map (tupleKeyHash (mixKind X.prog X.w)) := by rw [List.map_map]; rfl
      rw [z, List.map_fst_zip (by rw [List.length_map, h3.trans h4.length]; exact Nat.le_refl _), List.map_map]
      exact List.map_congr_left fun k hk => hashT_key (List.all_eq_true.mp hi k hk)
    rw [e]; exact hn
  · obtain ⟨v, rfl, h⟩ := ha.one
    rename_i ks xs
    obtain ⟨p, vs, rfl, h1, ⟨h2, h3⟩, h4⟩ := h
    exact VDI.call_dictK pins s σ H _ us Q I r ⟨p, _, rfl, h1, fun q hq' => hq (.dic false ks xs) (.ref q) _ hw (.dic (t := false) hq' ⟨h2, h3⟩ h4)⟩
  · obtain ⟨v1, v2, rfl, h1, h2⟩ := ha.two
    cases h1; cases h2
    exact cr_range2 pins s σ H _ us Q I r ⟨_, _, rfl, fun p hp => hq _ _ _ hw.2 (.rng hp)⟩
  · exact hw.elim
/-- an item of the walked things, by its place, from what min and max give -/
theorem pick_item {pins : List (Addr × Obj)} {σ : L2.St} {H G : Hp} {s : Shared} {xs : List D} {vs : List V} {its : List Value} {i : Nat} {v : Value} {h' : Heap} {m : D} {bs : List Addr} (I : Inv X pins σ H s) (g : Same G H)
    (hr : Reps C X.K G xs vs) (rv : Vals vs its) (al : ∀ a ∈ xs, ∀ b ∈ xs, ltOk a b = true) (hm : m ∈ xs) (hi : its[i]? = some v) (rd : Reads h' v m.py bs) (hk : ∀ b o, s.heap.get? b = some o → h'.get? b = some o) :
    ∃ w, RelV w v ∧ Rep C X.K G m w := by
  obtain ⟨w, hw, rw'⟩ : ∃ w, vs[i]? = some w ∧ RelV w v := by
    have hlt : i < its.length := (List.getElem?_eq_some_iff.mp hi).1
    cases e : vs[i]? with
    | none => rw [rv.none_of e] at hi; cases hi
    | some w =>
      obtain ⟨u, h1, h2⟩ := rv.get e
      rw [hi] at h1; cases h1
      exact ⟨w, rfl, h2⟩
  obtain ⟨x, hx, rx⟩ := hr.get' hw
  have hmem := List.mem_of_getElem? hx
  have lk := ltOk_of (al x hmem m hm)
  obtain ⟨as, r1⟩ := Dp.reads I _ _ _ (Rep.dp x w lk.2.1 (Rep.mono g x w rx)) rw'
  have r2 := PyProof.Rows.Reads.keeps hk r1
  have e := PySem.W.alike_unique _ _ _ _ _ (D.like_alike x m lk.1) r2 rd
  have e2 : x = m := by
    have := D.like_eqv x m lk.1
    rw [e, PySem.W.eqv_refl_alike _ (by rw [← e]; exact D.like_alike x x (ltOk_of (al x hmem x hmem)).1)] at this
    exact of_decide_eq_true this.symm
  subst e2
  exact ⟨w, rw', rx⟩
theorem items_reads {pins : List (Addr × Obj)} {σ : L2.St} {H G : Hp} {s : Shared} {xs : List D} {vs : List V} {its : List Value} (I : Inv X pins σ H s) (g : Same G H) (hr : Reps C X.K G xs vs) (rv : Vals vs its) (al : ∀ a ∈ xs, ∀ b ∈ xs, ltOk a b = true) :
    ∃ as, ReadsAll s.heap its (D.pys xs) as := Dp.readsAll I _ _ _ (Reps.dp xs vs (pybs_of (allLike al).1) (Reps.mono g _ _ hr)) rv
theorem call_minmax (hc : X.calm = true) (hu : Stk X) {isMax : Bool} {pins : List (Addr × Obj)} {s : Shared} {σ : L2.St} {H G : Hp} {x : D} {xs : List D} {w : V} {us : List Value} {Q : VK} (I : Inv X pins σ H s) (g : Same G H) (r : Vals [w] us)
    (h : Top C X.K H G (.lst (x :: xs)) w ∨ Top C X.K H G (.tup (x :: xs)) w) (al : ∀ a ∈ x :: xs, ∀ b ∈ x :: xs, ltOk a b = true) (hq : ∀ v, Rep C X.K G (if isMax then dmax x xs else dmin x xs) v → Q v H) :
    wpAny (model X.prog X.w) X.A (call (.builtin (if isMax then "max" else "min")) us) (EP X pins σ Q) X.xe s := by
  have hh := I.ok.hd hc
  have dp : PyData.depthAll (D.pys (x :: xs)) ≤ 60 := by rw [D.pys_dep]; exact deps_le (allLike al).2
  rcases h with ⟨p, vs, rfl, h1, h2⟩ | ⟨p, vs, rfl, h1, h2⟩
  · obtain ⟨its, rv, pl, _⟩ := I.list (SqL.of h1)
    obtain ⟨as, rd⟩ := items_reads I g h2 rv al
    rw [Vals.ref1 r]
    cases isMax
    · refine PySem.W.min_list_data hh pl.isList (vs := its.toArray) (x := x.py) (xs := D.pys xs) (as := as) (by rw [show its.toArray.toList = its by simp]; exact rd) (alikeAll_of al) (by show X.A.units + 1 + PyData.depthAll (D.pys (x :: xs)) < cLine; omega) fun i v h' tk bs hi rm hk => ?_
      obtain ⟨e1, e2⟩ := minD_py xs x al
      rw [e1] at rm
      obtain ⟨w, r1, r2⟩ := pick_item I g h2 rv al e2 (by simpa using hi) rm hk
      exact ⟨w, H, I.kept (t' := tk) hk, r1, hq w r2⟩
    · refine PySem.W.max_list_data hh pl.isList (vs := its.toArray) (x := x.py) (xs := D.pys xs) (as := as) (by rw [show its.toArray.toList = its by simp]; exact rd) (alikeAll_of al) (by show X.A.units + 1 + PyData.depthAll (D.pys (x :: xs)) < cLine; omega) fun i v h' tk bs hi rm hk => ?_
      obtain ⟨e1, e2⟩ := maxD_py xs x al
      rw [e1] at rm
      obtain ⟨w, r1, r2⟩ := pick_item I g h2 rv al e2 (by simpa using hi) rm hk
      exact ⟨w, H, I.kept (t' := tk) hk, r1, hq w r2⟩
  · obtain ⟨its, rv, pl, _⟩ := I.tuple (SqT.of (g _ _ h1))
    obtain ⟨as, rd⟩ := items_reads I g h2 rv al
    rw [Vals.ref1 r]
    cases isMax
    · refine PySem.W.min_tuple_data hh (show s.heap.IsTuple p its.toArray from pl) (vs := its.toArray) (x := x.py) (xs := D.pys xs) (as := as) (by rw [show its.toArray.toList = its by simp]; exact rd) (alikeAll_of al) (by show X.A.units + 1 + PyData.depthAll (D.pys (x :: xs)) < cLine; omega) fun i v h' tk bs hi rm hk => ?_
      obtain ⟨e1, e2⟩ := minD_py xs x al
      rw [e1] at rm
      obtain ⟨w, r1, r2⟩ := pick_item I g h2 rv al e2 (by simpa using hi) rm hk
      exact ⟨w, H, I.kept (t' := tk) hk, r1, hq w r2⟩
    · refine PySem.W.max_tuple_data hh (show s.heap.IsTuple p its.toArray from pl) (vs := its.toArray) (x := x.py) (xs := D.pys xs) (as := as) (by rw [show its.toArray.toList = its by simp]; exact rd) (alikeAll_of al) (by show X.A.units + 1 + PyData.depthAll (D.pys (x :: xs)) < cLine; omega) fun i v h' tk bs hi rm hk => ?_
      obtain ⟨e1, e2⟩ := maxD_py xs x al
      rw [e1] at rm
      obtain ⟨w, r1, r2⟩ := pick_item I g h2 rv al e2 (by simpa using hi) rm hk
      exact ⟨w, H, I.kept (t' := tk) hk, r1, hq w r2⟩
theorem zip_each {K : PySem.W.Frag} {G : Hp} : ∀ {xs : List D} {vs : List V} {its : List Value}, Reps C K G xs vs → Vals vs its → PySem.W.EachIs (fun (u : Value) (b : V × D) => RelV b.1 u ∧ Rep C K G b.2 b.1) its (vs.zip xs)
  | [], _, _, h, r => by cases h; cases r; exact .nil
  | x :: xs, _, _, ⟨v, q, e, h1, h2⟩, r => by
    subst e
    cases r with
    | cons r1 r2 => exact .cons ⟨r1, h1⟩ (zip_each h2 r2)
theorem each_out {K : PySem.W.Frag} {G : Hp} : ∀ {out : List Value} {bs : List (V × D)}, PySem.W.EachIs (fun (u : Value) (b : V × D) => RelV b.1 u ∧ Rep C K G b.2 b.1) out bs → Vals (bs.map (·.1)) out ∧ Reps C K G (bs.map (·.2)) (bs.map (·.1))
  | _, _, .nil => ⟨.nil, rfl⟩
  | _, _, .cons h t => ⟨.cons h.1 (each_out t).1, _, _, rfl, h.2, (each_out t).2⟩
theorem each_mono {α β : Type} {R R' : α → β → Prop} : ∀ {as : List α} {bs : List β}, (∀ a b, b ∈ bs → R a b → R' a b) → PySem.W.EachIs R as bs → PySem.W.EachIs R' as bs
  | _, _, _, .nil => .nil
  | _, _, f, .cons h t => .cons (f _ _ (by simp) h) (each_mono (fun a b hb => f a b (by simp [hb])) t)
theorem zip_snd : ∀ {xs : List D} {vs : List V}, xs.length = vs.length → (vs.zip xs).map (·.2) = xs
  | [], [], _ => rfl
  | x :: xs, v :: vs, h => by rw [List.zip_cons_cons, List.map_cons, zip_snd (Nat.succ.inj h)]
/-! ### sorted: the items in pairs with what stands for them -/
section
open PySem.W
variable {bs : List (V × D)}
abbrev enc (b : V × D) : PyData := b.2.py
abbrev Stands (C : CT) (K : PySem.W.Frag) (G : Hp) (u : Value) (b : V × D) : Prop := RelV b.1 u ∧ Rep C K G b.2 b.1
theorem alike_py (h : ∀ a ∈ bs, ∀ b ∈ bs, ltOk a.2 b.2 = true) : AllAlike (bs.map enc) := by
  intro d hd e he
  simp only [List.mem_map] at hd he
  obtain ⟨⟨a, ha, rfl⟩, b, hb, rfl⟩ := hd, he
  exact D.like_alike _ _ (ltOk_of (h a ha b hb)).1
/-- all are tuples, or none is -/
theorem sortable_py (h : ∀ a ∈ bs, ∀ b ∈ bs, ltOk a.2 b.2 = true) (ne : ∀ a ∈ bs, a.2 ≠ .tup []) : Sortable (bs.map enc) := by
  have like : ∀ a ∈ bs, ∀ b ∈ bs, D.like a.2 b.2 = true := fun a ha b hb => (ltOk_of (h a ha b hb)).1
  by_cases t : ∃ a ∈ bs, ∃ ys, a.2 = .tup ys
  · refine .inl fun d hd => ?_
    obtain ⟨a, ha, ys, e⟩ := t
    obtain ⟨b, hb, rfl⟩ := List.exists_of_mem_map hd
    have lk := like a ha b hb
    have n := ne b hb
    rw [e] at lk
    rcases b with ⟨v, _ | _ | _ | _ | zs | _ | _ | _ | _ | _⟩ <;> first | (cases lk; done) | skip
    cases zs with
    | nil => exact (n rfl).elim
    | cons z zs => exact ⟨z.py, D.pys zs, rfl⟩
  · refine .inr fun d hd => ?_
    obtain ⟨b, hb, rfl⟩ := List.exists_of_mem_map hd
    refine ⟨like_ne (like b hb b hb), fun zs e => t ⟨b, hb, ?_⟩⟩
    rcases b with ⟨v, x⟩
    cases x <;> first | exact ⟨_, rfl⟩ | (simp [enc, D.py] at e; done) | (have := like _ hb _ hb; cases this)
/-- sorting the pairs sorts the items -/
theorem sort_snd (h : ∀ a ∈ bs, ∀ b ∈ bs, ltOk a.2 b.2 = true) : (bs.mergeSort (dataLe false enc)).map (·.2) = dsort (bs.map (·.2)) := by
  unfold dsort
  refine List.map_mergeSort (s := fun a b => !D.lt b a) fun a ha b hb => ?_
  rw [dataLe_eq]
  exact congrArg (!·) (D.like_lt _ _ (ltOk_of (h b hb a ha)).1)
theorem reads_of {pins : List (Addr × Obj)} {s : Shared} {σ : L2.St} {H : Hp} (I : Inv X pins σ H s) (h : ∀ a ∈ bs, ∀ b ∈ bs, ltOk a.2 b.2 = true) (u : Value) (b : V × D) (hb : b ∈ bs) (r : Stands C X.K H u b) : ∃ as, Reads s.heap u (enc b) as :=
  Dp.reads I _ _ _ (Rep.dp b.2 b.1 (ltOk_of (h b hb b hb)).2.1 r.2) r.1
theorem depth_of (h : ∀ a ∈ bs, ∀ b ∈ bs, ltOk a.2 b.2 = true) (b : V × D) (hb : b ∈ bs) : (enc b).depth ≤ 60 := by
  have := (ltOk_of (h b hb b hb)).2.2.2.1
  rw [D.py_dep]
  exact this
end
theorem pairs_ok {xs : List D} {vs : List V} (al : ∀ a ∈ xs, ∀ b ∈ xs, ltOk a b = true) (ne : ∀ a ∈ xs, a ≠ .tup []) : (∀ a ∈ vs.zip xs, ∀ b ∈ vs.zip xs, ltOk a.2 b.2 = true) ∧ ∀ a ∈ vs.zip xs, a.2 ≠ .tup [] :=
  have m : ∀ a ∈ vs.zip xs, a.2 ∈ xs := fun a ha => (List.of_mem_zip (a := a.1) (b := a.2) ha).2
  ⟨fun a ha b hb => al _ (m a ha) _ (m b hb), fun a ha => ne _ (m a ha)⟩
theorem zip_len {xs : List D} {vs : List V} (h : xs.length = vs.length) : (vs.zip xs).length = xs.length := by rw [List.length_zip, h, Nat.min_self]
theorem call_sorted (hu : Stk X) {pins : List (Addr × Obj)} {s : Shared} {σ : L2.St} {H G : Hp} {xs : List D} {w : V} {us : List Value} {Q : VK} (I : Inv X pins σ H s) (g : Same G H) (r : Vals [w] us)
    (h : Top C X.K H G (.lst xs) w) (al : ∀ a ∈ xs, ∀ b ∈ xs, ltOk a b = true) (ne : ∀ a ∈ xs, a ≠ .tup []) (hq : ∀ p vs, H p = none → Reps C X.K G (dsort xs) vs → Q (.ref p) (upd H p (.lst vs))) :
    wpAny (model X.prog X.w) X.A (call (.builtin "sorted") us) (EP X pins σ Q) X.xe s := by
  obtain ⟨p, vs, rfl, h1, h2⟩ := h
  obtain ⟨its, rv, pl, few⟩ := I.list (SqL.of h1)
  obtain ⟨ok, ok2⟩ := pairs_ok (vs := vs) al ne
  have n := h2.length
  have zl := zip_len n
  rw [Vals.ref1 r]
  refine PySem.W.sorted_data (vs := its) (bs := vs.zip xs) (enc := enc) (R := Stands C X.K G) pl.isList (zip_each h2 rv) (each_mono (fun u b hb z => reads_of (C := C) I ok u b hb ⟨z.1, Rep.mono g _ _ z.2⟩) (zip_each h2 rv)) (alike_py ok) (sortable_py ok ok2) (by omega)
    (fun b hb => by have := depth_of ok b hb; have : X.A.units + 70 < cLine := hu; omega) fun out ho eo => ?_
  obtain ⟨k1, k2⟩ := each_out eo
  rw [sort_snd ok, zip_snd n] at k2
  obtain ⟨ep, at_⟩ := PyProof.Rows.sortedAll_at s.heap its out.toArray
  have few2 := k1.length
  exact ⟨.ref _, upd H (s.heap.objs.size + 1) (.lst _), I.laid (t' := s.toks) (fun _ _ => PyProof.Rows.sortedAll_old) (Nat.le_succ _) ⟨by omega, out, ep, k1, at_⟩, rfl, hq _ _ (I.hok.fresh (Nat.le_succ _)) k2⟩
/-- sorted of what is collected item by item -/
theorem sorted_col (hu : Stk X) {pins : List (Addr × Obj)} {s : Shared} {σ : L2.St} {H : Hp} {xs : List D} {vs : List V} {v : Value} {Q : VK} (I : Inv X pins σ H s) (h : Reps C X.K H xs vs) (few : xs.length ≤ sizeLine)
    (al : ∀ a ∈ xs, ∀ b ∈ xs, ltOk a b = true) (ne : ∀ a ∈ xs, a ≠ .tup [])
    (col : ∀ R : List Value → Shared → Prop, (∀ h' tk us, (∀ b o, s.heap.get? b = some o → h'.get? b = some o) → Vals vs us → R us { s with heap := h', toks := tk }) → wpAny (model X.prog X.w) X.A.in1 (collect v) R X.xe s)
    (hq : ∀ p ws, H p = none → Reps C X.K H (dsort xs) ws → Q (.ref p) (upd H p (.lst ws))) : wpAny (model X.prog X.w) X.A (call (.builtin "sorted") [v]) (EP X pins σ Q) X.xe s := by
  obtain ⟨ok, ok2⟩ := pairs_ok (vs := vs) al ne
  have n := h.length
  have zl := zip_len n
  refine Calls.call_function_entry PyProof.Rows.kind_sorted PyProof.Rows.plain_sorted PyProof.Rows.entry_sorted (PyProof.Rows.args_sorted1 _) ?_
  simp only [Builtin.«sorted»]
  refine wpAny_bind (wpAny_pure (wpAny_bind (col _ fun h' tk us keep rv => ?_)))
  have lu := rv.length
  have J : Inv X pins σ H { s with heap := h', toks := tk } := I.kept keep
  refine wpAny_bind (wpAny_newList ?_ (by omega))
  have at0 : (h'.push (seqObj "list" us.toArray 0)).get? h'.objs.size = some (seqObj "list" us.toArray 0) := Heap.get?_push_size _ rfl
  refine wpAny_bind (wpAny_holding (PySem.W.list_sort_data (s := { s with heap := h'.push (seqObj "list" us.toArray 0), toks := tk }) (bs := vs.zip xs) (enc := enc) (R := Stands C X.K H) at0 (zip_each h rv) (each_mono (fun u b hb z => ?_) (zip_each h rv)) (alike_py ok) (sortable_py ok ok2) (by omega)
    (fun b hb => by have := depth_of ok b hb; have : X.A.units + 70 < cLine := hu; show X.A.units + 1 + 1 + _ < cLine; omega) fun out ho eo => ?_))
  · obtain ⟨as, rd⟩ := reads_of (C := C) J ok u b hb z
    refine ⟨as, PyProof.Rows.Reads.keeps (fun c o => Heap.get?_push_of_some _) rd, fun m => ?_⟩
    obtain ⟨o, e⟩ := PyProof.On.reads_mem_get rd _ m
    exact Nat.lt_irrefl _ (Heap.lt_size e)
  · obtain ⟨k1, k2⟩ := each_out eo
    rw [sort_snd ok, zip_snd n] at k2
    obtain ⟨e', at1⟩ := PyProof.Rows.sortedHeap_at (vs := us) (out := out.toArray) at0
    have few2 := k1.length
    refine wpAny_pure ⟨_, rfl, .ref h'.objs.size, _, J.laid (t' := tk) (fun b o e => ?_) (Nat.le_refl _) (show ObjOk X.prog X.w _ _ _ (.lst _) from ⟨by omega, out, e', k1, at1⟩), rfl, hq _ _ (J.hok.fresh (Nat.le_refl _)) k2⟩
    have lt := Heap.lt_size e
    exact (PyProof.Rows.sortedHeap_old (Nat.ne_of_lt lt) (by rw [size_push']; exact Nat.lt_succ_of_lt lt)).trans (Heap.get?_push_of_some _ e)
/-- what a walk over a table of tuples' entries collects -/
theorem rep_key {G : Hp} {q : Addr} {k : D} (hk : isKeyT k = true) (h : G q = some (.tup ((toKeyT k).map kV))) : Rep C X.K G k (.ref q) := by
  have flat : ∀ {zs : List D}, zs.all isKey = true → Reps C X.K G zs ((zs.map toKey).map kV) := by
    intro zs
    induction zs with
    | nil => exact fun _ => rfl
    | cons z zs ih =>
      intro a
      obtain ⟨a1, a2⟩ := Bool.and_eq_true_iff.mp a
      exact ⟨_, _, rfl, by cases z <;> first | rfl | (cases a1; done), ih a2⟩
  cases k with
  | tup zs => exact ⟨q, _, rfl, h, flat hk⟩
  | _ => cases hk
theorem keys_rep {H : Hp} : ∀ {ks : List D} {vs : List V} {ls : List (List Key × Addr × Value)}, ks.all isKeyT = true → ks.length = vs.length → KT H ((ks.map toKeyT).zip vs) ls → Reps C X.K H ks ((ls.map fun x => x.2.1).map V.ref)
  | [], _, _, _, _, r => by cases r; rfl
  | k :: ks, v :: vs, l :: ls, a, e, .cons h t => by
    obtain ⟨a1, a2⟩ := Bool.and_eq_true_iff.mp a
    exact ⟨_, _, rfl, rep_key (X := X) a1 h.2.1, keys_rep a2 (Nat.succ.inj e) t⟩
theorem refs_only {H : Hp} : ∀ {ks : List D} {ws : List V}, (∀ k ∈ ks, isKeyT k = true) → Reps C X.K H ks ws → ∃ bs : List Addr, ws = bs.map V.ref
  | [], _, _, e => ⟨[], e⟩
  | k :: ks, _, a, ⟨v, r, e, h1, h2⟩ => by
    obtain ⟨bs, e2⟩ := refs_only (fun k hk => a k (List.mem_cons_of_mem _ hk)) h2
    have := a k List.mem_cons_self
    cases k <;> first | (cases this; done) | skip
    obtain ⟨p, _, e3, _⟩ := h1
    exact ⟨p :: bs, by rw [e, e3, e2]; rfl⟩
/-- sorted(d), d's keys tuples -/
theorem call_sortedT (hc : X.calm = true) (hu : Stk X) {pins : List (Addr × Obj)} {s : Shared} {σ : L2.St} {H : Hp} {ks : List D} {vs : List V} {d : Addr} {us : List Value} {Q : VK} (I : Inv X pins σ H s) (r : Vals [.ref d] us)
    (hd : Rd H d (dHO true ks vs)) (hk : ks.all isKeyT = true) (hlen : ks.length = vs.length) (al : ∀ a ∈ ks, ∀ b ∈ ks, ltOk a b = true) (ne : ∀ a ∈ ks, a ≠ .tup [])
    (hq : ∀ (p : Addr) (bs : List Addr), H p = none → Reps C X.K H (dsort ks) (bs.map V.ref) → Q (.ref p) (upd H p (.lst (bs.map V.ref)))) :
    wpAny (model X.prog X.w) X.A (call (.builtin "sorted") us) (EP X pins σ Q) X.xe s := by
  rw [Vals.ref1 r]
  have all := hd.ok I.hok
  obtain ⟨few, plain, ls, pr, o, es, ep, o1, o2, o3, o4, _⟩ := all
  have n1 := size_of_entries o4
  have n2 := Paired.length pr
  have n3 : ((ks.map toKeyT).zip vs).length = ks.length := by rw [List.length_zip, List.length_map, hlen, Nat.min_self]
  refine sorted_col (C := C) hu I (keys_rep (X := X) hk hlen pr) (by omega) al ne (fun R hR => PySem.W.kdu_collect (kdl_raw plain o2 o3) (I.ok.hd hc) o1 (by omega) fun h' tk acc keep items => hR h' tk _ keep ?_) fun p ws hp hr => ?_
  · have : acc.toList = (ls.map fun x => x.2.1).map Value.ref := by
      refine List.ext_getElem (by have := items.1; simp; omega) fun j h1 h2 => ?_
      obtain ⟨en, e1, e2⟩ := items.2 j acc[j] (Array.getElem?_eq_getElem (by simpa using h1))
      rw [entry_at o4, List.getElem?_eq_getElem (by simpa using h2)] at e1
      cases e1
      simp only [Array.getElem_toList, List.getElem_map]
      exact e2
    rw [this]
    exact vals_refs _
  · obtain ⟨bs, rfl⟩ := refs_only (X := X) (C := C) (fun k h => List.all_eq_true.mp hk k ((List.mergeSort_perm ks _).mem_iff.mp h)) hr
    exact hq p bs hp hr
/-- sorted(d), d's keys ints -/
theorem call_sortedI (hc : X.calm = true) (hu : Stk X) {pins : List (Addr × Obj)} {s : Shared} {σ : L2.St} {H : Hp} {ns : List Int} {kvs : List (Key × V)} {d : Addr} {us : List Value} {Q : VK} (I : Inv X pins σ H s) (r : Vals [.ref d] us)
    (hd : Rd H d (.dK kvs)) (hk : kvs.map (·.1) = ns.map Sum.inl) (hq : ∀ (p : Addr) (ws : List V), H p = none → Reps C X.K H (dsort (ns.map D.int)) ws → Q (.ref p) (upd H p (.lst ws))) :
    wpAny (model X.prog X.w) X.A (call (.builtin "sorted") us) (EP X pins σ Q) X.xe s := by
  rw [Vals.ref1 r]
  obtain ⟨few, plain, vs, rel, dd⟩ := dk_rd I.hok hd
  obtain ⟨ep, at_⟩ := dd.dictAt
  have keys := rel.keys.symm.trans hk
  have n1 := congrArg List.length keys
  have n2 := rel.length
  simp only [List.length_map] at n1
  refine sorted_col (C := C) hu I (xs := ns.map D.int) (vs := ns.map V.int) Reps.of_ints (by rw [List.length_map]; omega) ?_ ?_ (fun R hR => PySem.W.kdu_collect (PySem.W.kdl_dict (knd := mixKind X.prog X.w) (kvs := vs) (ep := ep) plain) (I.ok.hd hc) at_ (by omega) fun h' tk acc keep items => hR h' tk _ keep ?_) hq
  · simp only [List.mem_map]
    rintro _ ⟨a, _, rfl⟩ _ ⟨b, _, rfl⟩
    rfl
  · simp only [List.mem_map]
    rintro _ ⟨a, _, rfl⟩ e
    cases e
  · have each : ∀ {l : List Int} {us : List Value}, l.length = us.length → (∀ (j : Nat) (i : Int) (u : Value), l[j]? = some i → us[j]? = some u → RelV (.int i) u) → Vals (l.map V.int) us := by
      intro l
      induction l with
      | nil => intro us e _; cases us <;> first | exact .nil | cases e
      | cons i l ih =>
        intro us e h
        cases us with
        | nil => cases e
        | cons u us => exact .cons (h 0 i u rfl rfl) (ih (Nat.succ.inj e) fun j i u a b => h (j + 1) i u (by simpa using a) (by simpa using b))
    refine each (by have := items.1; simp; omega) fun j i u a b => ?_
    obtain ⟨k, x, e1, e2⟩ := items.2 j u (by rw [← Array.getElem?_toList]; exact b)
    have e3 := congrArg (fun l : List Key => l[j]?) keys
    simp only [List.getElem?_map, e1, a, Option.map_some, Option.some.injEq] at e3
    subst e3
    rcases keyIs_shape (show keyIs (Sum.inl i) u = true from e2) with ⟨i', t, ek, ev⟩ | ⟨z, t, ek, ev⟩ <;> cases ek
    exact ⟨t, ev⟩
theorem callB (hc : X.calm = true) (hu : Stk X) {n : String} : CallR X (.builtin n) (rWC C X.K (wCall n)) := by
  intro pins s σ H xs us Q I r h
  obtain ⟨G, as, g, ha, P, hw, hq⟩ := h
  unfold wCall at hw
  split at hw
  · rename_i x
    obtain ⟨v, rfl, h⟩ := ha.one
    obtain ⟨hz, n, hn, hp⟩ := hw
    refine call_len pins s σ H _ us Q I r ?_
    unfold dlen at hn
    split at hn
    · rename_i ys
      obtain ⟨p, vs, rfl, h1, h2⟩ := h
      cases hn
      exact ⟨_, _, rfl, .inl ⟨vs, .of h1, h2.length⟩, hq _ _ _ hp (.std rfl)⟩
    · rename_i ys
      obtain ⟨p, vs, rfl, h1, h2⟩ := h
      cases hn
      exact ⟨_, _, rfl, .inr ⟨vs, .of (g _ _ h1), h2.length⟩, hq _ _ _ hp (.std rfl)⟩
    · rename_i ns
      obtain ⟨p, rfl, h1⟩ := h
      cases hn
      exact ⟨_, _, rfl, .inl ⟨_, g.seq h1, by rw [List.length_map]⟩, hq _ _ _ hp (.std rfl)⟩
    · cases h
      cases hn
      exact ⟨_, _, rfl, ⟨hz, rfl⟩, hq _ _ _ hp (.std rfl)⟩
    · cases hn
  · obtain ⟨v, rfl, h⟩ := ha.one
    cases h
    exact call_abs pins s σ H _ us Q I r ⟨_, rfl, hq _ _ _ hw (.std rfl)⟩
  · obtain ⟨v, w, rfl, h, h2⟩ := ha.two
    cases h; cases h2
    exact call_max2 hc pins s σ H _ us Q I r ⟨_, _, rfl, hq _ _ _ hw (.std rfl)⟩
  · obtain ⟨v, w, rfl, h, h2⟩ := ha.two
    cases h; cases h2
    exact call_min2 hc pins s σ H _ us Q I r ⟨_, _, rfl, hq _ _ _ hw (.std rfl)⟩
  · obtain ⟨v, rfl, h⟩ := ha.one
    obtain ⟨p, vs, rfl, h1, h2⟩ := h
    obtain ⟨ns, e, q⟩ := dsum_eq hw.1
    subst e
    rw [q] at hw
    have e2 := Reps.ints h2
    subst e2
    exact cr_sum hc pins s σ H _ us Q I r ⟨p, ns, rfl, .of h1, hq _ _ _ hw.2 (.std rfl)⟩
  · obtain ⟨v, rfl, h⟩ := ha.one
    obtain ⟨p, vs, rfl, h1, h2⟩ := h
    obtain ⟨bs, e, q1, q2⟩ := bls_of hw.1
    rw [q1] at hw
    subst e
    have e2 := Reps.bls h2
    subst e2
    exact cr_any hc pins s σ H _ us Q I r ⟨p, bs, rfl, .of h1, hq _ _ _ hw.2 (.std rfl)⟩
  · obtain ⟨v, rfl, h⟩ := ha.one
    obtain ⟨p, vs, rfl, h1, h2⟩ := h
    obtain ⟨bs, e, q1, q2⟩ := bls_of hw.1
    rw [q2] at hw
    subst e
    have e2 := Reps.bls h2
    subst e2
    exact cr_all hc pins s σ H _ us Q I r ⟨p, bs, rfl, .of h1, hq _ _ _ hw.2 (.std rfl)⟩
  · obtain ⟨v, rfl, h⟩ := ha.one
    exact call_minmax hc hu (isMax := true) I g r (.inl h) hw.1 fun v hv => hq _ _ _ hw.2 (.std hv)
  · obtain ⟨v, rfl, h⟩ := ha.one
    exact call_minmax hc hu (isMax := false) I g r (.inl h) hw.1 fun v hv => hq _ _ _ hw.2 (.std hv)
  · obtain ⟨v, rfl, h⟩ := ha.one
    exact call_minmax hc hu (isMax := false) I g r (.inr h) hw.1 fun v hv => hq _ _ _ hw.2 (.std hv)
  · obtain ⟨v, rfl, h⟩ := ha.one
    exact call_minmax hc hu (isMax := true) I g r (.inr h) hw.1 fun v hv => hq _ _ _ hw.2 (.std hv)
  · obtain ⟨v1, r1, rfl, t1, h⟩ := ha
    obtain ⟨v2, v3, rfl, t2, t3⟩ := h.two
    cases t1; cases t2; cases t3
    rename_i i j l
    refine call_max3Nu hc pins s σ H _ us Q I r ⟨_, _, _, .int (let m := if j > i then j else i; if l > m then l else m), rfl, ?_, hq _ _ _ hw (.std rfl)⟩
    simp only [nuMax3, nuMax2, nuLt, nuCB]
    by_cases h1 : i < j
    · by_cases h2 : j < l <;> simp [h1, h2]
    · by_cases h2 : i < l <;> simp [h1, h2]
  · obtain ⟨v, rfl, h⟩ := ha.one
    rename_i ks xs
    obtain ⟨p, vs, rfl, h1, ⟨h2, h3⟩, h4⟩ := h
    exact call_sortedT hc hu I r h1 h2 (h3.trans h4.length) hw.1.1 hw.1.2 fun p bs hp hr => hq _ _ _ hw.2 (.lstH hp (List.all_eq_true.mpr fun k hk => List.all_eq_true.mp (show ks.all isKeyT = true from h2) k ((List.mergeSort_perm ks _).mem_iff.mp hk)) hr)
  · obtain ⟨v, rfl, h⟩ := ha.one
    rename_i ks xs
    obtain ⟨p, vs, rfl, h1, ⟨h2, h3⟩, h4⟩ := h
    obtain ⟨ns, e, _⟩ := dsum_eq hw.1
    refine call_sortedI (C := C) (ns := ns) hc hu I r h1 ?_ fun q ws hn hr => ?_
    · rw [List.map_fst_zip (by rw [List.length_map, h3.trans h4.length]; exact Nat.le_refl _), e, List.map_map]; rfl
    · have srt : ∃ ys : List Int, dsort (ns.map D.int) = ys.map D.int := by
        have m : ∀ z ∈ dsort (ns.map D.int), ∃ i, z = .int i := fun z hz => by
          obtain ⟨i, _, rfl⟩ := List.mem_map.mp ((List.mergeSort_perm _ _).mem_iff.mp hz)
          exact ⟨i, rfl⟩
        generalize dsort (ns.map D.int) = l at m
        induction l with
        | nil => exact ⟨[], rfl⟩
        | cons z l ih =>
          obtain ⟨i, rfl⟩ := m z List.mem_cons_self
          obtain ⟨ys, e⟩ := ih fun z hz => m z (List.mem_cons_of_mem _ hz)
          exact ⟨i :: ys, by rw [e]; rfl⟩
      obtain ⟨ys, es⟩ := srt
      rw [es] at hr
      obtain rfl := Reps.ints hr
      exact hq (.lst (dsort ks)) (.ref q) _ hw.2 (.lst hn (by rw [e, es]; exact Reps.of_ints))
  · obtain ⟨v, rfl, h⟩ := ha.one
    exact call_sorted hu I g r h hw.1 hw.2.1 fun p vs hp hr => hq _ _ _ hw.2.2 (.lst hp hr)
  · exact hw.elim
end
end VE
/-! VE8: the relation of slots and pending values -/
namespace VE
open PySem PySem.Spec PyProof.Rows L2
abbrev Sg := L2.St
def pr : Ev → Sg → Prs
  | some o :: env, some v :: σ => (v, o) :: pr env σ
  | _ :: env, _ :: σ => pr env σ
  | _, _ => []
structure RelX (C : CT) (K : PySem.W.Frag) (H : Hp) (env : Ev) (σ : Sg) (fr : Prs) : Prop where
  len : env.length = σ.length
  has : ∀ i o, slot env i = some o → ∃ v, σ[i]? = some (some v)
  rel : Rel C K H (pr env σ ++ fr)
theorem slot_some {env : Ev} {i : Nat} {o : O} : slot env i = some o ↔ env[i]? = some (some o) := by
  unfold slot
  constructor
  · intro h
    split at h
    · rename_i e; cases h; exact e
    · cases h
  · intro h; rw [h]
theorem slot_set_self {env : Ev} {i : Nat} {o : Option O} (h : i < env.length) : slot (env.set i o) i = o := by
  unfold slot
  rw [List.getElem?_set_self h]
  cases o <;> rfl
theorem slot_set_ne {env : Ev} {i j : Nat} {o : Option O} (h : i ≠ j) : slot (env.set i o) j = slot env j := by
  unfold slot
  rw [List.getElem?_set_ne h]
theorem slot_lt {env : Ev} {i : Nat} {o : O} (h : slot env i = some o) : i < env.length := (List.getElem?_eq_some_iff.mp (slot_some.mp h)).1
section
variable {C : CT} {K : PySem.W.Frag} {H H' : Hp} {env : Ev} {σ : Sg} {fr fr' : Prs} {v : V} {o : O} {i : Nat} {x : D}
theorem pr_take : ∀ {env : Ev} {σ : Sg} {i : Nat} {o : O} {v : V}, slot env i = some o → σ[i]? = some (some v) → (pr env σ).Perm ((v, o) :: pr (env.set i none) σ)
  | [], _, _, _, _, h, _ => by cases h
  | _ :: _, [], _, _, _, _, e => by simp at e
  | e :: env, s :: σ, 0, o, v, h, q => by
    have h' : e = some o := by have := slot_some.mp h; simpa using this
    have q' : s = some v := by simpa using q
    subst h' q'
    exact .refl _
  | e :: env, s :: σ, i + 1, o, v, h, q => by
    have h' : slot env i = some o := slot_some.mpr (by simpa using slot_some.mp h)
    have q' : σ[i]? = some (some v) := by simpa using q
    have ih := pr_take h' q'
    cases e with
    | none => exact ih
    | some a =>
      cases s with
      | none => exact ih
      | some b => exact (ih.cons _).trans (.swap _ _ _)
theorem pr_put : ∀ {env : Ev} {σ : Sg} {i : Nat} {o : O} {v : V}, i < env.length → i < σ.length → (pr (env.set i (some o)) (σ.set i (some v))).Perm ((v, o) :: pr (env.set i none) σ)
  | [], _, _, _, _, h, _ => by simp at h
  | _ :: _, [], _, _, _, _, h => by simp at h
  | e :: env, s :: σ, 0, o, v, h, q => .refl _
  | e :: env, s :: σ, i + 1, o, v, h, q => by
    have ih := pr_put (o := o) (v := v) (i := i) (Nat.lt_of_succ_lt_succ h) (Nat.lt_of_succ_lt_succ q)
    cases e with
    | none => exact ih
    | some a =>
      cases s with
      | none => exact ih
      | some b => exact (ih.cons _).trans (.swap _ _ _)
theorem pr_nil : ∀ {env : Ev} {σ : Sg} {i : Nat}, (slot env i = none ∨ ∃ v, σ[i]? = some (some v)) → (pr (env.set i none) σ).Sublist (pr env σ)
  | [], _, _, _ => .refl _
  | _ :: _, [], 0, _ => by simp [pr]
  | _ :: _, [], _ + 1, _ => by simp [pr]
  | e :: env, s :: σ, 0, _ => by
    cases e with
    | none => exact .refl _
    | some a =>
      cases s with
      | none => exact .refl _
      | some b => exact (List.Sublist.refl _).cons _
  | e :: env, s :: σ, i + 1, h => by
    have ih := pr_nil (env := env) (σ := σ) (i := i) (by
      rcases h with h | ⟨v, h⟩
      · exact .inl (by unfold slot at h ⊢; simpa using h)
      · exact .inr ⟨v, by simpa using h⟩)
    cases e with
    | none => exact ih
    | some a =>
      cases s with
      | none => exact ih
      | some b => exact ih.cons_cons _
theorem sub_perm {α : Type} {L M : List α} (s : M.Sublist L) : ∃ l, L.Perm (l ++ M) := by
  induction s with
  | slnil => exact ⟨[], .refl _⟩
  | cons a _ ih => obtain ⟨l, p⟩ := ih; exact ⟨a :: l, p.cons a⟩
  | cons_cons a _ ih => obtain ⟨l, p⟩ := ih; exact ⟨l, (p.cons a).trans List.perm_middle.symm⟩
theorem Rel.sub {L M : Prs} (s : M.Sublist L) (h : Rel C K H L) : Rel C K H M := by
  obtain ⟨l, p⟩ := sub_perm s
  exact Rel.dropL (h.perm p)
theorem RelX.push (R : RelX C K H env σ fr) (h : Rel C K H' ((v, o) :: (pr env σ ++ fr))) : RelX C K H' env σ ((v, o) :: fr) := ⟨R.len, R.has, h.perm List.perm_middle.symm⟩
theorem RelX.top (R : RelX C K H env σ ((v, o) :: fr)) : Rel C K H ((v, o) :: (pr env σ ++ fr)) := R.rel.perm List.perm_middle
theorem RelX.pop (R : RelX C K H env σ ((v, o) :: fr)) : RelX C K H env σ fr := ⟨R.len, R.has, R.top.drop⟩
theorem RelX.perm (R : RelX C K H env σ fr) (p : fr.Perm fr') : RelX C K H env σ fr' := ⟨R.len, R.has, R.rel.perm (p.append_left _)⟩
theorem RelX.sub (R : RelX C K H env σ fr) (p : fr'.Sublist fr) : RelX C K H env σ fr' := ⟨R.len, R.has, Rel.sub ((List.Sublist.refl _).append p) R.rel⟩
theorem RelX.freeze (R : RelX C K H env σ ((v, o) :: fr)) : RelX C K H env σ ((v, .d o.toD) :: fr) := ⟨R.len, R.has, (R.top.freeze).perm List.perm_middle.symm⟩
theorem RelX.swap {a b : V × O} (R : RelX C K H env σ (a :: b :: fr)) : RelX C K H env σ (b :: a :: fr) := R.perm (.swap _ _ _)
theorem RelX.std (R : RelX C K H env σ fr) (h : ∀ G, Rep C K G x v) : RelX C K H env σ ((v, .d x) :: fr) := by
  obtain ⟨G, S, g, k, nd, no⟩ := R.rel
  exact R.push ⟨G, S, g, ⟨[], S, rfl, ⟨rfl, h G⟩, k⟩, nd, no⟩
/-- a slot's object goes to the pending ones -/
theorem RelX.take (R : RelX C K H env σ fr) (h : slot env i = some o) (q : σ[i]? = some (some v)) : RelX C K H (env.set i none) σ ((v, o) :: fr) := by
  refine ⟨by rw [List.length_set]; exact R.len, fun j o' e => ?_, (R.rel.perm ((pr_take h q).append_right fr)).perm List.perm_middle.symm⟩
  by_cases z : i = j
  · subst z; rw [slot_set_self (slot_lt h)] at e; cases e
  · rw [slot_set_ne z] at e; exact R.has j o' e
/-- .. and back: a pending value goes to slot i -/
theorem RelX.put (R : RelX C K H env σ ((v, o) :: fr)) (h : i < env.length) : RelX C K H (env.set i (some o)) (σ.set i (some v)) fr := by
  have h2 : i < σ.length := by rw [← R.len]; exact h
  refine ⟨by rw [List.length_set, List.length_set]; exact R.len, fun j o' e => ?_, ?_⟩
  · by_cases z : i = j
    · subst z; exact ⟨v, List.getElem?_set_self h2⟩
    · rw [slot_set_ne z] at e; rw [List.getElem?_set_ne z]; exact R.has j o' e
  · have R2 : Rel C K H ((v, o) :: (pr (env.set i none) σ ++ fr)) := by
      refine Rel.sub ?_ R.top
      refine List.Sublist.cons_cons _ (List.Sublist.append (pr_nil ?_) (.refl _))
      cases e : slot env i with
      | none => exact .inl rfl
      | some o' => exact .inr (R.has i o' e)
    exact R2.perm ((pr_put h h2).append_right fr).symm
theorem set_same {σ : Sg} {i : Nat} {v : V} (q : σ[i]? = some (some v)) : σ.set i (some v) = σ := by
  apply List.ext_getElem?
  intro j
  by_cases z : i = j
  · subst z; rw [List.getElem?_set_self (List.getElem?_eq_some_iff.mp q).1, q]
  · rw [List.getElem?_set_ne z]
/-- a slot's object is another one at the same place -/
theorem RelX.back (R : RelX C K H env σ ((v, o) :: fr)) (q : σ[i]? = some (some v)) : RelX C K H (env.set i (some o)) σ fr := by
  have h : i < env.length := by rw [R.len]; exact (List.getElem?_eq_some_iff.mp q).1
  have := R.put h
  rwa [set_same q] at this
theorem RelX.back' {a : Option O} (R : RelX C K H (env.set i a) σ ((v, o) :: fr)) (q : σ[i]? = some (some v)) : RelX C K H (env.set i (some o)) σ fr := by
  have := R.back q
  rwa [List.set_set] at this
/-- a slot is forgotten -/
theorem RelX.clear (R : RelX C K H env σ fr) (i : Nat) : RelX C K H (env.set i none) σ fr := by
  cases e : slot env i with
  | none =>
    refine ⟨by rw [List.length_set]; exact R.len, fun j o' q => ?_, Rel.sub ((pr_nil (.inl e)).append (.refl _)) R.rel⟩
    by_cases z : i = j
    · subst z
      unfold slot at q
      by_cases hl : i < env.length
      · rw [List.getElem?_set_self hl] at q; cases q
      · rw [List.getElem?_eq_none (by rw [List.length_set]; omega)] at q; cases q
    · rw [slot_set_ne z] at q; exact R.has j o' q
  | some o =>
    obtain ⟨v, q⟩ := R.has i o e
    exact (R.take e q).pop
/-- what stands in slot i, frozen: a copy among the pending -/
theorem RelX.val (R : RelX C K H env σ fr) (h : slot env i = some o) (q : σ[i]? = some (some v)) : RelX C K H (env.set i (some (.d o.toD))) σ ((v, .d o.toD) :: fr) := by
  have R1 := (R.take h q).freeze
  have R2 : RelX C K H (env.set i none) σ ((v, .d o.toD) :: (v, .d o.toD) :: fr) := ⟨R1.len, R1.has, (R1.top.dup).perm (by
    refine (List.Perm.trans ?_ List.perm_middle.symm)
    exact (List.perm_middle.symm).cons _)⟩
  exact R2.back' q
end

/-! ### results -/
def RelR (C : CT) (K : PySem.W.Frag) (H : Hp) (env : Ev) (σ : Sg) (fr : Prs) (v : V) : R → Prop
  | .obj o => RelX C K H env σ ((v, o) :: fr)
  | .path i => RelX C K H env σ fr ∧ σ[i]? = some (some v) ∧ ∃ o, slot env i = some o
def pend : List V → List R → Prs
  | v :: vs, .obj o :: rs => (v, o) :: pend vs rs
  | _ :: vs, .path _ :: rs => pend vs rs
  | _, _ => []
def Paths (σ : Sg) : List V → List R → Prop
  | [], [] => True
  | v :: vs, .obj _ :: rs => Paths σ vs rs
  | v :: vs, .path i :: rs => σ[i]? = some (some v) ∧ Paths σ vs rs
  | _, _ => False
structure RelRs (C : CT) (K : PySem.W.Frag) (H : Hp) (env : Ev) (σ : Sg) (fr : Prs) (vs : List V) (rs : List R) : Prop where
  rel : RelX C K H env σ (pend vs rs ++ fr)
  paths : Paths σ vs rs
section
variable {C : CT} {K : PySem.W.Frag} {H H' : Hp} {env env' : Ev} {σ : Sg} {fr fr' : Prs} {v : V} {o : O} {i : Nat} {x : D} {r : R}
theorem RelR.nrm (h : RelR C K H env σ fr v r) : RelR C K H env σ fr v r.nrm := by
  cases r with
  | obj o => exact RelX.freeze h
  | path i => exact h
theorem RelR.base (h : RelR C K H env σ fr v r) : RelX C K H env σ fr := by
  cases r with
  | obj o => exact RelX.pop h
  | path i => exact h.1
/-- the pending ones behind an operand -/
def frm (v : V) (r : R) (fr : Prs) : Prs := match r with
  | .obj o => (v, o) :: fr
  | .path _ => fr
theorem RelR.frm (h : RelR C K H env σ fr v r) : RelX C K H env σ (frm v r fr) := by
  cases r with
  | obj o => exact h
  | path i => exact h.1
theorem RelR.path {i : Nat} (h : RelR C K H env σ fr v (.path i)) : σ[i]? = some (some v) := h.2.1
/-- one more operand -/
theorem RelRs.cons {vs : List V} {rs : List R} (h : RelR C K H env σ fr v r) (k : RelRs C K H' env' σ (frm v r fr) vs rs) : RelRs C K H' env' σ fr (v :: vs) (r :: rs) := by
  cases r with
  | obj o =>
    refine ⟨k.rel.perm ?_, k.paths⟩
    exact List.perm_middle
  | path i => exact ⟨k.rel, h.2.1, k.paths⟩
theorem RelR.val {k : D → Ev → Prop} (h : RelR C K H env σ fr v r) (q : r.val env k) : ∃ x env', k x env' ∧ RelX C K H env' σ ((v, .d x) :: fr) := by
  unfold R.val at q
  cases r with
  | obj o => exact ⟨_, _, q, RelX.freeze h⟩
  | path i =>
    obtain ⟨h1, h2, o, h3⟩ := h
    have e : getR env (.path i) = some o := h3
    rw [e] at q
    exact ⟨_, _, q, h1.val h3 h2⟩
theorem RelR.get {k : O → Ev → Prop} (h : RelR C K H env σ fr v r) (q : r.get env k) : ∃ o env', k o env' ∧ RelX C K H env' σ ((v, o) :: fr) := by
  cases r with
  | obj o => exact ⟨_, _, q, h⟩
  | path i =>
    obtain ⟨x, env', h1, h2⟩ := RelR.val (k := fun x e => k (.d x) e) (r := .path i) h q
    exact ⟨_, _, h1, h2⟩
/-- the operands' tops -/
theorem pend_top {G : Hp} {vs : List V} {rs : List R} {os : List O} {S : List Addr} (hp : Paths σ vs rs) (he : opsO env rs = some os) (g : Same G H) (hl : env.length = σ.length) (k : ownL C K H G (pr env σ ++ (pend vs rs ++ fr)) S) : Tops C K H G (os.map O.toD) vs := by
  have one : ∀ {L : Prs} {S : List Addr} {v : V} {o : O}, ownL C K H G L S → (v, o) ∈ L → Top C K H G o.toD v := by
    intro L
    induction L with
    | nil => intro S v o _ hm; cases hm
    | cons a L ih =>
      intro S v o k hm
      obtain ⟨w, u⟩ := a
      obtain ⟨S1, S2, _, k1, k2⟩ := k
      rcases List.mem_cons.mp hm with e | hm
      · cases e; exact own.top k1 g
      · exact ih k2 hm
  have mem : ∀ i o v, slot env i = some o → σ[i]? = some (some v) → (v, o) ∈ pr env σ := fun i o v h q => (pr_take h q).mem_iff.mpr (by simp)
  have all : ∀ (rs : List R) (vs : List V) (os : List O), Paths σ vs rs → opsO env rs = some os → (∀ p ∈ pend vs rs, p ∈ pr env σ ++ (pend vs rs ++ fr) → Top C K H G p.2.toD p.1) → Tops C K H G (os.map O.toD) vs := by
    intro rs
    induction rs with
    | nil =>
      intro vs os hp he _
      cases vs with
      | nil => simp [opsO] at he; subst he; rfl
      | cons _ _ => exact hp.elim
    | cons r rs ih =>
      intro vs os hp he ht
      cases vs with
      | nil => cases r <;> exact hp.elim
      | cons v vs =>
        unfold opsO at he
        cases r with
        | obj o =>
          cases e2 : opsO env rs with
          | none => rw [e2] at he; cases he
          | some os' =>
            rw [e2] at he
            have he' : some (o :: os') = some os := he
            cases he'
            refine ⟨v, vs, rfl, ht (v, o) (by simp [pend]) (by simp [pend]), ih vs os' hp e2 fun p hp' _ => ht p (by simp [pend, hp']) (by simp [pend, hp'])⟩
        | path i =>
          cases e1 : slot env i with
          | none =>
            have : getR env (.path i) = none := e1
            rw [this] at he; cases he
          | some o =>
            have e1' : getR env (.path i) = some o := e1
            rw [e1'] at he
            cases e2 : opsO env rs with
            | none => rw [e2] at he; cases he
            | some os' =>
              rw [e2] at he
              have he' : some (o :: os') = some os := he
              cases he'
              exact ⟨v, vs, rfl, one k (List.mem_append_left _ (mem i o v e1 hp.1)), ih vs os' hp.2 e2 ht⟩
  exact all rs vs os hp he fun p hp' _ => one k (List.mem_append_right _ (List.mem_append_left _ hp'))
/-- a primitive's answer; the operands are still there -/
theorem RelRs.wishK {vs : List V} {rs : List R} {os : List O} {w : List D → WO} {P : O → Prop} (h : RelRs C K H env σ fr vs rs) (he : opsO env rs = some os) (hw : w (os.map O.toD) P) :
    ∃ G, Same G H ∧ Tops C K H G (os.map O.toD) vs ∧ ∀ Q : VK, (∀ o v H', P o → RelX C K H' env σ ((v, o) :: (pend vs rs ++ fr)) → Q v H') → Wish C K G H (w (os.map O.toD)) Q := by
  obtain ⟨G, S, g, k, nd, no⟩ := h.rel.rel
  exact ⟨G, g, pend_top h.paths he g h.rel.len k, fun Q hq => ⟨P, hw, fun o v H' hp hr => hq o v H' hp (h.rel.push (rel_res g k nd no hr))⟩⟩
theorem RelRs.wish {vs : List V} {rs : List R} {os : List O} {w : List D → WO} {P : O → Prop} (h : RelRs C K H env σ fr vs rs) (he : opsO env rs = some os) (hw : w (os.map O.toD) P) :
    ∃ G, Same G H ∧ Tops C K H G (os.map O.toD) vs ∧ ∀ Q : VK, (∀ o v H', P o → RelX C K H' env σ ((v, o) :: fr) → Q v H') → Wish C K G H (w (os.map O.toD)) Q := by
  obtain ⟨G, g, t, hq⟩ := h.wishK he hw
  exact ⟨G, g, t, fun Q q => hq Q fun o v H' hp R => q o v H' hp (R.sub (List.Sublist.cons_cons _ (List.sublist_append_right _ _)))⟩
end
end VE
/-! VE9: the check, and the soundness of expressions -/
namespace VE
open PySem PySem.Spec PyProof.Rows L2
structure Tb where
  N : List Str
  fn : Nat → Option Str
  ar : Nat → Nat
  glob : List (Str × Int)
  free : List Str
  cl : Nat → Option (List Str) := fun _ => none
  nw : Nat → Nat → Option Str := fun _ _ => none
  me : Nat → Nat → Str → Bool := fun _ _ _ => false
  ow : Nat → Option Str := fun _ => none
  eq : Nat → Nat → Bool := fun _ _ => false
def visB (sc : Scope) (x : Str) : Bool := match sc.names.lookup x with
  | some .local => true
  | some .cell => true
  | some .free => true
  | _ => false
def glB (sc : Scope) (x : Str) : Bool := decide (sc.names.lookup x = some .globalImplicit)
def noStar : Expr → Bool
  | .Starred _ _ => false
  | _ => true
def nmOk (x : Str) : Bool := !(x == ("__debug__" : Str)) && !(x == ("__classdict__" : Str))
def gnOk (B : Tb) (sc : Scope) (x : Str) : Bool := glB sc x && decide (x ∈ B.free) && decide (x ≠ "__name__") && !(x == ("__debug__" : Str))
def plainIx : Expr → Bool
  | .Slice _ _ _ _ => false
  | _ => true
/-- the target's names: stored in the frame (ow: the innermost comprehension's own scope) -/
def tgOk (B : Tb) (sc : Scope) (ow : Option Scope) (i : Nat) (x : Str) : Bool :=
  decide (B.N[i]? = some x) && (decide (sc.names.lookup x = some .local) || decide (sc.names.lookup x = some .cell)) && (match ow with
    | none => true
    | some s => decide (s.names.lookup x = some .cell) || decide (sc.names.lookup x = some .local))
mutual
def chkP (B : Tb) (sc : Scope) (ow : Option Scope) : Pat → Expr → Bool
  | .v i, .Name x _ => tgOk B sc ow i x
  | .t ps, .Tuple es _ _ => chkPs B sc ow ps es
  | _, _ => false
def chkPs (B : Tb) (sc : Scope) (ow : Option Scope) : Pats → List Expr → Bool
  | .nil, [] => true
  | .cons p ps, e :: es => noStar e && chkP B sc ow p e && chkPs B sc ow ps es
  | _, _ => false
end
def Pats.len : Pats → Nat
  | .nil => 0
  | .cons _ ps => ps.len + 1
mutual
/-- the slots that a target stores -/
def Pat.vs : Pat → List Nat
  | .v i => [i]
  | .t ps => Pats.vs ps
def Pats.vs : Pats → List Nat
  | .nil => []
  | .cons p ps => p.vs ++ ps.vs
end
def ownN (N : List Str) (ow : List Nat) : List (Str × Nat) := ow.filterMap fun i => (N[i]?).map fun x => (x, i)
def bltOk (x : Str) (v : Value) : Bool := decide (bootBuiltins x = some v)
/-- not super() -/
def plainO : Expr → Bool
  | .Call _ [] [] _ => false
  | _ => true
def mname : Mu → Option Str
  | .append => some "append"
  | .extend => some "extend"
  | .pop => some "pop"
  | .popAt => some "pop"
  | .dpop1 => some "pop"
  | .dupd => some "update"
  | _ => none
def e_isi : Expr → Option (Str × Expr × Str)
  | .Call (.Name x _) [e, .Name y _] [] _ => some (x, e, y)
  | _ => none
def e_mrg : Expr → Option (Expr × Expr)
  | .Dict [none, none] [x, y] _ => some (x, y)
  | _ => none
def e_dic1 : Expr → Option (Expr × Expr)
  | .Dict [some x] [y] _ => some (x, y)
  | _ => none
def e_ch3 (o1 o2 o3 : CmpOp) : Expr → Option (Expr × Expr × Expr × Expr)
  | .Compare l [p, q, t] [m, r, u] _ => if (decide (o1 = p) && decide (o2 = q) && decide (o3 = t) && !lastMarks [p, q, t] [m, r, u]) = true then some (l, m, r, u) else none
  | _ => none
def e_cmp (neg : Bool) : Expr → Option (Expr × Expr)
  | .Compare x [p] [y] _ => if (decide (p = if neg then .NotEq else .Eq) && !behindInMarks p y) = true then some (x, y) else none
  | _ => none
theorem e_isi_is {e e' : Expr} {x y : Str} (h : e_isi e = some (x, e', y)) : ∃ p p2 pos, e = .Call (.Name x p) [e', .Name y p2] [] pos := by
  unfold e_isi at h
  split at h
  · cases h; exact ⟨_, _, _, rfl⟩
  · cases h
theorem e_mrg_is {e x y : Expr} (h : e_mrg e = some (x, y)) : ∃ pos, e = .Dict [none, none] [x, y] pos := by
  unfold e_mrg at h
  split at h
  · cases h; exact ⟨_, rfl⟩
  · cases h
theorem e_dic1_is {e x y : Expr} (h : e_dic1 e = some (x, y)) : ∃ pos, e = .Dict [some x] [y] pos := by
  unfold e_dic1 at h
  split at h
  · cases h; exact ⟨_, rfl⟩
  · cases h
theorem e_ch3_is {o1 o2 o3 : CmpOp} {e l m r u : Expr} (h : e_ch3 o1 o2 o3 e = some (l, m, r, u)) : ∃ pos, e = .Compare l [o1, o2, o3] [m, r, u] pos ∧ lastMarks [o1, o2, o3] [m, r, u] = false := by
  unfold e_ch3 at h
  split at h
  · split at h
    · rename_i z
      simp only [Bool.and_eq_true, decide_eq_true_eq, Bool.not_eq_true'] at z
      obtain ⟨⟨⟨rfl, rfl⟩, rfl⟩, z⟩ := z
      cases h; exact ⟨_, rfl, z⟩
    · cases h
  · cases h
theorem e_cmp_is {neg : Bool} {e x y : Expr} (h : e_cmp neg e = some (x, y)) : ∃ pos, e = .Compare x [if neg then .NotEq else .Eq] [y] pos ∧ behindInMarks (if neg then .NotEq else .Eq) y = false := by
  unfold e_cmp at h
  split at h
  · rename_i x' p y' pos
    cases hc : (decide (p = if neg then .NotEq else .Eq) && !behindInMarks p y') with
    | false => rw [hc] at h; cases h
    | true =>
      rw [hc] at h
      simp only [Bool.and_eq_true, decide_eq_true_eq, Bool.not_eq_true'] at hc
      obtain ⟨rfl, z⟩ := hc
      cases h; exact ⟨_, rfl, z⟩
  · cases h
mutual
def chkE (B : Tb) : T → Scope → Option Scope → Expr → Bool
  | .var i, sc, _, .Name x _ => decide (B.N[i]? = some x) && visB sc x && nmOk x
  | .int i, _, _, .Constant (.int j) _ _ => decide (i = j)
  | .bl b, _, _, .Constant (.bool c) _ _ => b == c
  | .non, _, _, .Constant .none _ _ => true
  | .str s, _, _, .Constant (.str t) _ _ => decide (s = t)
  | .glob x i, sc, _, .Name y _ => decide (x = y) && glB sc x && decide ((x, i) ∈ B.glob) && !(x == ("__debug__" : Str))
  | .tup as, sc, ow, .Tuple es _ _ => chkEs B as sc ow es && decide (es.length ≤ 1000)
  | .frz a, sc, ow, .Call f es ks p => chkE B a sc ow (.Call f es ks p)
  | .tupR a, sc, ow, .Call (.Name x _) [.Call (.Name y _) [e] [] _] [] _ => decide (x = "tuple") && decide (y = "range") && gnOk B sc x && gnOk B sc y && (noStar e && chkE B a sc ow e)
  | .fld c j a, sc, ow, .Attribute e f _ => (match B.cl c with | some ns => decide (ns[j]? = some f) | none => false) && plainO e && chkE B a sc ow e
  | .dic0 _, _, _, .Dict [] [] _ => true
  | .dget a (.cons b (.cons c .nil)), sc, ow, .Call (.Attribute o nm apos) [e, f] [] pos => decide (nm = "get") && plainO o && chkE B a sc ow o && (noStar e && chkE B b sc ow e && (noStar f && chkE B c sc ow f)) && (apos.endLine == pos.line)
  | .isi a (.b n), sc, ow, .Call (.Name x _) [e, .Name y _] [] _ => decide (x = "isinstance") && gnOk B sc x && decide (y = Str.ofString n) && gnOk B sc y && bltOk y (.type n) && (noStar e && chkE B a sc ow e)
  | .isi a (.own c), sc, ow, e => (match e_isi e with
    | some (x, e, y) => decide (x = "isinstance") && gnOk B sc x && decide (B.ow c = some y) && glB sc y && !(y == ("__debug__" : Str)) && (noStar e && chkE B a sc ow e)
    | none => false)
  | .mrg a b, sc, ow, e => (match e_mrg e with
    | some (x, y) => chkE B a sc ow x && chkE B b sc ow y
    | none => false)
  | .dic1 a b, sc, ow, e => (match e_dic1 e with
    | some (x, y) => chkE B a sc ow x && chkE B b sc ow y
    | none => false)
  | .chain3 o1 o2 o3 a b c d, sc, ow, e => (match e_ch3 o1 o2 o3 e with
    | some (l, m, r, u) => chkE B a sc ow l && chkE B b sc ow m && chkE B c sc ow r && chkE B d sc ow u
    | none => false)
  | .meq neg l a b, sc, ow, e => (match e_cmp neg e with
    | some (x, y) => (l.all fun q => B.eq q.1 q.2 && decide (B.ar q.2 = 2)) && chkE B a sc ow x && chkE B b sc ow y
    | none => false)
  | .call0 f, sc, _, .Call (.Name x _) [] [] _ => decide (B.fn f = some x) && glB sc x && !(x == ("__debug__" : Str)) && decide (B.ar f = 0)
  | .new c f _ .nil, sc, _, .Call (.Name x _) [] [] _ => decide (B.nw c f = some x) && glB sc x && !(x == ("__debug__" : Str)) && decide (B.ar f = 1)
  | .new c f _ (.cons a as), sc, ow, .Call (.Name x _) (e :: es) [] _ => decide (B.nw c f = some x) && glB sc x && !(x == ("__debug__" : Str)) && decide (B.ar f = es.length + 2) && (noStar e && chkE B a sc ow e && chkEs B as sc ow es)
  | .meth l m r .nil, sc, ow, .Call (.Attribute o nm apos) [] [] pos => decide (m = nm) && (l.all fun p => B.me p.1 p.2 nm && decide (B.ar p.2 = 1)) && plainO o && chkE B r sc ow o && (apos.endLine == pos.line)
  | .meth l m r (.cons a as), sc, ow, .Call (.Attribute o nm apos) (e :: es) [] pos => decide (m = nm) && (l.all fun p => B.me p.1 p.2 nm && decide (B.ar p.2 = es.length + 2)) && plainO o && chkE B r sc ow o && (apos.endLine == pos.line) && decide (es.length < 20) && (noStar e && chkE B a sc ow e && chkEs B as sc ow es)
  | .star a b, sc, ow, .Tuple [.Starred x _, y] _ _ => chkE B a sc ow x && (noStar y && chkE B b sc ow y)
  | .lst as, sc, ow, .List es _ => chkEs B as sc ow es && decide (es.length ≤ 1000)
  | .prim (.bop o) (.cons a (.cons b .nil)), sc, ow, .BinOp l p r _ => decide (o = p) && chkE B a sc ow l && chkE B b sc ow r
  | .prim (.cmp o) (.cons a (.cons b .nil)), sc, ow, .Compare l [p] [r] _ => decide (o = p) && chkE B a sc ow l && chkE B b sc ow r && !behindInMarks p r
  | .prim .neg (.cons a .nil), sc, ow, .UnaryOp .USub e _ => chkE B a sc ow e
  | .prim .ix (.cons a (.cons b .nil)), sc, ow, .Subscript l r _ => chkE B a sc ow l && chkE B b sc ow r && plainIx r
  | .prim (.sl false false) (.cons a .nil), sc, ow, .Subscript l (.Slice none none none _) _ => chkE B a sc ow l
  | .prim (.sl true false) (.cons a (.cons b .nil)), sc, ow, .Subscript l (.Slice (some x) none none _) _ => chkE B a sc ow l && chkE B b sc ow x
  | .prim (.sl false true) (.cons a (.cons b .nil)), sc, ow, .Subscript l (.Slice none (some x) none _) _ => chkE B a sc ow l && chkE B b sc ow x
  | .prim (.sl true true) (.cons a (.cons b (.cons c .nil))), sc, ow, .Subscript l (.Slice (some x) (some y) none _) _ => chkE B a sc ow l && chkE B b sc ow x && chkE B c sc ow y
  | .prim .rev (.cons a .nil), sc, ow, .Subscript l (.Slice none none (some (.UnaryOp .USub (.Constant (.int i) _ _) _)) _) _ => decide (i = 1) && chkE B a sc ow l
  | .prim (.call n) (.cons a as), sc, ow, .Call (.Name x _) (e :: es) [] _ => decide (x = Str.ofString n) && gnOk B sc x && bltOk x (.builtin n) && (noStar e && chkE B a sc ow e && chkEs B as sc ow es)
  | .prim (.ty n) (.cons a as), sc, ow, .Call (.Name x _) (e :: es) [] _ => decide (x = Str.ofString n) && gnOk B sc x && bltOk x (.type n) && (noStar e && chkE B a sc ow e && chkEs B as sc ow es)
  | .chain o1 o2 a b c, sc, ow, .Compare l [p, q] [m, r] _ => decide (o1 = p) && decide (o2 = q) && chkE B a sc ow l && chkE B b sc ow m && chkE B c sc ow r && !lastMarks [p, q] [m, r]
  | .and as, sc, ow, .BoolOp .And es _ => !es.isEmpty && chkEs B as sc ow es
  | .or as, sc, ow, .BoolOp .Or es _ => !es.isEmpty && chkEs B as sc ow es
  | .not a, sc, ow, .UnaryOp .Not e _ => chkE B a sc ow e
  | .ite c a b, sc, ow, .IfExp t x y _ => chkE B c sc ow t && chkE B a sc ow x && chkE B b sc ow y
  | .call f (.cons a as), sc, ow, .Call (.Name x _) (e :: es) [] _ => decide (B.fn f = some x) && glB sc x && !(x == ("__debug__" : Str)) && decide (B.ar f = es.length + 1) && (noStar e && chkE B a sc ow e && chkEs B as sc ow es)
  | .mut u i as, sc, ow, .Call (.Attribute (.Name x _) nm apos) es [] pos => decide (mname u = some nm) && decide (B.N[i]? = some x) && visB sc x && nmOk x && decide (es.length ≤ 1) && chkEs B as sc ow es && (apos.endLine == pos.line)
  | .comp own p kd as ifs a, sc, ow, .ListComp elt [⟨tg, iter, cs, z⟩] scope _ =>
    decide (z = 0) && blkC B.N sc scope (ownN B.N own) && decide ((ownN B.N own).map (·.2) = own) && (p.vs.all fun i => own.contains i) && chkP B (relS scope sc) (some scope) p tg && chkI B kd as sc ow tg iter && chkC B ifs (relS scope sc) (some scope) cs && chkE B a (relS scope sc) (some scope) elt
  | .compO own p i ifs a, sc, none, .ListComp elt [⟨tg, iter, cs, z⟩] scope _ =>
    decide (z = 0) && !own.contains i && blkC B.N sc scope (ownN B.N own) && decide ((ownN B.N own).map (·.2) = own) && (p.vs.all fun i => own.contains i) && chkP B (relS scope sc) (some scope) p tg && (match iter with | .Name x _ => decide (B.N[i]? = some x) && visB sc x && nmOk x | _ => false) && chkC B ifs (relS scope sc) (some scope) cs && chkE B a (relS scope sc) (some scope) elt
  | .comp2 own p kd as own2 p2 kd2 as2 ifs a, sc, ow, .ListComp elt [⟨tg, iter, [], z⟩, ⟨tg2, iter2, cs2, z2⟩] scope _ =>
    decide (z = 0) && decide (z2 = 0) && blkC B.N sc scope (ownN B.N own) && decide ((ownN B.N own).map (·.2) = own) && (own2.all fun i => own.contains i) && (p.vs.all fun i => own.contains i) && (p2.vs.all fun i => own2.contains i) && chkP B (relS scope sc) (some scope) p tg && chkP B (relS scope sc) (some scope) p2 tg2 &&
      chkI B kd as sc ow tg iter && chkI B kd2 as2 (relS scope sc) (some scope) tg2 iter2 && chkC B ifs (relS scope sc) (some scope) cs2 && chkE B a (relS scope sc) (some scope) elt
  | _, _, _, _ => false
def chkEs (B : Tb) : Ts → Scope → Option Scope → List Expr → Bool
  | .nil, _, _, [] => true
  | .cons a as, sc, ow, e :: es => noStar e && chkE B a sc ow e && chkEs B as sc ow es
  | _, _, _, _ => false
/-- a clause's tests: none or one -/
def chkC (B : Tb) : Ts → Scope → Option Scope → List Expr → Bool
  | .nil, _, _, [] => true
  | .cons a .nil, sc, ow, [e] => chkE B a sc ow e
  | _, _, _, _ => false
/-- what is walked -/
def chkI (B : Tb) : ItK → Ts → Scope → Option Scope → Expr → Expr → Bool
  | .seq, .cons a .nil, sc, ow, _, e => chkE B a sc ow e && (match e with | .Set _ _ _ => false | _ => true)
  | .rng, .cons a as, sc, ow, _, .Call (.Name x _) (e :: es) [] _ => decide (x = "range") && gnOk B sc x && (noStar e && chkE B a sc ow e && chkEs B as sc ow es) && decide (es.length ≤ 1)
  | .zip, .cons a (.cons b .nil), sc, ow, tg, .Call (.Name x _) [e, e2] [] _ => decide (x = "zip") && gnOk B sc x && (match tg with | .Tuple _ _ _ => true | _ => false) && (noStar e && chkE B a sc ow e && (noStar e2 && chkE B b sc ow e2))
  | .zip, .cons a (.cons b (.cons c .nil)), sc, ow, tg, .Call (.Name x _) [e1, e2, e3] [] _ => decide (x = "zip") && gnOk B sc x && (match tg with | .Tuple _ _ _ => true | _ => false) && (noStar e1 && chkE B a sc ow e1 && (noStar e2 && chkE B b sc ow e2 && (noStar e3 && chkE B c sc ow e3)))
  | .zip, .cons a (.cons b (.cons c (.cons d .nil))), sc, ow, tg, .Call (.Name x _) [e1, e2, e3, e4] [] _ => decide (x = "zip") && gnOk B sc x && (match tg with | .Tuple _ _ _ => true | _ => false) && (noStar e1 && chkE B a sc ow e1 && (noStar e2 && chkE B b sc ow e2 && (noStar e3 && chkE B c sc ow e3 && (noStar e4 && chkE B d sc ow e4))))
  | .zipN, .cons a (.cons b .nil), sc, ow, tg, .Call (.Name x _) [e, e2] [] _ => decide (x = "zip") && gnOk B sc x && (match tg with | .Name _ _ => true | _ => false) && (noStar e && chkE B a sc ow e && (noStar e2 && chkE B b sc ow e2))
  | .enum, .cons a .nil, sc, ow, tg, .Call (.Name x _) [e] [] _ => decide (x = "enumerate") && gnOk B sc x && (match tg with | .Tuple _ _ _ => true | _ => false) && (noStar e && chkE B a sc ow e)
  | .items, .cons a .nil, sc, ow, tg, .Call (.Attribute o nm apos) [] [] pos => decide (nm = "items") && (match tg with | .Tuple _ _ _ => true | _ => false) && plainO o && chkE B a sc ow o && (apos.endLine == pos.line)
  | _, _, _, _, _, _ => false
end
end VE
/-! VE10: the soundness of expressions -/
namespace VE
open PySem PySem.Spec PyProof.Rows L2

/-- a def's promise for the layer -/
def spOf (C : CT) (K : PySem.W.Frag) (n : Nat) (Φ : DSp) : Sp := fun vs H Q _ => vs.length = n ∧ ∃ (L : Prs) (os : List O), os.length = n ∧ Rel C K H (vs.zip os ++ L) ∧
  callW Φ os (fun o os' => ∀ v H', Rel C K H' ((v, o) :: (vs.zip os' ++ L)) → Q v H') (fun _ _ => False)
/-- what isinstance and != ask of an own class -/
structure OwnC (K : PySem.W.Frag) (c : Addr) : Prop where
  cl : PySem.W.findIn K (.ref c) "__class__" = some (some (.builtin "object.__class__"))
  gt : PySem.W.specialIn K (.builtin "object.__class__") "__get__" = some (some (.builtin "getset_descriptor.__get__"))
  tk : PySem.W.takesIn K (.builtin "object.__class__") = some true
  ob : PySem.W.mroIn K c (.type "object") = some true
  ne : PySem.W.findIn K (.ref c) "__ne__" = some (some (.builtin "object.__ne__"))
/-- what a context must have -/
structure Sup (B : Tb) (C : CT) (Γ : Gam) (sc : Scope) (ow : Option Scope) (X : Cx) : Prop where
  calm : X.calm = true
  stk : Stk X
  hu1 : X.A.units + 1 < cLine
  hN : X.N = B.N
  nd : B.N.Nodup
  hsc : X.env.scope = sc
  tg : ∀ i x, tgOk B sc ow i x = true → X.fn x = true ∨ sc.names.lookup x = some .local
  blt : ∀ x ∈ B.free, X.mg x = none
  glob : ∀ x i, (x, i) ∈ B.glob → ∃ t, X.mg x = some (.int i t)
  cls : ∀ c ns, B.cl c = some ns → C.names c = ns ∧ ns.Nodup ∧ Cls X.K (C.addr c) ∧ ∀ f ∈ ns, NoAttr X.K (C.addr c) f
  ow : ∀ c x, B.ow c = some x → OwnC X.K (C.addr c) ∧ Cls X.K (C.addr c) ∧ X.mg x = some (.ref (C.addr c))
  eq : ∀ c f, B.eq c f = true → OwnC X.K (C.addr c) ∧ ∃ k a fd ps, Meth X.K (C.addr c) "__eq__" a ∧ FnOk X.prog X.w X.K X.mg X.base CX0 k a fd ps (spOf C X.K (B.ar f) (Γ.fn f)) ∧ Room (k + 1) X.A ∧ Binds X.K fd ps []
  nw : ∀ c f x, B.nw c f = some x → ∃ k a fd ps, Mk X.K (C.addr c) a ∧ FnOk X.prog X.w X.K X.mg X.base CX0 k a fd ps (spOf C X.K (B.ar f) (Γ.fn f)) ∧ Room (k + 1) X.A ∧ X.mg x = some (.ref (C.addr c)) ∧ Binds X.K fd ps []
  me : ∀ c f m, B.me c f m = true → (∀ vs : List V, ((C.names c).zip vs).lookup m = none) ∧ ∃ k a fd ps, Cls X.K (C.addr c) ∧ Meth X.K (C.addr c) m a ∧ FnOk X.prog X.w X.K X.mg X.base CX0 k a fd ps (spOf C X.K (B.ar f) (Γ.fn f)) ∧ Room k X.A ∧ Binds X.K fd ps []
  fn : ∀ f x, B.fn f = some x → ∃ k a fd ps, FnOk X.prog X.w X.K X.mg X.base CX0 k a fd ps (spOf C X.K (B.ar f) (Γ.fn f)) ∧ Room k X.A ∧ X.mg x = some (.ref a) ∧ PySem.W.keepIn X.K (.ref a) = true ∧ Binds X.K fd ps []

/-! ### readings -/
def tE (C : CT) (K : PySem.W.Frag) (Γ : Gam) (a : T) : TE := fun σ H Q => ∃ env fr, RelX C K H env σ fr ∧ ev Γ a env E0x fun r e => ∀ v H', RelR C K H' e σ fr v r → Q v H'
def tA (C : CT) (K : PySem.W.Frag) (Γ : Gam) (as : Ts) : TA := fun σ H Q => ∃ env fr, RelX C K H env σ fr ∧ evs Γ as env E0x fun rs e => ∀ vs H', RelRs C K H' e σ fr vs rs → Q vs H'
def tT (C : CT) (K : PySem.W.Frag) (Γ : Gam) (a : T) : TT := fun σ H Q => ∃ env fr, RelX C K H env σ fr ∧ ev Γ a env E0x fun r e => tst r fun b => ∀ H', RelX C K H' e σ fr → Q b H'
section
variable {X : Cx} {e : Expr} {es : List Expr}
theorem PE.weak {t t' : TE} (h : PE X e t) (w : ∀ σ H Q, t' σ H Q → t σ H Q) : PE X e t' := ⟨fun pins s σ H Q I q => h.run pins s σ H Q I (w σ H Q q)⟩
theorem PT.weak {t t' : TT} (h : PT X e t) (w : ∀ σ H Q, t' σ H Q → t σ H Q) : PT X e t' := ⟨fun pins s σ H Q I q => h.run pins s σ H Q I (w σ H Q q)⟩
theorem PW.weak {t t' : TT} (h : PW X e t) (w : ∀ σ H Q, t' σ H Q → t σ H Q) : PW X e t' := ⟨fun wh pins s σ H Q I q => h.run wh pins s σ H Q I (w σ H Q q)⟩
theorem PA.weak {t t' : TA} (h : PA X es t) (w : ∀ σ H Q, t' σ H Q → t σ H Q) : PA X es t' := ⟨fun pos pins s σ H Q I q => h.run pos pins s σ H Q I (w σ H Q q)⟩
theorem star_cons {env : Env} (h : noStar e = true) : starEach (e :: es) env = (false, eval e env) :: starEach es env := by
  cases e <;> first | rfl | cases h
end
section
variable {C : CT} {K : PySem.W.Frag} {Γ : Gam} {H : Hp} {env : Ev} {σ : Sg} {fr : Prs}
theorem e0 : ∀ (x : Ex) (e : Ev), E0x x e → E0x x e := fun _ _ h => h
theorem tE_of {a : T} {Q : VK} {k : R → Ev → Prop} (R0 : RelX C K H env σ fr) (h : ev Γ a env E0x k) (w : ∀ r e v H', k r e → RelR C K H' e σ fr v r → Q v H') : tE C K Γ a σ H Q :=
  ⟨env, fr, R0, ev_mono a e0 (fun r e q v H' R1 => w r e v H' q R1) h⟩
theorem tA_of {as : Ts} {Q : List V → Hp → Prop} {k : List R → Ev → Prop} (R0 : RelX C K H env σ fr) (h : evs Γ as env E0x k) (w : ∀ rs e vs H', k rs e → RelRs C K H' e σ fr vs rs → Q vs H') : tA C K Γ as σ H Q :=
  ⟨env, fr, R0, evs_mono as e0 (fun r e q v H' R1 => w r e v H' q R1) h⟩
theorem relRs_nil (R0 : RelX C K H env σ fr) : RelRs C K H env σ fr [] [] := ⟨R0, trivial⟩
/-- one operand -/
theorem tE_one {a : T} {Q : VK} {k : List R → Ev → Prop} (R0 : RelX C K H env σ fr) (h : evs Γ (.cons a .nil) env E0x k) (w : ∀ rs e v H', k rs e → RelRs C K H' e σ fr [v] rs → Q v H') : tE C K Γ a σ H Q := by
  unfold evs at h
  refine tE_of R0 h fun r e v H' q R1 => ?_
  unfold evs at q
  exact w _ _ _ _ q (RelRs.cons R1.nrm (relRs_nil R1.nrm.frm))
/-- two -/
theorem tE_two {a b : T} {Q : V → V → Hp → Prop} {k : List R → Ev → Prop} (R0 : RelX C K H env σ fr) (h : evs Γ (.cons a (.cons b .nil)) env E0x k)
    (w : ∀ rs e v u H', k rs e → RelRs C K H' e σ fr [v, u] rs → Q v u H') : tE C K Γ a σ H fun v H1 => tE C K Γ b σ H1 fun u H2 => Q v u H2 := by
  unfold evs at h
  refine tE_of R0 h fun r e v H' q R1 => ?_
  exact tE_one R1.nrm.frm q fun rs e' u H2 q2 R2 => w _ _ _ _ _ q2 (RelRs.cons R1.nrm R2)
theorem tE_three {a b c : T} {Q : V → V → V → Hp → Prop} {k : List R → Ev → Prop} (R0 : RelX C K H env σ fr) (h : evs Γ (.cons a (.cons b (.cons c .nil))) env E0x k)
    (w : ∀ rs e v u z H', k rs e → RelRs C K H' e σ fr [v, u, z] rs → Q v u z H') : tE C K Γ a σ H fun v H1 => tE C K Γ b σ H1 fun u H2 => tE C K Γ c σ H2 fun z H3 => Q v u z H3 := by
  unfold evs at h
  refine tE_of R0 h fun r e v H' q R1 => ?_
  exact tE_two R1.nrm.frm q fun rs e' u z H2 q2 R2 => w _ _ _ _ _ _ q2 (RelRs.cons R1.nrm R2)
/-- a frozen pile of operands -/
theorem vals_snd : ∀ {rs : List R} {vs : List V} {env : Ev} {k : List D → Ev → Prop} {fr : Prs}, RelRs C K H env σ fr vs rs → vals rs env k → ∃ xs env', k xs env' ∧ xs.length = vs.length ∧ RelX C K H env' σ (vs.zip (xs.map O.d) ++ fr)
  | [], [], _, _, _, R0, h => ⟨[], _, h, rfl, R0.rel⟩
  | [], _ :: _, _, _, _, R0, _ => R0.paths.elim
  | r :: rs, [], _, _, _, R0, _ => by cases r <;> exact R0.paths.elim
  | .obj o :: rs, v :: vs, env, k, fr, R0, h => by
    have h' : vals rs env (fun xs e2 => k (o.toD :: xs) e2) := h
    have R1 : RelRs C K H env σ ((v, .d o.toD) :: fr) vs rs := ⟨(R0.rel.freeze (v := v) (o := o) (fr := pend vs rs ++ fr)).perm List.perm_middle.symm, R0.paths⟩
    obtain ⟨xs, env', h1, h2, h3⟩ := vals_snd R1 h'
    exact ⟨o.toD :: xs, env', h1, by simp [h2], h3.perm List.perm_middle⟩
  | .path i :: rs, v :: vs, env, k, fr, R0, h => by
    have h0 : R.val (.path i) env (fun x e => vals rs e fun xs e2 => k (x :: xs) e2) := h
    unfold R.val at h0
    cases e1 : slot env i with
    | none =>
      have : getR env (.path i) = none := e1
      rw [this] at h0; exact h0.elim
    | some o =>
      have : getR env (.path i) = some o := e1
      rw [this] at h0
      have R1 : RelRs C K H (env.set i (some (.d o.toD))) σ ((v, .d o.toD) :: fr) vs rs := ⟨(R0.rel.val e1 R0.paths.1).perm List.perm_middle.symm, R0.paths.2⟩
      obtain ⟨xs, env', h1, h2, h3⟩ := vals_snd R1 h0
      exact ⟨o.toD :: xs, env', h1, by simp [h2], h3.perm List.perm_middle⟩
theorem own_d {G : Hp} : ∀ {xs : List D} {vs : List V} {L : Prs} {S : List Addr}, xs.length = vs.length → ownL C K H G (vs.zip (xs.map O.d) ++ L) S → Reps C K G xs vs ∧ ownL C K H G L S
  | [], [], _, _, _, h => ⟨rfl, h⟩
  | [], _ :: _, _, _, e, _ => by simp at e
  | _ :: _, [], _, _, e, _ => by simp at e
  | x :: xs, v :: vs, L, S, e, ⟨S1, S2, e2, ⟨e3, h1⟩, h2⟩ => by
    subst e3
    have e2' : S = S2 := e2
    subst e2'
    obtain ⟨k1, k2⟩ := own_d (by simpa using e) h2
    exact ⟨⟨v, vs, rfl, h1, k1⟩, k2⟩
/-- a new object made of frozen operands -/
theorem RelX.made {xs : List D} {vs : List V} {o : O} {v : V} {H' : Hp} (R0 : RelX C K H env σ (vs.zip (xs.map O.d) ++ fr)) (e : xs.length = vs.length) (w : ∀ G, Reps C K G xs vs → Res C K G H o v H') : RelX C K H' env σ ((v, o) :: fr) := by
  have R1 : Rel C K H (vs.zip (xs.map O.d) ++ (pr env σ ++ fr)) := R0.rel.perm (by
    rw [← List.append_assoc, ← List.append_assoc]
    exact List.Perm.append_right fr List.perm_append_comm)
  obtain ⟨G, S, g, k, nd, no⟩ := R1
  obtain ⟨k1, k2⟩ := own_d e k
  exact ⟨R0.len, R0.has, (rel_res g k2 nd no (w G k1)).perm List.perm_middle.symm⟩
end

/-! ### targets -/
def gP (C : CT) (K : PySem.W.Frag) (p : Pat) : TG := fun v σ H Q => ∃ env fr x, RelX C K H env σ ((v, .d x) :: fr) ∧ asgP p x env fun e => ∀ σ', (∀ i, i ∉ p.vs → σ'[i]? = σ[i]?) → RelX C K H e σ' fr → Q σ' H
def gPs (C : CT) (K : PySem.W.Frag) (ps : Pats) : TGs := fun vs σ H Q => ∃ env fr xs, xs.length = vs.length ∧ RelX C K H env σ (vs.zip (xs.map O.d) ++ fr) ∧ asgPs ps xs env fun e => ∀ σ', (∀ i, i ∉ ps.vs → σ'[i]? = σ[i]?) → RelX C K H e σ' fr → Q σ' H
section
variable {B : Tb} {C : CT} {Γ : Gam} {sc : Scope} {ow : Option Scope} {X : Cx}
theorem PG.weak {e : Expr} {t t' : TG} (h : PG X e t) (w : ∀ v σ H Q, t' v σ H Q → t v σ H Q) : PG X e t' := ⟨fun pins s σ H v u Q I r q => h.run pins s σ H v u Q I r (w v σ H Q q)⟩
theorem PGs.weak {e : List Expr} {t t' : TGs} (h : PGs X e t) (w : ∀ v σ H Q, t' v σ H Q → t v σ H Q) : PGs X e t' := ⟨fun pins s σ H v u Q I r q => h.run pins s σ H v u Q I r (w v σ H Q q)⟩
theorem assign_cons {e : Expr} {es : List Expr} {env : Env} (h : noStar e = true) : (assignEach (e :: es) env).map (·.2) = assign e env :: (assignEach es env).map (·.2) := by
  cases e <;> first | rfl | cases h
theorem assign_len {env : Env} : ∀ {es : List Expr} {ps : Pats} {B : Tb} {sc : Scope} {ow : Option Scope}, chkPs B sc ow ps es = true → (assignEach es env).length = ps.len ∧ (assignEach es env).findIdx? (·.1) = none
  | [], .nil, _, _, _, _ => ⟨rfl, rfl⟩
  | [], .cons _ _, _, _, _, h => by simp [chkPs] at h
  | _ :: _, .nil, _, _, _, h => by simp [chkPs] at h
  | e :: es, .cons p ps, B, sc, ow, h => by
    simp only [chkPs, Bool.and_eq_true] at h
    obtain ⟨h1, h2⟩ := assign_len (env := env) h.2
    have : assignEach (e :: es) env = (false, assign e env) :: assignEach es env := by
      have := h.1.1
      cases e <;> first | rfl | cases this
    rw [this]
    refine ⟨by simp [Pats.len, h1], ?_⟩
    rw [List.findIdx?_cons]
    simp [h2]
mutual
theorem asgP_ex : ∀ (p : Pat) {x : D} {env : Ev} {k : Ev → Prop}, asgP p x env k → ∃ e, k e
  | .v i, x, env, k, h => by unfold asgP at h; exact ⟨_, h⟩
  | .t ps, x, env, k, h => by
    cases x <;> unfold asgP at h <;> first | exact asgPs_ex ps h | exact h.elim
theorem asgPs_ex : ∀ (ps : Pats) {xs : List D} {env : Ev} {k : Ev → Prop}, asgPs ps xs env k → ∃ e, k e
  | .nil, xs, env, k, h => by
    cases xs <;> unfold asgPs at h <;> first | exact ⟨_, h⟩ | exact h.elim
  | .cons p ps, xs, env, k, h => by
    cases xs <;> unfold asgPs at h
    · exact h.elim
    · obtain ⟨e, he⟩ := asgP_ex p h
      exact asgPs_ex ps he
end
theorem asgPs_len : ∀ {ps : Pats} {xs : List D} {env : Ev} {k : Ev → Prop}, asgPs ps xs env k → xs.length = ps.len
  | .nil, [], _, _, _ => rfl
  | .nil, _ :: _, _, _, h => by simp [asgPs] at h
  | .cons _ _, [], _, _, h => by simp [asgPs] at h
  | .cons p ps, x :: xs, env, k, h => by
    simp only [asgPs] at h
    obtain ⟨e, he⟩ := asgP_ex p h
    simp [Pats.len, asgPs_len he]
end
end VE
/-! VE11: the soundness of expressions, case by case -/
namespace VE
open PySem PySem.Spec PyProof.Rows L2
section
variable {C : CT} {K : PySem.W.Frag} {Γ : Gam} {H : Hp} {env : Ev} {σ : Sg} {fr : Prs} {v : V}
theorem zip_perm {xs : List D} {vs : List V} {p : Addr} (R : RelX C K H env σ ((V.ref p, .d (.tup xs)) :: fr)) : ∃ ws, H p = some (.tup ws) ∧ xs.length = ws.length ∧ RelX C K H env σ (ws.zip (xs.map O.d) ++ fr) := by
  obtain ⟨G, S, g, ⟨S1, S2, e2, ⟨e3, h1⟩, h2⟩, nd, no⟩ := R.top
  obtain ⟨q, ws, e, hq, hr⟩ := h1
  cases e
  subst e3
  have e2' : S = S2 := e2
  subst e2'
  refine ⟨ws, g _ _ hq, hr.length, R.len, R.has, ?_⟩
  have all : ∀ {xs : List D} {ws : List V} {L : Prs} {S : List Addr}, Reps C K G xs ws → ownL C K H G L S → ownL C K H G (ws.zip (xs.map O.d) ++ L) S := by
    intro xs
    induction xs with
    | nil => intro ws L S h k; cases h; exact k
    | cons x xs ih =>
      rintro ws L S ⟨v, r, e, h1, h2⟩ k
      subst e
      exact ⟨[], S, rfl, ⟨rfl, h1⟩, ih h2 k⟩
  have R1 : Rel C K H (ws.zip (xs.map O.d) ++ (pr env σ ++ fr)) := ⟨G, S, g, all hr h2, nd, no⟩
  refine R1.perm ?_
  rw [← List.append_assoc, ← List.append_assoc]
  exact List.Perm.append_right fr List.perm_append_comm
theorem rep_bl {b : Bool} (R : RelX C K H env σ ((v, .d (.bl b)) :: fr)) : v = .bl b := R.top.rep
end
section
variable {B : Tb} {C : CT} {Γ : Gam} {sc : Scope} {ow : Option Scope} {X : Cx}
mutual
theorem sndP (S : Sup B C Γ sc ow X) : ∀ (p : Pat) (e : Expr), chkP B sc ow p e = true → PG X e (gP C X.K p)
  | .v i, e, h => by
    cases e with
    | Name x pos =>
      simp only [chkP] at h
      have h0 := h
      unfold tgOk at h
      simp only [Bool.and_eq_true, Bool.or_eq_true, decide_eq_true_eq] at h
      obtain ⟨⟨h1, h2⟩, h3⟩ := h
      have loc : L2.Loc X.env.scope x := by rw [S.hsc]; exact h2
      have hi : X.N[i]? = some x := by rw [S.hN]; exact h1
      have g := pg_name (X := X) (pos := pos) (by rw [S.hN]; exact S.nd) hi loc (by
        rcases S.tg i x h0 with z | z
        · exact .inl z
        · exact .inr (by rw [S.hsc]; exact z))
      refine ⟨fun pins s σ H v u Q I r q => g.run pins s σ H v u Q I r ?_⟩
      obtain ⟨env, fr, d, R, q⟩ := q
      unfold asgP at q
      have hl : i < env.length := by rw [R.len, I.len]; exact (List.getElem?_eq_some_iff.mp hi).1
      exact q _ (fun j hj => List.getElem?_set_ne (fun z => hj (by simp [Pat.vs, z]))) (R.put hl)
    | _ => simp [chkP] at h
  | .t ps, e, h => by
    cases e with
    | Tuple es k pos =>
      simp only [chkP] at h
      obtain ⟨l1, l2⟩ := assign_len (env := X.env) h
      refine PG.weak (pg_tup S.calm (sndPs S ps es h) l1 l2) fun v σ H Q q => ?_
      obtain ⟨env, fr, x, R, q⟩ := q
      cases x with
      | tup xs =>
        obtain ⟨p, ws, e, _, _⟩ : ∃ p ws, v = .ref p ∧ H p = some (.tup ws) ∧ True := by
          obtain ⟨p, ws, e, h1, _⟩ := R.top.rep
          exact ⟨p, ws, e, h1, trivial⟩
        subst e
        obtain ⟨ws, hp, hl, R2⟩ := zip_perm (vs := []) R
        have q' := q
        unfold asgP at q'
        exact ⟨p, ws, rfl, .of hp, by rw [← hl]; exact asgPs_len q', env, fr, xs, hl, R2, q'⟩
      | _ => unfold asgP at q; exact q.elim
    | _ => simp [chkP] at h
theorem sndPs (S : Sup B C Γ sc ow X) : ∀ (ps : Pats) (es : List Expr), chkPs B sc ow ps es = true → PGs X es (gPs C X.K ps)
  | .nil, es, h => by
    cases es with
    | cons _ _ => simp [chkPs] at h
    | nil =>
      refine PGs.weak pgs_nil fun vs σ H Q q => ?_
      obtain ⟨env, fr, xs, hl, R, q⟩ := q
      cases xs with
      | cons _ _ => unfold asgPs at q; exact q.elim
      | nil =>
        unfold asgPs at q
        cases vs with
        | cons _ _ => simp at hl
        | nil => exact ⟨rfl, q σ (fun _ _ => rfl) R⟩
  | .cons p ps, es, h => by
    cases es with
    | nil => simp [chkPs] at h
    | cons e es =>
      simp only [chkPs, Bool.and_eq_true] at h
      refine PGs.weak (pgs_cons (sndP S p e h.1.2) (sndPs S ps es h.2) (assign_cons h.1.1)) fun vs σ H Q q => ?_
      obtain ⟨env, fr, xs, hl, R, q⟩ := q
      cases xs with
      | nil => unfold asgPs at q; exact q.elim
      | cons x xs =>
        cases vs with
        | nil => simp at hl
        | cons v vs =>
          unfold asgPs at q
          refine ⟨v, vs, rfl, env, vs.zip (xs.map O.d) ++ fr, x, R, asgP_mono p (fun e1 h1 σ' ag R' => ?_) q⟩
          refine ⟨e1, fr, xs, by simpa using hl, R', asgPs_mono ps (fun e2 h2 σ'' ag2 R'' => ?_) h1⟩
          refine h2 σ'' (fun i hi => ?_) R''
          simp only [Pats.vs, List.mem_append, not_or] at hi
          rw [ag2 i hi.2, ag i hi.1]
end

/-- an expression is sound, as a value and as a test -/
def Snd (B : Tb) (C : CT) (Γ : Gam) (a : T) : Prop := ∀ {X : Cx} {sc : Scope} {ow : Option Scope} (S : Sup B C Γ sc ow X) (e : Expr), chkE B a sc ow e = true → PE X e (tE C X.K Γ a) ∧ PT X e (tT C X.K Γ a)
def AllS (B : Tb) (C : CT) (Γ : Gam) : Ts → Prop
  | .nil => True
  | .cons a as => Snd B C Γ a ∧ AllS B C Γ as
theorem sndA (S : Sup B C Γ sc ow X) : ∀ (as : Ts) (es : List Expr), AllS B C Γ as → chkEs B as sc ow es = true → PA X es (tA C X.K Γ as)
  | .nil, es, _, h => by
    cases es with
    | cons _ _ => simp [chkEs] at h
    | nil =>
      refine PA.weak pa_nil fun σ H Q q => ?_
      obtain ⟨env, fr, R, q⟩ := q
      unfold evs at q
      exact q _ _ (relRs_nil R)
  | .cons a as, es, ih, h => by
    cases es with
    | nil => simp [chkEs] at h
    | cons e es =>
      simp only [chkEs, Bool.and_eq_true] at h
      refine PA.weak (pa_cons (ih.1 S e h.1.2).1 (sndA S as es ih.2 h.2) (star_cons h.1.1)) fun σ H Q q => ?_
      obtain ⟨env, fr, R, q⟩ := q
      unfold evs at q
      refine tE_of R q fun r e1 v H' q1 R1 => ?_
      exact tA_of R1.nrm.frm q1 fun rs e2 vs H2 q2 R2 => q2 _ _ (RelRs.cons R1.nrm R2)
theorem star_any {pos : Pos} {env : Env} : ∀ {as : Ts} {es : List Expr}, chkEs B as sc ow es = true → (backTo pos (starEach es env)).any (·.1) = false
  | .nil, [], _ => rfl
  | .nil, _ :: _, h => by simp [chkEs] at h
  | .cons _ _, [], h => by simp [chkEs] at h
  | .cons a as, e :: es, h => by
    simp only [chkEs, Bool.and_eq_true] at h
    rw [star_cons h.1.1]
    show (false || (backTo pos (starEach es env)).any (·.1)) = false
    rw [star_any h.2]; rfl
def plainT : Expr → Bool
  | .UnaryOp .Not _ _ => false
  | .BoolOp _ _ _ => false
  | .IfExp _ _ _ _ => false
  | .Compare _ _ _ _ => false
  | _ => true
theorem plain_is {e : Expr} {env : Env} (h : plainT e = true) (whole : Sem Value) : isTrue e env whole = (do let v ← whole; standAt e.pos; holding [v] (truthy v)) := by
  cases e with
  | UnaryOp op x pos => cases op <;> first | rfl | cases h
  | BoolOp _ _ _ => cases h
  | IfExp _ _ _ _ => cases h
  | Compare _ _ _ _ => cases h
  | _ => rfl
/-- a value's test -/
theorem test_weak {K : PySem.W.Frag} {a : T} {σ : Sg} {H : Hp} {Q : Bool → Hp → Prop} (h : tT C K Γ a σ H Q) : tE C K Γ a σ H fun x H1 => ∃ c, x = .bl c ∧ Q c H1 := by
  obtain ⟨env, fr, R, h⟩ := h
  refine tE_of R h fun r e v H' q R1 => ?_
  unfold tst at q
  split at q
  · exact ⟨_, rep_bl R1, q H' (RelX.pop R1)⟩
  · exact q.elim
theorem pt_plain {a : T} {e : Expr} (h : PE X e (tE C X.K Γ a)) (p : plainT e = true) : PE X e (tE C X.K Γ a) ∧ PT X e (tT C X.K Γ a) :=
  ⟨h, PT.weak (pt_val h (plain_is p)) fun σ H Q q => test_weak q⟩
theorem gl_of (S : Sup B C Γ sc ow X) {x : Str} (h : glB sc x = true) : Gl X x := by
  show X.env.scope.names.lookup x = _
  rw [S.hsc]
  exact of_decide_eq_true h
theorem opsO_len {env : Ev} : ∀ {rs : List R} {os : List O}, opsO env rs = some os → os.length = rs.length
  | [], os, h => by simp [opsO] at h; subst h; rfl
  | r :: rs, os, h => by
    unfold opsO at h
    split at h
    · rename_i o os' e1 e2
      cases h
      simp [opsO_len e2]
    · cases h
/-- the answer of a two-place primitive -/
theorem two_ansK {K : PySem.W.Frag} {u : Prim} {w : List D → WO} {env : Ev} {σ : Sg} {H : Hp} {fr : Prs} {v z : V} {rs : List R} {Q : VK} {k : R → Ev → Prop} (hw : ∀ ds Q, pw u ds Q → w ds Q) (q : match opsO env rs with | some os => pw u (os.map O.toD) fun o => k (.obj o) env | none => False)
    (R : RelRs C K H env σ fr [v, z] rs) (hk : ∀ o w H', k (.obj o) env → RelX C K H' env σ ((w, o) :: (pend [v, z] rs ++ fr)) → Q w H') : rW2 C K w v z H Q := by
  split at q
  · rename_i os e
    obtain ⟨G, g, tops, hq⟩ := R.wishK (P := fun o => k (.obj o) env) e (hw _ _ q)
    obtain ⟨a, b, ea, ha, hb⟩ : ∃ a b, os.map O.toD = [a, b] ∧ Top C K H G a v ∧ Top C K H G b z := by
      cases hm : os.map O.toD with
      | nil => rw [hm] at tops; cases tops
      | cons a l =>
        cases l with
        | nil => rw [hm] at tops; obtain ⟨v', r, e1, _, e2⟩ := tops; cases e1; cases e2
        | cons b l =>
          cases l with
          | nil =>
            rw [hm] at tops
            obtain ⟨v', u', e1, t1, t2⟩ := tops.two
            cases e1
            exact ⟨a, b, rfl, t1, t2⟩
          | cons c l =>
            rw [hm] at tops
            obtain ⟨_, _, e1, _, _, _, e2, _, _, _, e3, _⟩ := tops
            cases e1; cases e2; cases e3
    refine ⟨G, a, b, g, ha, hb, ?_⟩
    have := hq Q fun o v H' p r => hk o v H' p r
    rwa [ea] at this
  · exact q.elim
theorem two_ans {K : PySem.W.Frag} {u : Prim} {w : List D → WO} {env : Ev} {σ : Sg} {H : Hp} {fr : Prs} {v z : V} {rs : List R} {Q : VK} {k : R → Ev → Prop} (hw : ∀ ds Q, pw u ds Q → w ds Q) (q : match opsO env rs with | some os => pw u (os.map O.toD) fun o => k (.obj o) env | none => False)
    (R : RelRs C K H env σ fr [v, z] rs) (hk : ∀ o w H', k (.obj o) env → RelX C K H' env σ ((w, o) :: fr) → Q w H') : rW2 C K w v z H Q :=
  two_ansK hw q R fun o w H' p r => hk o w H' p (r.sub (List.Sublist.cons_cons _ (List.sublist_append_right _ _)))
/-- the cases -/
theorem snd_const {a : T} {v : V} {x : D} {e : Expr} (hp : PE X e (tC v)) (pl : plainT e = true) (hr : ∀ G : Hp, Rep C X.K G x v) (hev : ∀ (env : Ev) (k : R → Ev → Prop), ev Γ a env E0x k → k (.obj (.d x)) env) : PE X e (tE C X.K Γ a) ∧ PT X e (tT C X.K Γ a) :=
  pt_plain (PE.weak hp fun σ H Q q => by
    obtain ⟨env, fr, R, q⟩ := q
    exact hev _ _ q v H (R.std hr)) pl
theorem plain_ix {b : Expr} (h : plainIx b = true) : PlainIx b := by
  intro o i
  cases b <;> first | rfl | cases h
end
end VE
/-! VE12: the soundness of expressions, joined -/
namespace VE
open PySem PySem.Spec PyProof.Rows L2
section
variable {B : Tb} {C : CT} {Γ : Gam}
theorem snd_var (i : Nat) : Snd B C Γ (.var i) := by
  intro X sc ow S e h
  cases e with
  | Name x pos =>
    simp only [chkE, Bool.and_eq_true, decide_eq_true_eq] at h
    obtain ⟨⟨h1, h2⟩, h3⟩ := h
    unfold nmOk at h3
    simp only [Bool.and_eq_true, Bool.not_eq_true'] at h3
    have vis : Vis X.env.scope x := by
      rw [S.hsc]
      unfold visB at h2
      split at h2
      · rename_i e; exact .inl e
      · rename_i e; exact .inr (.inl e)
      · rename_i e; exact .inr (.inr e)
      · cases h2
    refine pt_plain (PE.weak (pe_var (i := i) (by rw [S.hN]; exact h1) vis h3.1 h3.2) fun σ H Q q => ?_) rfl
    obtain ⟨env, fr, R, q⟩ := q
    unfold ev at q
    split at q
    · rename_i o e1
      obtain ⟨v, hv⟩ := R.has i o e1
      refine ⟨v, hv, q v H ?_⟩
      cases o with
      | d x =>
        have R1 := (R.take e1 hv)
        have R2 := (R1.top.dup)
        have R3 : RelX C X.K H (env.set i none) σ ((v, .d x) :: (v, .d x) :: fr) := ⟨R1.len, R1.has, R2.perm (by
          refine (List.Perm.trans ?_ List.perm_middle.symm)
          exact (List.perm_middle.symm).cons _)⟩
        have R4 := R3.back' hv
        have e2 : env.set i (some (.d x)) = env := by
          apply List.ext_getElem?
          intro j
          by_cases z : i = j
          · subst z; rw [List.getElem?_set_self (slot_lt e1), slot_some.mp e1]
          · rw [List.getElem?_set_ne z]
        rw [e2] at R4
        exact R4
      | lst xs => exact ⟨R, hv, _, e1⟩
      | dic t ks vs => exact ⟨R, hv, _, e1⟩
      | ins c fs => exact ⟨R, hv, _, e1⟩
      | lock _ _ _ _ _ => exact ⟨R, hv, _, e1⟩
    · exact q.elim
  | _ => simp [chkE] at h
theorem snd_int (i : Int) : Snd B C Γ (.int i) := by
  intro X sc ow S e h
  cases e with
  | Constant c k pos =>
    cases c with
    | int j =>
      simp only [chkE, decide_eq_true_eq] at h
      subst h
      exact snd_const pe_int rfl (x := .int i) (fun _ => rfl) fun env k q => by unfold ev at q; exact q
    | _ => simp [chkE] at h
  | _ => simp [chkE] at h
theorem snd_bl (b : Bool) : Snd B C Γ (.bl b) := by
  intro X sc ow S e h
  cases e with
  | Constant c k pos =>
    cases c with
    | bool j =>
      simp only [chkE, beq_iff_eq] at h
      subst h
      exact snd_const pe_bl rfl (x := .bl b) (fun _ => rfl) fun env k q => by unfold ev at q; exact q
    | _ => simp [chkE] at h
  | _ => simp [chkE] at h
theorem snd_non : Snd B C Γ .non := by
  intro X sc ow S e h
  cases e with
  | Constant c k pos =>
    cases c with
    | none => exact snd_const pe_non rfl (x := .non) (fun _ => rfl) fun env k q => by unfold ev at q; exact q
    | _ => simp [chkE] at h
  | _ => simp [chkE] at h
theorem snd_str (s : Str) : Snd B C Γ (.str s) := by
  intro X sc ow S e h
  cases e with
  | Constant c k pos =>
    cases c with
    | str j =>
      simp only [chkE, decide_eq_true_eq] at h
      subst h
      exact snd_const pe_str rfl (x := .str s) (fun _ => rfl) fun env k q => by unfold ev at q; exact q
    | _ => simp [chkE] at h
  | _ => simp [chkE] at h
theorem snd_glob (x : Str) (i : Int) : Snd B C Γ (.glob x i) := by
  intro X sc ow S e h
  cases e with
  | Name y pos =>
    simp only [chkE, Bool.and_eq_true, decide_eq_true_eq, Bool.not_eq_true'] at h
    obtain ⟨⟨⟨h1, h2⟩, h3⟩, h4⟩ := h
    subst h1
    obtain ⟨t, ht⟩ := S.glob x i h3
    exact snd_const (v := .int i) (pe_glob (gl_of S h2) ht (show ∃ t', Value.int i t = Value.int i t' from ⟨t, rfl⟩) h4) rfl (x := .int i) (fun _ => rfl) fun env k q => by unfold ev at q; exact q
  | _ => simp [chkE] at h
theorem small_len {n : Nat} (h : n ≤ 1000) : n ≤ sizeLine := Nat.le_of_lt (small1000 h)
def Ts.len : Ts → Nat
  | .nil => 0
  | .cons _ as => as.len + 1
theorem evs_len : ∀ (as : Ts) {env : Ev} {E : Ex → Ev → Prop} {k : List R → Ev → Prop}, evs Γ as env E k → evs Γ as env E fun rs e => rs.length = as.len ∧ k rs e
  | .nil, _, _, _, h => by unfold evs at h ⊢; exact ⟨rfl, h⟩
  | .cons a as, _, _, _, h => by
    unfold evs at h ⊢
    exact ev_mono a (fun _ _ h => h) (fun r e h => evs_mono as (fun _ _ h => h) (fun rs e2 ⟨h1, h2⟩ => ⟨by simp [Ts.len, h1], h2⟩) (evs_len as h)) h
theorem chk_len {sc : Scope} {ow : Option Scope} : ∀ {as : Ts} {es : List Expr}, chkEs B as sc ow es = true → as.len = es.length
  | .nil, [], _ => rfl
  | .nil, _ :: _, h => by simp [chkEs] at h
  | .cons _ _, [], h => by simp [chkEs] at h
  | .cons a as, e :: es, h => by
    simp only [chkEs, Bool.and_eq_true] at h
    simp [Ts.len, chk_len h.2]
theorem paths_len {σ : Sg} : ∀ {rs : List R} {vs : List V}, Paths σ vs rs → vs.length = rs.length
  | [], [], _ => rfl
  | [], _ :: _, p => p.elim
  | .obj _ :: _, [], p => p.elim
  | .path _ :: _, [], p => p.elim
  | .obj _ :: rs, v :: vs, p => by simp [paths_len (show Paths σ vs rs from p)]
  | .path _ :: rs, v :: vs, p => by simp [paths_len p.2]
/-- displays -/
theorem snd_tup {as : Ts} (ih : AllS B C Γ as) : Snd B C Γ (.tup as) := by
  intro X sc ow S e h
  cases e with
  | Tuple es k pos =>
    simp only [chkE, Bool.and_eq_true, decide_eq_true_eq] at h
    refine pt_plain (PE.weak (pe_tup (sndA S as es ih h.1)) fun σ H Q q => ?_) rfl
    obtain ⟨env, fr, R, q⟩ := q
    unfold ev at q
    refine tA_of R (evs_len as q) fun rs e1 vs H' ⟨hl, q1⟩ R1 => ?_
    obtain ⟨xs, e2, q2, hx, R2⟩ := vals_snd R1 q1
    refine ⟨by rw [paths_len R1.paths, hl, chk_len h.1]; exact small_len h.2, fun p hp => q2 _ _ (R2.made hx fun G hr => .tup hp hr)⟩
  | _ => simp [chkE] at h
theorem snd_lst {as : Ts} (ih : AllS B C Γ as) : Snd B C Γ (.lst as) := by
  intro X sc ow S e h
  cases e with
  | List es pos =>
    simp only [chkE, Bool.and_eq_true, decide_eq_true_eq] at h
    refine pt_plain (PE.weak (pe_lst (sndA S as es ih h.1)) fun σ H Q q => ?_) rfl
    obtain ⟨env, fr, R, q⟩ := q
    unfold ev at q
    refine tA_of R (evs_len as q) fun rs e1 vs H' ⟨hl, q1⟩ R1 => ?_
    obtain ⟨xs, e2, q2, hx, R2⟩ := vals_snd R1 q1
    refine ⟨by rw [paths_len R1.paths, hl, chk_len h.1]; exact small_len h.2, fun p hp => q2 _ _ (R2.made hx fun G hr => .lst hp hr)⟩
  | _ => simp [chkE] at h
/-- a primitive of several operands, called -/
theorem call_ans {K : PySem.W.Frag} {u : Prim} {w : List D → WO} {env : Ev} {σ : Sg} {H : Hp} {fr : Prs} {vs : List V} {rs : List R} {Q : VK} {k : R → Ev → Prop} (hw : ∀ ds Q, pw u ds Q → w ds Q) (q : match opsO env rs with | some os => pw u (os.map O.toD) fun o => k (.obj o) env | none => False)
    (R : RelRs C K H env σ fr vs rs) (hk : ∀ o v H', k (.obj o) env → RelX C K H' env σ ((v, o) :: fr) → Q v H') : rWC C K w vs H Q := by
  split at q
  · rename_i os e
    obtain ⟨G, g, tops, hq⟩ := R.wish (P := fun o => k (.obj o) env) e (hw _ _ q)
    exact ⟨G, os.map O.toD, g, tops, hq Q fun o v H' p r => hk o v H' p r⟩
  · exact q.elim
/-! ### slices -/
inductive PartV : Option V → Option Int → Prop
  | none : PartV none none
  | int (i : Int) : PartV (some (.int i)) (some i)
def PVal : Option V → Value → Prop
  | none, u => u = Value.none
  | some x, u => RelV x u
theorem PartV.is {o : Option V} {l : Option Int} {u : Value} (h : PartV o l) (r : PVal o u) : IsPart u l := by
  cases h with
  | none => cases r; exact .none
  | int i => obtain ⟨t, rfl⟩ := (show ∃ t, u = Value.int i t from r); exact .int i t
abbrev TO2 := L2.St → Hp → (Option V → Hp → Prop) → Prop
structure PO2 (X : Cx) (e : Option Expr) (t : TO2) : Prop where
  run : ∀ (pins : List (Addr × Obj)) (s : Shared) (σ : L2.St) (H : Hp) (Q : Option V → Hp → Prop), Inv X pins σ H s → t σ H Q →
    wpAny (model X.prog X.w) X.A (evalPart e X.env) (fun u s' => ∃ o H', Inv X pins σ H' s' ∧ PVal o u ∧ Q o H') X.xe s
theorem po2_none {X : Cx} : PO2 X none (fun _ H Q => Q none H) := by
  refine ⟨fun pins s σ H Q I h => ?_⟩
  rw [evalPart_none]
  exact wpAny_pure ⟨none, H, I, rfl, h⟩
theorem po2_some {X : Cx} {e : Expr} {te : TE} (h : PE X e te) : PO2 X (some e) (fun σ H Q => te σ H fun x H1 => Q (some x) H1) := by
  refine ⟨fun pins s σ H Q I hw => ?_⟩
  rw [evalPart_some]
  exact thn (h.run pins s σ H _ I hw) fun u s1 ⟨x, H1, I1, r1, q1⟩ => ⟨some x, H1, I1, r1, q1⟩
theorem pe_slice2 {X : Cx} {e : Expr} {te : TE} {lo hi : Option Expr} {tl th : TO2} {pos p2 : Pos} {r : V → Option Int → Option Int → Hp → VK → Prop} (hr : SlR X r) (he : PE X e te) (hl : PO2 X lo tl) (hu : PO2 X hi th) :
    PE X (.Subscript e (.Slice lo hi none p2) pos) (fun σ H Q => te σ H fun x H1 => tl σ H1 fun l H2 => th σ H2 fun u H3 => ∃ i j, PartV l i ∧ PartV u j ∧ r x i j H3 Q) := by
  refine ⟨fun pins s σ H Q I h => ?_⟩
  refine Subscript_ (thn (he.run pins s σ H _ I h) fun v s1 ⟨x, H1, I1, r1, q1⟩ => ?_)
  refine wpAny_Slice (thn (hl.run pins s1 σ H1 _ I1 q1) fun vl s2 ⟨l, H2, I2, pl, q2⟩ => thn (hu.run pins s2 σ H2 _ I2 q2) fun vu s3 ⟨u, H3, I3, pu, i, j, v1, v2, q3⟩ => ?_)
  rw [evalPart_none]
  refine wpAny_pure ?_
  have I4 : Inv X pins σ H3 { s3 with heap := s3.heap.push { cls := .type "slice", data := .fields #[vl, vu, .none] } } := I3.kept (t' := s3.toks) fun b ob q => Heap.get?_push_of_some _ q
  obtain ⟨T, id, hT, ht, hg⟩ := hr pins { s3 with heap := s3.heap.push { cls := .type "slice", data := .fields #[vl, vu, .none] } } σ H3 x v vl vu i j s3.heap.objs.size Q I4 r1 (Heap.IsSliceOf.new ..) (v1.is pl) (v2.is pu) q3
  show wpAny (model X.prog X.w) X.A (subscriptTail e (.Slice lo hi none p2) v (.ref s3.heap.objs.size)) (EP X pins σ Q) X.xe { s3 with heap := s3.heap.push { cls := .type "slice", data := .fields #[vl, vu, .none] } }
  exact tail_any (ops := [.ref s3.heap.objs.size, v]) ht hT hg (by with_unfolding_all rfl)
theorem wSlice_inv {lo hi : Bool} {ds : List D} {P : O → Prop} (h : wSlice lo hi ds P) : (lo = false ∧ hi = false ∧ ∃ x, ds = [x] ∧ wSl none none x P) ∨ (lo = true ∧ hi = false ∧ ∃ x i, ds = [x, .int i] ∧ wSl (some i) none x P) ∨
    (lo = false ∧ hi = true ∧ ∃ x i, ds = [x, .int i] ∧ wSl none (some i) x P) ∨ (lo = true ∧ hi = true ∧ ∃ x i j, ds = [x, .int i, .int j] ∧ wSl (some i) (some j) x P) := by
  unfold wSlice at h
  split at h
  · exact .inl ⟨rfl, rfl, _, rfl, h⟩
  · exact .inr (.inl ⟨rfl, rfl, _, _, rfl, h⟩)
  · exact .inr (.inr (.inl ⟨rfl, rfl, _, _, rfl, h⟩))
  · exact .inr (.inr (.inr ⟨rfl, rfl, _, _, _, rfl, h⟩))
  · exact h.elim
theorem topInt {C : CT} {K : PySem.W.Frag} {H G : Hp} {i : Int} {v : V} (h : Top C K H G (.int i) v) : v = .int i := h
theorem chk_rev {a : T} {sc : Scope} {ow : Option Scope} {e : Expr} (h : chkE B (.prim .rev (.cons a .nil)) sc ow e = true) :
    ∃ l k p1 p2 p3 pos, e = .Subscript l (.Slice none none (some (.UnaryOp .USub (.Constant (.int 1) k p1) p2)) p3) pos ∧ chkE B a sc ow l = true := by
  cases e with
  | Subscript l r pos =>
    cases r with
    | Slice x y z p3 =>
      cases x with
      | some _ => simp [chkE] at h
      | none =>
        cases y with
        | some _ => simp [chkE] at h
        | none =>
          cases z with
          | none => simp [chkE] at h
          | some z =>
            cases z with
            | UnaryOp op q p2 =>
              cases op with
              | USub =>
                cases q with
                | Constant c k p1 =>
                  cases c with
                  | int i =>
                    simp only [chkE, Bool.and_eq_true, decide_eq_true_eq] at h
                    obtain ⟨e, h⟩ := h
                    subst e
                    exact ⟨l, k, p1, p2, p3, pos, rfl, h⟩
                  | _ => simp [chkE] at h
                | _ => simp [chkE] at h
              | _ => simp [chkE] at h
            | _ => simp [chkE] at h
    | _ => simp [chkE] at h
  | _ => simp [chkE] at h
theorem snd_prim {u : Prim} {as : Ts} (ih : AllS B C Γ as) : Snd B C Γ (.prim u as) := by
  intro X sc ow S e h
  have two : ∀ {a b : T} {w : List D → WO} {σ : L2.St} {H : Hp} {Q : VK}, as = .cons a (.cons b .nil) → (∀ ds Q, pw u ds Q → w ds Q) → tE C X.K Γ (.prim u as) σ H Q → tE C X.K Γ a σ H fun v H1 => tE C X.K Γ b σ H1 fun z H2 => rW2 C X.K w v z H2 Q := by
    intro a b w σ H Q ea hw q
    subst ea
    obtain ⟨env, fr, R, q⟩ := q
    unfold ev at q
    exact tE_two R q fun rs e v z H' q1 R1 => two_ans (Q := Q) (k := fun r e => ∀ v H', RelR C X.K H' e σ fr v r → Q v H') hw q1 R1 fun o v H' k r => k v H' r
  have many : ∀ {w : List D → WO} {σ : L2.St} {H : Hp} {Q : VK}, (∀ ds Q, pw u ds Q → w ds Q) → tE C X.K Γ (.prim u as) σ H Q → tA C X.K Γ as σ H fun vs H1 => rWC C X.K w vs H1 Q := by
    intro w σ H Q hw q
    obtain ⟨env, fr, R, q⟩ := q
    unfold ev at q
    exact tA_of R q fun rs e vs H' q1 R1 => call_ans (Q := Q) (k := fun r e => ∀ v H', RelR C X.K H' e σ fr v r → Q v H') hw q1 R1 fun o v H' k r => k v H' r
  cases u with
  | bop o =>
    cases as with
    | nil => cases e <;> simp [chkE] at h
    | cons a as =>
      cases as with
      | nil => cases e <;> simp [chkE] at h
      | cons b as =>
        cases as with
        | cons _ _ => cases e <;> simp [chkE] at h
        | nil =>
          cases e with
          | BinOp l p r pos =>
            simp only [chkE, Bool.and_eq_true, decide_eq_true_eq] at h
            obtain ⟨⟨h1, h2⟩, h3⟩ := h
            subst h1
            exact pt_plain (PE.weak (pe_op opW (ih.1 S l h2).1 (ih.2.1 S r h3).1) fun σ H Q q => two rfl (fun ds Q h => h) q) rfl
          | _ => simp [chkE] at h
  | cmp o =>
    cases as with
    | nil => cases e <;> simp [chkE] at h
    | cons a as =>
      cases as with
      | nil => cases e <;> simp [chkE] at h
      | cons b as =>
        cases as with
        | cons _ _ => cases e <;> simp [chkE] at h
        | nil =>
          cases e with
          | Compare l ps rs pos =>
            cases ps with
            | nil => simp [chkE] at h
            | cons p ps =>
              cases ps with
              | cons _ _ => cases rs <;> simp [chkE] at h
              | nil =>
                cases rs with
                | nil => simp [chkE] at h
                | cons r rs =>
                  cases rs with
                  | cons _ _ => simp [chkE] at h
                  | nil =>
                    simp only [chkE, Bool.and_eq_true, decide_eq_true_eq, Bool.not_eq_true'] at h
                    obtain ⟨⟨⟨h1, h2⟩, h3⟩, h4⟩ := h
                    subst h1
                    refine ⟨PE.weak (pe_cmpR (cmpW (C := C) S.stk) (ih.1 S l h2).1 (ih.2.1 S r h3).1 h4) fun σ H Q q => two rfl (fun ds Q h => h) q, PT.weak (pt_cmpR (cmpW (C := C) S.stk) (ih.1 S l h2).1 (ih.2.1 S r h3).1 h4) fun σ H Q q => ?_⟩
                    have q' := test_weak q
                    exact two rfl (fun ds Q h => h) q'
          | _ => simp [chkE] at h
  | neg =>
    cases as with
    | nil => cases e <;> simp [chkE] at h
    | cons a as =>
      cases as with
      | cons _ _ => cases e <;> simp [chkE] at h
      | nil =>
        cases e with
        | UnaryOp op x pos =>
          cases op with
          | USub =>
            simp only [chkE] at h
            refine pt_plain (PE.weak (pe_un un_neg (ih.1 S x h).1) fun σ H Q q => ?_) rfl
            obtain ⟨env, fr, R, q⟩ := q
            unfold ev at q
            refine tE_one R q fun rs e v H' q1 R1 => ?_
            have w := call_ans (Q := Q) (w := fun ds Q => pw .neg ds Q) (k := fun r e => ∀ v H', RelR C X.K H' e σ fr v r → Q v H') (fun ds Q h => h) q1 R1 fun o v H' k r => k v H' r
            obtain ⟨G, as, g, tops, P, hw, hq⟩ := w
            unfold pw at hw
            split at hw
            all_goals first | (rename_i e1 _; cases e1; done) | (rename_i e1; cases e1; done) | skip
            · obtain ⟨v', e2, t⟩ := tops.one
              cases e2; cases t
              exact ⟨_, rfl, hq _ _ _ hw (.std rfl)⟩
            · exact hw.elim
          | _ => simp [chkE] at h
        | _ => simp [chkE] at h
  | ix =>
    cases as with
    | nil => cases e <;> simp [chkE] at h
    | cons a as =>
      cases as with
      | nil => cases e <;> simp [chkE] at h
      | cons b as =>
        cases as with
        | cons _ _ => cases e <;> simp [chkE] at h
        | nil =>
          cases e with
          | Subscript l r pos =>
            simp only [chkE, Bool.and_eq_true] at h
            exact pt_plain (PE.weak (pe_ix (ixW (have := S.stk; by show X.A.units + 1 < cLine; omega)) (ih.1 S l h.1.1).1 (ih.2.1 S r h.1.2).1 (plain_ix h.2)) fun σ H Q q => two rfl (fun ds Q h => h) q) rfl
          | _ => simp [chkE] at h
  | sl lo hi =>
    cases e with
    | Subscript l r pos =>
      cases r with
      | Slice x y z p2 =>
        cases z with
        | some z => 
          cases lo <;> cases hi <;> cases as <;> simp [chkE] at h
        | none =>
          have fin : ∀ {σ : L2.St} {H : Hp} {Q : VK} {vs : List V}, rWC C X.K (fun ds Q => wSlice lo hi ds Q) vs H Q → (lo = false ∧ hi = false ∧ ∃ x, vs = [x] ∧ rSlW C X.K x none none H Q) ∨ (lo = true ∧ hi = false ∧ ∃ x i, vs = [x, .int i] ∧ rSlW C X.K x (some i) none H Q) ∨
              (lo = false ∧ hi = true ∧ ∃ x i, vs = [x, .int i] ∧ rSlW C X.K x none (some i) H Q) ∨ (lo = true ∧ hi = true ∧ ∃ x i j, vs = [x, .int i, .int j] ∧ rSlW C X.K x (some i) (some j) H Q) := by
            intro σ H Q vs w
            obtain ⟨G, as, g, tops, P, hw, hq⟩ := w
            rcases wSlice_inv hw with ⟨e1, e2, x, rfl, q⟩ | ⟨e1, e2, x, i, rfl, q⟩ | ⟨e1, e2, x, i, rfl, q⟩ | ⟨e1, e2, x, i, j, rfl, q⟩
            · obtain ⟨v, rfl, t⟩ := tops.one
              exact .inl ⟨e1, e2, v, rfl, G, x, g, t, P, q, hq⟩
            · obtain ⟨v, u, rfl, t, t2⟩ := tops.two
              cases t2
              exact .inr (.inl ⟨e1, e2, v, i, rfl, G, x, g, t, P, q, hq⟩)
            · obtain ⟨v, u, rfl, t, t2⟩ := tops.two
              cases t2
              exact .inr (.inr (.inl ⟨e1, e2, v, i, rfl, G, x, g, t, P, q, hq⟩))
            · obtain ⟨v, r, rfl, t, tops2⟩ := tops
              obtain ⟨u, z, rfl, t2, t3⟩ := tops2.two
              cases t2; cases t3
              exact .inr (.inr (.inr ⟨e1, e2, v, i, j, rfl, G, x, g, t, P, q, hq⟩))
          cases lo <;> cases hi
          · cases as with
            | nil => simp [chkE] at h
            | cons a as =>
              cases as with
              | cons _ _ => simp [chkE] at h
              | nil =>
                cases x with
                | some _ => simp [chkE] at h
                | none =>
                  cases y with
                  | some _ => simp [chkE] at h
                  | none =>
                    simp only [chkE] at h
                    refine pt_plain (PE.weak (pe_slice2 (slW (C := C)) (ih.1 S l h).1 po2_none po2_none) fun σ H Q q => ?_) rfl
                    obtain ⟨env, fr, R, q⟩ := q
                    unfold ev at q
                    refine tE_one R q fun rs e v H' q1 R1 => ?_
                    have w := call_ans (Q := Q) (w := fun ds Q => wSlice false false ds Q) (k := fun r e => ∀ v H', RelR C X.K H' e σ fr v r → Q v H') (fun ds Q h => by unfold pw at h; exact h) q1 R1 fun o v H' k r => k v H' r
                    rcases fin (σ := σ) w with ⟨_, _, x, e, q⟩ | ⟨e1, _⟩ | ⟨_, e1, _⟩ | ⟨e1, _⟩
                    · cases e; exact ⟨_, _, .none, .none, q⟩
                    all_goals cases e1
          · cases as with
            | nil => simp [chkE] at h
            | cons a as =>
              cases as with
              | nil => simp [chkE] at h
              | cons b as =>
                cases as with
                | cons _ _ => simp [chkE] at h
                | nil =>
                  cases x with
                  | some _ => simp [chkE] at h
                  | none =>
                    cases y with
                    | none => simp [chkE] at h
                    | some y =>
                      simp only [chkE, Bool.and_eq_true] at h
                      refine pt_plain (PE.weak (pe_slice2 (slW (C := C)) (ih.1 S l h.1).1 po2_none (po2_some (ih.2.1 S y h.2).1)) fun σ H Q q => ?_) rfl
                      obtain ⟨env, fr, R, q⟩ := q
                      unfold ev at q
                      refine tE_two R q fun rs e v z H' q1 R1 => ?_
                      have w := call_ans (Q := Q) (w := fun ds Q => wSlice false true ds Q) (k := fun r e => ∀ v H', RelR C X.K H' e σ fr v r → Q v H') (fun ds Q h => by unfold pw at h; exact h) q1 R1 fun o v H' k r => k v H' r
                      rcases fin (σ := σ) w with ⟨_, e1, _⟩ | ⟨e1, _⟩ | ⟨_, _, x, i, e, q⟩ | ⟨e1, _⟩
                      · cases e1
                      · cases e1
                      · cases e; exact ⟨_, _, .none, .int _, q⟩
                      · cases e1
          · cases as with
            | nil => simp [chkE] at h
            | cons a as =>
              cases as with
              | nil => simp [chkE] at h
              | cons b as =>
                cases as with
                | cons _ _ => simp [chkE] at h
                | nil =>
                  cases x with
                  | none => simp [chkE] at h
                  | some x =>
                    cases y with
                    | some y => simp [chkE] at h
                    | none =>
                      simp only [chkE, Bool.and_eq_true] at h
                      refine pt_plain (PE.weak (pe_slice2 (slW (C := C)) (ih.1 S l h.1).1 (po2_some (ih.2.1 S x h.2).1) po2_none) fun σ H Q q => ?_) rfl
                      obtain ⟨env, fr, R, q⟩ := q
                      unfold ev at q
                      refine tE_two R q fun rs e v z H' q1 R1 => ?_
                      have w := call_ans (Q := Q) (w := fun ds Q => wSlice true false ds Q) (k := fun r e => ∀ v H', RelR C X.K H' e σ fr v r → Q v H') (fun ds Q h => by unfold pw at h; exact h) q1 R1 fun o v H' k r => k v H' r
                      rcases fin (σ := σ) w with ⟨e1, _⟩ | ⟨_, _, x, i, e, q⟩ | ⟨e1, _⟩ | ⟨_, e1, _⟩
                      · cases e1
                      · cases e; exact ⟨_, _, .int _, .none, q⟩
                      · cases e1
                      · cases e1
          · cases as with
            | nil => simp [chkE] at h
            | cons a as =>
              cases as with
              | nil => simp [chkE] at h
              | cons b as =>
                cases as with
                | nil => simp [chkE] at h
                | cons c as =>
                  cases as with
                  | cons _ _ => simp [chkE] at h
                  | nil =>
                    cases x with
                    | none => simp [chkE] at h
                    | some x =>
                      cases y with
                      | none => simp [chkE] at h
                      | some y =>
                        simp only [chkE, Bool.and_eq_true] at h
                        refine pt_plain (PE.weak (pe_slice2 (slW (C := C)) (ih.1 S l h.1.1).1 (po2_some (ih.2.1 S x h.1.2).1) (po2_some (ih.2.2.1 S y h.2).1)) fun σ H Q q => ?_) rfl
                        obtain ⟨env, fr, R, q⟩ := q
                        unfold ev at q
                        refine tE_three R q fun rs e v z u H' q1 R1 => ?_
                        have w := call_ans (Q := Q) (w := fun ds Q => wSlice true true ds Q) (k := fun r e => ∀ v H', RelR C X.K H' e σ fr v r → Q v H') (fun ds Q h => by unfold pw at h; exact h) q1 R1 fun o v H' k r => k v H' r
                        rcases fin (σ := σ) w with ⟨e1, _⟩ | ⟨_, e1, _⟩ | ⟨e1, _⟩ | ⟨_, _, x, i, j, e, q⟩
                        · cases e1
                        · cases e1
                        · cases e1
                        · cases e; exact ⟨_, _, .int _, .int _, q⟩
      | _ => cases lo <;> cases hi <;> cases as <;> simp [chkE] at h
    | _ => cases lo <;> cases hi <;> cases as <;> simp [chkE] at h
  | rev =>
    cases as with
    | nil => cases e <;> simp [chkE] at h
    | cons a as =>
      cases as with
      | cons _ _ => cases e <;> simp [chkE] at h
      | nil =>
        obtain ⟨l, k, p1, p2, p3, pos, e1, h⟩ := chk_rev h
        subst e1
        refine pt_plain (PE.weak (pe_revL (ih.1 S l h).1) fun σ H Q q => ?_) rfl
        obtain ⟨env, fr, R, q⟩ := q
        unfold ev at q
        refine tE_one R q fun rs e v H' q1 R1 => ?_
        have w := call_ans (Q := Q) (w := fun ds Q => pw .rev ds Q) (k := fun r e => ∀ v H', RelR C X.K H' e σ fr v r → Q v H') (fun ds Q h => h) q1 R1 fun o v H' k r => k v H' r
        obtain ⟨G, as, g, tops, P, hw, hq⟩ := w
        unfold pw at hw
        split at hw
        all_goals first | (rename_i e1 _; cases e1; done) | (rename_i e1; cases e1; done) | skip
        · obtain ⟨v', e2, p, vs, e3, h1, h2⟩ := tops.one
          cases e2; subst e3
          exact ⟨p, vs, rfl, .of h1, fun q hn => hq _ _ _ hw (.lst hn h2.reverse)⟩
        · exact hw.elim
  | call n =>
    cases as with
    | nil => cases e <;> simp [chkE] at h
    | cons a as =>
      cases e with
      | Call f es ks pos =>
        cases f with
        | Name x p =>
          cases es with
          | nil => simp [chkE] at h
          | cons e es =>
            cases ks with
            | cons _ _ => simp [chkE] at h
            | nil =>
              simp only [chkE, Bool.and_eq_true, decide_eq_true_eq] at h
              obtain ⟨⟨⟨h1, h2⟩, h3⟩, ⟨h4, h5⟩, h6⟩ := h
              unfold gnOk at h2
              simp only [Bool.and_eq_true, decide_eq_true_eq, Bool.not_eq_true'] at h2
              obtain ⟨⟨⟨g1, g2⟩, g3⟩, g4⟩ := h2
              have hes : chkEs B (.cons a as) sc ow (e :: es) = true := by simp only [chkEs, Bool.and_eq_true]; exact ⟨⟨h4, h5⟩, h6⟩
              exact pt_plain (PE.weak (pe_callB (callB S.calm S.stk) (gl_of S g1) (S.blt x g2) (of_decide_eq_true h3) (sndA S _ _ ih hes) g3 g4 (star_cons h4) (star_any h6)) fun σ H Q q => many (fun ds Q h => h) q) rfl
        | _ => simp [chkE] at h
      | _ => simp [chkE] at h
  | ty n =>
    cases as with
    | nil => cases e <;> simp [chkE] at h
    | cons a as =>
      cases e with
      | Call f es ks pos =>
        cases f with
        | Name x p =>
          cases es with
          | nil => simp [chkE] at h
          | cons e es =>
            cases ks with
            | cons _ _ => simp [chkE] at h
            | nil =>
              simp only [chkE, Bool.and_eq_true, decide_eq_true_eq] at h
              obtain ⟨⟨⟨h1, h2⟩, h3⟩, ⟨h4, h5⟩, h6⟩ := h
              unfold gnOk at h2
              simp only [Bool.and_eq_true, decide_eq_true_eq, Bool.not_eq_true'] at h2
              obtain ⟨⟨⟨g1, g2⟩, g3⟩, g4⟩ := h2
              have hes : chkEs B (.cons a as) sc ow (e :: es) = true := by simp only [chkEs, Bool.and_eq_true]; exact ⟨⟨h4, h5⟩, h6⟩
              exact pt_plain (PE.weak (pe_callTy (callTy S.stk) (gl_of S g1) (S.blt x g2) (of_decide_eq_true h3) (sndA S _ _ ih hes) g3 g4 (star_cons h4) (star_any h6)) fun σ H Q q => many (fun ds Q h => h) q) rfl
        | _ => simp [chkE] at h
      | _ => simp [chkE] at h
  | meth t n => cases as <;> cases e <;> simp [chkE] at h
end
end VE
/-! VE13: more expressions: chains, and, or, not, if, calls -/
namespace VE
open PySem PySem.Spec PyProof.Rows L2
section
variable {B : Tb} {C : CT} {Γ : Gam}
section
variable {K : PySem.W.Frag} {H H' : Hp} {env env' : Ev} {σ : Sg} {fr fr' : Prs} {v z : V} {o : O} {i : Nat} {x : D} {r : R}
theorem RelR.sub (h : RelR C K H env σ fr v r) (s : fr'.Sublist fr) : RelR C K H env σ fr' v r := by
  cases r with
  | obj o => exact RelX.sub h (List.Sublist.cons_cons _ s)
  | path i => exact ⟨h.1.sub s, h.2⟩
theorem two_ansP {u : Prim} {w : List D → WO} {rs : List R} {Q : VK} {P : O → Prop} (hw : ∀ ds Q, pw u ds Q → w ds Q) (q : match opsO env rs with | some os => pw u (os.map O.toD) P | none => False)
    (R : RelRs C K H env σ fr [v, z] rs) (hk : ∀ o w H', P o → RelX C K H' env σ ((w, o) :: (pend [v, z] rs ++ fr)) → Q w H') : rW2 C K w v z H Q := by
  split at q
  · rename_i os e
    obtain ⟨G, g, tops, hq⟩ := R.wishK (P := P) e (hw _ _ q)
    obtain ⟨a, b, ea, ha, hb⟩ : ∃ a b, os.map O.toD = [a, b] ∧ Top C K H G a v ∧ Top C K H G b z := by
      cases hm : os.map O.toD with
      | nil => rw [hm] at tops; cases tops
      | cons a l =>
        cases l with
        | nil => rw [hm] at tops; obtain ⟨v', r, e1, _, e2⟩ := tops; cases e1; cases e2
        | cons b l =>
          cases l with
          | nil =>
            rw [hm] at tops
            obtain ⟨v', u', e1, t1, t2⟩ := tops.two
            cases e1
            exact ⟨a, b, rfl, t1, t2⟩
          | cons c l =>
            rw [hm] at tops
            obtain ⟨_, _, e1, _, _, _, e2, _, _, _, e3, _⟩ := tops
            cases e1; cases e2; cases e3
    refine ⟨G, a, b, g, ha, hb, ?_⟩
    have := hq Q hk
    rwa [ea] at this
  · exact q.elim
theorem frm_sub {u : V} {ra rb : R} : (frm z rb fr).Sublist (pend [u, z] [ra, rb] ++ fr) := by
  cases ra with
  | obj a =>
    cases rb with
    | obj b => exact (List.Sublist.refl _).cons _
    | path j => exact (List.Sublist.refl _).cons _
  | path i =>
    cases rb with
    | obj b => exact .refl _
    | path j => exact .refl _
theorem frm_sup : fr.Sublist (frm v r fr) := by
  cases r with
  | obj o => exact (List.Sublist.refl _).cons _
  | path i => exact .refl _
end
theorem snd_chain {o1 o2 : CmpOp} {a b c : T} (ha : Snd B C Γ a) (hb : Snd B C Γ b) (hc : Snd B C Γ c) : Snd B C Γ (.chain o1 o2 a b c) := by
  intro X sc ow S e h
  cases e with
  | Compare l ps rs pos =>
    cases ps with
    | nil => simp [chkE] at h
    | cons p ps =>
      cases ps with
      | nil => simp [chkE] at h
      | cons q ps =>
        cases ps with
        | cons _ _ => simp [chkE] at h
        | nil =>
          cases rs with
          | nil => simp [chkE] at h
          | cons m rs =>
            cases rs with
            | nil => simp [chkE] at h
            | cons r rs =>
              cases rs with
              | cons _ _ => simp [chkE] at h
              | nil =>
                simp only [chkE, Bool.and_eq_true, decide_eq_true_eq, Bool.not_eq_true'] at h
                obtain ⟨⟨⟨⟨⟨h1, h2⟩, h3⟩, h4⟩, h5⟩, h6⟩ := h
                subst h1 h2
                have go : ∀ {σ : L2.St} {H : Hp} {Q : VK}, tE C X.K Γ (.chain o1 o2 a b c) σ H Q → tChain (rW2 C X.K (wCmp o1)) (rW2 C X.K (wCmp o2)) (tE C X.K Γ a) (tE C X.K Γ b) (tE C X.K Γ c) σ H Q := by
                  intro σ H Q q
                  obtain ⟨env, fr, R, q⟩ := q
                  unfold ev at q
                  refine tE_of R q fun ra e1 x H1 q1 R1 => ?_
                  refine tE_of R1.nrm.frm q1 fun rb e2 y H2 q2 R2 => ?_
                  refine two_ansP (u := .cmp o1) (fun ds Q h => h) q2 (RelRs.cons R1.nrm (RelRs.cons R2.nrm (relRs_nil R2.nrm.frm))) fun o w H3 p3 R3 => ?_
                  split at p3
                  · have ew := rep_bl R3
                    refine ⟨true, ew, ?_⟩
                    rw [if_pos rfl]
                    refine tE_of (R3.pop.sub (frm_sub (rb := rb.nrm))) p3 fun rc e3 w' H4 q4 R4 => ?_
                    refine two_ansP (u := .cmp o2) (fun ds Q h => h) q4 (RelRs.cons (R2.nrm.sub frm_sup) (RelRs.cons R4.nrm (relRs_nil R4.nrm.frm))) fun o w5 H5 p5 R5 => ?_
                    exact p5 w5 H5 (R5.sub (List.Sublist.cons_cons _ (List.sublist_append_right _ _)))
                  · have ew := rep_bl R3
                    refine ⟨false, ew, ?_⟩
                    rw [if_neg (by decide)]
                    exact p3 (.bl false) H3 ((R3.pop.sub (List.sublist_append_right _ _)).std fun G => rfl)
                  · exact p3.elim
                refine ⟨PE.weak (pe_chain (cmpW (C := C) S.stk) (cmpW (C := C) S.stk) (ha S l h3).1 (hb S m h4).1 (hc S r h5).1 h6) fun σ H Q q => go q, PT.weak (pt_chain (cmpW (C := C) S.stk) (cmpW (C := C) S.stk) (ha S l h3).1 (hb S m h4).1 (hc S r h5).1 h6) fun σ H Q q => go (test_weak q)⟩
  | _ => simp [chkE] at h

/-! ### not, if -/
theorem tst_is {r : R} {k : Bool → Prop} (h : tst r k) : ∃ b, r = .obj (.d (.bl b)) ∧ k b := by
  unfold tst at h
  split at h
  · exact ⟨_, rfl, h⟩
  · exact h.elim
theorem snd_not {a : T} (ha : Snd B C Γ a) : Snd B C Γ (.not a) := by
  intro X sc ow S e h
  cases e with
  | UnaryOp op x pos =>
    cases op with
    | Not =>
      simp only [chkE] at h
      refine ⟨PE.weak (pe_not (ha S x h).1) fun σ H Q q => ?_, PT.weak (pt_not (ha S x h).2) fun σ H Q q => ?_⟩
      · obtain ⟨env, fr, R, q⟩ := q
        unfold ev at q
        refine tE_of R q fun r e v H' q R1 => ?_
        obtain ⟨b, e1, q⟩ := tst_is q
        subst e1
        exact ⟨b, rep_bl R1, q _ _ ((RelX.pop R1).std fun G => rfl)⟩
      · obtain ⟨env, fr, R, q⟩ := q
        unfold ev at q
        refine ⟨env, fr, R, ev_mono a e0 (fun r e q => ?_) q⟩
        refine tst_mono (fun b q H' R' => ?_) q
        exact q H' R'
    | _ => simp [chkE] at h
  | _ => simp [chkE] at h
theorem snd_ite {c a b : T} (hc : Snd B C Γ c) (ha : Snd B C Γ a) (hb : Snd B C Γ b) : Snd B C Γ (.ite c a b) := by
  intro X sc ow S e h
  cases e with
  | IfExp t x y pos =>
    simp only [chkE, Bool.and_eq_true] at h
    obtain ⟨⟨h1, h2⟩, h3⟩ := h
    constructor
    · refine PE.weak (pe_ifExp (hc S t h1).2 (ha S x h2).1 (hb S y h3).1) fun σ H Q q => ?_
      obtain ⟨env, fr, R, q⟩ := q
      unfold ev at q
      refine ⟨env, fr, R, ev_mono c e0 (fun r e q => tst_mono (fun b q H' R' => ?_) q) q⟩
      split at q
      · rename_i hb; rw [if_pos hb]; exact ⟨e, fr, R', q⟩
      · rename_i hb; rw [if_neg hb]; exact ⟨e, fr, R', q⟩
    · refine ⟨fun pins s σ H Q I q => ?_⟩
      obtain ⟨env, fr, R, q⟩ := q
      unfold ev at q
      refine isTrue_IfExp (thn ((hc S t h1).2.run pins s σ H (fun d H1 => if d = true then tT C X.K Γ a σ H1 Q else tT C X.K Γ b σ H1 Q) I ⟨env, fr, R, ev_mono c e0 (fun r e q => tst_mono (fun b q H' R' => ?_) q) q⟩) fun d s1 ⟨H1, I1, q1⟩ => ?_)
      · split at q
        · rename_i hb; rw [if_pos hb]; exact ⟨e, fr, R', q⟩
        · rename_i hb; rw [if_neg hb]; exact ⟨e, fr, R', q⟩
      · cases d with
        | true => exact (ha S x h2).2.run pins s1 σ H1 Q I1 q1
        | false => exact (hb S y h3).2.run pins s1 σ H1 Q I1 q1
  | _ => simp [chkE] at h

/-! ### and, or -/
def tAs (C : CT) (K : PySem.W.Frag) (Γ : Gam) (f : Ts → Ev → (Ex → Ev → Prop) → (Bool → Ev → Prop) → Prop) (as : Ts) : TT := fun σ H Q => ∃ env fr, RelX C K H env σ fr ∧ f as env E0x fun b e => ∀ H', RelX C K H' e σ fr → Q b H'
def vB (t : TT) : TE := fun σ H Q => t σ H fun b H' => Q (.bl b) H'
theorem tE_mono_q {K : PySem.W.Frag} {a : T} {σ : Sg} {H : Hp} {Q : VK} (h : tE C K Γ a σ H fun x H1 => ∃ c, x = .bl c ∧ Q (.bl c) H1) : tE C K Γ a σ H Q := by
  obtain ⟨env, fr, R, h⟩ := h
  exact ⟨env, fr, R, ev_mono a e0 (fun r e q v H' R1 => by obtain ⟨c, e1, q⟩ := q v H' R1; subst e1; exact q) h⟩
theorem pv_of {X : Cx} {a : T} {e : Expr} (h : PE X e (tE C X.K Γ a)) : PE X e (vB (tT C X.K Γ a)) := PE.weak h fun σ H Q q => tE_mono_q (test_weak q)
theorem and_snd {X : Cx} {sc : Scope} {ow : Option Scope} (S : Sup B C Γ sc ow X) {pos : Pos} : ∀ (as : Ts) (es : List Expr), AllS B C Γ as → es ≠ [] → chkEs B as sc ow es = true →
    PE X (.BoolOp .And es pos) (vB (tAs C X.K Γ (evAnd Γ) as)) ∧ PW X (.BoolOp .And es pos) (tAs C X.K Γ (evAnd Γ) as)
  | .nil, [], _, ne, _ => absurd rfl ne
  | .nil, _ :: _, _, _, h => by simp [chkEs] at h
  | .cons _ _, [], _, ne, _ => absurd rfl ne
  | .cons a as, [e], ih, _, h => by
    simp only [chkEs, Bool.and_eq_true] at h
    cases as with
    | cons _ _ => simp [chkEs] at h
    | nil =>
      obtain ⟨h1, h2⟩ := ih.1 S e h.1.2
      have w : ∀ {σ : Sg} {H : Hp} {Q : Bool → Hp → Prop}, tAs C X.K Γ (evAnd Γ) (.cons a .nil) σ H Q → tT C X.K Γ a σ H Q := by
        intro σ H Q q
        obtain ⟨env, fr, R, q⟩ := q
        unfold evAnd at q
        refine ⟨env, fr, R, ev_mono a e0 (fun r e q => tst_mono (fun b q H' R' => ?_) q) q⟩
        cases b with
        | true => rw [if_pos rfl] at q; unfold evAnd at q; exact q H' R'
        | false => rw [if_neg (by decide)] at q; exact q H' R'
      exact ⟨PE.weak (pe_one (pv_of h1)) fun σ H Q q => w q, PW.weak (pw_and1 h2) fun σ H Q q => w q⟩
  | .cons a as, e :: e2 :: es, ih, _, h => by
    have h' := h
    simp only [chkEs, Bool.and_eq_true] at h'
    obtain ⟨h1, h2⟩ := ih.1 S e h'.1.2
    obtain ⟨h3, h4⟩ := and_snd S (pos := pos) as (e2 :: es) ih.2 (by simp) h'.2
    constructor
    · refine PE.weak (pe_and (pv_of h1) h3) fun σ H Q q => ?_
      obtain ⟨env, fr, R, q⟩ := q
      unfold evAnd at q
      refine ⟨env, fr, R, ev_mono a e0 (fun r e q => tst_mono (fun b q H' R' => ⟨b, rfl, ?_⟩) q) q⟩
      split at q
      · rename_i hb; rw [if_pos hb]; exact ⟨e, fr, R', q⟩
      · rename_i hb; rw [if_neg hb]; exact q H' R'
    · refine PW.weak (pw_and h2 h4) fun σ H Q q => ?_
      obtain ⟨env, fr, R, q⟩ := q
      unfold evAnd at q
      refine ⟨env, fr, R, ev_mono a e0 (fun r e q => tst_mono (fun b q H' R' => ?_) q) q⟩
      split at q
      · rename_i hb; rw [if_pos hb]; exact ⟨e, fr, R', q⟩
      · rename_i hb; rw [if_neg hb]; exact q H' R'
theorem or_snd {X : Cx} {sc : Scope} {ow : Option Scope} (S : Sup B C Γ sc ow X) {pos : Pos} : ∀ (as : Ts) (es : List Expr), AllS B C Γ as → es ≠ [] → chkEs B as sc ow es = true →
    PE X (.BoolOp .Or es pos) (vB (tAs C X.K Γ (evOr Γ) as)) ∧ PW X (.BoolOp .Or es pos) (tAs C X.K Γ (evOr Γ) as)
  | .nil, [], _, ne, _ => absurd rfl ne
  | .nil, _ :: _, _, _, h => by simp [chkEs] at h
  | .cons _ _, [], _, ne, _ => absurd rfl ne
  | .cons a as, [e], ih, _, h => by
    simp only [chkEs, Bool.and_eq_true] at h
    cases as with
    | cons _ _ => simp [chkEs] at h
    | nil =>
      obtain ⟨h1, h2⟩ := ih.1 S e h.1.2
      have w : ∀ {σ : Sg} {H : Hp} {Q : Bool → Hp → Prop}, tAs C X.K Γ (evOr Γ) (.cons a .nil) σ H Q → tT C X.K Γ a σ H Q := by
        intro σ H Q q
        obtain ⟨env, fr, R, q⟩ := q
        unfold evOr at q
        refine ⟨env, fr, R, ev_mono a e0 (fun r e q => tst_mono (fun b q H' R' => ?_) q) q⟩
        cases b with
        | true => rw [if_pos rfl] at q; exact q H' R'
        | false => rw [if_neg (by decide)] at q; unfold evOr at q; exact q H' R'
      exact ⟨PE.weak (pe_one (pv_of h1)) fun σ H Q q => w q, PW.weak (pw_or1 h2) fun σ H Q q => w q⟩
  | .cons a as, e :: e2 :: es, ih, _, h => by
    have h' := h
    simp only [chkEs, Bool.and_eq_true] at h'
    obtain ⟨h1, h2⟩ := ih.1 S e h'.1.2
    obtain ⟨h3, h4⟩ := or_snd S (pos := pos) as (e2 :: es) ih.2 (by simp) h'.2
    constructor
    · refine PE.weak (pe_or (pv_of h1) h3) fun σ H Q q => ?_
      obtain ⟨env, fr, R, q⟩ := q
      unfold evOr at q
      refine ⟨env, fr, R, ev_mono a e0 (fun r e q => tst_mono (fun b q H' R' => ⟨b, rfl, ?_⟩) q) q⟩
      split at q
      · rename_i hb; rw [if_pos hb]; subst hb; exact q H' R'
      · rename_i hb; rw [if_neg hb]; exact ⟨e, fr, R', q⟩
    · refine PW.weak (pw_or h2 h4) fun σ H Q q => ?_
      obtain ⟨env, fr, R, q⟩ := q
      unfold evOr at q
      refine ⟨env, fr, R, ev_mono a e0 (fun r e q => tst_mono (fun b q H' R' => ?_) q) q⟩
      split at q
      · rename_i hb; rw [if_pos hb]; exact q H' R'
      · rename_i hb; rw [if_neg hb]; exact ⟨e, fr, R', q⟩
theorem tst_bl {f : Ts → Ev → (Ex → Ev → Prop) → (Bool → Ev → Prop) → Prop} {K : PySem.W.Frag} {as : Ts} {env : Ev} {σ : Sg} {fr : Prs} {Q : VK} {H : Hp} (hf : ∀ {as : Ts} {env : Ev} {E : Ex → Ev → Prop} {k k' : Bool → Ev → Prop}, (∀ r e, k r e → k' r e) → f as env E k → f as env E k') (R0 : RelX C K H env σ fr)
    (q : f as env E0x fun b e => ∀ v H', RelR C K H' e σ fr v (.obj (rB b)) → Q v H') : vB (tAs C K Γ f as) σ H Q :=
  ⟨env, fr, R0, hf (fun b e q H' R' => q (.bl b) H' (R'.std fun G => rfl)) q⟩
theorem snd_and {as : Ts} (ih : AllS B C Γ as) : Snd B C Γ (.and as) := by
  intro X sc ow S e h
  cases e with
  | BoolOp op es pos =>
    cases op with
    | And =>
      simp only [chkE, Bool.and_eq_true, Bool.not_eq_true', List.isEmpty_eq_false_iff] at h
      obtain ⟨h1, h2⟩ := and_snd S (pos := pos) as es ih h.1 h.2
      refine ⟨PE.weak h1 fun σ H Q q => ?_, PT.weak h2.pt fun σ H Q q => ?_⟩
      · obtain ⟨env, fr, R, q⟩ := q
        unfold ev at q
        exact tst_bl (fun h => evAnd_mono _ (fun _ _ h => h) h) R q
      · obtain ⟨env, fr, R, q⟩ := q
        unfold ev at q
        exact ⟨env, fr, R, q⟩
    | _ => simp [chkE] at h
  | _ => simp [chkE] at h
theorem snd_or {as : Ts} (ih : AllS B C Γ as) : Snd B C Γ (.or as) := by
  intro X sc ow S e h
  cases e with
  | BoolOp op es pos =>
    cases op with
    | Or =>
      simp only [chkE, Bool.and_eq_true, Bool.not_eq_true', List.isEmpty_eq_false_iff] at h
      obtain ⟨h1, h2⟩ := or_snd S (pos := pos) as es ih h.1 h.2
      refine ⟨PE.weak h1 fun σ H Q q => ?_, PT.weak h2.pt fun σ H Q q => ?_⟩
      · obtain ⟨env, fr, R, q⟩ := q
        unfold ev at q
        exact tst_bl (fun h => evOr_mono _ (fun _ _ h => h) h) R q
      · obtain ⟨env, fr, R, q⟩ := q
        unfold ev at q
        exact ⟨env, fr, R, q⟩
    | _ => simp [chkE] at h
  | _ => simp [chkE] at h

/-! ### calls of own defs -/
def holes : Ev → List R → Ev
  | env, [] => env
  | env, .obj _ :: rs => holes env rs
  | env, .path i :: rs => holes (env.set i none) rs
theorem opsO_set {a : Option O} {i : Nat} : ∀ {rs : List R} {is : List Nat} {env : Ev}, i ∈ is → apart rs is = true → opsO (env.set i a) rs = opsO env rs
  | [], _, _, _, _ => rfl
  | .obj o :: rs, is, env, hi, h => by
    have h' : apart rs is = true := h
    show (match getR (env.set i a) (.obj o), opsO (env.set i a) rs with | some o, some os => some (o :: os) | _, _ => none) = (match getR env (.obj o), opsO env rs with | some o, some os => some (o :: os) | _, _ => none)
    rw [opsO_set hi h']
    rfl
  | .path j :: rs, is, env, hi, h => by
    simp only [apart, Bool.and_eq_true, Bool.not_eq_true'] at h
    have ne : i ≠ j := fun e => by
      subst e
      have := h.1
      rw [List.contains_iff_mem.mpr hi] at this
      cases this
    show (match getR (env.set i a) (.path j), opsO (env.set i a) rs with | some o, some os => some (o :: os) | _, _ => none) = (match getR env (.path j), opsO env rs with | some o, some os => some (o :: os) | _, _ => none)
    rw [opsO_set (List.mem_cons_of_mem _ hi) h.2]
    have : getR (env.set i a) (.path j) = getR env (.path j) := slot_set_ne ne
    rw [this]
theorem holes_set {a : Option O} {i : Nat} : ∀ {rs : List R} {is : List Nat} {env : Ev}, i ∈ is → apart rs is = true → (holes env rs).set i a = holes (env.set i a) rs
  | [], _, _, _, _ => rfl
  | .obj o :: rs, is, env, hi, h => holes_set (rs := rs) hi h
  | .path j :: rs, is, env, hi, h => by
    simp only [apart, Bool.and_eq_true, Bool.not_eq_true'] at h
    have ne : j ≠ i := fun e => by
      subst e
      have := h.1
      rw [List.contains_iff_mem.mpr hi] at this
      cases this
    show (holes (env.set j none) rs).set i a = holes ((env.set i a).set j none) rs
    rw [holes_set (List.mem_cons_of_mem _ hi) h.2, List.set_comm _ _ ne]
theorem puts_holes : ∀ {rs : List R} {is : List Nat} {os : List O} {env : Ev}, apart rs is = true → os.length = rs.length → puts (holes env rs) rs os = puts env rs os
  | [], _, _, _, _, _ => by simp [puts, holes]
  | _ :: _, _, [], _, _, h => by simp at h
  | .obj _ :: rs, is, o :: os, env, h, hl => puts_holes (rs := rs) (is := is) h (by simpa using hl)
  | .path i :: rs, is, o :: os, env, h, hl => by
    simp only [apart, Bool.and_eq_true, Bool.not_eq_true'] at h
    show puts ((holes (env.set i none) rs).set i (some o)) rs os = puts (env.set i (some o)) rs os
    rw [holes_set (is := i :: is) (by simp) h.2, List.set_set]
    exact puts_holes h.2 (by simpa using hl)
section
variable {K : PySem.W.Frag} {H H' : Hp} {σ : Sg}
theorem call_out : ∀ {rs : List R} {is : List Nat} {vs : List V} {os : List O} {env : Ev} {fr : Prs}, apart rs is = true → opsO env rs = some os → Paths σ vs rs → RelX C K H env σ (pend vs rs ++ fr) → RelX C K H (holes env rs) σ (vs.zip os ++ fr)
  | [], _, [], os, _, _, _, ho, _, R => by simp [opsO] at ho; subst ho; exact R
  | [], _, _ :: _, _, _, _, _, _, p, _ => p.elim
  | r :: rs, _, [], _, _, _, _, _, p, _ => by cases r <;> exact p.elim
  | .obj o :: rs, is, v :: vs, os, env, fr, h, ho, p, R => by
    unfold opsO at ho
    cases e2 : opsO env rs with
    | none => rw [e2] at ho; cases ho
    | some os' =>
      rw [e2] at ho
      have ho' : some (o :: os') = some os := ho
      cases ho'
      exact (call_out (rs := rs) (is := is) h e2 (show Paths σ vs rs from p) (fr := (v, o) :: fr) (RelX.perm (fr' := pend vs rs ++ (v, o) :: fr) R List.perm_middle.symm)).perm List.perm_middle
  | .path i :: rs, is, v :: vs, os, env, fr, h, ho, p, R => by
    simp only [apart, Bool.and_eq_true, Bool.not_eq_true'] at h
    unfold opsO at ho
    cases e1 : slot env i with
    | none =>
      have : getR env (.path i) = none := e1
      rw [this] at ho; cases ho
    | some o =>
      have e1' : getR env (.path i) = some o := e1
      rw [e1'] at ho
      cases e2 : opsO env rs with
      | none => rw [e2] at ho; cases ho
      | some os' =>
        rw [e2] at ho
        have ho' : some (o :: os') = some os := ho
        cases ho'
        have R1 := (RelX.take R e1 p.1).perm (fr' := pend vs rs ++ (v, o) :: fr) List.perm_middle.symm
        exact (call_out (is := i :: is) h.2 (by rw [opsO_set (is := i :: is) (by simp) h.2]; exact e2) p.2 R1).perm List.perm_middle
theorem call_in : ∀ {rs : List R} {vs : List V} {os : List O} {env : Ev} {fr : Prs}, os.length = rs.length → Paths σ vs rs → RelX C K H env σ (vs.zip os ++ fr) → RelX C K H (puts env rs os) σ fr
  | [], [], [], _, _, _, _, R => R
  | [], [], _ :: _, _, _, hl, _, _ => by simp at hl
  | [], _ :: _, _, _, _, _, p, _ => p.elim
  | _ :: _, _, [], _, _, hl, _, _ => by simp at hl
  | r :: rs, [], _, _, _, _, p, _ => by cases r <;> exact p.elim
  | .obj _ :: rs, v :: vs, o :: os, env, fr, hl, p, R => call_in (rs := rs) (by simpa using hl) (show Paths σ vs rs from p) (RelX.pop R)
  | .path i :: rs, v :: vs, o :: os, env, fr, hl, p, R => call_in (rs := rs) (by simpa using hl) p.2 (RelX.back R p.1)
end
theorem snd_call {f : Nat} {as : Ts} (ih : AllS B C Γ as) : Snd B C Γ (.call f as) := by
  intro X sc ow S e h
  cases as with
  | nil => cases e <;> simp [chkE] at h
  | cons a as =>
    cases e with
    | Call g es ks pos =>
      cases g with
      | Name x p =>
        cases es with
        | nil => simp [chkE] at h
        | cons e es =>
          cases ks with
          | cons _ _ => simp [chkE] at h
          | nil =>
            simp only [chkE, Bool.and_eq_true, decide_eq_true_eq, Bool.not_eq_true'] at h
            obtain ⟨⟨⟨⟨h1, h2⟩, h3⟩, h4⟩, ⟨h5, h6⟩, h7⟩ := h
            have hes : chkEs B (.cons a as) sc ow (e :: es) = true := by simp only [chkEs, Bool.and_eq_true]; exact ⟨⟨h5, h6⟩, h7⟩
            obtain ⟨k, ad, fd, ps, F, hr, hm, hk, hb⟩ := S.fn f x h1
            refine pt_plain (PE.weak (pe_call F hr (gl_of S h2) hm hk hb .nil (E := fun _ _ _ => False) (fun _ _ _ _ _ _ _ h => h.elim) (sndA S _ _ ih hes) h3 (star_cons h5) (star_any h7)) fun σ H Q q => ?_) rfl
            obtain ⟨env, fr, R, q⟩ := q
            unfold ev at q
            refine tA_of R (evs_len _ q) fun rs e1 vs H' ⟨hl, q1⟩ R1 => ?_
            split at q1
            · rename_i os eo
              obtain ⟨ap, q1⟩ := q1
              have lv : vs.length = B.ar f := by rw [paths_len R1.paths, hl, chk_len hes, h4]; rfl
              have lo := opsO_len eo
              have R2 := call_out (is := []) ap eo R1.paths R1.rel
              rw [List.append_nil]
              refine ⟨lv, pr (holes e1 rs) σ ++ fr, os, by rw [lo, ← paths_len R1.paths, lv], R2.rel.perm ?_, callW.mono q1 (fun o os' hos q v H2 R3 => ?_) fun _ _ z => z⟩
              · rw [← List.append_assoc, ← List.append_assoc]
                exact List.Perm.append_right fr List.perm_append_comm
              · refine q v H2 ?_
                show RelX C X.K H2 (puts e1 rs os') σ ((v, o) :: fr)
                rw [← puts_holes (is := []) ap (by rw [hos, lo])]
                refine call_in (by rw [hos, lo]) R1.paths ⟨R2.len, R2.has, R3.perm ?_⟩
                refine List.Perm.trans ?_ (List.perm_append_comm_assoc _ _ _)
                refine List.Perm.trans (List.perm_middle (l₁ := vs.zip os') (a := (v, o)) (l₂ := pr (holes e1 rs) σ ++ fr)).symm ?_
                exact List.Perm.append_left _ List.perm_middle.symm
            · exact q1.elim
      | _ => simp [chkE] at h
    | _ => simp [chkE] at h
end
end VE
/-! VDU: dicts in place: what stands at a key put, dropped, another dict's pairs -/
namespace VE
open PySem PySem.Spec PyProof.Rows L2
/-! ### dicts put together -/
section
variable {C : CT} {K : PySem.W.Frag} {G : Hp}
theorem putKs_dputs : ∀ {ks2 xs2 : List D} {vs2 : List V} {ks xs : List D} {vs : List V}, ks.all isKeyT = true → ks.length = xs.length → Reps C K G xs vs → ks2.all isKeyT = true → ks2.length = xs2.length → Reps C K G xs2 vs2 →
    ∃ ws, VMR.putKs ((ks.map toKeyT).zip vs) ((ks2.map toKeyT).zip vs2) = ((dputs ks xs ks2 xs2).1.map toKeyT).zip ws ∧ Reps C K G (dputs ks xs ks2 xs2).2 ws ∧ (dputs ks xs ks2 xs2).1.all isKeyT = true ∧ (dputs ks xs ks2 xs2).1.length = (dputs ks xs ks2 xs2).2.length
  | [], [], vs2, ks, xs, vs, h1, h2, h3, _, _, h6 => by
    cases h6
    exact ⟨vs, rfl, h3, h1, h2⟩
  | [], _ :: _, _, _, _, _, _, _, _, _, h, _ => by simp at h
  | _ :: _, [], _, _, _, _, _, _, _, _, h, _ => by simp at h
  | k :: ks2, x :: xs2, vs2, ks, xs, vs, h1, h2, h3, h4, h5, ⟨v, r, e, h6, h7⟩ => by
    subst e
    simp only [List.all_cons, Bool.and_eq_true] at h4
    obtain ⟨ws, e1, e2, e3, e4⟩ := putK_dput (C := C) (K := K) (G := G) (f := toKeyT) (p := isKeyT) toKeyT_inj h4.1 h1 h2 h3 h6
    obtain ⟨us, g1, g2, g3, g4⟩ := putKs_dputs (ks2 := ks2) (xs2 := xs2) (vs2 := r) e3 e4 e2 h4.2 (by simpa using h5) h7
    refine ⟨us, ?_, g2, g3, g4⟩
    show VMR.putKs (putK ((ks.map toKeyT).zip vs) (toKeyT k) v) ((ks2.map toKeyT).zip r) = ((dputs (dput ks xs k x).1 (dput ks xs k x).2 ks2 xs2).1.map toKeyT).zip us
    rw [e1]
    exact g1
theorem dputs_app : ∀ {ks2 xs2 ks xs : List D}, ks2.length = xs2.length → (ks ++ ks2).Nodup → dputs ks xs ks2 xs2 = (ks ++ ks2, xs ++ xs2)
  | [], [], ks, xs, _, _ => by simp [dputs]
  | [], _ :: _, _, _, h, _ => by simp at h
  | _ :: _, [], _, _, h, _ => by simp at h
  | k :: ks2, x :: xs2, ks, xs, h, hn => by
    have hk : k ∉ ks := fun z => (List.nodup_append.mp hn).2.2 k z k (by simp) rfl
    have e : dput ks xs k x = (ks ++ [k], xs ++ [x]) := by unfold dput; rw [if_neg hk]
    show dputs (dput ks xs k x).1 (dput ks xs k x).2 ks2 xs2 = _
    rw [e]
    show dputs (ks ++ [k]) (xs ++ [x]) ks2 xs2 = _
    rw [dputs_app (by simpa using h) (by simpa using hn)]
    simp
theorem dputs_nil {ks xs : List D} (h : ks.length = xs.length) (hn : ks.Nodup) : dputs [] [] ks xs = (ks, xs) := by
  rw [dputs_app h (by simpa using hn)]; simp
theorem nodup_of_map {α β : Type} {f : α → β} {l : List α} (h : (l.map f).Nodup) : l.Nodup := by
  induction l with
  | nil => exact List.nodup_nil
  | cons a l ih =>
    rw [List.map_cons, List.nodup_cons] at h
    exact List.nodup_cons.mpr ⟨fun z => h.1 (List.mem_map_of_mem z), ih h.2⟩
theorem RelX.updD {t : Bool} {H : Hp} {env : Ev} {σ : Sg} {fr : Prs} {v : V} {ks ds xs : List D} {vs : List V} (R : RelX C K H env σ ((v, .dic t ks ds) :: (vs.zip (xs.map O.d) ++ fr))) (hl : xs.length = vs.length) :
    ∃ p ws G, v = .ref p ∧ H p = some (dHO t ks ws) ∧ Same G H ∧ G p = none ∧ (keysOk t ks = true ∧ ks.length = ds.length) ∧ Reps C K G ds ws ∧ Reps C K G xs vs ∧
      ∀ ks' ds' ws' z w, (keysOk t ks' = true ∧ ks'.length = ds'.length) → Reps C K G ds' ws' → Rep C K G z w → RelX C K (L2.upd H p (dHO t ks' ws')) env σ ((w, .d z) :: (v, .dic t ks' ds') :: fr) := by
  obtain ⟨G, S, g, ⟨S1, S2, e2, ⟨p, ws, ev, eS, hp, hk, hr⟩, h2⟩, nd, no⟩ := R.top
  obtain ⟨T, pT, h3⟩ := ownL.perm (show (pr env σ ++ (vs.zip (xs.map O.d) ++ fr)).Perm (vs.zip (xs.map O.d) ++ (pr env σ ++ fr)) by
    rw [← List.append_assoc, ← List.append_assoc]
    exact List.Perm.append_right fr List.perm_append_comm) h2
  obtain ⟨k1, k2⟩ := own_d hl h3
  subst e2 eS
  have np : p ∉ T := fun q => (List.nodup_append.mp nd).2.2 p (by simp) p (pT.mem_iff.mpr q) rfl
  have gp : G p = none := no p (by simp)
  refine ⟨p, ws, G, ev, hp, g, gp, hk, hr, k1, fun ks' ds' ws' z w h4 h5 hz => ⟨R.len, R.has, ?_⟩⟩
  have R1 : Rel C K (L2.upd H p (dHO t ks' ws')) ((w, .d z) :: (v, .dic t ks' ds') :: (pr env σ ++ fr)) := by
    refine ⟨G, [p] ++ T, fun q u e => ?_, ⟨[], [p] ++ T, rfl, ⟨rfl, hz⟩, [p], T, rfl, ⟨p, ws', ev, rfl, upd_same, h4, h5⟩, ownL.keep _ _ k2 (fun q hq => upd_ne fun e => np (e ▸ hq)) (Same.refl G)⟩, ?_, fun q hq => ?_⟩
    · rw [upd_ne (fun z => by rw [z, gp] at e; cases e)]; exact g _ _ e
    · exact List.nodup_cons.mpr ⟨np, (pT.nodup_iff).mp (List.nodup_append.mp nd).2.1⟩
    · rcases List.mem_cons.mp (show q ∈ p :: T from hq) with rfl | hq
      · exact gp
      · exact no q (List.mem_append_right _ (pT.mem_iff.mpr hq))
  refine R1.perm ?_
  refine List.Perm.trans ?_ List.perm_middle.symm
  exact (List.perm_middle.symm).cons _
theorem hash_of {P : Program} {w : World} {ks : List D} {vs : List V} (hi : ks.all isKeyI = true) (hl : ks.length = vs.length) (hn : (ks.map hashT).Nodup) : VMR.HashN P w ((ks.map toKeyT).zip vs) := by
  have e : ((ks.map toKeyT).zip vs).map (fun x => tupleKeyHash (mixKind P w) x.1) = ks.map hashT := by
    have z : ((ks.map toKeyT).zip vs).map (fun x => tupleKeyHash (mixKind P w) x.1) = (((ks.map toKeyT).zip vs).map (·.1)).map (tupleKeyHash (mixKind P w)) := by rw [List.map_map]; rfl
    rw [z, List.map_fst_zip (by rw [List.length_map, hl]; exact Nat.le_refl _), List.map_map]
    exact List.map_congr_left fun k hk => hashT_key (List.all_eq_true.mp hi k hk)
  unfold VMR.HashN
  rw [e]; exact hn
/-- one ** -/
theorem into_rel {X : Cx} {H : Hp} {env : Ev} {σ : Sg} {fr : Prs} {v : V} {q : Addr} {ks ds ks2 ds2 : List D} {k : Hp → Prop} (R : RelX C X.K H env σ ((v, .d (.dic true ks2 ds2)) :: (.ref q, .dic true ks ds) :: fr))
    (hi : ks2.all isKeyI = true) (hn : (ks2.map hashT).Nodup) (hz : ks = [] ∨ ks.length + ks2.length ≤ sizeLine) (h : ∀ H', RelX C X.K H' env σ ((.ref q, .dic true (dputs ks ds ks2 ds2).1 (dputs ks ds ks2 ds2).2) :: fr) → k H') : VMR.rInto X q v H k := by
  obtain ⟨p, ws, G, ev, hp, g, gp, ⟨hk, hl⟩, hr, ⟨_, _, e1, hx, e2⟩, hu⟩ := RelX.updD (xs := [.dic true ks2 ds2]) (vs := [v]) (R.swap) rfl
  cases e1; cases e2; cases ev
  obtain ⟨p2, vs2, rfl, h1, ⟨h2, h3⟩, h4⟩ := hx
  have ne : p2 ≠ q := fun z => by
    rw [z] at h1
    rcases h1 with h1 | ⟨o, h1⟩ <;> (rw [gp] at h1; cases h1)
  have l2 := h3.trans h4.length
  have l1 := hl.trans hr.length
  obtain ⟨us, g1, g2, g3, g4⟩ := putKs_dputs (C := C) (K := X.K) (G := G) (show ks.all isKeyT = true from hk) hl hr (show ks2.all isKeyT = true from h2) h3 h4
  refine ⟨p2, _, _, rfl, ne, Same.rd g h1, by rw [hp, dHO_T], .inr (hash_of hi l2 hn), (by
    rcases hz with hz | hz
    · exact .inl (by rw [hz]; rfl)
    · exact .inr (by rw [List.length_zip, List.length_zip, List.length_map, List.length_map]; omega)), h _ ?_⟩
  rw [g1]
  exact RelX.pop (hu _ _ us .non .non ⟨g3, g4⟩ g2 rfl)
end
section
variable {C : CT} {K : PySem.W.Frag} {G : Hp}
/-- a key dropped -/
theorem dropK_ddrop {k : D} (hk : isKey k = true) : ∀ {ks xs : List D} {vs : List V}, ks.all isKey = true → ks.length = xs.length → Reps C K G xs vs →
    ∃ ws, dropK ((ks.map toKey).zip vs) (toKey k) = ((ddrop ks xs k).1.map toKey).zip ws ∧ Reps C K G (ddrop ks xs k).2 ws ∧ (ddrop ks xs k).1.all isKey = true ∧ (ddrop ks xs k).1.length = (ddrop ks xs k).2.length
  | [], [], vs, _, _, h => by cases h; exact ⟨[], rfl, rfl, rfl, rfl⟩
  | [], _ :: _, _, _, h, _ => by simp at h
  | _ :: _, [], _, _, h, _ => by simp at h
  | q :: ks, x :: xs, _, ha, hl, ⟨v, r, e, h1, h2⟩ => by
    subst e
    simp only [List.all_cons, Bool.and_eq_true] at ha
    obtain ⟨ws, g1, g2, g3, g4⟩ := dropK_ddrop hk ha.2 (by simpa using hl) h2
    by_cases z : q = k
    · subst z
      refine ⟨ws, ?_, ?_, ?_, ?_⟩ <;> simp only [dropK, ddrop, List.map_cons, List.zip_cons_cons, List.filter_cons, ne_eq, not_true_eq_false, decide_false, Bool.false_eq_true, if_false] at g1 g2 g3 g4 ⊢ <;> assumption
    · have z' : ¬ toKey q = toKey k := fun e => z (toKey_inj ha.1 hk e)
      refine ⟨v :: ws, ?_, ?_, ?_, ?_⟩ <;> simp only [dropK, ddrop, List.map_cons, List.zip_cons_cons, List.filter_cons, ne_eq, z, z', not_false_eq_true, decide_true, if_true, List.all_cons, Bool.and_eq_true, List.length_cons] at g1 g2 g3 g4 ⊢
      · rw [g1]
      · exact ⟨v, ws, rfl, h1, g2⟩
      · exact ⟨ha.1, g3⟩
      · rw [g4]
end
/-! ### d.update(e), keys that are tuples -/
def rUpdT (X : Cx) : V → List V → Hp → VK → Prop := fun x vs H Q => ∃ d o kvs more, x = .ref d ∧ vs = [.ref o] ∧ d ≠ o ∧ H d = some (.dT kvs) ∧ Rd H o (.dT more) ∧ VMR.HashN X.prog X.w more ∧ kvs.length + more.length ≤ sizeLine ∧ Q .non (upd H d (.dT (VMR.putKs kvs more)))
theorem mt_updT {X : Cx} (hu : X.A.units + 70 < cLine) : MtM X "dict.update" (rUpdT X) := by
  intro pins s σ H x vs v us Q I rx rv h
  obtain ⟨d, o, kvs, more, rfl, rfl, ne, ed, eo, ap, few, q⟩ := h
  cases rx
  obtain ⟨u, rfl, ru⟩ := rv.one
  cases ru
  obtain ⟨z1, plain, ys, pr, dd⟩ := dt_rd I.hok eo
  obtain ⟨z2, own, xs, pr2, dd2⟩ := dt_of I.hok ed
  have ly := Paired.length pr
  have lx := Paired.length pr2
  obtain ⟨e1, e2⟩ := VDI.each pr
  refine call_update_dictH (knd := tupleKind (mixKind X.prog X.w)) (show X.A.units + 1 < cLine by omega) ne plain dd2 dd (.inr ⟨fun y hy => ?_, ?_⟩) (by omega) fun h' hd' _ hb => ?_
  · have all := I.hok _ _ (e1 y hy)
    obtain ⟨_, its, _, o, h1, h2, _⟩ := all
    exact ⟨o, h1, h2⟩
  · have := congrArg (List.map (tupleKeyHash (mixKind X.prog X.w))) e2
    simp only [List.map_map] at this
    show (ys.map (tupleKeyHash (mixKind X.prog X.w) ∘ fun x => x.1)).Nodup
    rw [this]
    exact ap
  · obtain ⟨o, es, ep, g1, g2, g3, g4, _, g6⟩ := hd'
    have hl := VMR.putKs_len more kvs
    refine ⟨.non, _, d_write (t' := s.toks) (ob := .dT (VMR.putKs kvs more)) I (by rw [ed]; exact True.intro) hb ⟨o, g1⟩ ⟨by omega, own, _, (VMR.KT.putAll pr pr2).keeps fun c ys ec => ?_, o, es, ep, g1, g2, g3, g4, g6⟩, rfl, q⟩
    rw [upd_ne (ne_of ec ed (fun z => nomatch z))]
    exact ec
/-! ### d.pop(k), keys that are ints or texts -/
def rPopK : V → List V → Hp → VK → Prop := fun x vs H Q => ∃ d kvs k y, x = .ref d ∧ vs = [kV k] ∧ H d = some (.dK kvs) ∧ valV kvs k = some y ∧ Q y (upd H d (.dK (dropK kvs k)))
theorem mt_popK {X : Cx} : MtM X "dict.pop" rPopK := by
  intro pins s σ H x vs v us Q I rx rv h
  obtain ⟨d, kvs, k, y, rfl, rfl, ed, e, q⟩ := h
  cases rx
  obtain ⟨u, rfl, ru⟩ := rv.one
  exact d_pop I ed ru e (.inl rfl) fun w' s' I' rw' => ⟨y, _, I', rw', q⟩
end VE
/-! VE14: in-place methods, comprehensions; the expressions' soundness -/
namespace VE
open PySem PySem.Spec PyProof.Rows L2
section
variable {B : Tb} {C : CT} {Γ : Gam}
/-- an owned list, written anew -/
theorem RelX.upd {K : PySem.W.Frag} {H : Hp} {env : Ev} {σ : Sg} {fr : Prs} {v : V} {ys xs : List D} {vs : List V} (R : RelX C K H env σ ((v, .lst ys) :: (vs.zip (xs.map O.d) ++ fr))) (hl : xs.length = vs.length) :
    ∃ p ws G, v = .ref p ∧ H p = some (.lst ws) ∧ Same G H ∧ Reps C K G ys ws ∧ Reps C K G xs vs ∧ ∀ ys' ws' x w, Reps C K G ys' ws' → Rep C K G x w → RelX C K (upd H p (.lst ws')) env σ ((w, .d x) :: (v, .lst ys') :: fr) := by
  obtain ⟨G, S, g, ⟨S1, S2, e2, ⟨p, ws, ev, eS, hp, hr⟩, h2⟩, nd, no⟩ := R.top
  obtain ⟨T, pT, h3⟩ := ownL.perm (show (pr env σ ++ (vs.zip (xs.map O.d) ++ fr)).Perm (vs.zip (xs.map O.d) ++ (pr env σ ++ fr)) by
    rw [← List.append_assoc, ← List.append_assoc]
    exact List.Perm.append_right fr List.perm_append_comm) h2
  obtain ⟨k1, k2⟩ := own_d hl h3
  subst e2 eS
  refine ⟨p, ws, G, ev, hp, g, hr, k1, fun ys' ws' x w h4 h5 => ⟨R.len, R.has, ?_⟩⟩
  have np : p ∉ T := fun q => (List.nodup_append.mp nd).2.2 p (by simp) p (pT.mem_iff.mpr q) rfl
  have gp : G p = none := no p (by simp)
  have R1 : Rel C K (L2.upd H p (.lst ws')) ((w, .d x) :: (v, .lst ys') :: (pr env σ ++ fr)) := by
    refine ⟨G, [p] ++ T, fun q u e => ?_, ⟨[], [p] ++ T, rfl, ⟨rfl, h5⟩, [p], T, rfl, ⟨p, ws', ev, rfl, upd_same, h4⟩, ownL.keep _ _ k2 (fun q hq => upd_ne fun e => np (e ▸ hq)) (Same.refl G)⟩, ?_, fun q hq => ?_⟩
    · rw [upd_ne (fun z => by rw [z, gp] at e; cases e)]; exact g _ _ e
    · exact List.nodup_cons.mpr ⟨np, (pT.nodup_iff).mp (List.nodup_append.mp nd).2.1⟩
    · rcases List.mem_cons.mp (show q ∈ p :: T from hq) with rfl | hq
      · exact gp
      · exact no q (List.mem_append_right _ (pT.mem_iff.mpr hq))
  refine R1.perm ?_
  refine List.Perm.trans ?_ List.perm_middle.symm
  exact (List.perm_middle.symm).cons _
theorem seqIx {i : Int} {n : Nat} (h1 : 0 ≤ i) (h2 : i < n) : seqIndex? i n = some i.toNat := by
  unfold seqIndex?
  have e : ¬ i < 0 := by omega
  simp only [e, if_false]
  rw [if_pos (by simp; exact ⟨h1, h2⟩)]
/-- what a method does in place -/
def rMu (X : Cx) (u : Mu) : V → List V → Hp → VK → Prop := match u with
  | .append => rAppend
  | .extend => rExtend
  | .pop => rPop
  | .popAt => rPopAt
  | .dpop1 => rPopK
  | .dupd => rUpdT X
  | _ => fun _ _ _ _ => False
theorem mu_ok {X : Cx} {u : Mu} {H : Hp} {env : Ev} {σ : Sg} {fr : Prs} {v : V} {o : O} {xs : List D} {vs : List V} {k : O → D → Prop} {Q : VK} (R : RelX C X.K H env σ ((v, o) :: (vs.zip (xs.map O.d) ++ fr))) (hl : xs.length = vs.length) (h : mw u o xs k)
    (q : ∀ o' x w H', k o' x → RelX C X.K H' env σ ((w, .d x) :: (v, o') :: fr) → Q w H') : rMu X u v vs H Q := by
  unfold mw at h
  split at h
  · obtain ⟨p, ws, G, ev, hp, g, hr, hx, hu⟩ := RelX.upd R hl
    obtain ⟨y, r, e1, h1, h2⟩ := hx
    cases h2; subst e1
    exact ⟨p, ws, y, ev, rfl, hp, by rw [← hr.length]; exact h.1, q _ _ _ _ h.2 (hu _ _ .non .non (hr.append (.one h1)) rfl)⟩
  · obtain ⟨p, ws, G, ev, hp, g, hr, hx, hu⟩ := RelX.upd R hl
    obtain ⟨y, r, e1, h1, h2⟩ := hx
    cases h2; subst e1
    obtain ⟨b, zs, e3, h3, h4⟩ := h1
    subst e3
    exact ⟨p, b, ws, zs, ev, rfl, hp, g _ _ h3, by rw [← hr.length, ← h4.length]; exact h.1, q _ _ _ _ h.2 (hu _ _ .non .non (hr.append h4) rfl)⟩
  · obtain ⟨p, ws, G, ev, hp, g, hr, hx, hu⟩ := RelX.upd R hl
    cases vs with
    | cons _ _ => simp at hl
    | nil =>
      obtain ⟨x, h1, h2⟩ := h
      obtain ⟨w, h3, h4⟩ := hr.get h1
      exact ⟨p, ws, w, ev, rfl, hp, by rw [← hr.length]; exact h3, q _ _ _ _ h2 (hu _ _ _ _ hr.dropLast h4)⟩
  · obtain ⟨p, ws, G, ev, hp, g, hr, hx, hu⟩ := RelX.upd R hl
    obtain ⟨y, r, e1, h1, h2⟩ := hx
    cases h2; subst e1; cases h1
    obtain ⟨⟨i1, i2, i3⟩, x, h1, h2⟩ := h
    obtain ⟨w, h3, h4⟩ := hr.get h1
    exact ⟨p, ws, _, _, w, ev, rfl, hp, by omega, i3, seqIx i1 (by rw [← hr.length]; exact i2), h3, q _ _ _ _ h2 (hu _ _ _ _ (hr.eraseIdx _) h4)⟩
  · obtain ⟨p, ws, G, ev, hp, g, gp, hk, hr, hx, hu⟩ := RelX.updD R hl
    obtain ⟨y, r, e1, h1, h2⟩ := hx
    cases h2; subst e1
    obtain ⟨ok, z, h3, h4⟩ := h
    have hv := valV_dget (C := C) (K := X.K) (G := G) toKey_inj ok hk.1 hk.2 hr
    rw [h3] at hv
    obtain ⟨w, e, rw'⟩ := hv
    obtain ⟨us, g1, g2, g3, g4⟩ := dropK_ddrop (C := C) (K := X.K) (G := G) ok hk.1 hk.2 hr
    rw [key_V ok h1]
    refine ⟨p, _, _, w, ev, rfl, hp, e, ?_⟩
    rw [g1]
    exact q _ _ _ _ h4 (hu _ _ us _ _ ⟨g3, g4⟩ g2 rw')
  · obtain ⟨p, ws, G, ev, hp, g, gp, hk, hr, hx, hu⟩ := RelX.updD R hl
    obtain ⟨y, r, e1, h1, h2⟩ := hx
    cases h2; subst e1
    obtain ⟨p2, vs2, rfl, h1, ⟨h2, h3⟩, h4⟩ := h1
    have ne : p2 ≠ p := fun z => by
      rw [z] at h1
      rcases h1 with h1 | ⟨o, h1⟩ <;> (rw [gp] at h1; cases h1)
    have l2 := h3.trans h4.length
    have l1 := hk.2.trans hr.length
    obtain ⟨us, g1, g2, g3, g4⟩ := putKs_dputs (C := C) (K := X.K) (G := G) (show _ from hk.1) hk.2 hr h2 h3 h4
    refine ⟨p, p2, _, _, ev, rfl, Ne.symm ne, hp, Same.rd g h1, hash_of h.1.1.1 l2 h.1.1.2, by rw [List.length_zip, List.length_zip, List.length_map, List.length_map]; have := h.1.2; omega, ?_⟩
    rw [g1]
    exact q _ _ _ _ h.2 (hu _ _ us _ _ ⟨g3, g4⟩ g2 rfl)
  · exact h.elim
theorem mutAt_is {u : Mu} {env : Ev} {i : Nat} (h : mutAt u env i) : (muL u = true ∧ ∃ ys, slot env i = some (.lst ys)) ∨ (muL u = false ∧ ∃ t ks vs, slot env i = some (.dic t ks vs)) := by
  unfold mutAt at h
  split at h
  · exact .inl ⟨h, _, by assumption⟩
  · exact .inr ⟨h, _, _, _, by assumption⟩
  · exact h.elim
def muT (u : Mu) : String := if muL u = true then "list" else "dict"
theorem lstAt_is {env : Ev} {i : Nat} (h : lstAt env i) : ∃ ys, slot env i = some (.lst ys) := by
  unfold lstAt at h
  split at h
  · exact ⟨_, by assumption⟩
  · exact h.elim
theorem ownAt_is {env : Ev} {i : Nat} (h : ownAt env i) : ∃ o, slot env i = some o ∧ vR i o = .path i := by
  unfold ownAt at h
  split at h
  · exact ⟨_, by assumption, rfl⟩
  · exact ⟨_, by assumption, rfl⟩
  · exact h.elim
theorem snd_mut {u : Mu} {i : Nat} {as : Ts} (ih : AllS B C Γ as) : Snd B C Γ (.mut u i as) := by
  intro X sc ow S e h
  cases e with
  | Call g es ks pos =>
    cases g with
    | Attribute o nm apos =>
      cases o with
      | Name x p =>
        cases ks with
        | cons _ _ => simp [chkE] at h
        | nil =>
          simp only [chkE, Bool.and_eq_true, decide_eq_true_eq] at h
          obtain ⟨⟨⟨⟨⟨⟨h1, h2⟩, h3⟩, h4⟩, h5⟩, h6⟩, h7⟩ := h
          have hv : chkE B (.var i) sc ow (.Name x p) = true := by simp only [chkE, Bool.and_eq_true, decide_eq_true_eq]; exact ⟨⟨h2, h3⟩, h4⟩
          have var := (snd_var (B := B) (C := C) (Γ := Γ) i S (.Name x p) hv).1
          have pa := sndA S as es ih h6
          -- the law
          have law : ∀ {σ : L2.St} {H : Hp} {Q : VK}, tE C X.K Γ (.mut u i as) σ H Q → tE C X.K Γ (.var i) σ H fun v H1 => tyV X.K (muT u) v H1 ∧ tA C X.K Γ as σ H1 fun vs H2 => rMu X u v vs H2 Q := by
            intro σ H Q q
            obtain ⟨env, fr, R, q⟩ := q
            unfold ev at q
            obtain ⟨hl, q⟩ := q
            have hl := mutAt_is hl
            obtain ⟨o0, hs, ep⟩ : ∃ o, slot env i = some o ∧ vR i o = .path i := by
              rcases hl with ⟨_, ys, hs⟩ | ⟨_, t, ks, ds, hs⟩ <;> exact ⟨_, hs, rfl⟩
            refine ⟨env, fr, R, ?_⟩
            unfold ev
            rw [hs]
            intro v H1 R1
            rw [ep] at R1
            have R1' : RelX C X.K H1 env σ fr ∧ σ[i]? = some (some v) ∧ _ := R1
            obtain ⟨R2, hv, _⟩ := R1'
            constructor
            · rcases hl with ⟨hm, ys, hs⟩ | ⟨hm, t, ks, ds, hs⟩
              · obtain ⟨G, S', g, ⟨S1, S2, e2, ⟨pp, ws, ev, eS, hp, hr⟩, k⟩, nd, no⟩ := (R2.take hs hv).top
                subst ev
                exact .inl ⟨by rw [muT, if_pos hm], ws, .inl (.of hp)⟩
              · obtain ⟨G, S', g, ⟨S1, S2, e2, ⟨pp, ws, ev, eS, hp, hk, hr⟩, k⟩, nd, no⟩ := (R2.take hs hv).top
                subst ev
                refine .inr (.inr (.inl ⟨by rw [muT, if_neg (by simp [hm])], ?_⟩))
                cases t
                · exact .inl ⟨_, hp⟩
                · exact .inr ⟨_, hp⟩
            · refine tA_of R2 q fun rs e1 vs H2 q1 R3 => ?_
              obtain ⟨xs, e2, q2, hx, R4⟩ := vals_snd R3 q1
              split at q2
              · rename_i o hs2
                have R5 := R4.take hs2 hv
                exact mu_ok R5 hx q2 fun o' x w H' qq R6 => qq w H' (R6.swap.back' hv)
              · exact q2.elim
          refine pt_plain ?_ rfl
          cases es with
          | nil =>
            cases as with
            | cons _ _ => simp [chkEs] at h6
            | nil =>
              have fin : ∀ {σ : L2.St} {H : Hp} {Q : VK}, tE C X.K Γ (.mut u i .nil) σ H Q → tBM0 X.K (muT u) (rMu X u) (tE C X.K Γ (.var i)) σ H Q := by
                intro σ H Q q
                obtain ⟨env, fr, R, q⟩ := law q
                refine ⟨env, fr, R, ev_mono _ e0 (fun r e q v H' R' => ?_) q⟩
                obtain ⟨q1, env2, fr2, R2, q2⟩ := q v H' R'
                unfold evs at q2
                exact ⟨q1, q2 [] H' (relRs_nil R2)⟩
              cases u <;> simp only [mname, Option.some.injEq, reduceCtorEq] at h1
              · subst h1; exact PE.weak (pe_bm0 PySem.F.plainAttrs_list PySem.F.slot_list_append PySem.F.type_list_append mt_append var rfl h7) fun σ H Q q => fin q
              · subst h1; exact PE.weak (pe_bm0 PySem.F.plainAttrs_list PySem.F.slot_list_extend PySem.F.type_list_extend mt_extend var rfl h7) fun σ H Q q => fin q
              · subst h1; exact PE.weak (pe_bm0 PySem.F.plainAttrs_list PySem.F.slot_list_pop PySem.F.type_list_pop mt_pop var rfl h7) fun σ H Q q => fin q
              · subst h1; exact PE.weak (pe_bm0 PySem.F.plainAttrs_list PySem.F.slot_list_pop PySem.F.type_list_pop mt_popAt var rfl h7) fun σ H Q q => fin q
              · subst h1; exact PE.weak (pe_bm0 PySem.F.plainAttrs_dict PySem.F.slot_dict_pop PySem.F.type_dict_pop mt_popK var rfl h7) fun σ H Q q => fin q
              · subst h1; exact PE.weak (pe_bm0 PySem.F.plainAttrs_dict PySem.F.slot_dict_update PySem.F.type_dict_update (mt_updT S.stk) var rfl h7) fun σ H Q q => fin q
          | cons e es =>
            cases es with
            | cons _ _ => simp at h5
            | nil =>
              cases as with
              | nil => simp [chkEs] at h6
              | cons a as =>
                have hn : noStar e = true := by simp only [chkEs, Bool.and_eq_true] at h6; exact h6.1.1
                have few : ((backTo pos (starEach [e] X.env)).all (fun x => !x.1) && (backToKw pos (keywordEach [] X.env)).all (fun x => x.1.isSome)
                    && decide (([e] : List Expr).length + ([] : List Keyword).length + (if ([] : List Keyword).isEmpty then 0 else 1) < 30)) = true := by
                  rw [star_cons hn]; rfl
                cases u <;> simp only [mname, Option.some.injEq, reduceCtorEq] at h1
                · subst h1; exact PE.weak (pe_bm PySem.F.plainAttrs_list PySem.F.slot_list_append PySem.F.type_list_append mt_append var pa rfl few h7 (star_cons hn)) fun σ H Q q => law q
                · subst h1; exact PE.weak (pe_bm PySem.F.plainAttrs_list PySem.F.slot_list_extend PySem.F.type_list_extend mt_extend var pa rfl few h7 (star_cons hn)) fun σ H Q q => law q
                · subst h1; exact PE.weak (pe_bm PySem.F.plainAttrs_list PySem.F.slot_list_pop PySem.F.type_list_pop mt_pop var pa rfl few h7 (star_cons hn)) fun σ H Q q => law q
                · subst h1; exact PE.weak (pe_bm PySem.F.plainAttrs_list PySem.F.slot_list_pop PySem.F.type_list_pop mt_popAt var pa rfl few h7 (star_cons hn)) fun σ H Q q => law q
                · subst h1; exact PE.weak (pe_bm PySem.F.plainAttrs_dict PySem.F.slot_dict_pop PySem.F.type_dict_pop mt_popK var pa rfl few h7 (star_cons hn)) fun σ H Q q => law q
                · subst h1; exact PE.weak (pe_bm PySem.F.plainAttrs_dict PySem.F.slot_dict_update PySem.F.type_dict_update (mt_updT S.stk) var pa rfl few h7 (star_cons hn)) fun σ H Q q => law q
      | _ => simp [chkE] at h
    | _ => simp [chkE] at h
  | _ => simp [chkE] at h

/-! ### walks -/
structure Walks (C : CT) (K : PySem.W.Frag) (J : It) (base : Prs) (xs : List D) : Prop where
  go : ∀ i H L, i < xs.length → Rel C K H (base ++ L) → J.go i H
  stop : ∀ H L, Rel C K H (base ++ L) → J.stop xs.length H
  yld : ∀ i H L v H' (h : i < xs.length), Rel C K H (base ++ L) → J.yld i H v H' → Rel C K H' ((v, .d xs[i]) :: (base ++ L))
theorem rel_std {K : PySem.W.Frag} {H : Hp} {L : Prs} {v : V} {x : D} (R : Rel C K H L) (h : ∀ G, Rep C K G x v) : Rel C K H ((v, .d x) :: L) := by
  obtain ⟨G, S, g, k, nd, no⟩ := R
  exact ⟨G, S, g, ⟨[], S, rfl, ⟨rfl, h G⟩, k⟩, nd, no⟩
theorem rel_at {K : PySem.W.Frag} {H : Hp} {L : Prs} {a : Addr} {xs : List D} (R : Rel C K H ((.ref a, .d (.lst xs)) :: L)) : ∃ ws, H a = some (.lst ws) ∧ xs.length = ws.length ∧ ∀ i v (h : i < xs.length), ws[i]? = some v → Rel C K H ((v, .d xs[i]) :: (.ref a, .d (.lst xs)) :: L) := by
  obtain ⟨G, S, g, ⟨S1, S2, e2, ⟨e3, q, ws, e, hq, hr⟩, h2⟩, nd, no⟩ := R
  cases e
  subst e3
  refine ⟨ws, g _ _ hq, hr.length, fun i v h e => ?_⟩
  obtain ⟨x, h3, h4⟩ := hr.get' e
  have : xs[i] = x := by rw [List.getElem?_eq_getElem h] at h3; exact Option.some.inj h3
  rw [this]
  exact ⟨G, S, g, ⟨[], S, rfl, ⟨rfl, h4⟩, [], S2, e2, ⟨rfl, a, ws, rfl, hq, hr⟩, h2⟩, nd, no⟩
theorem rel_atT {K : PySem.W.Frag} {H : Hp} {L : Prs} {a : Addr} {xs : List D} (R : Rel C K H ((.ref a, .d (.tup xs)) :: L)) : ∃ ws, H a = some (.tup ws) ∧ xs.length = ws.length ∧ ∀ i v (h : i < xs.length), ws[i]? = some v → Rel C K H ((v, .d xs[i]) :: (.ref a, .d (.tup xs)) :: L) := by
  obtain ⟨G, S, g, ⟨S1, S2, e2, ⟨e3, q, ws, e, hq, hr⟩, h2⟩, nd, no⟩ := R
  cases e
  subst e3
  refine ⟨ws, g _ _ hq, hr.length, fun i v h e => ?_⟩
  obtain ⟨x, h3, h4⟩ := hr.get' e
  have : xs[i] = x := by rw [List.getElem?_eq_getElem h] at h3; exact Option.some.inj h3
  rw [this]
  exact ⟨G, S, g, ⟨[], S, rfl, ⟨rfl, h4⟩, [], S2, e2, ⟨rfl, a, ws, rfl, hq, hr⟩, h2⟩, nd, no⟩
theorem walks_lst {K : PySem.W.Frag} {a : Addr} {xs : List D} : Walks C K (Itl K a) [(.ref a, .d (.lst xs))] xs where
  go := fun i H L h R => by
    obtain ⟨ws, h1, h2, h3⟩ := rel_at R
    exact ⟨ws, ws[i], .inl (.of h1), by simp [← h2, h]⟩
  stop := fun H L R => by
    obtain ⟨ws, h1, h2, h3⟩ := rel_at R
    exact ⟨ws, .inl (.of h1), by omega⟩
  yld := fun i H L v H' h R y => by
    obtain ⟨ws, h1, h2, h3⟩ := rel_at R
    obtain ⟨e, y⟩ := y
    subst e
    exact h3 i v h (y ws (.inl (.of h1)))
/-- a list that stays its slot's own -/
theorem rel_atO {K : PySem.W.Frag} {H : Hp} {L : Prs} {a : Addr} {xs : List D} (R : Rel C K H ((.ref a, .lst xs) :: L)) : ∃ ws, H a = some (.lst ws) ∧ xs.length = ws.length ∧ ∀ i v (h : i < xs.length), ws[i]? = some v → Rel C K H ((v, .d xs[i]) :: (.ref a, .lst xs) :: L) := by
  obtain ⟨G, S, g, ⟨S1, S2, e2, ⟨q, ws, e, e3, hq, hr⟩, h2⟩, nd, no⟩ := R
  cases e
  refine ⟨ws, hq, hr.length, fun i v h e => ?_⟩
  obtain ⟨x, h3, h4⟩ := hr.get' e
  have : xs[i] = x := by rw [List.getElem?_eq_getElem h] at h3; exact Option.some.inj h3
  rw [this]
  exact ⟨G, S, g, ⟨[], S, rfl, ⟨rfl, h4⟩, S1, S2, e2, ⟨a, ws, rfl, e3, hq, hr⟩, h2⟩, nd, no⟩
theorem walks_lstO {K : PySem.W.Frag} {a : Addr} {xs : List D} : Walks C K (Itl K a) [(.ref a, .lst xs)] xs where
  go := fun i H L h R => by
    obtain ⟨ws, h1, h2, h3⟩ := rel_atO R
    exact ⟨ws, ws[i], .inl (.of h1), by simp [← h2, h]⟩
  stop := fun H L R => by
    obtain ⟨ws, h1, h2, h3⟩ := rel_atO R
    exact ⟨ws, .inl (.of h1), by omega⟩
  yld := fun i H L v H' h R y => by
    obtain ⟨ws, h1, h2, h3⟩ := rel_atO R
    obtain ⟨e, y⟩ := y
    subst e
    exact h3 i v h (y ws (.inl (.of h1)))
theorem walks_tup {K : PySem.W.Frag} {a : Addr} {xs : List D} : Walks C K (Itt K a) [(.ref a, .d (.tup xs))] xs where
  go := fun i H L h R => by
    obtain ⟨ws, h1, h2, h3⟩ := rel_atT R
    exact ⟨ws, ws[i], .inl (.of h1), by simp [← h2, h]⟩
  stop := fun H L R => by
    obtain ⟨ws, h1, h2, h3⟩ := rel_atT R
    exact ⟨ws, .inl (.of h1), by omega⟩
  yld := fun i H L v H' h R y => by
    obtain ⟨ws, h1, h2, h3⟩ := rel_atT R
    obtain ⟨e, y⟩ := y
    subst e
    exact h3 i v h (y ws (.inl (.of h1)))
theorem walks_rng {K : PySem.W.Frag} {i j : Int} : Walks C K (Itr i (j - i).toNat) [] (rngD i j) where
  go := fun k H L h R => by simp [rngD] at h; show k < (j - i).toNat; omega
  stop := fun H L R => by show (j - i).toNat ≤ _; simp [rngD]
  yld := fun k H L v H' h R y => by
    obtain ⟨e, y⟩ := y
    subst e y
    refine rel_std R fun G => ?_
    have e : (rngD i j)[k] = .int (i + k) := by simp [rngD]
    rw [e]
    rfl
theorem own_d_all {K : PySem.W.Frag} {H : Hp} {env : Ev} {σ : Sg} {fr : Prs} {xs : List D} {vs : List V} (R : RelX C K H env σ (vs.zip (xs.map O.d) ++ fr)) (e : xs.length = vs.length) : Reps C K H xs vs := by
  obtain ⟨G, S, g, k, nd, no⟩ := R.rel
  obtain ⟨S1, S2, e2, h1, h2⟩ := ownL.split k
  exact Reps.mono g _ _ (own_d e h2).1
theorem zip2_len : ∀ (xs ys : List D), (zip2 xs ys).length = min xs.length ys.length
  | [], _ => by simp [zip2]
  | _ :: _, [] => by simp [zip2]
  | x :: xs, y :: ys => by simp [zip2, zip2_len xs ys]
theorem zip2_get : ∀ {xs ys : List D} {i : Nat} (h : i < (zip2 xs ys).length) (h1 : i < xs.length) (h2 : i < ys.length), (zip2 xs ys)[i] = .tup [xs[i], ys[i]]
  | [], _, _, _, h1, _ => by simp at h1
  | _ :: _, [], _, _, _, h2 => by simp at h2
  | x :: xs, y :: ys, 0, _, _, _ => rfl
  | x :: xs, y :: ys, i + 1, h, h1, h2 => by
    show (zip2 xs ys)[i]'(by simpa [zip2] using h) = _
    exact zip2_get _ (by simpa using h1) (by simpa using h2)
theorem enumD_len : ∀ (k : Nat) (xs : List D), (enumD k xs).length = xs.length
  | _, [] => rfl
  | k, x :: xs => by simp [enumD, enumD_len (k + 1) xs]
theorem enumD_get : ∀ {xs : List D} {k i : Nat} (h : i < (enumD k xs).length) (h1 : i < xs.length), (enumD k xs)[i] = .tup [.int ((k + i : Nat) : Int), xs[i]]
  | [], _, _, _, h1 => by simp at h1
  | x :: xs, k, 0, _, _ => rfl
  | x :: xs, k, i + 1, h, h1 => by
    show (enumD (k + 1) xs)[i]'(by simpa [enumD] using h) = _
    rw [enumD_get _ (by simpa using h1)]
    simp [Nat.add_assoc, Nat.add_comm 1]
theorem walks_zipT {K : PySem.W.Frag} {a b : Addr} {xs ys : List D} : Walks C K (RZ.ItzT K a b) [(.ref a, .d (.tup xs)), (.ref b, .d (.tup ys))] (zip2 xs ys) where
  go := fun i H L h R => by
    rw [zip2_len] at h
    obtain ⟨ws, h1, h2, h3⟩ := rel_atT R
    obtain ⟨us, g1, g2, g3⟩ := rel_atT (R.drop)
    exact ⟨ws, us, ws[i]'(by omega), us[i]'(by omega), .inl (.of h1), .inl (.of g1), by simp, by simp⟩
  stop := fun H L R => by
    obtain ⟨ws, h1, h2, h3⟩ := rel_atT R
    obtain ⟨us, g1, g2, g3⟩ := rel_atT (R.drop)
    refine ⟨ws, us, .inl (.of h1), .inl (.of g1), ?_⟩
    rw [zip2_len]; omega
  yld := fun i H L v H' h R y => by
    have hl := h
    rw [zip2_len] at hl
    obtain ⟨T, x, y', rfl, hT, rfl, k1, k2⟩ := y
    obtain ⟨G, S, g, ⟨S1, S2, e2, ⟨e3, q, ws, e, hq, hr⟩, S3, S4, e4, ⟨e5, q2, us, e6, hq2, hr2⟩, hL⟩, nd, no⟩ := R
    cases e; cases e6
    subst e3 e5
    have e2' : S = S2 := e2
    subst e2'
    have hx := k1 ws (.inl (.of (g _ _ hq)))
    have hy := k2 us (.inl (.of (g _ _ hq2)))
    obtain ⟨dx, d1, d2⟩ := hr.get' hx
    obtain ⟨dy, d3, d4⟩ := hr2.get' hy
    rw [zip2_get h (by omega) (by omega)]
    have ex : xs[i]'(by omega) = dx := by rw [List.getElem?_eq_getElem (by omega)] at d1; exact Option.some.inj d1
    have ey : ys[i]'(by omega) = dy := by rw [List.getElem?_eq_getElem (by omega)] at d3; exact Option.some.inj d3
    rw [ex, ey]
    exact rel_res (L := (.ref a, _) :: (.ref b, _) :: L) g ⟨[], S, rfl, ⟨rfl, a, ws, rfl, hq, hr⟩, [], S4, e4, ⟨rfl, b, us, rfl, hq2, hr2⟩, hL⟩ nd no (.tup hT ⟨x, [y'], rfl, d2, y', [], rfl, d4, rfl⟩)
theorem walks_zipL {K : PySem.W.Frag} {a b : Addr} {xs ys : List D} : Walks C K (Itz K a b) [(.ref a, .d (.lst xs)), (.ref b, .d (.lst ys))] (zip2 xs ys) where
  go := fun i H L h R => by
    rw [zip2_len] at h
    obtain ⟨ws, h1, h2, h3⟩ := rel_at R
    obtain ⟨us, g1, g2, g3⟩ := rel_at (R.drop)
    exact ⟨ws, us, ws[i]'(by omega), us[i]'(by omega), .inl (.of h1), .inl (.of g1), by simp, by simp⟩
  stop := fun H L R => by
    obtain ⟨ws, h1, h2, h3⟩ := rel_at R
    obtain ⟨us, g1, g2, g3⟩ := rel_at (R.drop)
    refine ⟨ws, us, .inl (.of h1), .inl (.of g1), ?_⟩
    rw [zip2_len]; omega
  yld := fun i H L v H' h R y => by
    have hl := h
    rw [zip2_len] at hl
    obtain ⟨T, x, y', rfl, hT, rfl, k1, k2⟩ := y
    obtain ⟨G, S, g, ⟨S1, S2, e2, ⟨e3, q, ws, e, hq, hr⟩, S3, S4, e4, ⟨e5, q2, us, e6, hq2, hr2⟩, hL⟩, nd, no⟩ := R
    cases e; cases e6
    subst e3 e5
    have e2' : S = S2 := e2
    subst e2'
    have hx := k1 ws (.inl (.of (g _ _ hq)))
    have hy := k2 us (.inl (.of (g _ _ hq2)))
    obtain ⟨dx, d1, d2⟩ := hr.get' hx
    obtain ⟨dy, d3, d4⟩ := hr2.get' hy
    rw [zip2_get h (by omega) (by omega)]
    have ex : xs[i]'(by omega) = dx := by rw [List.getElem?_eq_getElem (by omega)] at d1; exact Option.some.inj d1
    have ey : ys[i]'(by omega) = dy := by rw [List.getElem?_eq_getElem (by omega)] at d3; exact Option.some.inj d3
    rw [ex, ey]
    exact rel_res (L := (.ref a, _) :: (.ref b, _) :: L) g ⟨[], S, rfl, ⟨rfl, a, ws, rfl, hq, hr⟩, [], S4, e4, ⟨rfl, b, us, rfl, hq2, hr2⟩, hL⟩ nd no (.tup hT ⟨x, [y'], rfl, d2, y', [], rfl, d4, rfl⟩)
theorem walks_enum {K : PySem.W.Frag} {a : Addr} {xs : List D} : Walks C K (Ite K a) [(.ref a, .d (.lst xs))] (enumD 0 xs) where
  go := fun i H L h R => by
    rw [enumD_len] at h
    obtain ⟨ws, h1, h2, h3⟩ := rel_at R
    exact ⟨ws, ws[i]'(by omega), .inl (.of h1), by simp⟩
  stop := fun H L R => by
    obtain ⟨ws, h1, h2, h3⟩ := rel_at R
    exact ⟨ws, .inl (.of h1), by rw [enumD_len]; omega⟩
  yld := fun i H L v H' h R y => by
    have hl := h
    rw [enumD_len] at hl
    obtain ⟨T, x, rfl, hT, rfl, k1⟩ := y
    obtain ⟨G, S, g, ⟨S1, S2, e2, ⟨e3, q, ws, e, hq, hr⟩, hL⟩, nd, no⟩ := R
    cases e
    subst e3
    have e2' : S = S2 := e2
    subst e2'
    have hx := k1 ws (.inl (.of (g _ _ hq)))
    obtain ⟨dx, d1, d2⟩ := hr.get' hx
    rw [enumD_get h hl]
    have ex : xs[i]'hl = dx := by rw [List.getElem?_eq_getElem hl] at d1; exact Option.some.inj d1
    rw [ex, Nat.zero_add]
    exact rel_res (L := (.ref a, _) :: L) g ⟨[], S, rfl, ⟨rfl, a, ws, rfl, hq, hr⟩, hL⟩ nd no (.tup hT ⟨.int (i : Nat), [x], rfl, rfl, x, [], rfl, d2, rfl⟩)
theorem walks_enumO {K : PySem.W.Frag} {a : Addr} {xs : List D} : Walks C K (Ite K a) [(.ref a, .lst xs)] (enumD 0 xs) where
  go := fun i H L h R => by
    rw [enumD_len] at h
    obtain ⟨ws, h1, h2, h3⟩ := rel_atO R
    exact ⟨ws, ws[i]'(by omega), .inl (.of h1), by simp⟩
  stop := fun H L R => by
    obtain ⟨ws, h1, h2, h3⟩ := rel_atO R
    exact ⟨ws, .inl (.of h1), by rw [enumD_len]; omega⟩
  yld := fun i H L v H' h R y => by
    have hl := h
    rw [enumD_len] at hl
    obtain ⟨T, x, rfl, hT, rfl, k1⟩ := y
    obtain ⟨G, S, g, ⟨S1, S2, e2, ⟨q, ws, e, e3, hq, hr⟩, hL⟩, nd, no⟩ := R
    cases e
    have hx := k1 ws (.inl (.of hq))
    obtain ⟨dx, d1, d2⟩ := hr.get' hx
    rw [enumD_get h hl]
    have ex : xs[i]'hl = dx := by rw [List.getElem?_eq_getElem hl] at d1; exact Option.some.inj d1
    rw [ex, Nat.zero_add]
    exact rel_res (L := (.ref a, _) :: L) g ⟨S1, S2, e2, ⟨a, ws, rfl, e3, hq, hr⟩, hL⟩ nd no (.tup hT ⟨.int (i : Nat), [x], rfl, rfl, x, [], rfl, d2, rfl⟩)
/-- an own list's walk, what is wanted of it -/
def tO (C : CT) (K : PySem.W.Frag) (en : Bool) (i : Nat) : TI := fun σ H Q => ∃ env fr xs, RelX C K H env σ fr ∧ slot env i = some (.lst xs) ∧ ∀ a H', RelX C K H' env σ fr → σ[i]? = some (some (.ref a)) → Q (if en = true then Ite K a else Itl K a) H'
theorem own_ref {K : PySem.W.Frag} {H : Hp} {env : Ev} {σ : Sg} {fr : Prs} {i : Nat} {xs : List D} (R : RelX C K H env σ fr) (h : slot env i = some (.lst xs)) : ∃ a ws, σ[i]? = some (some (.ref a)) ∧ H a = some (.lst ws) := by
  obtain ⟨v, hv⟩ := R.has i _ h
  have R1 := (R.take h hv).top
  obtain ⟨p, ws, e, hp, _⟩ := R1.rep
  subst e
  exact ⟨p, ws, hv, hp⟩
def tI (C : CT) (K : PySem.W.Frag) (Γ : Gam) (kd : ItK) (as : Ts) : TI := fun σ H R => ∃ env fr, RelX C K H env σ fr ∧ evs Γ as env E0x fun rs e => vals rs e fun ds e' => itW kd ds fun xs => ∀ J H' base, Walks C K J base xs → RelX C K H' e' σ (base ++ fr) → R J H'
def iSeq (K : PySem.W.Frag) (tl : TE) : TI := fun σ H R => tl σ H fun x H1 => ∃ a, x = .ref a ∧ (((∃ xs, SqL K H1 a xs) ∧ R (Itl K a) H1) ∨ ((∃ xs, SqT K H1 a xs) ∧ R (Itt K a) H1) ∨ ∃ i j, H1 a = some (.rng i j) ∧ (b62 i ∧ b62 j) ∧ R (Itr i (j - i).toNat) H1)
theorem pi_seq {X : Cx} {tg l : Expr} {tl : TE} (hl : PE X l tl) : PI X tg l (iSeq X.K tl) where
  run := fun pins s σ H R I h => by
    refine thn (hl.run pins s σ H _ I h) ?_
    rintro v s1 ⟨_, H1, I1, r1, a, rfl, q⟩
    cases r1
    rcases q with ⟨⟨xs, hq⟩, q⟩ | ⟨⟨xs, hq⟩, q⟩ | ⟨i, j, hq, ⟨⟨q1, q2⟩, q3, q4⟩, q⟩
    · obtain ⟨its, _, p, _⟩ := I1.list hq
      exact wpAny_pyIter_list p.isList (pi_one (tk := s1.toks) I1 _ (turn_list a _) ⟨_, Heap.get?_push_size s1.heap rfl, rfl, rfl⟩ q)
    · obtain ⟨its, _, p, _⟩ := I1.tuple hq
      exact wpAny_pyIter_tuple (items := its.toArray) p (pi_one (tk := s1.toks) I1 _ (turn_tuple a _) ⟨_, Heap.get?_push_size s1.heap rfl, rfl, rfl⟩ q)
    · have all := I1.hok a _ hq
      obtain ⟨t, u, v, hr⟩ := all
      refine wpAny_pyIter_range hr (small_one q1 q2 q3 q4) (pi_one (tk := s1.toks) I1 _ (turn_range _ i (j - i).toNat) ?_ q)
      have e : (((j - i).toNat : Nat) : Int) - ((0 : Nat) : Int) = Builtin.Range.rangeSize i j 1 := by rw [rangeSize_one]; split <;> omega
      show IsRangeIter _ _ (i + ((0 : Nat) : Int) * 1) ((((j - i).toNat : Nat) : Int) - ((0 : Nat) : Int)) 1
      rw [e, Int.natCast_zero, Int.zero_mul, Int.add_zero]
      exact Heap.get?_push_size _ rfl
theorem PI.weak {X : Cx} {tg e : Expr} {t t' : TI} (h : PI X tg e t) (w : ∀ σ H Q, t' σ H Q → t σ H Q) : PI X tg e t' := ⟨fun pins s σ H Q I q => h.run pins s σ H Q I (w σ H Q q)⟩
theorem itW_zip {xs : List D} {Q : List D → Prop} (h : itW .zip xs Q) (hl : xs.length = 2) : (∃ us ws, xs = [.lst us, .lst ws] ∧ Q (zip2 us ws)) ∨ (∃ us ws, xs = [.tup us, .tup ws] ∧ Q (zip2 us ws)) := by
  unfold itW at h
  split at h <;> first | contradiction | exact .inl ⟨_, _, rfl, h⟩ | exact .inr ⟨_, _, rfl, h⟩ | (simp at hl; done) | exact h.elim
theorem itW_zipN {xs : List D} {Q : List D → Prop} (h : itW .zipN xs Q) : ∃ us ws, xs = [.tup us, .tup ws] ∧ Q (zip2 us ws) := by
  unfold itW at h
  split at h <;> first | contradiction | exact ⟨_, _, rfl, h⟩ | exact h.elim
theorem itW_enum {xs : List D} {Q : List D → Prop} (h : itW .enum xs Q) : ∃ us, xs = [.lst us] ∧ Q (enumD 0 us) := by
  unfold itW at h
  split at h <;> first | contradiction | exact ⟨_, rfl, h⟩ | exact h.elim
/-! zip of tuples, row by row -/
def least : List Nat → Nat
  | [] => 0
  | [n] => n
  | n :: m :: ns => min n (least (m :: ns))
theorem least_le : ∀ {ns : List Nat} {n : Nat}, n ∈ ns → least ns ≤ n
  | [a], n, h => by rw [List.mem_singleton.mp h]; exact Nat.le_refl _
  | a :: b :: ns, n, h => by
    rcases List.mem_cons.mp h with rfl | h
    · exact Nat.min_le_left _ _
    · exact Nat.le_trans (Nat.min_le_right _ _) (least_le h)
theorem least_mem : ∀ {ns : List Nat}, ns ≠ [] → least ns ∈ ns
  | [a], _ => List.mem_singleton_self _
  | a :: b :: ns, _ => by
    have := least_mem (ns := b :: ns) (List.cons_ne_nil _ _)
    show min a (least (b :: ns)) ∈ _
    rcases Nat.le_total a (least (b :: ns)) with h | h
    · rw [Nat.min_eq_left h]; exact List.mem_cons_self
    · rw [Nat.min_eq_right h]; exact List.mem_cons_of_mem _ this
def rowsD (xss : List (List D)) : List D := (List.range (least (xss.map List.length))).map fun i => .tup (xss.map fun xs => xs.getD i .non)
theorem rows_get {xss : List (List D)} {i : Nat} (h : i < (rowsD xss).length) : (rowsD xss)[i] = .tup (xss.map fun xs => xs.getD i .non) := by simp [rowsD]
theorem rows_len {xss : List (List D)} : (rowsD xss).length = least (xss.map List.length) := by simp [rowsD]
/-- tuples of the data that stand in a row -/
theorem tups_al {K : PySem.W.Frag} {G H : Hp} (g : Same G H) : ∀ {xss : List (List D)} {src : List Addr}, Reps C K G (xss.map D.tup) (src.map V.ref) → VZ.Al (fun l xs => ∃ ws, SqT K H l ws ∧ Reps C K G xs ws) src xss
  | [], [], _ => trivial
  | [], _ :: _, h => by cases h
  | _ :: _, [], ⟨_, _, e, _⟩ => by cases e
  | xs :: xss, l :: src, ⟨_, _, e, ⟨p, ws, e1, h1, h2⟩, h3⟩ => by
    cases e
    cases e1
    exact ⟨⟨ws, .inl (.of (g _ _ h1)), h2⟩, tups_al g h3⟩
section
variable {K : PySem.W.Frag} {G H : Hp} {i : Nat}
abbrev TupAl (C : CT) (K : PySem.W.Frag) (G H : Hp) : List Addr → List (List D) → Prop := VZ.Al fun l xs => ∃ ws, SqT K H l ws ∧ Reps C K G xs ws
theorem al_go : ∀ {src : List Addr} {xss : List (List D)}, (∀ xs ∈ xss, i < xs.length) → TupAl C K G H src xss → ∃ wss : List (List V), VZ.Al (fun l ws => SqT K H l ws ∧ i < ws.length) src wss
  | [], [], _, _ => ⟨[], trivial⟩
  | l :: src, xs :: xss, low, ⟨⟨ws, a, b⟩, t⟩ => by
    obtain ⟨wss, q⟩ := al_go (fun xs h => low xs (List.mem_cons_of_mem _ h)) t
    exact ⟨ws :: wss, ⟨a, b.length ▸ low xs List.mem_cons_self⟩, q⟩
theorem al_some : ∀ {src : List Addr} {xss : List (List D)}, TupAl C K G H src xss → ∃ wss : List (List V), VZ.Al (SqT K H) src wss
  | [], [], _ => ⟨[], trivial⟩
  | l :: src, xs :: xss, ⟨⟨ws, a, b⟩, t⟩ => by
    obtain ⟨wss, q⟩ := al_some t
    exact ⟨ws :: wss, a, q⟩
theorem al_stop {zs : List D} : ∀ {src : List Addr} {xss : List (List D)}, zs ∈ xss → TupAl C K G H src xss → ∃ wss : List (List V), VZ.Al (SqT K H) src wss ∧ ∃ ws ∈ wss, ws.length ≤ zs.length
  | [], [], h, _ => (List.not_mem_nil h).elim
  | l :: src, xs :: xss, h, ⟨⟨ws, a, b⟩, t⟩ => by
    rcases List.mem_cons.mp h with rfl | h
    · obtain ⟨wss, q⟩ := al_some t
      exact ⟨ws :: wss, ⟨a, q⟩, ws, List.mem_cons_self, Nat.le_of_eq b.length.symm⟩
    · obtain ⟨wss, q, ws', m, le⟩ := al_stop h t
      exact ⟨ws :: wss, ⟨a, q⟩, ws', List.mem_cons_of_mem _ m, le⟩
theorem al_row {src : List Addr} : ∀ {xss : List (List D)} {ys : List V}, TupAl C K G H src xss → VZ.Al (fun l y => ∀ xs, SqT K H l xs → xs[i]? = some y) src ys → Reps C K G (xss.map fun xs => xs.getD i .non) ys := by
  induction src with
  | nil =>
    intro xss ys al ay
    have e1 := al.len
    have e2 := ay.len
    obtain rfl := List.eq_nil_of_length_eq_zero e1.symm
    exact List.eq_nil_of_length_eq_zero e2.symm
  | cons l src ih =>
    intro xss ys al ay
    cases xss with
    | nil => exact False.elim al
    | cons xs xss =>
      cases ys with
      | nil => exact False.elim ay
      | cons y ys =>
        obtain ⟨⟨ws, a, b⟩, t⟩ := al
        obtain ⟨f, u⟩ := ay
        obtain ⟨x, e1, e2⟩ := b.get' (f ws a)
        have e3 : xs.getD i .non = x := by rw [List.getD_eq_getElem?_getD, e1]; rfl
        have r := ih t u
        refine ⟨y, ys, rfl, ?_, r⟩
        show Rep C K G (xs.getD i .non) y
        rw [e3]
        exact e2
theorem walks_zipG {src : List Addr} {xss : List (List D)} (ne : xss ≠ []) (hl : xss.length = src.length) : Walks C K (VZ.ItzG K src) ((src.map V.ref).zip ((xss.map D.tup).map O.d)) (rowsD xss) where
  go := fun i H L h ⟨G, S, g, k, _, _⟩ => al_go (fun xs hx => Nat.lt_of_lt_of_le (rows_len (xss := xss) ▸ h) (least_le (List.mem_map_of_mem hx))) (tups_al g (own_d (by simpa using hl) k).1)
  stop := fun H L ⟨G, S, g, k, _, _⟩ => by
    obtain ⟨xs, hx, e⟩ := List.mem_map.mp (least_mem (ns := xss.map List.length) (by simpa using ne))
    rw [rows_len, ← e]
    exact al_stop hx (tups_al g (own_d (by simpa using hl) k).1)
  yld := fun i H L v H' h ⟨G, S, g, k, nd, no⟩ ⟨T, ys, e1, hT, e2, ay⟩ => by
    subst e1 e2
    rw [rows_get h]
    exact rel_res g k nd no (.tup hT (al_row (tups_al g (own_d (by simpa using hl) k).1) ay))
end
theorem rows_nil {xss : List (List D)} (h : [] ∈ xss) : rowsD xss = [] := by
  have := least_le (List.mem_map_of_mem (f := List.length) h)
  exact List.eq_nil_of_length_eq_zero (by rw [rows_len]; exact Nat.le_zero.mp this)
theorem least_succ : ∀ {hs : List D} {ts : List (List D)}, hs.length = ts.length → ts ≠ [] → least ((List.zipWith List.cons hs ts).map List.length) = least (ts.map List.length) + 1
  | [h], [t], _, _ => rfl
  | h :: h2 :: hs, t :: t2 :: ts, e, _ => by
    have ih := least_succ (hs := h2 :: hs) (ts := t2 :: ts) (Nat.succ.inj e) (List.cons_ne_nil _ _)
    show min (t.length + 1) (least ((List.zipWith List.cons (h2 :: hs) (t2 :: ts)).map List.length)) = min t.length (least ((t2 :: ts).map List.length)) + 1
    rw [ih, Nat.add_min_add_right]
  | [], [], _, n => (n rfl).elim
theorem rows_cons {hs : List D} {ts : List (List D)} (e : hs.length = ts.length) (n : ts ≠ []) : rowsD (List.zipWith List.cons hs ts) = .tup hs :: rowsD ts := by
  have h0 : ∀ {hs : List D} {ts : List (List D)}, hs.length = ts.length → (List.zipWith List.cons hs ts).map (fun xs => xs.getD 0 .non) = hs := by
    intro hs
    induction hs with
    | nil => intro ts _; rfl
    | cons h hs ih =>
      intro ts e
      match ts, e with
      | t :: ts, e => exact congrArg (h :: ·) (ih (Nat.succ.inj e))
  have h1 : ∀ {hs : List D} {ts : List (List D)} {i : Nat}, hs.length = ts.length → (List.zipWith List.cons hs ts).map (fun xs => xs.getD (i + 1) .non) = ts.map fun xs => xs.getD i .non := by
    intro hs
    induction hs with
    | nil => intro ts i e; match ts, e with
      | [], _ => rfl
    | cons h hs ih =>
      intro ts i e
      match ts, e with
      | t :: ts, e => exact congrArg (t.getD i .non :: ·) (ih (Nat.succ.inj e))
  unfold rowsD
  rw [least_succ e n, List.range_succ_eq_map, List.map_cons, List.map_map, h0 e]
  exact congrArg (_ :: ·) (List.map_congr_left fun i _ => congrArg D.tup (h1 e))
theorem rows2 : ∀ xs ys : List D, zip2 xs ys = rowsD [xs, ys]
  | [], _ => (rows_nil (by simp)).symm
  | _ :: _, [] => (rows_nil (by simp)).symm
  | x :: xs, y :: ys => by rw [zip2, rows2 xs ys]; exact (rows_cons (hs := [x, y]) (ts := [xs, ys]) rfl (List.cons_ne_nil _ _)).symm
theorem rows3 : ∀ xs ys zs : List D, zip3 xs ys zs = rowsD [xs, ys, zs]
  | [], _, _ => (rows_nil (by simp)).symm
  | _ :: _, [], _ => (rows_nil (by simp)).symm
  | _ :: _, _ :: _, [] => (rows_nil (by simp)).symm
  | x :: xs, y :: ys, z :: zs => by rw [zip3, rows3 xs ys zs]; exact (rows_cons (hs := [x, y, z]) (ts := [xs, ys, zs]) rfl (List.cons_ne_nil _ _)).symm
theorem rows4 : ∀ xs ys zs us : List D, zip4 xs ys zs us = rowsD [xs, ys, zs, us]
  | [], _, _, _ => (rows_nil (by simp)).symm
  | _ :: _, [], _, _ => (rows_nil (by simp)).symm
  | _ :: _, _ :: _, [], _ => (rows_nil (by simp)).symm
  | _ :: _, _ :: _, _ :: _, [] => (rows_nil (by simp)).symm
  | x :: xs, y :: ys, z :: zs, u :: us => by rw [zip4, rows4 xs ys zs us]; exact (rows_cons (hs := [x, y, z, u]) (ts := [xs, ys, zs, us]) rfl (List.cons_ne_nil _ _)).symm
/-- tuples handed to a zip -/
theorem zip_go {K : PySem.W.Frag} {H' : Hp} {e2 : Ev} {σ : Sg} {fr : Prs} {vs : List V} {xss : List (List D)} {R : It → Hp → Prop} (hn : 2 ≤ xss.length ∧ xss.length ≤ 4) (R2 : RelX C K H' e2 σ (vs.zip ((xss.map D.tup).map O.d) ++ fr)) (hx : (xss.map D.tup).length = vs.length)
    (h : ∀ {src : List Addr}, xss.length = src.length → RelX C K H' e2 σ ((src.map V.ref).zip ((xss.map D.tup).map O.d) ++ fr) → R (VZ.ItzG K src) H') :
    ∃ (src : List Addr) (wss : List (List V)), (vs = src.map V.ref ∧ 2 ≤ src.length ∧ src.length ≤ 4) ∧ VZ.Al (SqT K H') src wss ∧ R (VZ.ItzG K src) H' := by
  have R1 : Rel C K H' (vs.zip ((xss.map D.tup).map O.d) ++ (pr e2 σ ++ fr)) := R2.rel.perm (by
    rw [← List.append_assoc, ← List.append_assoc]
    exact List.Perm.append_right fr List.perm_append_comm)
  obtain ⟨G, S, g, k, nd, no⟩ := R1
  have rp := (own_d hx k).1
  clear k
  have go : ∀ {xss : List (List D)} {vs : List V}, Reps C K G (xss.map D.tup) vs → ∃ (src : List Addr) (wss : List (List V)), vs = src.map V.ref ∧ xss.length = src.length ∧ VZ.Al (SqT K H') src wss := by
    intro xss
    induction xss with
    | nil => intro vs e; exact ⟨[], [], e, rfl, trivial⟩
    | cons xs xss ih =>
      rintro _ ⟨v, r, rfl, ⟨p, ws, rfl, h1, h2⟩, h3⟩
      obtain ⟨src, wss, rfl, e2, al⟩ := ih h3
      exact ⟨p :: src, ws :: wss, rfl, congrArg (· + 1) e2, .inl (.of (g _ _ h1)), al⟩
  obtain ⟨src, wss, rfl, e, al⟩ := go rp
  exact ⟨src, wss, ⟨rfl, by omega, by omega⟩, al, h e R2⟩
theorem itW_zip3 {xs : List D} {Q : List D → Prop} (h : itW .zip xs Q) (hl : xs.length = 3) : ∃ a b c, xs = [.tup a, .tup b, .tup c] ∧ Q (zip3 a b c) := by
  unfold itW at h
  split at h <;> first | contradiction | exact ⟨_, _, _, rfl, h⟩ | (simp at hl; done) | exact h.elim
theorem itW_zip4 {xs : List D} {Q : List D → Prop} (h : itW .zip xs Q) (hl : xs.length = 4) : ∃ a b c d, xs = [.tup a, .tup b, .tup c, .tup d] ∧ Q (zip4 a b c d) := by
  unfold itW at h
  split at h <;> first | contradiction | exact ⟨_, _, _, _, rfl, h⟩ | (simp at hl; done) | exact h.elim
theorem base_of {o : Expr} {m : Str} {env : Env} (h : plainO o = true) : attributeBase o m env (eval o env) = eval o env := by
  cases o with
  | Call g es ks p =>
    cases es with
    | cons _ _ => cases g <;> rfl
    | nil => cases ks with
      | nil => cases h
      | cons _ _ => cases g <;> rfl
  | _ => rfl
theorem itW_items {xs : List D} {Q : List D → Prop} (h : itW .items xs Q) : ∃ ks vs, xs = [.dic true ks vs] ∧ Q (zip2 ks vs) := by
  unfold itW at h
  split at h <;> first | contradiction | exact ⟨_, _, rfl, h⟩ | exact h.elim
theorem rel_lockT {K : PySem.W.Frag} {H : Hp} {L : Prs} {d : Addr} {o : Obj} {ks xs : List D} {ws : List V} (R : Rel C K H ((.ref d, .lock o true ks ws xs) :: L)) : H d = some (.frz o (.dT ((ks.map toKeyT).zip ws))) ∧ ks.all isKeyT = true ∧ ks.length = xs.length ∧ ks.length = ws.length := by
  obtain ⟨G, S, g, ⟨S1, S2, e2, ⟨e3, p, e, h1, h3, h2⟩, hL⟩, nd, no⟩ := R
  cases e
  exact ⟨g _ _ h1, h3.1, h3.2, h3.2.trans h2.length⟩
theorem zip2_get' : ∀ {xs ys : List D} {i : Nat} (h : i < (zip2 xs ys).length) (h0 : i < xs.length) (h1 : i < ys.length), (zip2 xs ys)[i] = .tup [xs[i], ys[i]]
  | x0 :: r0, x1 :: r1, 0, _, _, _ => rfl
  | x0 :: r0, x1 :: r1, i + 1, h, h0, h1 => by
    simp only [zip2, List.getElem_cons_succ]
    exact zip2_get' (by simpa [zip2] using h) (by simpa using h0) (by simpa using h1)
  | [], _, _, _, h, _ => by simp at h
  | _ :: _, [], _, _, _, h => by simp at h
theorem zip2_len' : ∀ (xs ys : List D), (zip2 xs ys).length = min xs.length ys.length
  | x0 :: r0, x1 :: r1 => by
    rw [zip2, List.length_cons, zip2_len' r0 r1]; simp only [List.length_cons]; omega
  | [], _ => by simp [zip2]
  | _ :: _, [] => by simp [zip2]
theorem walks_items {K : PySem.W.Frag} {d : Addr} {o : Obj} {ks xs : List D} {ws : List V} (e1 : ks.length = xs.length) (e2 : ks.length = ws.length) : Walks C K (VDI.ItiT d o ((ks.map toKeyT).zip ws)) [(.ref d, .lock o true ks ws xs)] (zip2 ks xs) where
  go := fun i H L h R => by
    rw [zip2_len'] at h
    obtain ⟨h1, _⟩ := rel_lockT R
    exact ⟨h1, by rw [List.length_zip, List.length_map]; omega⟩
  stop := fun H L R => by
    obtain ⟨h1, _⟩ := rel_lockT R
    exact ⟨h1, by rw [List.length_zip, List.length_map, zip2_len']; omega⟩
  yld := fun i H L v H' h R y => by
    have hl := h
    rw [zip2_len'] at hl
    obtain ⟨T, k, v, q, hkv, rfl, hq, hT, rfl⟩ := y
    obtain ⟨_, hk, _, _⟩ := rel_lockT R
    have i1 : i < ks.length := by omega
    have i2 : i < xs.length := by omega
    have i3 : i < ws.length := by omega
    have e3 : ((ks.map toKeyT).zip ws)[i]? = some (toKeyT ks[i], ws[i]) := by
      rw [List.getElem?_eq_getElem (by rw [List.length_zip, List.length_map]; omega)]
      simp
    rw [e3] at hkv
    cases hkv
    have hki := List.all_eq_true.mp hk ks[i] (List.getElem_mem i1)
    obtain ⟨zs, ez⟩ : ∃ zs, ks[i] = .tup zs := by
      cases e : ks[i] with
      | tup zs => exact ⟨zs, rfl⟩
      | _ => rw [e] at hki; cases hki
    rw [ez] at hki hq
    have R1 : Rel C K H ((.ref q, .d (.tup zs)) :: ([(.ref d, .lock o true ks ws xs)] ++ L)) := Rel.key R hki (by
      have : (toKeyT (.tup zs)).map kV = zs.map fun z => kV (toKey z) := by
        show (zs.map toKey).map kV = _
        rw [List.map_map]; rfl
      rw [← this]; exact hq)
    obtain ⟨G, S, g, ⟨S1, S2, g0, ⟨f0, q0⟩, ⟨S3, S4, g1, ⟨f1, p, ep, h5, h6, h7⟩, hL⟩⟩, nd, no⟩ := R1
    cases ep
    subst f0 f1
    obtain ⟨w, hw, hr⟩ := h7.get (i := i) (x := xs[i]) (List.getElem?_eq_getElem i2)
    rw [List.getElem?_eq_getElem i3] at hw
    cases hw
    rw [zip2_get' h i1 i2, ez]
    have e4 : S = S2 := g0
    have e5 : S2 = S4 := g1
    subst e4 e5
    exact rel_res (L := (.ref d, _) :: L) g ⟨[], _, rfl, ⟨rfl, d, rfl, h5, h6, h7⟩, hL⟩ nd no (.tup hT ⟨_, [ws[i]], rfl, q0, _, [], rfl, hr, rfl⟩)
theorem sndI {X : Cx} {sc : Scope} {ow : Option Scope} (S : Sup B C Γ sc ow X) {kd : ItK} {as : Ts} {tg e : Expr} (ih : AllS B C Γ as) (h : chkI B kd as sc ow tg e = true) : PI X tg e (tI C X.K Γ kd as) ∧ ∀ x, foldedSetIterable e X.env x = pure x := by
  cases kd with
  | seq =>
    cases as with
    | nil => simp [chkI] at h
    | cons a as =>
      cases as with
      | cons _ _ => simp [chkI] at h
      | nil =>
        simp only [chkI, Bool.and_eq_true] at h
        refine ⟨PI.weak (pi_seq (ih.1 S e h.1).1) fun σ H Q q => ?_, fun x => ?_⟩
        · obtain ⟨env, fr, R, q⟩ := q
          refine tE_one R q fun rs e v H' q1 R1 => ?_
          obtain ⟨xs, e2, q2, hx, R2⟩ := vals_snd R1 q1
          cases xs with
          | nil => simp at hx
          | cons x xs =>
            cases xs with
            | cons _ _ => simp at hx
            | nil =>
              have R3 : RelX C X.K H' e2 σ ((v, .d x) :: fr) := R2
              unfold itW at q2
              cases x <;> first | exact q2.elim | skip
              · obtain ⟨p, ws, e3, h1, _⟩ := R3.top.rep
                subst e3
                exact ⟨p, rfl, .inr (.inl ⟨⟨ws, .inl (.of h1)⟩, q2 _ _ _ walks_tup R3⟩)⟩
              · obtain ⟨p, ws, e3, h1, _⟩ := R3.top.rep
                subst e3
                exact ⟨p, rfl, .inl ⟨⟨ws, .inl (.of h1)⟩, q2 _ _ _ walks_lst R3⟩⟩
              · rename_i i j
                obtain ⟨p, e3, h1⟩ := R3.top.rep
                subst e3
                exact ⟨p, rfl, .inr (.inr ⟨i, j, h1, q2.1, q2.2 _ _ [] walks_rng (R3.pop)⟩)⟩
        · cases e <;> first | rfl | (have := h.2; cases this)
  | rng =>
    cases as with
    | nil => simp [chkI] at h
    | cons a as =>
      cases e with
      | Call g es ks pos =>
        cases g with
        | Name x p =>
          cases es with
          | nil => simp [chkI] at h
          | cons e es =>
            cases ks with
            | cons _ _ => simp [chkI] at h
            | nil =>
              simp only [chkI, Bool.and_eq_true, decide_eq_true_eq] at h
              obtain ⟨⟨⟨h1, h2⟩, ⟨h3, h4⟩, h5⟩, h6⟩ := h
              unfold gnOk at h2
              simp only [Bool.and_eq_true, decide_eq_true_eq, Bool.not_eq_true'] at h2
              obtain ⟨⟨⟨g1, g2⟩, g3⟩, g4⟩ := h2
              subst h1
              have hes : chkEs B (.cons a as) sc ow (e :: es) = true := by simp only [chkEs, Bool.and_eq_true]; exact ⟨⟨h3, h4⟩, h5⟩
              refine ⟨?_, fun x => rfl⟩
              have main : ∀ {σ : L2.St} {H : Hp} {Q : It → Hp → Prop}, tI C X.K Γ .rng (.cons a as) σ H Q → tA C X.K Γ (.cons a as) σ H fun vs H1 => (∃ j, vs = [.int j] ∧ b62 j ∧ Q (Itr 0 (j - 0).toNat) H1) ∨ (∃ i j, vs = [.int i, .int j] ∧ b62 i ∧ b62 j ∧ Q (Itr i (j - i).toNat) H1) ∨ vs.length = 3 := by
                intro σ H Q q
                obtain ⟨env, fr, R, q⟩ := q
                refine tA_of R q fun rs e1 vs H' q1 R1 => ?_
                obtain ⟨xs, e2, q2, hx, R2⟩ := vals_snd R1 q1
                unfold itW at q2
                split at q2
                all_goals try (rename_i z _; cases z; done)
                all_goals try (rename_i z; cases z; done)
                · rename_i j _
                  obtain ⟨v, vs', e3, h8, h9⟩ := (own_d_all R2 hx)
                  cases h9; subst e3; cases h8
                  exact .inl ⟨_, rfl, q2.1, q2.2 _ _ _ walks_rng (show RelX C X.K H' e2 σ ([] ++ fr) from R2.pop)⟩
                · obtain ⟨v, vs', e3, h8, v2, vs2, e4, h9, h10⟩ := (own_d_all R2 hx)
                  cases h10; subst e4; subst e3; cases h8; cases h9
                  exact .inr (.inl ⟨_, _, rfl, q2.1.1, q2.1.2, q2.2 _ _ _ walks_rng (show RelX C X.K H' e2 σ ([] ++ fr) from R2.pop.pop)⟩)
                · exact .inr (.inr (by rw [← hx]; rfl))
                · exact q2.elim
              cases es with
              | nil =>
                refine PI.weak (pi_range1 (gl_of S g1) (S.blt _ g2) (sndA S _ _ ih hes) (star_cons h3)) fun σ H Q q => ?_
                obtain ⟨env, fr, R, q⟩ := main q
                refine ⟨env, fr, R, evs_mono _ e0 (fun rs e ⟨hl, q⟩ vs H' R' => ?_) (evs_len _ q)⟩
                have lv : vs.length = 1 := by rw [paths_len R'.paths, hl, chk_len hes]; rfl
                rcases q vs H' R' with ⟨j, e1, hb, q⟩ | ⟨i, j, e1, _⟩ | e1
                · exact ⟨j, e1, hb.1, hb.2, by rw [Int.sub_zero] at q; exact q⟩
                · subst e1; simp at lv
                · omega
              | cons e2 es =>
                cases es with
                | cons _ _ => simp at h6
                | nil =>
                  have h7 : noStar e2 = true := by cases as <;> simp [chkEs] at h5; exact h5.1.1
                  refine PI.weak (pi_range2 (gl_of S g1) (S.blt _ g2) (sndA S _ _ ih hes) (by rw [star_cons h3, star_cons h7]; rfl) (star_cons h7)) fun σ H Q q => ?_
                  obtain ⟨env, fr, R, q⟩ := main q
                  refine ⟨env, fr, R, evs_mono _ e0 (fun rs e ⟨hl, q⟩ vs H' R' => ?_) (evs_len _ q)⟩
                  have lv : vs.length = 2 := by rw [paths_len R'.paths, hl, chk_len hes]; rfl
                  rcases q vs H' R' with ⟨j, e1, hb, q⟩ | ⟨i, j, e1, b1, b2, q⟩ | e1
                  · subst e1; simp at lv
                  · exact ⟨i, j, e1, ⟨b1.1, b1.2, b2.1, b2.2⟩, q⟩
                  · omega
        | _ => simp [chkI] at h
      | _ => simp [chkI] at h
  | zip =>
    match as, e, h with
    | .cons a (.cons b .nil), .Call (.Name x p) [e1, e2] [] pos, h =>
      simp only [chkI, Bool.and_eq_true, decide_eq_true_eq] at h
      obtain ⟨⟨⟨h1, h2⟩, h3⟩, ⟨h4, h5⟩, h6, h7⟩ := h
      unfold gnOk at h2
      simp only [Bool.and_eq_true, decide_eq_true_eq, Bool.not_eq_true'] at h2
      obtain ⟨⟨⟨g1, g2⟩, g3⟩, g4⟩ := h2
      subst h1
      refine ⟨?_, fun x => rfl⟩
      cases tg with
      | Tuple elts kk tpos =>
        have hes : chkEs B (.cons a (.cons b .nil)) sc ow [e1, e2] = true := by simp only [chkEs, Bool.and_eq_true]; exact ⟨⟨h4, h5⟩, ⟨h6, h7⟩, trivial⟩
        refine PI.weak (RZ.pi_zipA (gl_of S g1) (S.blt _ g2) (sndA S _ _ ih hes) (star_cons h4) (by rw [star_cons h6]; rfl)) fun σ H Q q => ?_
        obtain ⟨env, fr, R, q⟩ := q
        refine tA_of R (evs_len _ q) fun rs e1 vs H' ⟨hl, q1⟩ R1 => ?_
        obtain ⟨xs, e2, q2, hx, R2⟩ := vals_snd R1 q1
        rcases itW_zip q2 (by rw [hx, paths_len R1.paths, hl]; rfl) with ⟨us, ws, rfl, q3⟩ | ⟨us, ws, rfl, q3⟩
        · match vs, hx, R2 with
          | [v, w], _, R2 =>
            have R3 : RelX C X.K H' e2 σ ((v, .d (.lst us)) :: (w, .d (.lst ws)) :: fr) := R2
            obtain ⟨pa, as', ea, ha, _⟩ := R3.top.rep
            obtain ⟨pb, bs', eb, hb, _⟩ := R3.pop.top.rep
            subst ea eb
            exact ⟨pa, pb, as', bs', rfl, .inl ⟨.inl (.of ha), .inl (.of hb), q3 _ _ _ walks_zipL R3⟩⟩
        · match vs, hx, R2 with
          | [v, w], _, R2 =>
            have R3 : RelX C X.K H' e2 σ ((v, .d (.tup us)) :: (w, .d (.tup ws)) :: fr) := R2
            obtain ⟨pa, as', ea, ha, _⟩ := R3.top.rep
            obtain ⟨pb, bs', eb, hb, _⟩ := R3.pop.top.rep
            subst ea eb
            exact ⟨pa, pb, as', bs', rfl, .inr ⟨.inl (.of ha), .inl (.of hb), q3 _ _ _ walks_zipT R3⟩⟩
      | _ => cases h3
    | .cons a (.cons b (.cons c .nil)), .Call (.Name x p) [e1, e2, e3] [] pos, h =>
      simp only [chkI, Bool.and_eq_true, decide_eq_true_eq] at h
      obtain ⟨⟨⟨h1, h2⟩, h3⟩, ⟨n1, m1⟩, ⟨n2, m2⟩, n3, m3⟩ := h
      unfold gnOk at h2
      simp only [Bool.and_eq_true, decide_eq_true_eq, Bool.not_eq_true'] at h2
      obtain ⟨⟨⟨g1, g2⟩, g3⟩, g4⟩ := h2
      subst h1
      refine ⟨?_, fun x => rfl⟩
      cases tg with
      | Tuple elts kk tpos =>
        have hes : chkEs B (.cons a (.cons b (.cons c .nil))) sc ow [e1, e2, e3] = true := by simp only [chkEs, Bool.and_eq_true]; exact ⟨⟨n1, m1⟩, ⟨⟨n2, m2⟩, ⟨⟨n3, m3⟩, trivial⟩⟩⟩
        refine PI.weak (VZ.pi_zipG (gl_of S g1) (S.blt _ g2) (sndA S _ _ ih hes) (star_cons n1) (by rw [star_cons n2, star_cons n3]; rfl)) fun σ H Q q => ?_
        obtain ⟨env, fr, R, q⟩ := q
        refine tA_of R (evs_len _ q) fun rs e1 vs H' ⟨hl, q1⟩ R1 => ?_
        obtain ⟨xs, e2, q2, hx, R2⟩ := vals_snd R1 q1
        obtain ⟨u0, u1, u2, rfl, q3⟩ := itW_zip3 q2 (by rw [hx, paths_len R1.paths, hl]; rfl)
        rw [rows3] at q3
        exact zip_go (xss := [u0, u1, u2]) ⟨by simp, by simp⟩ R2 hx fun src => q3 _ _ _ (walks_zipG (by simp) src)
      | _ => cases h3
    | .cons a (.cons b (.cons c (.cons d .nil))), .Call (.Name x p) [e1, e2, e3, e4] [] pos, h =>
      simp only [chkI, Bool.and_eq_true, decide_eq_true_eq] at h
      obtain ⟨⟨⟨h1, h2⟩, h3⟩, ⟨n1, m1⟩, ⟨n2, m2⟩, ⟨n3, m3⟩, n4, m4⟩ := h
      unfold gnOk at h2
      simp only [Bool.and_eq_true, decide_eq_true_eq, Bool.not_eq_true'] at h2
      obtain ⟨⟨⟨g1, g2⟩, g3⟩, g4⟩ := h2
      subst h1
      refine ⟨?_, fun x => rfl⟩
      cases tg with
      | Tuple elts kk tpos =>
        have hes : chkEs B (.cons a (.cons b (.cons c (.cons d .nil)))) sc ow [e1, e2, e3, e4] = true := by simp only [chkEs, Bool.and_eq_true]; exact ⟨⟨n1, m1⟩, ⟨⟨n2, m2⟩, ⟨⟨n3, m3⟩, ⟨⟨n4, m4⟩, trivial⟩⟩⟩⟩
        refine PI.weak (VZ.pi_zipG (gl_of S g1) (S.blt _ g2) (sndA S _ _ ih hes) (star_cons n1) (by rw [star_cons n2, star_cons n3, star_cons n4]; rfl)) fun σ H Q q => ?_
        obtain ⟨env, fr, R, q⟩ := q
        refine tA_of R (evs_len _ q) fun rs e1 vs H' ⟨hl, q1⟩ R1 => ?_
        obtain ⟨xs, e2, q2, hx, R2⟩ := vals_snd R1 q1
        obtain ⟨u0, u1, u2, u3, rfl, q3⟩ := itW_zip4 q2 (by rw [hx, paths_len R1.paths, hl]; rfl)
        rw [rows4] at q3
        exact zip_go (xss := [u0, u1, u2, u3]) ⟨by simp, by simp⟩ R2 hx fun src => q3 _ _ _ (walks_zipG (by simp) src)
      | _ => cases h3
  | zipN =>
    match as, e, h with
    | .cons a (.cons b .nil), .Call (.Name x p) [e1, e2] [] pos, h =>
      simp only [chkI, Bool.and_eq_true, decide_eq_true_eq] at h
      obtain ⟨⟨⟨h1, h2⟩, h3⟩, ⟨h4, h5⟩, h6, h7⟩ := h
      unfold gnOk at h2
      simp only [Bool.and_eq_true, decide_eq_true_eq, Bool.not_eq_true'] at h2
      obtain ⟨⟨⟨g1, g2⟩, g3⟩, g4⟩ := h2
      subst h1
      refine ⟨?_, fun x => rfl⟩
      cases tg with
      | Name nm tpos =>
        have hes : chkEs B (.cons a (.cons b .nil)) sc ow [e1, e2] = true := by simp only [chkEs, Bool.and_eq_true]; exact ⟨⟨h4, h5⟩, ⟨h6, h7⟩, trivial⟩
        refine PI.weak (VZ.pi_zipG (gl_of S g1) (S.blt _ g2) (sndA S _ _ ih hes) (star_cons h4) (by rw [star_cons h6]; rfl)) fun σ H Q q => ?_
        obtain ⟨env, fr, R, q⟩ := q
        refine tA_of R (evs_len _ q) fun rs e1 vs H' ⟨hl, q1⟩ R1 => ?_
        obtain ⟨xs, e2, q2, hx, R2⟩ := vals_snd R1 q1
        obtain ⟨us, ws, rfl, q3⟩ := itW_zipN q2
        rw [rows2] at q3
        exact zip_go (xss := [us, ws]) ⟨by simp, by simp⟩ R2 hx fun src => q3 _ _ _ (walks_zipG (by simp) src)
      | _ => cases h3
  | enum =>
    match as, e, h with
    | .cons a .nil, .Call (.Name x p) [e1] [] pos, h =>
      simp only [chkI, Bool.and_eq_true, decide_eq_true_eq] at h
      obtain ⟨⟨⟨h1, h2⟩, h3⟩, h4, h5⟩ := h
      unfold gnOk at h2
      simp only [Bool.and_eq_true, decide_eq_true_eq, Bool.not_eq_true'] at h2
      obtain ⟨⟨⟨g1, g2⟩, g3⟩, g4⟩ := h2
      subst h1
      refine ⟨?_, fun x => rfl⟩
      cases tg with
      | Tuple elts kk tpos =>
        have hes : chkEs B (.cons a .nil) sc ow [e1] = true := by simp only [chkEs, Bool.and_eq_true]; exact ⟨⟨h4, h5⟩, trivial⟩
        refine PI.weak (pi_enum (gl_of S g1) (S.blt _ g2) (sndA S _ _ ih hes) (star_cons h4)) fun σ H Q q => ?_
        obtain ⟨env, fr, R, q⟩ := q
        refine tA_of R (evs_len _ q) fun rs e1 vs H' ⟨hl, q1⟩ R1 => ?_
        obtain ⟨xs, e2, q2, hx, R2⟩ := vals_snd R1 q1
        obtain ⟨us, rfl, q3⟩ := itW_enum q2
        match vs, hx, R2 with
        | [v], _, R2 =>
          have R3 : RelX C X.K H' e2 σ ((v, .d (.lst us)) :: fr) := R2
          obtain ⟨pa, as', ea, ha, _⟩ := R3.top.rep
          subst ea
          exact ⟨pa, as', rfl, .inl (.of ha), q3 _ _ _ walks_enum R3⟩
      | _ => cases h3
  | items =>
    match as, e, h with
    | .cons a .nil, .Call (.Attribute o nm apos) [] [] pos, h =>
      simp only [chkI, Bool.and_eq_true, decide_eq_true_eq] at h
      obtain ⟨⟨⟨⟨h1, h2⟩, h3⟩, h4⟩, h5⟩ := h
      subst h1
      refine ⟨?_, fun x => rfl⟩
      cases tg with
      | Tuple elts kk tpos =>
        refine PI.weak (VDI.pi_pairs (ih.1 S o h4).1 (base_of h3) h5) fun σ H Q q => ?_
        obtain ⟨env, fr, R, q⟩ := q
        refine tE_one R q fun rs e v H' q1 R1 => ?_
        obtain ⟨xs, e2, q2, hx, R2⟩ := vals_snd R1 q1
        obtain ⟨ks, us, rfl, q3⟩ := itW_items q2
        have R3 : RelX C X.K H' e2 σ ((v, .d (.dic true ks us)) :: fr) := R2
        obtain ⟨p, _, ev, _, hkk, _⟩ := R3.top.rep
        subst ev
        obtain ⟨ws, ⟨k1, k2⟩, k3⟩ := R3.top.lock
        have e1 : ks.length = us.length := hkk.2
        have back : ∀ {H2 : Hp} {o : Obj}, Rel C X.K H2 ((.ref p, .lock o true ks ws us) :: (pr e2 σ ++ fr)) → RelX C X.K H2 e2 σ ([(.ref p, .lock o true ks ws us)] ++ fr) := fun r => ⟨R3.len, R3.has, r.perm List.perm_middle.symm⟩
        refine ⟨p, (ks.map toKeyT).zip ws, rfl, ?_⟩
        rcases k3 with ⟨hd, k3⟩ | ⟨o, hd, k3⟩
        · exact .inl ⟨hd, fun o => q3 _ _ _ (walks_items e1 k2) (back (k3 o))⟩
        · exact .inr ⟨o, hd, q3 _ _ _ (walks_items e1 k2) (back k3)⟩
      | _ => cases h2
  | _ => cases as <;> simp [chkI] at h
theorem sndO {X : Cx} {sc : Scope} (S : Sup B C Γ sc none X) {en : Bool} {i : Nat} {tg e : Expr} (hv : Snd B C Γ (.var i)) (ih : AllS B C Γ (.cons (.var i) .nil)) (h : chkI B (if en = true then .enum else .seq) (.cons (.var i) .nil) sc none tg e = true) : PI X tg e (tO C X.K en i) ∧ ∀ x, foldedSetIterable e X.env x = pure x := by
  cases en with
  | false =>
    have h' : chkI B .seq (.cons (.var i) .nil) sc none tg e = true := h
    refine ⟨?_, (sndI S ih h').2⟩
    simp only [chkI, Bool.and_eq_true] at h'
    refine PI.weak (pi_seq (hv S e h'.1).1) fun σ H Q q => ?_
    obtain ⟨env, fr, xs, R, hs, q⟩ := q
    refine ⟨env, fr, R, ?_⟩
    unfold ev
    rw [hs]
    show ∀ v H', RelR C X.K H' env σ fr v (.path i) → _
    intro v H' R1
    obtain ⟨R2, hv, _⟩ := R1
    obtain ⟨a, ws, e1, e2⟩ := own_ref R2 hs
    rw [e1] at hv
    cases hv
    exact ⟨a, rfl, .inl ⟨⟨ws, .inl (.of e2)⟩, q a H' R2 e1⟩⟩
  | true =>
    have h' : chkI B .enum (.cons (.var i) .nil) sc none tg e = true := h
    refine ⟨?_, (sndI S ih h').2⟩
    match e, h' with
    | .Call (.Name x p) [e1] [] pos, h' =>
      simp only [chkI, Bool.and_eq_true, decide_eq_true_eq] at h'
      obtain ⟨⟨⟨h1, h2⟩, h3⟩, h4, h5⟩ := h'
      unfold gnOk at h2
      simp only [Bool.and_eq_true, decide_eq_true_eq, Bool.not_eq_true'] at h2
      obtain ⟨⟨⟨g1, g2⟩, g3⟩, g4⟩ := h2
      subst h1
      cases tg with
      | Tuple elts kk tpos =>
        have hes : chkEs B (.cons (.var i) .nil) sc none [e1] = true := by simp only [chkEs, Bool.and_eq_true]; exact ⟨⟨h4, h5⟩, trivial⟩
        refine PI.weak (pi_enum (gl_of S g1) (S.blt _ g2) (sndA S _ _ ih hes) (star_cons h4)) fun σ H Q q => ?_
        obtain ⟨env, fr, xs, R, hs, q⟩ := q
        refine ⟨env, fr, R, ?_⟩
        unfold evs ev
        rw [hs]
        show evs Γ .nil env E0x _
        unfold evs
        intro vs H' R1
        match vs, R1 with
        | [v], R1 =>
          have R2 : RelX C X.K H' env σ fr := R1.rel
          have hv : σ[i]? = some (some v) := R1.paths.1
          obtain ⟨a, ws, e1, e2⟩ := own_ref R2 hs
          rw [e1] at hv
          cases hv
          exact ⟨a, ws, rfl, .inl (.of e2), q a H' R2 e1⟩
        | [], R1 => exact R1.paths.elim
        | _ :: _ :: _, R1 => exact R1.paths.2.elim
      | _ => cases h3
end
end VE
/-! VEM: objects of own classes, isinstance, dicts -/
namespace VE
open PySem PySem.Spec PyProof.Rows L2
section
variable {B : Tb} {C : CT} {Γ : Gam}
theorem snd_dic0 (t : Bool) : Snd B C Γ (.dic0 t) := by
  intro X sc ow S e h
  cases e with
  | Dict ks vs pos =>
    cases ks with
    | cons _ _ => simp [chkE] at h
    | nil =>
      cases vs with
      | cons _ _ => simp [chkE] at h
      | nil =>
        have go : ∀ {σ : L2.St} {H : Hp} {Q : VK} (p : Addr), tE C X.K Γ (.dic0 t) σ H Q → H p = none → Q (.ref p) (L2.upd H p (dHO t [] [])) := by
          intro σ H Q p q hp
          obtain ⟨env, fr, R, q⟩ := q
          unfold ev at q
          exact q _ _ (RelX.made (xs := []) (vs := []) (o := .dic t [] []) R rfl fun G hr => .dic hp ⟨by cases t <;> rfl, rfl⟩ hr)
        cases t with
        | false => exact pt_plain (PE.weak pe_dnewK fun σ H Q q p hp => go p q hp) rfl
        | true => exact pt_plain (PE.weak pe_dnewT fun σ H Q q p hp => go p q hp) rfl
  | _ => simp [chkE] at h
theorem snd_call0 (f : Nat) : Snd B C Γ (.call0 f) := by
  intro X sc ow S e h
  cases e with
  | Call g es ks pos =>
    cases g with
    | Name x p =>
      cases es with
      | cons _ _ => simp [chkE] at h
      | nil =>
        cases ks with
        | cons _ _ => simp [chkE] at h
        | nil =>
          simp only [chkE, Bool.and_eq_true, decide_eq_true_eq, Bool.not_eq_true'] at h
          obtain ⟨⟨⟨h1, h2⟩, h3⟩, h4⟩ := h
          obtain ⟨k, ad, fd, ps, F, hr, hm, hk, hb⟩ := S.fn f x h1
          refine pt_plain (PE.weak (pe_call0 F hr (gl_of S h2) hm hk hb .nil (E := fun _ _ _ => False) (fun _ _ _ _ _ _ _ h => h.elim) h3) fun σ H Q q => ?_) rfl
          obtain ⟨env, fr, R, q⟩ := q
          unfold ev at q
          show spOf C X.K (B.ar f) (Γ.fn f) ([] ++ []) H Q (fun _ _ _ => False)
          refine ⟨h4.symm, pr env σ ++ fr, [], h4.symm, R.rel, callW.mono q (fun o os' hos q v H2 R3 => ?_) fun _ _ z => z⟩
          have e : os' = [] := List.eq_nil_of_length_eq_zero hos
          subst e
          exact q v H2 ⟨R.len, R.has, Rel.perm (L := (v, o) :: (pr env σ ++ fr)) R3 List.perm_middle.symm⟩
    | _ => simp [chkE] at h
  | _ => simp [chkE] at h
theorem cls_at {K : PySem.W.Frag} {H : Hp} {env : Ev} {σ : Sg} {fr : Prs} {v : V} {r : R} {k : Nat → Prop} (R1 : RelR C K H env σ fr v r) (h : clsK env r k) : ∃ c p dx vs, v = .ref p ∧ H p = some (.ins (C.addr c) dx ((C.names c).zip vs)) ∧ k c := by
  unfold clsK at h
  have key : ∀ o, getR env r = some o → ∃ G, Same G H ∧ Top C K H G o.toD v := by
    intro o ho
    cases r with
    | obj x =>
      cases ho
      have R2 : RelX C K H env σ ((v, o) :: fr) := R1
      obtain ⟨G, S', g, ⟨S1, S2, e2, h1, k1⟩, nd, no⟩ := R2.top
      exact ⟨G, g, own.top h1 g⟩
    | path i =>
      have R2 : RelX C K H env σ fr ∧ σ[i]? = some (some v) ∧ _ := R1
      obtain ⟨Rb, hv, _⟩ := R2
      have P := pr_take (show slot env i = some o from ho) hv
      have R3 : Rel C K H ((v, o) :: (pr (env.set i none) σ ++ fr)) := Rb.rel.perm (P.append_right fr)
      obtain ⟨G, S', g, ⟨S1, S2, e2, h1, k1⟩, nd, no⟩ := R3
      exact ⟨G, g, own.top h1 g⟩
  split at h
  · rename_i c fs ho
    obtain ⟨G, g, t⟩ := key _ ho
    obtain ⟨p, dx, vs, e, hp, _⟩ := (show Top C K H G (.ins c (O.toDs fs)) v from t)
    exact ⟨c, p, dx, vs, e, hp, h⟩
  · rename_i c fs ho
    obtain ⟨G, g, t⟩ := key _ ho
    obtain ⟨p, dx, vs, e, hp, _⟩ := (show Top C K H G (.ins c fs) v from t)
    exact ⟨c, p, dx, vs, e, hp, h⟩
  · exact h.elim
theorem dic_at {K : PySem.W.Frag} {H : Hp} {env : Ev} {σ : Sg} {fr : Prs} {v : V} {r : R} (R1 : RelR C K H env σ fr v r) (h : dicAt env r) : ∃ p, v = .ref p ∧ IsD H p := by
  unfold dicAt at h
  cases ho : getR env r with
  | none => rw [ho] at h; exact h.elim
  | some o =>
    rw [ho] at h
    have key : ∃ G, Same G H ∧ Top C K H G o.toD v := by
      cases r with
      | obj x =>
        cases ho
        have R2 : RelX C K H env σ ((v, o) :: fr) := R1
        obtain ⟨G, S', g, ⟨S1, S2, e2, h1, k1⟩, nd, no⟩ := R2.top
        exact ⟨G, g, own.top h1 g⟩
      | path i =>
        have R2 : RelX C K H env σ fr ∧ σ[i]? = some (some v) ∧ _ := R1
        obtain ⟨Rb, hv, _⟩ := R2
        have P := pr_take (show slot env i = some o from ho) hv
        have R3 : Rel C K H ((v, o) :: (pr (env.set i none) σ ++ fr)) := Rb.rel.perm (P.append_right fr)
        obtain ⟨G, S', g, ⟨S1, S2, e2, h1, k1⟩, nd, no⟩ := R3
        exact ⟨G, g, own.top h1 g⟩
    obtain ⟨G, g, t⟩ := key
    have h' : isDic o.toD := h
    cases hd : o.toD with
    | dic b ks xs =>
      rw [hd] at t
      obtain ⟨p, vs, e, hp, _⟩ := t
      refine ⟨p, e, ?_⟩
      cases b with
      | false => exact .inl ⟨_, hp⟩
      | true => exact .inr ⟨_, hp⟩
    | _ => rw [hd] at h'; exact h'.elim
theorem meth_ht {o : Expr} {m : Str} {apos pos : Pos} {es : List Expr} {env : Env} (hb : plainO o = true) (few : methodCallForm (es.length + ([] : List Keyword).length) (backTo pos (starEach es env)) (backToKw pos (keywordEach [] env)) = true) (hl : (apos.endLine == pos.line) = true) :
    eval (.Call (.Attribute o m apos) es [] pos) env = (do
      let ov ← eval o env
      standAt apos.atName
      let (f, first) ← holding [ov] (getMethod ov m (do return (← importBound o env).getD true))
      callWith pos f first (backTo pos (starEach es env)) (backToKw pos (keywordEach [] env))) := by
  show (do
    let ov ← attributeBase o m env (eval o env)
    standAt apos.atName
    methodCall o m apos pos env ov (es.length + ([] : List Keyword).length) (backTo pos (starEach es env)) (backToKw pos (keywordEach [] env))) = _
  rw [base_of hb]
  unfold methodCall
  rw [few]
  have e : methodCallPos true o env apos pos = pure pos := by
    unfold methodCallPos
    rw [hl]; rfl
  rw [e]
  rfl
theorem star_few {pos : Pos} {env : Env} {B : Tb} {sc : Scope} {ow : Option Scope} : ∀ {as : Ts} {es : List Expr}, chkEs B as sc ow es = true → (backTo pos (starEach es env)).all (fun x => !x.1) = true
  | .nil, [], _ => rfl
  | .nil, _ :: _, h => by simp [chkEs] at h
  | .cons _ _, [], h => by simp [chkEs] at h
  | .cons a as, e :: es, h => by
    simp only [chkEs, Bool.and_eq_true] at h
    rw [star_cons h.1.1]
    show (true && (backTo pos (starEach es env)).all (fun x => !x.1)) = true
    rw [star_few h.2]; rfl
/-- the promise of what is called, handed to the layer -/
theorem sp_call {X : Cx} {K : PySem.W.Frag} {n : Nat} {f : Nat} {rs : List R} {vs : List V} {os : List O} {e1 : Ev} {σ : L2.St} {fr : Prs} {H' : Hp} {Q : VK} {k : R → Ev → Prop} (ln : vs.length = n) (ap : apart rs [] = true) (eo : opsO e1 rs = some os) (R1 : RelRs C K H' e1 σ fr vs rs)
    (q1 : callW (Γ.fn f) os (fun o os' => k (.obj o) (puts e1 rs os')) (fun _ _ => False)) (hk : ∀ o e v H', k (.obj o) e → RelX C K H' e σ ((v, o) :: fr) → Q v H') : spOf C K n (Γ.fn f) vs H' Q (fun _ _ _ => False) := by
  have lo := opsO_len eo
  have lv := paths_len R1.paths
  have R2 := call_out (is := []) ap eo R1.paths R1.rel
  refine ⟨ln, pr (holes e1 rs) σ ++ fr, os, by rw [lo, ← lv, ln], R2.rel.perm ?_, callW.mono q1 (fun o os' hos q v H2 R3 => ?_) fun _ _ z => z⟩
  · rw [← List.append_assoc, ← List.append_assoc]
    exact List.Perm.append_right fr List.perm_append_comm
  · refine hk o _ v H2 q ?_
    show RelX C K H2 (puts e1 rs os') σ ((v, o) :: fr)
    rw [← puts_holes (is := []) ap (by rw [hos, lo])]
    refine call_in (by rw [hos, lo]) R1.paths ⟨R2.len, R2.has, R3.perm ?_⟩
    refine List.Perm.trans ?_ (List.perm_append_comm_assoc _ _ _)
    refine List.Perm.trans (List.perm_middle (l₁ := vs.zip os') (a := (v, o)) (l₂ := pr (holes e1 rs) σ ++ fr)).symm ?_
    exact List.Perm.append_left _ List.perm_middle.symm
theorem lookup_all {l : List (Nat × Nat)} {c f : Nat} {p : Nat × Nat → Bool} (h : l.all p = true) (e : l.lookup c = some f) : p (c, f) = true := by
  induction l with
  | nil => simp at e
  | cons a l ih =>
    obtain ⟨c', f'⟩ := a
    simp only [List.all_cons, Bool.and_eq_true] at h
    rw [List.lookup_cons] at e
    split at e
    · rename_i q
      cases e
      rw [beq_iff_eq.mp q]; exact h.1
    · exact ih h.2 e
theorem snd_meth {l : List (Nat × Nat)} {m : Str} {r : T} {as : Ts} (hr : Snd B C Γ r) (ih : AllS B C Γ as) : Snd B C Γ (.meth l m r as) := by
  intro X sc ow S e h
  cases e with
  | Call g es ks pos =>
    cases g with
    | Attribute o nm apos =>
      cases ks with
      | cons _ _ => cases as <;> cases es <;> simp [chkE] at h
      | nil =>
        have go : ∀ {n : Nat} {σ : L2.St} {H : Hp} {Q : VK}, as.len = n → tE C X.K Γ (.meth l m r as) σ H Q → (l.all fun p => B.me p.1 p.2 m && decide (B.ar p.2 = n + 1)) = true → tE C X.K Γ r σ H fun x H1 => ∃ c f p dx vs, x = .ref p ∧ H1 p = some (.ins (C.addr c) dx ((C.names c).zip vs)) ∧ (B.me c f m = true ∧ B.ar f = n + 1) ∧
            tA C X.K Γ as σ H1 fun ws H2 => spOf C X.K (B.ar f) (Γ.fn f) (x :: (ws ++ [])) H2 Q (fun _ _ _ => False) := by
          intro n σ H Q hn q ha
          obtain ⟨env, fr, R, q⟩ := q
          unfold ev at q
          refine tE_of R q fun r0 e0 x H1 q1 R1 => ?_
          obtain ⟨c, p, dx, vs, ex, hp, q2⟩ := cls_at R1 q1
          split at q2
          · rename_i f hf
            have hm := lookup_all ha hf
            simp only [Bool.and_eq_true, decide_eq_true_eq] at hm
            refine ⟨c, f, p, dx, vs, ex, hp, hm, ?_⟩
            refine tA_of R1.nrm.frm (evs_len _ q2) fun rs e1 ws H2 ⟨hl, q3⟩ R2 => ?_
            have R3 : RelRs C X.K H2 e1 σ fr (x :: ws) (r0.nrm :: rs) := RelRs.cons (by
              cases r0 with
              | obj oo => exact R1.nrm
              | path i => exact R1.nrm) R2
            split at q3
            · rename_i os eo
              rw [List.append_nil]
              refine sp_call (X := X) (k := fun r e => ∀ v H', RelR C X.K H' e σ fr v r → Q v H') ?_ q3.1 eo R3 q3.2 fun o e v H' k R => k v H' R
              rw [List.length_cons, paths_len R2.paths, hl, hn, hm.2]
            · exact q3.elim
          · exact q2.elim
        cases as with
        | nil =>
          cases es with
          | cons _ _ => simp [chkE] at h
          | nil =>
            simp only [chkE, Bool.and_eq_true, decide_eq_true_eq] at h
            obtain ⟨⟨⟨⟨h1, h2⟩, h3⟩, h4⟩, h5⟩ := h
            subst h1
            refine pt_plain ⟨fun pins s σ H Q I q => ?_⟩ rfl
            have q' := go (n := 0) rfl q (by simpa using h2)
            -- by what the receiver's class is
            refine PySem.W.methodCall_KW (thn ((hr S o h4).1.run pins s σ H _ I q') fun u s1 ⟨x, H1, I1, rx, c, f, p, dx, vs, ex, hp, hm, q2⟩ => ?_) (meth_ht h3 rfl h5)
            obtain ⟨hn, k, a, fd, ps, hc, hM, F, hroom, hb⟩ := S.me c f _ hm.1
            subst ex
            obtain rfl : u = Value.ref p := rx
            refine getmeth_ok I1 hp hc hM (hn _) ?_
            obtain ⟨env, fr, R, q3⟩ := q2
            unfold evs at q3
            have q4 := q3 [] H1 (relRs_nil R)
            exact PySem.W.callWith_K0 (first := [.ref p]) I1.kIn hM.kp (run_fn (CX := CX0) (E := fun _ _ _ => False) (us := [.ref p]) (vs := [.ref p]) F hroom hb .nil (fun _ _ _ _ _ _ _ h => h.elim) I1 (.cons rfl .nil) q4)
        | cons a as =>
          cases es with
          | nil => simp [chkE] at h
          | cons e es =>
            simp only [chkE, Bool.and_eq_true, decide_eq_true_eq] at h
            obtain ⟨⟨⟨⟨⟨⟨h1, h2⟩, h3⟩, h4⟩, h5⟩, h6⟩, ⟨h7, h8⟩, h9⟩ := h
            subst h1
            have hes : chkEs B (.cons a as) sc ow (e :: es) = true := by simp only [chkEs, Bool.and_eq_true]; exact ⟨⟨h7, h8⟩, h9⟩
            refine pt_plain ⟨fun pins s σ H Q I q => ?_⟩ rfl
            have q' := go (n := es.length + 1) (chk_len hes) q (by simpa using h2)
            have few : methodCallForm ((e :: es).length + ([] : List Keyword).length) (backTo pos (starEach (e :: es) X.env)) (backToKw pos (keywordEach [] X.env)) = true := by
              unfold methodCallForm
              rw [star_few hes]
              show decide (es.length + 1 + 0 + 0 < 30) = true
              exact decide_eq_true (by omega)
            refine PySem.W.methodCall_KW (thn ((hr S o h4).1.run pins s σ H _ I q') fun u s1 ⟨x, H1, I1, rx, c, f, p, dx, vs, ex, hp, hm, q2⟩ => ?_) (meth_ht h3 few h5)
            obtain ⟨hn, k, ad, fd, ps, hc, hM, F, hroom, hb⟩ := S.me c f _ hm.1
            subst ex
            obtain rfl : u = Value.ref p := rx
            refine getmeth_ok I1 hp hc hM (hn _) ?_
            refine PySem.W.callWith_K (first := [.ref p]) (h₀ := X.base) I.ok.mod.kin hM.kp (thn ((sndA S _ _ ih hes).run pos pins s1 σ H1 _ I1 q2) fun us s2 ⟨vs, H2, I2, r, q3⟩ => ⟨I2.kIn, ?_⟩) (star_cons h7) (star_any h9)
            exact run_fn (CX := CX0) (E := fun _ _ _ => False) (us := .ref p :: us) (vs := .ref p :: vs) F hroom hb .nil (fun _ _ _ _ _ _ _ h => h.elim) I2 (.cons rfl r) q3
    | _ => cases as <;> cases es <;> cases ks <;> simp [chkE] at h
  | _ => cases as <;> simp [chkE] at h
/-- a new instance among what stands -/
theorem rel_new {K : PySem.W.Frag} {H : Hp} {L : Prs} {x dx : Addr} {c : Nat} (R : Rel C K H L) (hx : H x = none) (hd : H dx = none) (ne : dx ≠ x) : Rel C K (L2.upd (L2.upd H dx (.own x)) x (.ins (C.addr c) dx [])) ((.ref x, .ins c []) :: L) := by
  obtain ⟨G, S, g, k, nd, no⟩ := R
  obtain ⟨n1, n2⟩ := own_there g k hx
  obtain ⟨n3, n4⟩ := own_there g k hd
  have out : ∀ q, q ≠ x → q ≠ dx → (L2.upd (L2.upd H dx (.own x)) x (.ins (C.addr c) dx [])) q = H q := fun q h1 h2 => by rw [upd_ne h1, upd_ne h2]
  refine ⟨G, x :: S, fun q u e => ?_, ⟨[x], S, rfl, ⟨x, dx, [], [], rfl, rfl, ?_, Nat.zero_le _, rfl, rfl⟩, ownL.keep L S k (fun q hq => out q (fun e => n1 (e ▸ hq)) (fun e => n3 (e ▸ hq))) (Same.refl G)⟩, List.nodup_cons.mpr ⟨n1, nd⟩, fun q hq => ?_⟩
  · rw [out q (fun z => by rw [z, n2] at e; cases e) (fun z => by rw [z, n4] at e; cases e)]
    exact g _ _ e
  · rw [upd_same, List.zip_nil_right]
  · rcases List.mem_cons.mp hq with rfl | hq
    · exact n2
    · exact no q hq
theorem snd_new {c f : Nat} {fz : Bool} {as : Ts} (ih : AllS B C Γ as) : Snd B C Γ (.new c f fz as) := by
  intro X sc ow S e h
  have go : ∀ {n : Nat} {σ : L2.St} {H : Hp} {Q : VK}, as.len = n → B.ar f = n + 1 → tE C X.K Γ (.new c f fz as) σ H Q → tMake (C.addr c) (spOf C X.K (B.ar f) (Γ.fn f)) [] (fun _ _ _ => False) (tA C X.K Γ as) σ H Q := by
    intro n σ H Q hn ha q
    obtain ⟨env, fr, R, q⟩ := q
    unfold ev at q
    refine tA_of R (evs_len _ q) fun rs e1 vs H1 ⟨hl, q1⟩ R1 x dx hx hd ne => ?_
    split at q1
    · rename_i os eo
      obtain ⟨ap, q1⟩ := q1
      have lo := opsO_len eo
      have lv := paths_len R1.paths
      have R2 := call_out (is := []) ap eo R1.paths R1.rel
      have R3 := rel_new (c := c) R2.rel hx hd ne
      rw [List.append_nil]
      refine ⟨by rw [List.length_cons, lv, hl, hn, ha], pr (holes e1 rs) σ ++ fr, .ins c [] :: os, by rw [List.length_cons, lo, hl, hn, ha], R3.perm ?_, callW.mono q1 (fun o os' hos q v H2 R4 => ?_) fun _ os' z => ?_⟩
      · refine List.Perm.cons _ ?_
        show (pr (holes e1 rs) σ ++ (vs.zip os ++ fr)).Perm (vs.zip os ++ (pr (holes e1 rs) σ ++ fr))
        exact List.perm_append_comm_assoc _ _ _
      · obtain ⟨e2, q⟩ := q
        subst e2
        have ev : v = .non := R4.rep
        refine ⟨ev, ?_⟩
        cases os' with
        | nil => exact q.elim
        | cons self r =>
          have q' : ∀ v H', RelR C X.K H' (puts e1 rs r) σ fr v (.obj (if fz then .d self.toD else self)) → Q v H' := q
          refine q' (.ref x) H2 ?_
          have hr : r.length = os.length := by simpa using hos
          show RelX C X.K H2 (puts e1 rs r) σ ((.ref x, if fz then .d self.toD else self) :: fr)
          rw [← puts_holes (is := []) ap (by rw [hr, lo])]
          have R5 : Rel C X.K H2 ((.ref x, self) :: (vs.zip r ++ (pr (holes e1 rs) σ ++ fr))) := R4.drop
          have R6 : Rel C X.K H2 ((.ref x, if fz then .d self.toD else self) :: (vs.zip r ++ (pr (holes e1 rs) σ ++ fr))) := by
            cases fz with
            | false => exact R5
            | true => exact R5.freeze
          refine call_in (by rw [hr, lo]) R1.paths ⟨R2.len, R2.has, R6.perm ?_⟩
          refine List.Perm.trans ?_ (List.perm_append_comm_assoc _ _ _)
          refine List.Perm.trans (List.perm_middle (l₁ := vs.zip r) (l₂ := pr (holes e1 rs) σ ++ fr)).symm ?_
          exact List.Perm.append_left _ List.perm_middle.symm
      · cases os' with
        | nil => exact z
        | cons _ r => exact z
    · exact q1.elim
  cases e with
  | Call g es ks pos =>
    cases g with
    | Name x p =>
      cases ks with
      | cons _ _ => cases as <;> cases es <;> simp [chkE] at h
      | nil =>
        cases as with
        | nil =>
          cases es with
          | cons _ _ => simp [chkE] at h
          | nil =>
            simp only [chkE, Bool.and_eq_true, decide_eq_true_eq, Bool.not_eq_true'] at h
            obtain ⟨⟨⟨h1, h2⟩, h3⟩, h4⟩ := h
            obtain ⟨k, ad, fd, ps, M, F, hr, hm, hb⟩ := S.nw c f x h1
            refine pt_plain (PE.weak (pe_make0 M F hr (gl_of S h2) hm hb .nil (E := fun _ _ _ => False) (fun _ _ _ _ _ _ _ h => h.elim) h3) fun σ H Q q => ?_) rfl
            have q2 := go (n := 0) rfl h4 q
            obtain ⟨env, fr, R, q3⟩ := q2
            unfold evs at q3
            exact q3 [] H (relRs_nil R)
        | cons a as =>
          cases es with
          | nil => simp [chkE] at h
          | cons e es =>
            simp only [chkE, Bool.and_eq_true, decide_eq_true_eq, Bool.not_eq_true'] at h
            obtain ⟨⟨⟨⟨h1, h2⟩, h3⟩, h4⟩, ⟨h5, h6⟩, h7⟩ := h
            have hes : chkEs B (.cons a as) sc ow (e :: es) = true := by simp only [chkEs, Bool.and_eq_true]; exact ⟨⟨h5, h6⟩, h7⟩
            obtain ⟨k, ad, fd, ps, M, F, hr, hm, hb⟩ := S.nw c f x h1
            exact pt_plain (PE.weak (pe_make M F hr (gl_of S h2) hm hb .nil (E := fun _ _ _ => False) (fun _ _ _ _ _ _ _ h => h.elim) (sndA S _ _ ih hes) h3 (star_cons h5) (star_any h7)) fun σ H Q q => go (n := es.length + 1) (chk_len hes) (by rw [h4]) q) rfl
    | _ => cases as <;> cases es <;> cases ks <;> simp [chkE] at h
  | _ => cases as <;> simp [chkE] at h
/-- what isinstance answers -/
theorem isi_ok {X : Cx} {H G : Hp} {n : String} {d : D} {v : V} {k : Bool → Prop} (g : Same G H) (t : Top C X.K H G d v) (h : isiW (.b n) d k) : ∃ (ty : Value) (b : Bool), TyX X.K H v ty ∧ PySem.W.kitOne X.K ty (.type n) = some b ∧ k b := by
  unfold isiW at h
  split at h
  · rename_i e; cases e; cases t; exact ⟨_, _, .base (.int _), kit_ty (by decide +kernel), h⟩
  · rename_i e; cases e; cases t; exact ⟨_, _, .base (.bl _), kit_ty (by decide +kernel), h⟩
  · rename_i e; cases e; obtain ⟨p, vs, e, hp, _⟩ := t; subst e; exact ⟨_, _, .base (.tup (g _ _ hp)), kit_ty (by decide +kernel), h⟩
  · rename_i e; cases e; cases t; exact ⟨_, _, .base (.str _), kit_ty (by decide +kernel), h⟩
  · rename_i e; cases e; cases t; exact ⟨_, _, .base (.int _), kit_ty (by decide +kernel), h⟩
  · rename_i e; cases e; cases t; exact ⟨_, _, .base (.bl _), kit_ty (by decide +kernel), h⟩
  · rename_i e; cases e; obtain ⟨p, vs, e, hp, _⟩ := t; subst e; exact ⟨_, _, .base (.tup (g _ _ hp)), kit_ty (by decide +kernel), h⟩
  · rename_i e; cases e; obtain ⟨p, vs, e, hp, _⟩ := t; subst e; exact ⟨_, _, .base (.tup (g _ _ hp)), kit_ty (by decide +kernel), h⟩
  · rename_i e; cases e; cases t; exact ⟨_, _, .base (.int _), kit_ty (by decide +kernel), h⟩
  · rename_i e; cases e; obtain ⟨p, vs, e, hp, _⟩ := t; subst e; exact ⟨_, _, .base (.lst hp), kit_ty (by decide +kernel), h⟩
  · rename_i e; cases e; cases t; exact ⟨_, _, .base (.str _), kit_ty (by decide +kernel), h⟩
  · rename_i e; cases e
  · exact h.elim
theorem isi_own_is {c : Nat} {d : D} {k : Bool → Prop} (h : isiW (.own c) d k) : ∃ fs, d = .ins c fs ∧ k true := by
  cases d with
  | ins c' fs =>
    have h2 : c' = c ∧ k true := h
    exact ⟨fs, by rw [h2.1], h2.2⟩
  | _ => exact h.elim
theorem snd_isiO {a : T} {c : Nat} (ha : Snd B C Γ a) : Snd B C Γ (.isi a (.own c)) := by
  intro X sc ow S e h
  simp only [chkE] at h
  split at h
  · rename_i x e y he
    obtain ⟨p, p2, pos, rfl⟩ := e_isi_is he
    simp only [Bool.and_eq_true, decide_eq_true_eq, Bool.not_eq_true'] at h
    obtain ⟨⟨⟨⟨⟨h1, h2⟩, h3⟩, h4⟩, h5⟩, h6, h7⟩ := h
    subst h1
    unfold gnOk at h2
    simp only [Bool.and_eq_true, decide_eq_true_eq, Bool.not_eq_true'] at h2
    obtain ⟨oc, cl, hm⟩ := S.ow c y h3
    have py : PE X (.Name y p2) (tC (.ref (C.addr c))) := pe_glob (gl_of S h4) hm (show RelV (.ref (C.addr c)) (.ref (C.addr c)) from rfl) h5
    refine pt_plain (PE.weak (pe_callB call_isi (gl_of S h2.1.1.1) (S.blt _ h2.1.1.2) (by decide +kernel) (pa_cons (ha S e h7).1 (pa_cons py pa_nil rfl) (star_cons h6)) (by decide) (by decide) (star_cons h6) rfl) fun σ H Q q => ?_) rfl
    obtain ⟨env, fr, R, q⟩ := q
    unfold ev at q
    refine tE_of R q fun r e1 v H1 q1 R1 => ?_
    cases ho : getR e1 r with
    | none => rw [ho] at q1; exact q1.elim
    | some o =>
      rw [ho] at q1
      have key : ∃ G, Same G H1 ∧ Top C X.K H1 G o.toD v := by
        cases r with
        | obj x =>
          cases ho
          have R2 : RelX C X.K H1 e1 σ ((v, o) :: fr) := R1
          obtain ⟨G, S', g, ⟨S1, S2, e2, h1, k1⟩, nd, no⟩ := R2.top
          exact ⟨G, g, own.top h1 g⟩
        | path i =>
          have R2 : RelX C X.K H1 e1 σ fr ∧ σ[i]? = some (some v) ∧ _ := R1
          obtain ⟨Rb, hv, _⟩ := R2
          have P := pr_take (show slot e1 i = some o from ho) hv
          have R3 : Rel C X.K H1 ((v, o) :: (pr (e1.set i none) σ ++ fr)) := Rb.rel.perm (P.append_right fr)
          obtain ⟨G, S', g, ⟨S1, S2, e2, h1, k1⟩, nd, no⟩ := R3
          exact ⟨G, g, own.top h1 g⟩
      obtain ⟨G, g, t⟩ := key
      obtain ⟨fs, ed, q2⟩ := isi_own_is q1
      rw [ed] at t
      obtain ⟨p3, dx, vs, rfl, hp, _⟩ := t
      exact ⟨.ref p3, .ref (C.addr c), .ref (C.addr c), .ref (C.addr c), true, rfl, .own _, .base (.ins hp cl oc.cl oc.gt oc.tk oc.ob), by simp [PySem.W.kitOne], q2 (.bl true) H1 (R1.base.std fun G => rfl)⟩
  · cases h
theorem snd_isi {a : T} {q : Cl} (ha : Snd B C Γ a) : Snd B C Γ (.isi a q) := by
  intro X sc ow S e h
  cases q with
  | own c => exact snd_isiO ha S e h
  | b n =>
    cases e with
    | Call g es ks pos =>
      match g, es, ks, h with
      | .Name x p, [e, .Name y p2], [], h =>
        simp only [chkE, Bool.and_eq_true, decide_eq_true_eq] at h
        obtain ⟨⟨⟨⟨⟨h1, h2⟩, h3⟩, h4⟩, h5⟩, h6, h7⟩ := h
        subst h1
        unfold gnOk at h2 h4
        unfold bltOk at h5
        simp only [Bool.and_eq_true, decide_eq_true_eq, Bool.not_eq_true'] at h2 h4 h5
        have py : PE X (.Name y p2) (tC (.ty n)) := pe_bltn (v := .ty n) (gl_of S h4.1.1.1) (S.blt _ h4.1.1.2) h5 (show RelV (.ty n) (.type n) from rfl) h4.1.2 h4.2
        refine pt_plain (PE.weak (pe_callB call_isi (gl_of S h2.1.1.1) (S.blt _ h2.1.1.2) (by decide +kernel) (pa_cons (ha S e h7).1 (pa_cons py pa_nil rfl) (star_cons h6)) (by decide) (by decide) (star_cons h6) rfl) fun σ H Q q => ?_) rfl
        obtain ⟨env, fr, R, q⟩ := q
        unfold ev at q
        refine tE_of R q fun r e1 v H1 q1 R1 => ?_
        cases ho : getR e1 r with
        | none => rw [ho] at q1; exact q1.elim
        | some o =>
          rw [ho] at q1
          have key : ∃ G, Same G H1 ∧ Top C X.K H1 G o.toD v := by
            cases r with
            | obj x =>
              cases ho
              have R2 : RelX C X.K H1 e1 σ ((v, o) :: fr) := R1
              obtain ⟨G, S', g, ⟨S1, S2, e2, h1, k1⟩, nd, no⟩ := R2.top
              exact ⟨G, g, own.top h1 g⟩
            | path i =>
              have R2 : RelX C X.K H1 e1 σ fr ∧ σ[i]? = some (some v) ∧ _ := R1
              obtain ⟨Rb, hv, _⟩ := R2
              have P := pr_take (show slot e1 i = some o from ho) hv
              have R3 : Rel C X.K H1 ((v, o) :: (pr (e1.set i none) σ ++ fr)) := Rb.rel.perm (P.append_right fr)
              obtain ⟨G, S', g, ⟨S1, S2, e2, h1, k1⟩, nd, no⟩ := R3
              exact ⟨G, g, own.top h1 g⟩
          obtain ⟨G, g, t⟩ := key
          obtain ⟨ty, b, k1, k2, k3⟩ := isi_ok (X := X) g t q1
          exact ⟨v, .ty n, ty, .type n, b, rfl, .ty n, k1, k2, k3 (.bl b) H1 (R1.base.std fun G => rfl)⟩
      | .Name _ _, [], _, h => simp [chkE] at h
      | .Name _ _, [_], _, h => simp [chkE] at h
      | .Attribute _ _ _, _, _, h => simp [chkE] at h
    | _ => simp [chkE] at h
/-- d.get(k, z) -/
theorem snd_dget {a : T} {as : Ts} (ha : Snd B C Γ a) (ih : AllS B C Γ as) : Snd B C Γ (.dget a as) := by
  intro X sc ow S e h
  cases as with
  | nil => cases e <;> simp [chkE] at h
  | cons b as =>
    cases as with
    | nil => cases e <;> simp [chkE] at h
    | cons c as =>
      cases as with
      | cons _ _ => cases e <;> simp [chkE] at h
      | nil =>
        cases e with
        | Call g es ks pos =>
          match g, es, ks, h with
          | .Attribute o nm apos, [e, f], [], h =>
            simp only [chkE, Bool.and_eq_true, decide_eq_true_eq] at h
            obtain ⟨⟨⟨⟨h1, h2⟩, h3⟩, ⟨h4, h5⟩, h6, h7⟩, h8⟩ := h
            subst h1
            have hu := S.hu1
            have few : ((backTo pos (starEach [e, f] X.env)).all (fun x => !x.1) && (backToKw pos (keywordEach [] X.env)).all (fun x => x.1.isSome) && decide (([e, f] : List Expr).length + ([] : List Keyword).length + (if ([] : List Keyword).isEmpty then 0 else 1) < 30)) = true := by
              rw [star_cons h4, star_cons h6]; rfl
            refine pt_plain (PE.weak (pe_dget2 (by omega) (ha S o h3).1 (ih.1 S e h5).1 (ih.2.1 S f h7).1 ⟨base_of h2, few, h8, by rw [star_cons h4, star_cons h6]; rfl⟩) fun σ H Q q => ?_) rfl
            obtain ⟨env, fr, R, q⟩ := q
            unfold ev at q
            refine tE_of R q fun r0 e0 x H1 ⟨qd, q1⟩ R1 => ?_
            obtain ⟨p, ex, hd⟩ := dic_at R1 qd
            refine ⟨p, ex, hd, ?_⟩
            refine tE_two R1.nrm.frm q1 fun rs e1 y z H2 q2 R2 => ?_
            have R3 : RelRs C X.K H2 e1 σ fr [x, y, z] (r0.nrm :: rs) := RelRs.cons (by
              cases r0 with
              | obj oo => exact R1.nrm
              | path i => exact R1.nrm) R2
            have w := call_ans (Q := Q) (w := fun ds Q => pw (.meth "dict" "get") ds Q) (k := fun r e => ∀ v H', RelR C X.K H' e σ fr v r → Q v H') (fun ds Q h => h) q2 R3 fun o v H' k r => k v H' r
            obtain ⟨G, as', g, tops, P, hw, hq⟩ := w
            have hw' : wMeth "dict" "get" as' P := by unfold pw at hw; exact hw
            unfold wMeth at hw'
            split at hw'
            · rename_i t ks vs kk zz _ _
              obtain ⟨v1, r1, e1', t1, tt⟩ := tops
              obtain ⟨v2, v3, e2', t2, t3⟩ := tt.two
              cases e1'; cases e2'
              obtain ⟨p2, o2, e3, dg, _, _, ho⟩ := top_dget g t1 t2 hw'.1.1
              rw [ex] at e3
              cases e3
              refine ⟨o2, dg, ?_⟩
              cases hz : dget ks vs kk with
              | none =>
                rw [hz] at ho hw'
                subst ho
                refine hq _ _ _ hw'.2 (.std ?_)
                have hz := hw'.1.2
                cases zz <;> first | (cases hz; done) | exact t3
              | some zv =>
                rw [hz] at ho hw'
                obtain ⟨w, rfl, hr⟩ := ho
                exact hq _ _ _ hw'.2 (.std hr)
            · exact hw'.elim
          | .Name _ _, _, _, h => simp [chkE] at h
        | _ => simp [chkE] at h
end
end VE
/-! VEG: three comparisons in a row, {**a, **b}, {k: v}, == and != by the class's own, isinstance of an own class -/
namespace VE
open PySem PySem.Spec PyProof.Rows L2
section
variable {X : Cx} {a b c d : Expr} {ta tb tc td : TE} {pos : Pos}
/-- a op1 b op2 c op3 d -/
def tChain3 (r r' r'' : R2) (ta tb tc td : TE) : TE := fun σ H Q => ta σ H fun x H1 => tb σ H1 fun y H2 => r x y H2 fun z H3 => ∃ k, z = .bl k ∧
  (if k = true then tc σ H3 fun w' H4 => r' y w' H4 fun z2 H5 => ∃ k2, z2 = .bl k2 ∧ (if k2 = true then td σ H5 fun u' H6 => r'' w' u' H6 Q else Q (.bl false) H5) else Q (.bl false) H3)
/-- a link of a chain: the operand on the right, the comparison, its truth -/
theorem link {pins : List (Addr × Obj)} {σ : L2.St} {H1 : Hp} {s1 : Shared} {x : V} {v : Value} {op : CmpOp} {r : R2} {W : Bool → V → Hp → Prop} {P : Value → Value → Bool → Shared → Prop} (ho : OpR X (compareOp op) r) (hb : PE X b tb) (I1 : Inv X pins σ H1 s1) (r1 : RelV x v)
    (q : tb σ H1 fun y H2 => r x y H2 fun z H3 => ∃ k, z = .bl k ∧ W k y H3) (go : ∀ k y u H3 s3, Inv X pins σ H3 s3 → RelV y u → W k y H3 → P u (.bool k) k s3) :
    wpAny (model X.prog X.w) X.A (eval b X.env) (fun u s2 => wpAny (model X.prog X.w) X.A (compareOp op v u) (fun c s3 => wpAny (model X.prog X.w) X.A (truthy c) (P u c) X.xe s3) X.xe s2) X.xe s1 := by
  refine thn (hb.run pins s1 σ H1 _ I1 q) ?_
  rintro u s2 ⟨y, H2, I2, ry, q2⟩
  refine thn (ho pins s2 σ H2 x y v u _ I2 r1 ry q2) ?_
  rintro c s3 ⟨_, H3, I3, rc, k, rfl, w⟩
  cases rc
  exact wpAny_truthy_bool (go k y u H3 s3 I3 ry w)
theorem pe_chain3 {op op' op'' : CmpOp} {r r' r'' : R2} (ho : OpR X (compareOp op) r) (ho' : OpR X (compareOp op') r') (ho'' : OpR X (compareOp op'') r'') (ha : PE X a ta) (hb : PE X b tb) (hc : PE X c tc) (hd : PE X d td)
    (hm : lastMarks [op, op', op''] [b, c, d] = false) : PE X (.Compare a [op, op', op''] [b, c, d] pos) (tChain3 r r' r'' ta tb tc td) where
  run := fun pins s σ H Q I h => by
    refine Compare_chain (thn (ha.run pins s σ H _ I h) ?_) hm
    rintro v s1 ⟨x, H1, I1, r1, q1⟩
    refine chain_link (link ho hb I1 r1 q1 fun k y u H3 s3 I3 ry q3 => ?_)
    cases k with
    | false => exact ite_ff ⟨.bl false, H3, I3, rfl, q3⟩
    | true =>
      refine ite_tt (chain_link (link ho' hc I3 ry q3 fun k2 y2 u2 H5 s5 I5 ry2 q5 => ?_))
      cases k2 with
      | false => exact ite_ff ⟨.bl false, H5, I5, rfl, q5⟩
      | true =>
        refine ite_tt (chain_last (thn (hd.run pins s5 σ H5 _ I5 q5) ?_))
        rintro u3 s6 ⟨y3, H6, I6, ry3, q6⟩
        exact ho'' pins s6 σ H6 y2 y3 u2 u3 Q I6 ry2 ry3 q6
theorem pt_chain3 {op op' op'' : CmpOp} {r r' r'' : R2} (ho : OpR X (compareOp op) r) (ho' : OpR X (compareOp op') r') (ho'' : OpR X (compareOp op'') r'') (ha : PE X a ta) (hb : PE X b tb) (hc : PE X c tc) (hd : PE X d td)
    (hm : lastMarks [op, op', op''] [b, c, d] = false) : PT X (.Compare a [op, op', op''] [b, c, d] pos) (tTest (tChain3 r r' r'' ta tb tc td)) where
  run := fun pins s σ H Q I h => by
    refine isTrue_chain (thn (ha.run pins s σ H _ I h) ?_) hm
    rintro v s1 ⟨x, H1, I1, r1, q1⟩
    refine test_link (link ho hb I1 r1 q1 fun k y u H3 s3 I3 ry q3 => ?_)
    cases k with
    | false =>
      obtain ⟨_, e, q⟩ := q3
      cases e
      exact ite_ff ⟨H3, I3, q⟩
    | true =>
      refine ite_tt (test_link (link ho' hc I3 ry q3 fun k2 y2 u2 H5 s5 I5 ry2 q5 => ?_))
      cases k2 with
      | false =>
        obtain ⟨_, e, q⟩ := q5
        cases e
        exact ite_ff ⟨H5, I5, q⟩
      | true => exact ite_tt (test_last (link ho'' hd I5 ry2 q5 fun k3 _ _ H7 s7 I7 _ q7 => ⟨H7, I7, q7⟩))
end
section
variable {B : Tb} {C : CT} {Γ : Gam}
theorem snd_chain3 {o1 o2 o3 : CmpOp} {a b c d : T} (ha : Snd B C Γ a) (hb : Snd B C Γ b) (hc : Snd B C Γ c) (hd : Snd B C Γ d) : Snd B C Γ (.chain3 o1 o2 o3 a b c d) := by
  intro X sc ow S e h
  simp only [chkE] at h
  split at h
  · rename_i l m r u he
    obtain ⟨pos, rfl, h8⟩ := e_ch3_is he
    simp only [Bool.and_eq_true] at h
    obtain ⟨⟨⟨h4, h5⟩, h6⟩, h7⟩ := h
    have go : ∀ {σ : L2.St} {H : Hp} {Q : VK}, tE C X.K Γ (.chain3 o1 o2 o3 a b c d) σ H Q → tChain3 (rW2 C X.K (wCmp o1)) (rW2 C X.K (wCmp o2)) (rW2 C X.K (wCmp o3)) (tE C X.K Γ a) (tE C X.K Γ b) (tE C X.K Γ c) (tE C X.K Γ d) σ H Q := by
      intro σ H Q q
      obtain ⟨env, fr, R, q⟩ := q
      unfold ev at q
      refine tE_of R q fun ra e1 x H1 q1 R1 => ?_
      refine tE_of R1.nrm.frm q1 fun rb e2 y H2 q2 R2 => ?_
      refine two_ansP (u := .cmp o1) (fun ds Q h => h) q2 (RelRs.cons R1.nrm (RelRs.cons R2.nrm (relRs_nil R2.nrm.frm))) fun o w H3 p3 R3 => ?_
      split at p3
      · have ew := rep_bl R3
        refine ⟨true, ew, ?_⟩
        rw [if_pos rfl]
        refine tE_of (R3.pop.sub (frm_sub (rb := rb.nrm))) p3 fun rc e3 w' H4 q4 R4 => ?_
        refine two_ansP (u := .cmp o2) (fun ds Q h => h) q4 (RelRs.cons (R2.nrm.sub frm_sup) (RelRs.cons R4.nrm (relRs_nil R4.nrm.frm))) fun o w5 H5 p5 R5 => ?_
        have R6 : RelX C X.K H5 e3 σ ((w5, o) :: frm w' rc.nrm fr) := R5.sub (List.Sublist.cons_cons _ (frm_sub (rb := rc.nrm)))
        split at p5
        · have ew := rep_bl R6
          refine ⟨true, ew, ?_⟩
          rw [if_pos rfl]
          refine tE_of R6.pop p5 fun rd e6 w6 H6 q6 R7 => ?_
          refine two_ansP (u := .cmp o3) (fun ds Q h => h) q6 (RelRs.cons (R4.nrm.sub frm_sup) (RelRs.cons R7.nrm (relRs_nil R7.nrm.frm))) fun o w7 H7 p7 R8 => ?_
          exact p7 w7 H7 (R8.sub (List.Sublist.cons_cons _ (List.sublist_append_right _ _)))
        · have ew := rep_bl R6
          refine ⟨false, ew, ?_⟩
          rw [if_neg (by decide)]
          exact p5 (.bl false) H5 ((R6.pop.sub frm_sup).std fun G => rfl)
        · exact p5.elim
      · have ew := rep_bl R3
        refine ⟨false, ew, ?_⟩
        rw [if_neg (by decide)]
        exact p3 (.bl false) H3 ((R3.pop.sub (List.sublist_append_right _ _)).std fun G => rfl)
      · exact p3.elim
    refine ⟨PE.weak (pe_chain3 (cmpW (C := C) S.stk) (cmpW (C := C) S.stk) (cmpW (C := C) S.stk) (ha S l h4).1 (hb S m h5).1 (hc S r h6).1 (hd S u h7).1 h8) fun σ H Q q => go q, PT.weak (pt_chain3 (cmpW (C := C) S.stk) (cmpW (C := C) S.stk) (cmpW (C := C) S.stk) (ha S l h4).1 (hb S m h5).1 (hc S r h6).1 (hd S u h7).1 h8) fun σ H Q q => go (test_weak q)⟩
  · cases h
end
/-! ### dicts put together -/
section
variable {B : Tb} {C : CT} {Γ : Gam}
theorem snd_mrg {a b : T} (ha : Snd B C Γ a) (hb : Snd B C Γ b) : Snd B C Γ (.mrg a b) := by
  intro X sc ow S e h
  simp only [chkE] at h
  split at h
  · rename_i x y he
    obtain ⟨pos, rfl⟩ := e_mrg_is he
    simp only [Bool.and_eq_true] at h
    have hu : X.A.units + 70 < cLine := S.stk
    refine pt_plain (PE.weak (VMR.pe_mrg hu (ha S x h.1).1 (hb S y h.2).1) fun σ H Q q => ?_) rfl
    obtain ⟨env, fr, R, q⟩ := q
    unfold ev at q
    intro d hd
    have R0 : RelX C X.K (L2.upd H d (.dT [])) env σ ((.ref d, .dic true [] []) :: fr) := RelX.made (xs := []) (vs := []) (o := .dic true [] []) R rfl fun G hr => .dic hd ⟨rfl, rfl⟩ hr
    refine tE_of R0 q fun ra e1 v H1 q1 R1 => ?_
    obtain ⟨x, e2, q2, R2⟩ := R1.val q1
    split at q2
    · rename_i ks vs
      obtain ⟨⟨c1, c2⟩, q2⟩ := q2
      have lk : ks.length = vs.length := by
        obtain ⟨p, vs', _, _, ⟨_, h3⟩, _⟩ := R2.top.rep
        exact h3
      refine into_rel R2 c1 c2 (.inl rfl) fun H2 R3 => ?_
      rw [dputs_nil lk (nodup_of_map c2)] at R3
      refine tE_of R3 q2 fun rb e3 v2 H3 q3 R4 => ?_
      obtain ⟨y, e4, q4, R5⟩ := R4.val q3
      split at q4
      · obtain ⟨⟨⟨c3, c4⟩, c5⟩, q4⟩ := q4
        exact into_rel R5 c3 c4 (.inr c5) fun H4 R6 => q4 _ H4 R6
      · exact q4.elim
    · exact q2.elim
  · cases h
theorem snd_dic1 {a b : T} (ha : Snd B C Γ a) (hb : Snd B C Γ b) : Snd B C Γ (.dic1 a b) := by
  intro X sc ow S e h
  simp only [chkE] at h
  split at h
  · rename_i x y he
    obtain ⟨pos, rfl⟩ := e_dic1_is he
    simp only [Bool.and_eq_true] at h
    have hu : X.A.units + 70 < cLine := S.stk
    refine pt_plain (PE.weak (VMR.pe_dic1 hu (ha S x h.1).1 (hb S y h.2).1) fun σ H Q q => ?_) rfl
    obtain ⟨env, fr, R, q⟩ := q
    unfold ev at q
    intro d hd
    have R0 : RelX C X.K (L2.upd H d (.dT [])) env σ ((.ref d, .dic true [] []) :: fr) := RelX.made (xs := []) (vs := []) (o := .dic true [] []) R rfl fun G hr => .dic hd ⟨rfl, rfl⟩ hr
    refine tE_of R0 q fun ra e1 v H1 q1 R1 => ?_
    obtain ⟨x, e2, ⟨qk, q2⟩, R2⟩ := R1.val q1
    refine tE_of R2 q2 fun rb e3 v2 H2 q3 R3 => ?_
    obtain ⟨y, e4, q4, R4⟩ := R3.val q3
    have R5 : RelX C X.K H2 e4 σ ((.ref d, .dic true [] []) :: (([v, v2] : List V).zip (([x, y] : List D).map O.d) ++ fr)) := R4.perm (by
      refine List.Perm.trans (List.Perm.swap _ _ _) ?_
      refine List.Perm.trans (List.Perm.cons _ (List.Perm.swap _ _ _)) ?_
      exact List.Perm.swap _ _ _)
    obtain ⟨p, ws, G, ev, hp, g, gp, _, hr, ⟨_, _, e5, hx, _, _, e6, hy, e7⟩, hu2⟩ := RelX.updD R5 rfl
    cases e5; cases e6; cases e7; cases ev; cases hr
    cases x <;> first | (cases qk; done) | skip
    rename_i zs
    obtain ⟨p2, us, rfl, k1, k2⟩ := hx
    have ek := keys_V (show zs.all isKey = true from qk) k2
    refine ⟨p2, zs.map toKey, rfl, by rw [← ek]; exact g _ _ k1, hp, q4 _ _ ?_⟩
    exact (hu2 [.tup zs] [y] [v2] .non .non ⟨by simpa [keysOk] using qk, rfl⟩ ⟨v2, [], rfl, hy, rfl⟩ rfl).pop
  · cases h
/-- a call a level deeper -/
theorem run_in1 {X : Cx} {k : Nat} {f : Addr} {fd : FuncData} {ps : List Str} {sp : Sp} {pins : List (Addr × Obj)} {σ : L2.St} {H : Hp} {s : Shared} {Q : VK} {us : List Value} {vs : List V} (F : FnOk X.prog X.w X.K X.mg X.base CX0 k f fd ps sp) (hr : Room (k + 1) X.A) (hb : Binds X.K fd ps [])
    (I : L2.Inv X pins σ H s) (r : Vals vs us) (h : sp vs H Q (fun _ _ _ => False)) : wpAny (model X.prog X.w) X.A.in1 (call (.ref f) us) (EP X pins σ Q) X.xe s := by
  have hl : us.length = ps.length := by rw [← r.length]; exact F.len _ _ _ _ h
  have e0 : Env0 X.prog X.w X.K X.mg X.base X.A.in1 X.stack s H := by
    have e := I.env0
    exact ⟨e.frames, e.mod, e.bs, e.bsz, e.funs, e.frf, e.hok, e.bare⟩
  refine wpAny_call (codeAny_mono (F.run X.A.in1 X.stack s H ⟨us, []⟩ us vs Q _ hr.in1 e0 (by
    have := hb s us I.kIn (by simpa using hl)
    simpa using this) r h) fun r s' hq => ?_)
  cases r with
  | error e =>
    have hx : Passes CX0 X (fun _ _ _ => False) := fun _ _ _ _ _ _ _ h => h.elim
    exact hx pins σ H s e s' I hq
  | ok fl =>
    cases fl with
    | ret u => exact I.after hq
    | next => exact False.elim hq
    | brk => exact False.elim hq
    | cont => exact False.elim hq
def rMeq (B : Tb) (C : CT) (Γ : Gam) (K : PySem.W.Frag) (neg : Bool) : R2 := fun x y H Q => ∃ c f p dx vs p2 dx2 vs2, x = .ref p ∧ y = .ref p2 ∧ H p = some (.ins (C.addr c) dx vs) ∧ H p2 = some (.ins (C.addr c) dx2 vs2) ∧ B.eq c f = true ∧ B.ar f = 2 ∧
  spOf C K (B.ar f) (Γ.fn f) [x, y] H (fun v H' => ∃ t, v = .bl t ∧ Q (.bl (t != neg)) H') (fun _ _ _ => False)
theorem op_meq {X : Cx} {sc : Scope} {ow : Option Scope} (S : Sup B C Γ sc ow X) {neg : Bool} : OpR X (compareOp (if neg then .NotEq else .Eq)) (rMeq B C Γ X.K neg) := by
  intro pins s σ H x y v u Q I rx ry h
  obtain ⟨c, f, p, dx, vs, p2, dx2, vs2, rfl, rfl, hp, hp2, he, har, q⟩ := h
  cases rx
  cases ry
  obtain ⟨own, k, a, fd, ps, hM, F, hroom, hb⟩ := S.eq c f he
  obtain ⟨mA, J, _⟩ := ins_get I.hok hp
  obtain ⟨mB, J', _⟩ := ins_get I.hok hp2
  obtain ⟨od, J, _⟩ := J.look
  obtain ⟨od', J', _⟩ := J'.look
  obtain ⟨m, hF⟩ := I.fr
  have hu1 := S.hu1
  have r2 : Vals [V.ref p, V.ref p2] [Value.ref p, Value.ref p2] := .cons rfl (.cons rfl .nil)
  cases neg with
  | false =>
    show wpAny _ _ (richCompare .Eq (.ref p) (.ref p2)) _ _ _
    refine PySem.W.cmp_K (op := .Eq) (tb := .ref (C.addr c)) (by omega) hF I.ok.mod.kin J J'.type (by simp [PySem.W.notFirst]) hM.at_ hM.fn ?_
    refine wpAny_mono (run_fn (CX := CX0) (E := fun _ _ _ => False) (dvs := []) F (Room.mono hroom (Nat.le_succ k)) hb .nil (fun _ _ _ _ _ _ _ h => h.elim) I r2 q) (fun z s' hz => ?_) fun _ _ x => x
    obtain ⟨w, H', I', rw', t, e, qq⟩ := hz
    subst e
    cases rw'
    have e2 : (t != false) = t := by cases t <;> rfl
    rw [e2] at qq
    exact ⟨.bl t, H', I', rfl, qq⟩
  | true =>
    show wpAny _ _ (richCompare .NotEq (.ref p) (.ref p2)) _ _ _
    refine VMR.ne_K hu1 I.kIn J J' own.ne hM.at_ hM.fn own.ob ?_
    refine wpAny_mono (run_in1 F hroom hb I r2 q) (fun z s' hz => ?_) fun _ _ x => x
    obtain ⟨w, H', I', rw', t, e, qq⟩ := hz
    subst e
    cases rw'
    have e2 : (t != true) = !t := by cases t <;> rfl
    rw [e2] at qq
    exact ⟨t, rfl, .bl (!t), H', I', rfl, qq⟩
theorem insK_is {os : List O} {k : Nat → Prop} (h : insK os k) : ∃ c fs gs, os.map O.toD = [.ins c fs, .ins c gs] ∧ k c := by
  unfold insK at h
  split at h
  · rename_i c fs c' gs e
    obtain ⟨rfl, h⟩ := h
    exact ⟨_, _, _, e, h⟩
  · exact h.elim
theorem snd_meq {neg : Bool} {l : List (Nat × Nat)} {a b : T} (ha : Snd B C Γ a) (hb : Snd B C Γ b) : Snd B C Γ (.meq neg l a b) := by
  intro X sc ow S e h
  simp only [chkE] at h
  split at h
  · rename_i x y he
    obtain ⟨pos, rfl, hm⟩ := e_cmp_is he
    simp only [Bool.and_eq_true] at h
    obtain ⟨⟨h1, h2⟩, h3⟩ := h
    have go : ∀ {σ : L2.St} {H : Hp} {Q : VK}, tE C X.K Γ (.meq neg l a b) σ H Q → tOp (rMeq B C Γ X.K neg) (tE C X.K Γ a) (tE C X.K Γ b) σ H Q := by
      intro σ H Q q
      obtain ⟨env, fr, R, q⟩ := q
      unfold ev at q
      refine tE_of R q fun r0 e0 x H1 q1 R1 => ?_
      refine tE_of R1.nrm.frm q1 fun r1 e1 y H2 q2 R2 => ?_
      have R3 : RelRs C X.K H2 e1 σ fr [x, y] [r0.nrm, r1.nrm] := RelRs.cons R1.nrm (RelRs.cons R2.nrm (relRs_nil R2.nrm.frm))
      split at q2
      · rename_i os eo
        obtain ⟨c, fs, gs, eD, q2⟩ := insK_is q2
        split at q2
        · rename_i f hf
          have hq := lookup_all h1 hf
          simp only [Bool.and_eq_true, decide_eq_true_eq] at hq
          obtain ⟨G, g, tops, _⟩ := R3.wishK (w := fun _ _ => True) (P := fun _ => True) eo True.intro
          rw [eD] at tops
          obtain ⟨v1, v2, e2, ⟨p, dx, vs, e3, hp, _⟩, ⟨p2, dx2, vs2, e4, hp2, _⟩⟩ := tops.two
          cases e2
          refine ⟨c, f, p, dx, _, p2, dx2, _, e3, e4, hp, hp2, hq.1, hq.2, ?_⟩
          refine sp_call (X := X) (k := fun r e => ∃ t, r = .obj (.d (.bl t)) ∧ ∀ v H', RelR C X.K H' e σ fr v (.obj (rB (t != neg))) → Q v H') hq.2.symm q2.1 eo R3 (callW.mono q2.2 (fun o os' _ ⟨t, e, z⟩ => ⟨t, by rw [e], z⟩) fun _ _ z => z) fun o e v H' ⟨t, e5, k⟩ R => ?_
          cases e5
          have ev : v = .bl t := R.top.rep
          exact ⟨t, ev, k _ _ (R.pop.std fun G => rfl)⟩
        · exact q2.elim
      · exact q2.elim
    exact ⟨PE.weak (pe_cmpR (op_meq S) (ha S x h2).1 (hb S y h3).1 hm) fun σ H Q q => go q, PT.weak (pt_cmpR (op_meq S) (ha S x h2).1 (hb S y h3).1 hm) fun σ H Q q => go (test_weak q)⟩
  · cases h
end
end VE
/-! VE15: comprehensions; every expression is sound -/
namespace VE
open PySem PySem.Spec PyProof.Rows L2
section
variable {B : Tb} {C : CT} {Γ : Gam}
mutual
theorem asgP_len : ∀ (p : Pat) {x : D} {env : Ev} {k : Ev → Prop}, asgP p x env k → asgP p x env fun e => e.length = env.length ∧ k e
  | .v i, x, env, k, h => by unfold asgP at h ⊢; exact ⟨List.length_set, h⟩
  | .t ps, x, env, k, h => by
    cases x <;> unfold asgP at h ⊢ <;> first | exact asgPs_len2 ps h | exact h.elim
theorem asgPs_len2 : ∀ (ps : Pats) {xs : List D} {env : Ev} {k : Ev → Prop}, asgPs ps xs env k → asgPs ps xs env fun e => e.length = env.length ∧ k e
  | .nil, xs, env, k, h => by
    cases xs <;> unfold asgPs at h ⊢ <;> first | exact ⟨rfl, h⟩ | exact h.elim
  | .cons p ps, xs, env, k, h => by
    cases xs <;> unfold asgPs at h ⊢
    · exact h.elim
    · exact asgP_mono p (fun e ⟨h1, h2⟩ => asgPs_mono ps (fun e2 ⟨h3, h4⟩ => ⟨h3.trans h1, h4⟩) (asgPs_len2 ps h2)) (asgP_len p h)
end
theorem wipe_get {σ : Sg} {j : Nat} : ∀ {ow : List Nat}, (wipe σ ow)[j]? = if j ∈ ow then (if j < σ.length then some none else none) else σ[j]?
  | [] => by simp [wipe]
  | i :: is => by
    unfold wipe
    by_cases e : i = j
    · subst e
      rw [if_pos List.mem_cons_self]
      by_cases h : i < σ.length
      · rw [List.getElem?_set_self (by rw [wipe_length]; exact h), if_pos h]
      · rw [if_neg h, List.getElem?_eq_none (by rw [List.length_set, wipe_length]; omega)]
    · rw [List.getElem?_set_ne e, wipe_get]
      have : (j ∈ i :: is) = (j ∈ is) := by simp [List.mem_cons, Ne.symm e]
      simp only [this]
theorem wipeE_length : ∀ {env : Ev} {ow : List Nat}, (wipeE env ow).length = env.length
  | _, [] => rfl
  | _, i :: is => by unfold wipeE; rw [List.length_set, wipeE_length]
theorem wipeE_get {env : Ev} {j : Nat} : ∀ {ow : List Nat}, (wipeE env ow)[j]? = if j ∈ ow then (if j < env.length then some none else none) else env[j]?
  | [] => by simp [wipeE]
  | i :: is => by
    unfold wipeE
    by_cases e : i = j
    · subst e
      rw [if_pos List.mem_cons_self]
      by_cases h : i < env.length
      · rw [List.getElem?_set_self (by rw [wipeE_length]; exact h), if_pos h]
      · rw [if_neg h, List.getElem?_eq_none (by rw [List.length_set, wipeE_length]; omega)]
    · rw [List.getElem?_set_ne e, wipeE_get]
      have : (j ∈ i :: is) = (j ∈ is) := by simp [List.mem_cons, Ne.symm e]
      simp only [this]
theorem backE_length {e0 : Ev} : ∀ {env : Ev} {ow : List Nat}, (backE e0 env ow).length = env.length
  | _, [] => rfl
  | _, i :: is => by unfold backE; rw [List.length_set, backE_length]
theorem backE_wipe {e0 : Ev} {env : Ev} : ∀ {ow xs : List Nat}, (∀ i ∈ xs, i ∈ ow) → backE e0 (wipeE env xs) ow = backE e0 env ow := by
  intro ow xs hx
  apply List.ext_getElem?
  intro j
  have get : ∀ (env : Ev) (ow : List Nat), (backE e0 env ow)[j]? = if j ∈ ow then (if j < env.length then some (match slot e0 j with | some (.d x) => some (.d x) | _ => none) else none) else env[j]? := by
    intro env ow
    induction ow with
    | nil => simp [backE]
    | cons i is ih =>
      unfold backE
      by_cases e : i = j
      · subst e
        rw [if_pos List.mem_cons_self]
        by_cases h : i < env.length
        · rw [List.getElem?_set_self (by rw [backE_length]; exact h), if_pos h]
          all_goals first
            | rfl
            | (cases slot e0 i with
              | none => rfl
              | some o => cases o <;> rfl)
        · rw [if_neg h, List.getElem?_eq_none (by rw [List.length_set, backE_length]; omega)]
      · rw [List.getElem?_set_ne e, ih]
        have : (j ∈ i :: is) = (j ∈ is) := by simp [List.mem_cons, Ne.symm e]
        simp only [this]
  rw [get, get, wipeE_length]
  by_cases h : j ∈ ow
  · rw [if_pos h, if_pos h]
  · rw [if_neg h, if_neg h, wipeE_get, if_neg fun q => h (hx j q)]
theorem pr_none {σ : Sg} {env : Ev} {i : Nat} {a : Option V} : pr (env.set i none) (σ.set i a) = pr (env.set i none) σ := by
  induction env generalizing σ i with
  | nil => rfl
  | cons e env ih =>
    cases σ with
    | nil => rfl
    | cons s σ =>
      cases i with
      | zero => cases s <;> cases a <;> rfl
      | succ i =>
        cases e with
        | none => exact ih
        | some o =>
          cases s with
          | none => exact ih
          | some v => exact congrArg ((v, o) :: ·) ih
section
variable {K : PySem.W.Frag} {H H' : Hp} {σ : Sg} {fr : Prs} {env : Ev}
/-- a forgotten slot may hold anything -/
theorem RelX.any {i : Nat} {a : Option V} (R : RelX C K H (env.set i none) σ fr) : RelX C K H (env.set i none) (σ.set i a) fr := by
  refine ⟨by rw [List.length_set (as := σ)]; exact R.len, fun j o h => ?_, by rw [pr_none]; exact R.rel⟩
  by_cases e : i = j
  · subst e
    unfold slot at h
    by_cases hl : i < env.length
    · rw [List.getElem?_set_self hl] at h; cases h
    · rw [List.getElem?_eq_none (by rw [List.length_set]; omega)] at h; cases h
  · rw [List.getElem?_set_ne e]; exact R.has j o h
theorem RelX.wipe (R : RelX C K H env σ fr) : ∀ ow : List Nat, RelX C K H (wipeE env ow) (L2.wipe σ ow) fr
  | [] => R
  | i :: is => by
    unfold wipeE L2.wipe
    exact ((RelX.wipe R is).clear i).any
theorem set_set_same {σ : Sg} {i : Nat} {a : Option V} (h : σ[i]? = some a) : σ.set i a = σ := by
  apply List.ext_getElem?
  intro j
  by_cases e : i = j
  · subst e; rw [List.getElem?_set_self (List.getElem?_eq_some_iff.mp h).1, h]
  · rw [List.getElem?_set_ne e]
theorem unwipe : ∀ {ow : List Nat} {σ σ' : Sg}, σ'.length = σ.length → (∀ j, j ∉ ow → σ'[j]? = σ[j]?) → RelX C K H env σ' fr → RelX C K H (wipeE env ow) σ fr := by
  intro ow
  induction ow with
  | nil =>
    intro σ σ' hl h R
    have : σ' = σ := List.ext_getElem? fun j => h j (by simp)
    subst this
    exact R
  | cons i is ih =>
    intro σ σ' hl h R
    -- σ with i as σ' has it
    cases hi : σ'[i]? with
    | none =>
      have R1 := ih (σ := σ) (σ' := σ') hl (fun j hj => by
        by_cases e : j = i
        · subst e
          rw [hi, List.getElem?_eq_none]
          rw [← hl]; exact List.getElem?_eq_none_iff.mp hi
        · exact h j (by simp [e, hj])) R
      unfold wipeE
      exact R1.clear i
    | some a =>
      have hli : i < σ.length := by rw [← hl]; exact (List.getElem?_eq_some_iff.mp hi).1
      have R1 := ih (σ := σ.set i a) (σ' := σ') (by rw [List.length_set]; exact hl) (fun j hj => by
        by_cases e : i = j
        · subst e; rw [List.getElem?_set_self hli, hi]
        · rw [List.getElem?_set_ne e]; exact h j (by simp [Ne.symm e, hj])) R
      unfold wipeE
      have R2 := (R1.clear i).any (i := i) (a := σ[i])
      rw [List.set_set, set_set_same (List.getElem?_eq_getElem hli)] at R2
      exact R2
/-- the data of a block's own names, kept aside -/
def sv (env : Ev) (σ : Sg) : List Nat → Prs
  | [] => []
  | i :: is => match slot env i, σ[i]? with
    | some (.d x), some (some v) => (v, .d x) :: sv env σ is
    | _, _ => sv env σ is
theorem RelX.keep (R : RelX C K H env σ fr) : ∀ ow : List Nat, RelX C K H env σ (sv env σ ow ++ fr)
  | [] => R
  | i :: is => by
    have R1 := RelX.keep R is
    unfold sv
    split
    · rename_i x v e1 e2
      have R2 := R1.take e1 e2
      have R3 : RelX C K H (env.set i none) σ ((v, .d x) :: (v, .d x) :: (sv env σ is ++ fr)) := ⟨R2.len, R2.has, (R2.top.dup).perm (by
        refine (List.Perm.trans ?_ List.perm_middle.symm)
        exact (List.perm_middle.symm).cons _)⟩
      have R4 := R3.back' e2
      have e3 : env.set i (some (.d x)) = env := by
        apply List.ext_getElem?
        intro j
        by_cases z : i = j
        · subst z; rw [List.getElem?_set_self (slot_lt e1), slot_some.mp e1]
        · rw [List.getElem?_set_ne z]
      rw [e3] at R4
      exact R4
    · exact R1
theorem RelX.backE {e0 : Ev} (hv : ∀ i o, slot e0 i = some o → ∃ v, σ[i]? = some (some v)) : ∀ {ow : List Nat} {fr : Prs}, RelX C K H env σ (sv e0 σ ow ++ fr) → RelX C K H (VE.backE e0 env ow) σ fr
  | [], _, R => R
  | i :: is, fr, R => by
    unfold VE.backE
    unfold sv at R
    cases e1 : slot e0 i with
    | none =>
      rw [e1] at R
      exact (RelX.backE hv (ow := is) R).clear i
    | some o =>
      obtain ⟨v, e2⟩ := hv i o e1
      rw [e1, e2] at R
      cases o with
      | d x => exact (RelX.backE hv (ow := is) (fr := (v, .d x) :: fr) (RelX.perm (fr' := sv e0 σ is ++ (v, .d x) :: fr) R List.perm_middle.symm)).back e2
      | lst xs => exact (RelX.backE hv (ow := is) R).clear i
      | dic t ks xs => exact (RelX.backE hv (ow := is) R).clear i
      | ins c fs => exact (RelX.backE hv (ow := is) R).clear i
      | lock _ _ _ _ _ => exact (RelX.backE hv (ow := is) R).clear i
end
/-- the block's context -/
theorem Sup.blk {X : Cx} {sc : Scope} {ow : Option Scope} (S : Sup B C Γ sc ow X) (scope : Scope) (s : Shared) (H : Hp) (A : Addr) (cl : List (Str × Addr)) (fp : List Addr) : Sup B C Γ (relS scope sc) (some scope) (X.blk s H scope (compEnvC scope cl A X.env) fp) where
  calm := S.calm
  stk := S.stk
  hu1 := S.hu1
  hN := S.hN
  nd := S.nd
  hsc := by rw [← S.hsc]; rfl
  tg := fun i x h => by
    unfold tgOk at h
    simp only [Bool.and_eq_true, Bool.or_eq_true, decide_eq_true_eq] at h
    rcases h.2 with h | h
    · exact .inl (by show (scope.names.lookup x == some .cell) = true; rw [h]; rfl)
    · exact .inr h
  blt := S.blt
  glob := S.glob
  cls := S.cls
  ow := S.ow
  eq := S.eq
  nw := S.nw
  me := S.me
  fn := S.fn
theorem cIfs {X : Cx} {sc : Scope} {ow : Option Scope} (S : Sup B C Γ sc ow X) {ifs : Ts} {cs : List Expr} (ih : AllS B C Γ ifs) (h : chkC B ifs sc ow cs = true) : PTs X cs (tAs C X.K Γ (evIfs Γ) ifs) := by
  have w : ∀ {ifs : List Expr} {t t' : TT}, PTs X ifs t → (∀ σ H Q, t' σ H Q → t σ H Q) → PTs X ifs t' := fun h w => ⟨fun pins s σ H Q I q => h.run pins s σ H Q I (w σ H Q q)⟩
  cases ifs with
  | nil =>
    cases cs with
    | cons _ _ => simp [chkC] at h
    | nil =>
      refine w pts_nil fun σ H Q q => ?_
      obtain ⟨env, fr, R, q⟩ := q
      unfold evIfs at q
      exact q H R
  | cons a as =>
    cases as with
    | cons _ _ => cases cs <;> simp [chkC] at h
    | nil =>
      cases cs with
      | nil => simp [chkC] at h
      | cons e cs =>
        cases cs with
        | cons _ _ => simp [chkC] at h
        | nil =>
          simp only [chkC] at h
          refine w (pts_one (ih.1 S e h).2) fun σ H Q q => ?_
          obtain ⟨env, fr, R, q⟩ := q
          unfold evIfs at q
          refine ⟨env, fr, R, ev_mono a e0 (fun r e q => tst_mono (fun b q H' R' => ?_) q) q⟩
          cases b with
          | true => rw [if_pos rfl] at q; unfold evIfs at q; exact q H' R'
          | false => rw [if_neg (by decide)] at q; exact q H' R'
theorem lc_law {K : PySem.W.Frag} {own : List Nat} {p : Pat} {kd : ItK} {as ifs : Ts} {a : T} (own2 : ∀ i, i ∈ p.vs → i ∈ own) {σ : L2.St} {H : Hp} {Q : VK} (q : tE C K Γ (.comp own p kd as ifs a) σ H Q) : tLc (tI C K Γ kd as) (gP C K p) (tAs C K Γ (evIfs Γ) ifs) (tE C K Γ a) own σ H Q := by
  obtain ⟨env, fr, R, q⟩ := q
  unfold ev at q
  refine ⟨env, fr, R, evs_mono as e0 (fun rs e q => vals_mono (fun ds e' q => itW_mono (fun xs q J H1 base wk R1 Da hD => ?_) q) q) q⟩
  -- the loop
  generalize hb : (fun (x : D) (acc : List D) (e1 : Ev) (kk : List D → Ev → Prop) => asgP p x e1 fun e2 => evIfs Γ ifs e2 E0x fun b e3 =>
    if b = true then ev Γ a e3 E0x fun r e4 => r.val e4 fun y e5 => addA acc y fun acc' => kk acc' (wipeE e5 own) else kk acc (wipeE e3 own)) = body at q
  have R2 : RelX C K (L2.upd H1 Da (.lst [])) (wipeE e' own) (L2.wipe σ own) ((.ref Da, .lst []) :: (base ++ (sv e' σ own ++ fr))) := by
    have R3 : RelX C K H1 (wipeE e' own) (L2.wipe σ own) (sv e' σ own ++ (base ++ fr)) := (R1.keep own).wipe own
    have R4 := RelX.made (xs := []) (vs := []) (o := .lst []) (v := .ref Da) (H' := L2.upd H1 Da (.lst [])) R3 rfl fun G hr => .lst hD hr
    refine R4.perm (.cons _ ?_)
    exact List.perm_append_comm_assoc _ _ _
  refine ⟨fun i m H => m = xs.length - i ∧ i ≤ xs.length ∧ ∃ acc env1, RelX C K H env1 (L2.wipe σ own) ((.ref Da, .lst acc) :: (base ++ (sv e' σ own ++ fr))) ∧ cloop body (xs.drop i) acc env1 fun ys e6 => ∀ v H', RelR C K H' (VE.backE e' e6 own) σ fr v (.obj (.lst ys)) → Q v H',
    ⟨xs.length, by simp, Nat.zero_le _, [], wipeE e' own, R2, by simpa using q⟩, ?_⟩
  rintro i m H2 ⟨rfl, hi', acc, env1, R3, q⟩
  have rl : Rel C K H2 (base ++ ((.ref Da, .lst acc) :: (pr env1 (L2.wipe σ own) ++ (sv e' σ own ++ fr)))) := R3.rel.perm (by
    refine List.Perm.trans List.perm_middle ?_
    refine List.Perm.trans ?_ List.perm_middle.symm
    exact (List.perm_append_comm_assoc _ _ _).cons _)
  by_cases hlt : i < xs.length
  · refine .inr ⟨wk.go i H2 _ hlt rl, fun H' => ∃ acc env1, RelX C K H' env1 (L2.wipe σ own) ((.ref Da, .lst acc) :: (base ++ (sv e' σ own ++ fr))) ∧ cloop body (xs.drop (i + 1)) acc env1 fun ys e6 => ∀ v H', RelR C K H' (VE.backE e' e6 own) σ fr v (.obj (.lst ys)) → Q v H',
      fun H' n' => ⟨xs.length - (i + 1), by omega, rfl, hlt, n'⟩, fun x H' y => ?_⟩
    have rl2 := wk.yld i H2 _ x H' hlt rl y
    have R4 : RelX C K H' env1 (L2.wipe σ own) ((x, .d xs[i]) :: ((.ref Da, .lst acc) :: (base ++ (sv e' σ own ++ fr)))) := ⟨R3.len, R3.has, rl2.perm (by
      refine List.Perm.trans ?_ List.perm_middle.symm
      refine List.Perm.cons _ ?_
      refine List.Perm.trans List.perm_middle ?_
      refine List.Perm.trans ?_ List.perm_middle.symm
      exact (List.perm_append_comm_assoc _ _ _).cons _)⟩
    rw [List.drop_eq_getElem_cons hlt] at q
    unfold cloop at q
    rw [← hb] at q
    refine ⟨env1, _, xs[i], R4, asgP_mono p (fun e2 ⟨hle, q⟩ σ2 ag R5 => ?_) (asgP_len p q)⟩
    have ls : σ2.length = σ.length := by rw [← R5.len, hle, R4.len, wipe_length]
    have wp : L2.wipe σ2 own = L2.wipe σ own := by
      apply List.ext_getElem?
      intro j
      rw [wipe_get, wipe_get, ls]
      by_cases hj : j ∈ own
      · rw [if_pos hj, if_pos hj]
      · rw [if_neg hj, if_neg hj, ag j fun z => hj (own2 j z), wipe_get, if_neg hj]
    refine ⟨wp, e2, _, R5, evIfs_mono ifs e0 (fun b e3 q H3 R6 => ?_) q⟩
    cases b with
    | false =>
      rw [if_neg (by decide)] at q ⊢
      refine ⟨acc, _, ?_, by rw [hb] at q; exact q⟩
      have := R6.wipe own
      rw [wp] at this
      exact this
    | true =>
      rw [if_pos rfl] at q ⊢
      refine tE_of R6 q fun r e4 y H4 q R7 => ?_
      obtain ⟨dy, e5, q, R8⟩ := R7.val q
      obtain ⟨pp, ws, G, ev, hp, g, hr, hx, hu⟩ := RelX.upd (xs := [dy]) (vs := [y]) R8.swap rfl
      obtain ⟨_, _, e9, hy, e10⟩ := hx
      cases e10; cases e9; cases ev
      refine ⟨ws, hp, by rw [← hr.length]; exact q.1, acc ++ [dy], _, ?_, by rw [hb] at q; exact q.2⟩
      have R9 := ((hu _ _ .non .non (hr.append (.one hy)) rfl).pop).wipe own
      rw [wp] at R9
      exact R9
  · have ei : i = xs.length := by omega
    subst ei
    refine .inl ⟨wk.stop H2 _ rl, ?_⟩
    rw [List.drop_length] at q
    unfold cloop at q
    refine q (.ref Da) H2 ?_
    show RelX C K H2 (VE.backE e' env1 own) σ ((.ref Da, .lst acc) :: fr)
    have R4 : RelX C K H2 (wipeE env1 own) σ ((.ref Da, .lst acc) :: (base ++ (sv e' σ own ++ fr))) := unwipe (σ' := L2.wipe σ own) (by rw [wipe_length]) (fun j hj => by rw [wipe_get, if_neg hj]) R3
    have R5 : RelX C K H2 (wipeE env1 own) σ (sv e' σ own ++ ((.ref Da, .lst acc) :: fr)) := by
      refine (R4.perm (fr' := base ++ ((.ref Da, .lst acc) :: (sv e' σ own ++ fr))) List.perm_middle.symm).sub ?_ |>.perm List.perm_middle.symm
      exact List.sublist_append_right _ _
    have := RelX.backE (fun i o h => R1.has i o h) R5
    rwa [backE_wipe fun _ h => h] at this
theorem snd_comp {own : List Nat} {p : Pat} {kd : ItK} {as ifs : Ts} {a : T} (ih : AllS B C Γ as) (ihc : AllS B C Γ ifs) (iha : Snd B C Γ a) : Snd B C Γ (.comp own p kd as ifs a) := by
  intro X sc ow S e h
  cases e with
  | ListComp elt gs scope pos =>
    cases gs with
    | nil => simp [chkE] at h
    | cons g gs =>
      cases gs with
      | cons _ _ => obtain ⟨_, _, _, _⟩ := g; simp [chkE] at h
      | nil =>
        obtain ⟨tg, iter, cs, z⟩ := g
        simp only [chkE, Bool.and_eq_true, decide_eq_true_eq, List.all_eq_true] at h
        obtain ⟨⟨⟨⟨⟨⟨⟨h1, h2⟩, h3⟩, h4⟩, h5⟩, h6⟩, h7⟩, h8⟩ := h
        subst h1
        obtain ⟨hi, hf⟩ := sndI S ih h6
        have ok := blkOk_by h2
        refine pt_plain (PE.weak (pe_lc (g := gP C X.K p) (tt := tAs C X.K Γ (evIfs Γ) ifs) (te := tE C X.K Γ a) S.calm (by rw [S.hN]; exact S.nd) hi (by rw [S.hN, S.hsc]; exact ok) (fun s H A cl fp => sndP (S.blk scope s H A cl fp) p tg h5) (fun s H A cl fp => cIfs (S.blk scope s H A cl fp) ihc h7) (fun s H A cl fp => (iha (S.blk scope s H A cl fp) elt h8).1) hf) fun σ H Q q => ?_) rfl
        rw [h3]
        exact lc_law (fun i hi => by
          have := h4 i hi
          simpa using this) q
  | _ => simp [chkE] at h

theorem lcO_law {K : PySem.W.Frag} {own : List Nat} {p : Pat} {i0 : Nat} {ifs : Ts} {a : T} (hio : i0 ∉ own) (own2 : ∀ i, i ∈ p.vs → i ∈ own) {σ : L2.St} {H : Hp} {Q : VK} (q : tE C K Γ (.compO own p i0 ifs a) σ H Q) : tLc (tO C K false i0) (gP C K p) (tAs C K Γ (evIfs Γ) ifs) (tE C K Γ a) own σ H Q := by
  obtain ⟨env, fr, R, q⟩ := q
  unfold ev at q
  split at q
  case h_2 => exact q.elim
  rename_i xs hs
  refine ⟨env, fr, xs, R, hs, fun a0 H1 R0 ha Da hD => ?_⟩
  have wk : Walks C K (Itl K a0) [(.ref a0, .lst xs)] xs := walks_lstO
  have R1 : RelX C K H1 (env.set i0 none) σ ([(.ref a0, .lst xs)] ++ fr) := R0.take hs ha
  generalize hbase : [(V.ref a0, O.lst xs)] = base at wk R1
  generalize he' : env.set i0 none = e' at R1 q
  -- the loop
  generalize hb : (fun (x : D) (acc : List D) (e1 : Ev) (kk : List D → Ev → Prop) => asgP p x e1 fun e2 => evIfs Γ ifs e2 E0x fun b e3 =>
    if b = true then ev Γ a e3 E0x fun r e4 => r.val e4 fun y e5 => addA acc y fun acc' => kk acc' (wipeE e5 own) else kk acc (wipeE e3 own)) = body at q
  have R2 : RelX C K (L2.upd H1 Da (.lst [])) (wipeE e' own) (L2.wipe σ own) ((.ref Da, .lst []) :: (base ++ (sv e' σ own ++ fr))) := by
    have R3 : RelX C K H1 (wipeE e' own) (L2.wipe σ own) (sv e' σ own ++ (base ++ fr)) := (R1.keep own).wipe own
    have R4 := RelX.made (xs := []) (vs := []) (o := .lst []) (v := .ref Da) (H' := L2.upd H1 Da (.lst [])) R3 rfl fun G hr => .lst hD hr
    refine R4.perm (.cons _ ?_)
    exact List.perm_append_comm_assoc _ _ _
  refine ⟨fun i m H => m = xs.length - i ∧ i ≤ xs.length ∧ ∃ acc env1, RelX C K H env1 (L2.wipe σ own) ((.ref Da, .lst acc) :: (base ++ (sv e' σ own ++ fr))) ∧ cloop body (xs.drop i) acc env1 fun ys e6 => ∀ v H', RelR C K H' ((VE.backE e' e6 own).set i0 (some (.lst xs))) σ fr v (.obj (.lst ys)) → Q v H',
    ⟨xs.length, by simp, Nat.zero_le _, [], wipeE e' own, R2, by simpa using q⟩, ?_⟩
  rintro i m H2 ⟨rfl, hi', acc, env1, R3, q⟩
  have rl : Rel C K H2 (base ++ ((.ref Da, .lst acc) :: (pr env1 (L2.wipe σ own) ++ (sv e' σ own ++ fr)))) := R3.rel.perm (by
    refine List.Perm.trans List.perm_middle ?_
    refine List.Perm.trans ?_ List.perm_middle.symm
    exact (List.perm_append_comm_assoc _ _ _).cons _)
  by_cases hlt : i < xs.length
  · refine .inr ⟨wk.go i H2 _ hlt rl, fun H' => ∃ acc env1, RelX C K H' env1 (L2.wipe σ own) ((.ref Da, .lst acc) :: (base ++ (sv e' σ own ++ fr))) ∧ cloop body (xs.drop (i + 1)) acc env1 fun ys e6 => ∀ v H', RelR C K H' ((VE.backE e' e6 own).set i0 (some (.lst xs))) σ fr v (.obj (.lst ys)) → Q v H',
      fun H' n' => ⟨xs.length - (i + 1), by omega, rfl, hlt, n'⟩, fun x H' y => ?_⟩
    have rl2 := wk.yld i H2 _ x H' hlt rl y
    have R4 : RelX C K H' env1 (L2.wipe σ own) ((x, .d xs[i]) :: ((.ref Da, .lst acc) :: (base ++ (sv e' σ own ++ fr)))) := ⟨R3.len, R3.has, rl2.perm (by
      refine List.Perm.trans ?_ List.perm_middle.symm
      refine List.Perm.cons _ ?_
      refine List.Perm.trans List.perm_middle ?_
      refine List.Perm.trans ?_ List.perm_middle.symm
      exact (List.perm_append_comm_assoc _ _ _).cons _)⟩
    rw [List.drop_eq_getElem_cons hlt] at q
    unfold cloop at q
    rw [← hb] at q
    refine ⟨env1, _, xs[i], R4, asgP_mono p (fun e2 ⟨hle, q⟩ σ2 ag R5 => ?_) (asgP_len p q)⟩
    have ls : σ2.length = σ.length := by rw [← R5.len, hle, R4.len, wipe_length]
    have wp : L2.wipe σ2 own = L2.wipe σ own := by
      apply List.ext_getElem?
      intro j
      rw [wipe_get, wipe_get, ls]
      by_cases hj : j ∈ own
      · rw [if_pos hj, if_pos hj]
      · rw [if_neg hj, if_neg hj, ag j fun z => hj (own2 j z), wipe_get, if_neg hj]
    refine ⟨wp, e2, _, R5, evIfs_mono ifs e0 (fun b e3 q H3 R6 => ?_) q⟩
    cases b with
    | false =>
      rw [if_neg (by decide)] at q ⊢
      refine ⟨acc, _, ?_, by rw [hb] at q; exact q⟩
      have := R6.wipe own
      rw [wp] at this
      exact this
    | true =>
      rw [if_pos rfl] at q ⊢
      refine tE_of R6 q fun r e4 y H4 q R7 => ?_
      obtain ⟨dy, e5, q, R8⟩ := R7.val q
      obtain ⟨pp, ws, G, ev, hp, g, hr, hx, hu⟩ := RelX.upd (xs := [dy]) (vs := [y]) R8.swap rfl
      obtain ⟨_, _, e9, hy, e10⟩ := hx
      cases e10; cases e9; cases ev
      refine ⟨ws, hp, by rw [← hr.length]; exact q.1, acc ++ [dy], _, ?_, by rw [hb] at q; exact q.2⟩
      have R9 := ((hu _ _ .non .non (hr.append (.one hy)) rfl).pop).wipe own
      rw [wp] at R9
      exact R9
  · have ei : i = xs.length := by omega
    subst ei
    refine .inl ⟨wk.stop H2 _ rl, ?_⟩
    rw [List.drop_length] at q
    unfold cloop at q
    refine q (.ref Da) H2 ?_
    show RelX C K H2 ((VE.backE e' env1 own).set i0 (some (.lst xs))) σ ((.ref Da, .lst acc) :: fr)
    have R4 : RelX C K H2 (wipeE env1 own) σ ((.ref Da, .lst acc) :: (base ++ (sv e' σ own ++ fr))) := unwipe (σ' := L2.wipe σ own) (by rw [wipe_length]) (fun j hj => by rw [wipe_get, if_neg hj]) R3
    have R5 : RelX C K H2 (wipeE env1 own) σ (sv e' σ own ++ (base ++ ((.ref Da, .lst acc) :: fr))) := by
      refine R4.perm ?_
      refine List.Perm.trans (l₂ := (.ref Da, .lst acc) :: (sv e' σ own ++ (base ++ fr))) ((List.perm_append_comm_assoc _ _ _).cons _) ?_
      refine List.Perm.trans List.perm_middle.symm ?_
      exact List.Perm.append_left _ List.perm_middle.symm
    have := RelX.backE (fun i o h => R1.has i o h) R5
    rw [backE_wipe fun _ h => h] at this
    rw [← hbase] at this
    exact RelX.back this ha
theorem snd_compO {own : List Nat} {p : Pat} {i : Nat} {ifs : Ts} {a : T} (hv : Snd B C Γ (.var i)) (ih : AllS B C Γ (.cons (.var i) .nil)) (ihc : AllS B C Γ ifs) (iha : Snd B C Γ a) : Snd B C Γ (.compO own p i ifs a) := by
  intro X sc ow S e h
  cases ow with
  | some _ => cases e <;> simp [chkE] at h
  | none =>
  cases e with
  | ListComp elt gs scope pos =>
    cases gs with
    | nil => simp [chkE] at h
    | cons g gs =>
      cases gs with
      | cons _ _ => obtain ⟨_, _, _, _⟩ := g; simp [chkE] at h
      | nil =>
        obtain ⟨tg, iter, cs, z⟩ := g
        simp only [chkE, Bool.and_eq_true, decide_eq_true_eq, List.all_eq_true, Bool.not_eq_true'] at h
        obtain ⟨⟨⟨⟨⟨⟨⟨⟨h1, h0⟩, h2⟩, h3⟩, h4⟩, h5⟩, h6⟩, h7⟩, h8⟩ := h
        subst h1
        have h6' : chkI B .seq (.cons (.var i) .nil) sc none tg iter = true := by
          cases iter with
          | Name x p =>
            simp only [Bool.and_eq_true] at h6
            simp only [chkI, chkE, Bool.and_eq_true]
            exact ⟨h6, trivial⟩
          | _ => cases h6
        obtain ⟨hi, hf⟩ := sndO (en := false) S hv ih h6'
        have ok := blkOk_by h2
        refine pt_plain (PE.weak (pe_lc (g := gP C X.K p) (tt := tAs C X.K Γ (evIfs Γ) ifs) (te := tE C X.K Γ a) S.calm (by rw [S.hN]; exact S.nd) hi (by rw [S.hN, S.hsc]; exact ok) (fun s H A cl fp => sndP (S.blk scope s H A cl fp) p tg h5) (fun s H A cl fp => cIfs (S.blk scope s H A cl fp) ihc h7) (fun s H A cl fp => (iha (S.blk scope s H A cl fp) elt h8).1) hf) fun σ H Q q => ?_) rfl
        rw [h3]
        refine lcO_law (fun z => ?_) (fun i hi => by
          have := h4 i hi
          simpa using this) q
        rw [← List.contains_iff_mem, h0] at z
        cases z
  | _ => simp [chkE] at h

theorem wipe_wipe {σ σ2 : Sg} {own own2 : List Nat} (hs : ∀ i ∈ own2, i ∈ own) (wp : L2.wipe σ2 own = L2.wipe σ own) : L2.wipe (L2.wipe σ2 own2) own = L2.wipe σ own := by
  rw [← wp]
  apply List.ext_getElem?
  intro j
  rw [wipe_get (ow := own) (σ := L2.wipe σ2 own2), wipe_get (ow := own) (σ := σ2), wipe_length]
  by_cases hj : j ∈ own
  · rw [if_pos hj, if_pos hj]
  · rw [if_neg hj, if_neg hj, wipe_get, if_neg fun q => hj (hs j q)]
theorem wipe_ag {σ σ2 : Sg} {own vs : List Nat} (hs : ∀ i ∈ vs, i ∈ own) (ls : σ2.length = σ.length) (ag : ∀ i, i ∉ vs → σ2[i]? = (L2.wipe σ own)[i]?) : L2.wipe σ2 own = L2.wipe σ own := by
  apply List.ext_getElem?
  intro j
  rw [wipe_get, wipe_get, ls]
  by_cases hj : j ∈ own
  · rw [if_pos hj, if_pos hj]
  · rw [if_neg hj, if_neg hj, ag j fun z => hj (hs j z), wipe_get, if_neg hj]
theorem lc2_law {K : PySem.W.Frag} {own own2 : List Nat} {p p2 : Pat} {kd kd2 : ItK} {as as2 ifs : Ts} {a : T} (hv : ∀ i ∈ p.vs, i ∈ own) (hv2 : ∀ i ∈ p2.vs, i ∈ own2) (ho : ∀ i ∈ own2, i ∈ own) {σ : L2.St} {H : Hp} {Q : VK} (q : tE C K Γ (.comp2 own p kd as own2 p2 kd2 as2 ifs a) σ H Q) :
    tLc2 (tI C K Γ kd as) (gP C K p) (tAs C K Γ (evIfs Γ) .nil) (tI C K Γ kd2 as2) (gP C K p2) (tAs C K Γ (evIfs Γ) ifs) (tE C K Γ a) own own2 σ H Q := by
  obtain ⟨env, fr, R, q⟩ := q
  unfold ev at q
  refine ⟨env, fr, R, evs_mono as e0 (fun rs e q => vals_mono (fun ds e' q => itW_mono (fun xs q J H1 base wk R1 Da hD => ?_) q) q) q⟩
  generalize hb : (fun (x : D) (acc : List D) (e1 : Ev) (kk : List D → Ev → Prop) => asgP p x e1 fun e2 => evs Γ as2 e2 E0x fun rs2 e3 => vals rs2 e3 fun ds2 e3' =>
        itW kd2 ds2 fun xs2 => cloop (fun x2 acc2 e4 kk2 => asgP p2 x2 e4 fun e5 => evIfs Γ ifs e5 E0x fun b e6 =>
            if b = true then ev Γ a e6 E0x fun r e7 => r.val e7 fun y e8 => addA acc2 y fun acc' => kk2 acc' (wipeE e8 own2) else kk2 acc2 (wipeE e6 own2))
          xs2 acc (wipeE e3' own2) fun acc3 e9 => kk acc3 (wipeE e9 own)) = body at q
  have R2 : RelX C K (L2.upd H1 Da (.lst [])) (wipeE e' own) (L2.wipe σ own) ((.ref Da, .lst []) :: (base ++ (sv e' σ own ++ fr))) := by
    have R3 : RelX C K H1 (wipeE e' own) (L2.wipe σ own) (sv e' σ own ++ (base ++ fr)) := (R1.keep own).wipe own
    have R4 := RelX.made (xs := []) (vs := []) (o := .lst []) (v := .ref Da) (H' := L2.upd H1 Da (.lst [])) R3 rfl fun G hr => .lst hD hr
    refine R4.perm (.cons _ ?_)
    exact List.perm_append_comm_assoc _ _ _
  refine ⟨fun i m H => m = xs.length - i ∧ i ≤ xs.length ∧ ∃ acc env1, RelX C K H env1 (L2.wipe σ own) ((.ref Da, .lst acc) :: (base ++ (sv e' σ own ++ fr))) ∧ cloop body (xs.drop i) acc env1 fun ys e6 => ∀ v H', RelR C K H' (VE.backE e' e6 own) σ fr v (.obj (.lst ys)) → Q v H',
    ⟨xs.length, by simp, Nat.zero_le _, [], wipeE e' own, R2, by simpa using q⟩, ?_⟩
  rintro i m H2 ⟨rfl, hi', acc, env1, R3, q⟩
  have rl : Rel C K H2 (base ++ ((.ref Da, .lst acc) :: (pr env1 (L2.wipe σ own) ++ (sv e' σ own ++ fr)))) := R3.rel.perm (by
    refine List.Perm.trans List.perm_middle ?_
    refine List.Perm.trans ?_ List.perm_middle.symm
    exact (List.perm_append_comm_assoc _ _ _).cons _)
  by_cases hlt : i < xs.length
  · refine .inr ⟨wk.go i H2 _ hlt rl, fun H' => ∃ acc env1, RelX C K H' env1 (L2.wipe σ own) ((.ref Da, .lst acc) :: (base ++ (sv e' σ own ++ fr))) ∧ cloop body (xs.drop (i + 1)) acc env1 fun ys e6 => ∀ v H', RelR C K H' (VE.backE e' e6 own) σ fr v (.obj (.lst ys)) → Q v H',
      fun H' n' => ⟨xs.length - (i + 1), by omega, rfl, hlt, n'⟩, fun x H' y => ?_⟩
    have rl2 := wk.yld i H2 _ x H' hlt rl y
    have R4 : RelX C K H' env1 (L2.wipe σ own) ((x, .d xs[i]) :: ((.ref Da, .lst acc) :: (base ++ (sv e' σ own ++ fr)))) := ⟨R3.len, R3.has, rl2.perm (by
      refine List.Perm.trans ?_ List.perm_middle.symm
      refine List.Perm.cons _ ?_
      refine List.Perm.trans List.perm_middle ?_
      refine List.Perm.trans ?_ List.perm_middle.symm
      exact (List.perm_append_comm_assoc _ _ _).cons _)⟩
    rw [List.drop_eq_getElem_cons hlt] at q
    unfold cloop at q
    rw [← hb] at q
    refine ⟨env1, _, xs[i], R4, asgP_mono p (fun e2 ⟨hle, q⟩ σ2 ag R5 => ?_) (asgP_len p q)⟩
    have ls : σ2.length = σ.length := by rw [← R5.len, hle, R4.len, wipe_length]
    have wp : L2.wipe σ2 own = L2.wipe σ own := wipe_ag hv ls ag
    refine ⟨wp, e2, _, R5, ?_⟩
    unfold evIfs
    intro H3 R6
    rw [if_pos rfl]
    refine ⟨e2, _, R6, evs_mono as2 e0 (fun rs2 e3 q => vals_mono (fun ds2 e3' q => itW_mono (fun xs2 q J1 H4 base1 wk1 R7 => ?_) q) q) q⟩
    rw [hb] at q
    generalize hb2 : (fun (x2 : D) (acc2 : List D) (e4 : Ev) (kk2 : List D → Ev → Prop) => asgP p2 x2 e4 fun e5 => evIfs Γ ifs e5 E0x fun b e6 =>
            if b = true then ev Γ a e6 E0x fun r e7 => r.val e7 fun y e8 => addA acc2 y fun acc' => kk2 acc' (wipeE e8 own2) else kk2 acc2 (wipeE e6 own2)) = body2 at q
    have R8 : RelX C K H4 (wipeE e3' own2) (L2.wipe σ2 own2) ((.ref Da, .lst acc) :: (base1 ++ (base ++ (sv e' σ own ++ fr)))) := (R7.wipe own2).perm List.perm_middle
    refine ⟨fun j m H => m = xs2.length - j ∧ j ≤ xs2.length ∧ ∃ acc2 env2, RelX C K H env2 (L2.wipe σ2 own2) ((.ref Da, .lst acc2) :: (base1 ++ (base ++ (sv e' σ own ++ fr)))) ∧ cloop body2 (xs2.drop j) acc2 env2 fun acc3 e9 => cloop body (xs.drop (i + 1)) acc3 (wipeE e9 own) fun ys e6 => ∀ v H', RelR C K H' (VE.backE e' e6 own) σ fr v (.obj (.lst ys)) → Q v H',
      ⟨xs2.length, by simp, Nat.zero_le _, acc, _, R8, by simpa using q⟩, ?_⟩
    rintro j m H5 ⟨rfl, hj', acc2, env2, R9, q⟩
    have rl3 : Rel C K H5 (base1 ++ ((.ref Da, .lst acc2) :: (pr env2 (L2.wipe σ2 own2) ++ (base ++ (sv e' σ own ++ fr))))) := R9.rel.perm (by
      refine List.Perm.trans List.perm_middle ?_
      refine List.Perm.trans ?_ List.perm_middle.symm
      exact (List.perm_append_comm_assoc _ _ _).cons _)
    by_cases hlt2 : j < xs2.length
    · refine .inr ⟨wk1.go j H5 _ hlt2 rl3, fun H' => ∃ acc2 env2, RelX C K H' env2 (L2.wipe σ2 own2) ((.ref Da, .lst acc2) :: (base1 ++ (base ++ (sv e' σ own ++ fr)))) ∧ cloop body2 (xs2.drop (j + 1)) acc2 env2 fun acc3 e9 => cloop body (xs.drop (i + 1)) acc3 (wipeE e9 own) fun ys e6 => ∀ v H', RelR C K H' (VE.backE e' e6 own) σ fr v (.obj (.lst ys)) → Q v H',
        fun H' n' => ⟨xs2.length - (j + 1), by omega, rfl, hlt2, n'⟩, fun x2 H6 y2 => ?_⟩
      have rl4 := wk1.yld j H5 _ x2 H6 hlt2 rl3 y2
      have Ra : RelX C K H6 env2 (L2.wipe σ2 own2) ((x2, .d xs2[j]) :: ((.ref Da, .lst acc2) :: (base1 ++ (base ++ (sv e' σ own ++ fr))))) := ⟨R9.len, R9.has, rl4.perm (by
        refine List.Perm.trans ?_ List.perm_middle.symm
        refine List.Perm.cons _ ?_
        refine List.Perm.trans List.perm_middle ?_
        refine List.Perm.trans ?_ List.perm_middle.symm
        exact (List.perm_append_comm_assoc _ _ _).cons _)⟩
      rw [List.drop_eq_getElem_cons hlt2] at q
      unfold cloop at q
      rw [← hb2] at q
      refine ⟨env2, _, xs2[j], Ra, asgP_mono p2 (fun e5 ⟨hle2, q⟩ σ3 ag2 Rb => ?_) (asgP_len p2 q)⟩
      have ls2 : σ3.length = σ2.length := by rw [← Rb.len, hle2, Ra.len, wipe_length]
      have wp2 : L2.wipe σ3 own2 = L2.wipe σ2 own2 := wipe_ag hv2 ls2 ag2
      refine ⟨wp2, e5, _, Rb, evIfs_mono ifs e0 (fun b e6 q H7 Rc => ?_) q⟩
      cases b with
      | false =>
        rw [if_neg (by decide)] at q ⊢
        refine ⟨acc2, _, ?_, by rw [hb2] at q; exact q⟩
        have := Rc.wipe own2
        rw [wp2] at this
        exact this
      | true =>
        rw [if_pos rfl] at q ⊢
        refine tE_of Rc q fun r e7 y H8 q Rd => ?_
        obtain ⟨dy, e8, q, Re⟩ := Rd.val q
        obtain ⟨pp, ws, G, ev, hp, g, hr, hx, hu⟩ := RelX.upd (xs := [dy]) (vs := [y]) Re.swap rfl
        obtain ⟨_, _, e9, hy, e10⟩ := hx
        cases e10; cases e9; cases ev
        refine ⟨ws, hp, by rw [← hr.length]; exact q.1, acc2 ++ [dy], _, ?_, by rw [hb2] at q; exact q.2⟩
        have Rf := ((hu _ _ .non .non (hr.append (.one hy)) rfl).pop).wipe own2
        rw [wp2] at Rf
        exact Rf
    · have ej : j = xs2.length := by omega
      subst ej
      refine .inl ⟨wk1.stop H5 _ rl3, ?_⟩
      rw [List.drop_length] at q
      unfold cloop at q
      refine ⟨acc2, _, ?_, q⟩
      have Rg := R9.wipe own
      rw [wipe_wipe ho wp] at Rg
      exact Rg.sub (List.Sublist.cons_cons _ (List.sublist_append_right _ _))
  · have ei : i = xs.length := by omega
    subst ei
    refine .inl ⟨wk.stop H2 _ rl, ?_⟩
    rw [List.drop_length] at q
    unfold cloop at q
    refine q (.ref Da) H2 ?_
    show RelX C K H2 (VE.backE e' env1 own) σ ((.ref Da, .lst acc) :: fr)
    have R4 : RelX C K H2 (wipeE env1 own) σ ((.ref Da, .lst acc) :: (base ++ (sv e' σ own ++ fr))) := unwipe (σ' := L2.wipe σ own) (by rw [wipe_length]) (fun j hj => by rw [wipe_get, if_neg hj]) R3
    have R5 : RelX C K H2 (wipeE env1 own) σ (sv e' σ own ++ ((.ref Da, .lst acc) :: fr)) := by
      refine (R4.perm (fr' := base ++ ((.ref Da, .lst acc) :: (sv e' σ own ++ fr))) List.perm_middle.symm).sub ?_ |>.perm List.perm_middle.symm
      exact List.sublist_append_right _ _
    have := RelX.backE (fun i o h => R1.has i o h) R5
    rwa [backE_wipe fun _ h => h] at this
theorem chkI_set {B : Tb} {sc : Scope} {ow : Option Scope} {tg : Expr} {x : List Expr} {y : Nat} {z : Pos} : ∀ (kd : ItK) (as : Ts), chkI B kd as sc ow tg (.Set x y z) = false := by
  intro kd as
  cases kd <;> cases as with
    | nil => rfl
    | cons a as => cases as with
      | nil => first | rfl | exact Bool.and_false _
      | cons b as => cases as with
        | nil => rfl
        | cons c as => cases as with
          | nil => rfl
          | cons d as => cases as <;> rfl
theorem snd_comp2 {own own2 : List Nat} {p p2 : Pat} {kd kd2 : ItK} {as as2 ifs : Ts} {a : T} (ih : AllS B C Γ as) (ih2 : AllS B C Γ as2) (ihc : AllS B C Γ ifs) (iha : Snd B C Γ a) : Snd B C Γ (.comp2 own p kd as own2 p2 kd2 as2 ifs a) := by
  intro X sc ow S e h
  cases e with
  | ListComp elt gs scope pos =>
    match gs, h with
    | [⟨tg, iter, [], z⟩, ⟨tg2, iter2, cs2, z2⟩], h =>
      simp only [chkE, Bool.and_eq_true, decide_eq_true_eq, List.all_eq_true] at h
      obtain ⟨⟨⟨⟨⟨⟨⟨⟨⟨⟨⟨⟨h1, h1'⟩, h2⟩, h3⟩, h4⟩, h5⟩, h6⟩, h7⟩, h8⟩, h9⟩, h10⟩, h11⟩, h12⟩ := h
      subst h1 h1'
      obtain ⟨hi, hf⟩ := sndI S ih h9
      have ok := blkOk_by h2
      have mem : ∀ {l m : List Nat}, (∀ x ∈ l, m.contains x = true) → ∀ i ∈ l, i ∈ m := fun hh i hi => by
        have := hh i hi
        simpa using this
      have hf2 : ∀ env x, foldedSetIterable iter2 env x = pure x := by
        intro env x
        cases iter2 with
        | Set => rw [chkI_set] at h10; cases h10
        | _ => rfl
      refine pt_plain (PE.weak (pe_lc2 (g := gP C X.K p) (g1 := gP C X.K p2) (tt := tAs C X.K Γ (evIfs Γ) .nil) (tt1 := tAs C X.K Γ (evIfs Γ) ifs) (wi1 := tI C X.K Γ kd2 as2) (te := tE C X.K Γ a) (vs1 := own2) S.calm (by rw [S.hN]; exact S.nd) hi (by rw [S.hN, S.hsc]; exact ok) (by rw [h3]; exact mem h4)
        (fun s H A cl fp => sndP (S.blk scope s H A cl fp) p tg h7) (fun s H A cl fp => cIfs (S.blk scope s H A cl fp) (ifs := .nil) trivial rfl) (fun s H A cl fp => (sndI (S.blk scope s H A cl fp) ih2 h10).1)
        (fun s H A cl fp => sndP (S.blk scope s H A cl fp) p2 tg2 h8) (fun s H A cl fp => cIfs (S.blk scope s H A cl fp) ihc h11) (fun s H A cl fp => (iha (S.blk scope s H A cl fp) elt h12).1) hf hf2) fun σ H Q q => ?_) rfl
      rw [h3]
      exact lc2_law (mem h5) (mem h6) (mem h4) q
  | _ => simp [chkE] at h

theorem zip_snoc {ws : List V} {xs : List D} {u : V} {y : D} (h : xs.length = ws.length) : (ws ++ [u]).zip ((xs ++ [y]).map O.d) = ws.zip (xs.map O.d) ++ [(u, .d y)] := by
  rw [List.map_append, List.zip_append (by simp [h])]
  rfl
/-- (*row, x) -/
theorem snd_star {a b : T} (ha : Snd B C Γ a) (hb : Snd B C Γ b) : Snd B C Γ (.star a b) := by
  intro X sc ow S e h
  cases e with
  | Tuple es k pos =>
    match es, h with
    | [.Starred x ps, y], h =>
      simp only [chkE, Bool.and_eq_true] at h
      obtain ⟨h1, h2, h3⟩ := h
      refine pt_plain (PE.weak (pe_tup (StX.pa_star (ha S x h1).1 (pa_cons (hb S y h3).1 pa_nil (star_cons h2)))) fun σ H Q q => ?_) rfl
      obtain ⟨env, fr, R, q⟩ := q
      unfold ev at q
      refine tE_of R q fun ra e1 v H1 q1 R1 => ?_
      obtain ⟨x, e2, q2, R2⟩ := R1.val q1
      cases x with
      | tup xs =>
        obtain ⟨p, ws0, ep, _, _⟩ := R2.top.rep
        subst ep
        obtain ⟨ws, hp, hl, R3⟩ := zip_perm (vs := []) R2
        refine ⟨p, ws, rfl, .inl (.inl (.of hp)), ?_⟩
        refine tE_of R3 q2 fun rb e3 u H2 q3 R4 => ?_
        obtain ⟨y, e4, ⟨hz, q5⟩, R5⟩ := R4.val q3
        have R6 : RelX C X.K H2 e4 σ ((ws ++ [u]).zip ((xs ++ [y]).map O.d) ++ fr) := R5.perm (by
          rw [zip_snoc hl, List.append_assoc]
          exact List.perm_middle.symm)
        exact ⟨by simp; omega, fun p hp => q5 _ _ (R6.made (by simp [hl]) fun G hr => .tup hp hr)⟩
      | _ => exact q2.elim
  | _ => simp [chkE] at h

theorem reps_rng {C : CT} {K : PySem.W.Frag} {G : Hp} (j : Int) : Reps C K G (rngD 0 j) (rgV 0 j) := by
  unfold rngD rgV
  generalize List.range (j - 0).toNat = l
  induction l with
  | nil => rfl
  | cons a l ih => exact ⟨_, _, rfl, rfl, ih⟩
/-- what is made is frozen at once -/
theorem snd_frz {a : T} (ha : Snd B C Γ a) : Snd B C Γ (.frz a) := by
  intro X sc ow S e h
  have h' : chkE B a sc ow e = true := by
    cases e with
    | Call f es ks p => simpa [chkE] using h
    | _ => simp [chkE] at h
  refine ⟨PE.weak (ha S e h').1 fun σ H Q q => ?_, PT.weak (ha S e h').2 fun σ H Q q => ?_⟩
  · obtain ⟨env, fr, R, q⟩ := q
    unfold ev at q
    refine tE_of R q fun r e1 v H1 q1 R1 => ?_
    split at q1
    · exact q1 v H1 (RelX.freeze R1)
    · exact q1.elim
  · obtain ⟨env, fr, R, q⟩ := q
    unfold ev at q
    refine ⟨env, fr, R, ev_mono a e0 (fun r e1 q1 => ?_) q⟩
    split at q1
    · rename_i o
      unfold tst at q1 ⊢
      cases o with
      | d x => exact q1
      | _ => simp [O.toD] at q1
    · exact q1.elim
/-- tuple(range(a)) -/
theorem snd_tupR {a : T} (ha : Snd B C Γ a) : Snd B C Γ (.tupR a) := by
  intro X sc ow S e h
  cases e with
  | Call f es ks pos =>
    match f, es, ks, h with
    | .Name x p, [.Call (.Name y p2) [e] [] pos2], [], h =>
      simp only [chkE, Bool.and_eq_true, decide_eq_true_eq] at h
      obtain ⟨⟨⟨⟨h1, h2⟩, h3⟩, h4⟩, h5, h6⟩ := h
      subst h1 h2
      unfold gnOk at h3 h4
      simp only [Bool.and_eq_true, decide_eq_true_eq, Bool.not_eq_true'] at h3 h4
      refine pt_plain (PE.weak (pe_tupRg S.calm (gl_of S h3.1.1.1) (S.blt _ h3.1.1.2) (prg_1 (gl_of S h4.1.1.1) (S.blt _ h4.1.1.2) (ha S e h6).1 (star_cons h5))) fun σ H Q q => ?_) rfl
      obtain ⟨env, fr, R, q⟩ := q
      unfold ev at q
      refine tE_of R q fun r e1 v H1 q1 R1 => ?_
      split at q1
      · rename_i j
        have ev : v = .int j := (RelX.top R1).rep
        obtain ⟨⟨⟨b1, b2⟩, b3⟩, q2⟩ := q1
        refine ⟨j, ev, ⟨by omega, by omega, b1, b2, by omega⟩, fun p hp => q2 _ _ ?_⟩
        exact (RelX.made (xs := []) (vs := []) (o := .d (.tup (rngD 0 j))) (RelX.pop R1) rfl fun G hr => .tup hp (reps_rng j))
      · exact q1.elim
  | _ => simp [chkE] at h

theorem zip_lookup : ∀ {ns : List Str} {vs : List V} {j : Nat} {f : Str} {v : V}, ns.Nodup → ns[j]? = some f → vs[j]? = some v → (ns.zip vs).lookup f = some v
  | [], _, _, _, _, _, h, _ => by simp at h
  | _ :: _, [], _, _, _, _, _, h => by simp at h
  | n :: ns, w :: vs, 0, f, v, _, h1, h2 => by
    have e1 : n = f := by simpa using h1
    have e2 : w = v := by simpa using h2
    subst e1 e2
    simp [List.zip_cons_cons, List.lookup_cons]
  | n :: ns, w :: vs, j + 1, f, v, nd, h1, h2 => by
    have h1' : ns[j]? = some f := by simpa using h1
    have ne : (f == n) = false := by
      rw [beq_eq_false_iff_ne]
      intro e
      subst e
      exact (List.nodup_cons.mp nd).1 (List.mem_of_getElem? h1')
    rw [List.zip_cons_cons, List.lookup_cons, ne]
    exact zip_lookup (List.nodup_cons.mp nd).2 h1' (by simpa using h2)
theorem owns_get {K : PySem.W.Frag} {H G : Hp} : ∀ {fs : List O} {vs : List V} {S : List Addr} {j : Nat} {x : D}, owns C K H G fs vs S → fs[j]? = some (.d x) → ∃ w, vs[j]? = some w ∧ Rep C K G x w
  | [], _, _, _, _, _, h => by simp at h
  | o :: os, _, _, 0, x, ⟨v, r, S1, S2, e1, e2, h1, h2⟩, h => by
    have eo : o = .d x := by simpa using h
    subst eo e1
    exact ⟨v, rfl, h1.2⟩
  | o :: os, _, _, j + 1, x, ⟨v, r, S1, S2, e1, e2, h1, h2⟩, h => by
    subst e1
    obtain ⟨w, hw, hr⟩ := owns_get h2 (show os[j]? = some (.d x) by simpa using h)
    exact ⟨w, by simpa using hw, hr⟩
theorem snd_fld {c j : Nat} {a : T} (ha : Snd B C Γ a) : Snd B C Γ (.fld c j a) := by
  intro X sc ow S e h
  cases e with
  | Attribute e f pos =>
    simp only [chkE, Bool.and_eq_true] at h
    obtain ⟨⟨h1, h2⟩, h3⟩ := h
    split at h1
    · rename_i ns hc
      have h1 := of_decide_eq_true h1
      obtain ⟨c1, c2, c3, c4⟩ := S.cls c ns hc
      have hb : attributeBase e f X.env (eval e X.env) = eval e X.env := by
        cases e with
        | Call g es ks p =>
          cases es with
          | cons _ _ => cases g <;> rfl
          | nil => cases ks with
            | nil => cases h2
            | cons _ _ => cases g <;> rfl
        | _ => rfl
      refine pt_plain (PE.weak (pe_fld (ha S e h3).1 hb) fun σ H Q q => ?_) rfl
      obtain ⟨env, fr, R, q⟩ := q
      unfold ev at q
      refine tE_of R q fun r ee v H1 q1 R1 => ?_
      -- the object, as data
      have fin : ∀ {G : Hp} {fs : List D} {x : D}, Same G H1 → Rep C X.K G (.ins c fs) v → fs[j]? = some x → ∃ w, Rep C X.K G x w ∧ ∃ p dx vs, v = .ref p ∧ H1 p = some (.ins (C.addr c) dx vs) ∧ vs.lookup f = some w := by
        intro G fs x g hr hx
        obtain ⟨p, dx, vs, e2, hp, hl, hv⟩ := hr
        obtain ⟨w, hw, hrw⟩ := hv.get hx
        exact ⟨w, hrw, p, dx, _, e2, g _ _ hp, zip_lookup (by rw [c1]; exact c2) (by rw [c1]; exact h1) hw⟩
      have mem : f ∈ ns := List.mem_of_getElem? h1
      unfold fldW at q1
      cases r with
      | obj o =>
        simp only at q1
        split at q1
        · rename_i c' fs ho
          obtain ⟨e1, x, hx, q2⟩ := q1
          subst e1
          have R2 : RelX C X.K H1 ee σ ((v, .d (.ins c' fs)) :: fr) := by
            have := RelX.freeze R1
            rwa [ho] at this
          obtain ⟨G, S', g, ⟨S1, S2, e2, ⟨e3, hr⟩, k⟩, nd, no⟩ := R2.top
          obtain ⟨w, hw, p, dx, vs, e4, hp, hlk⟩ := fin g hr hx
          refine ⟨p, C.addr c', dx, vs, w, e4, hp, c3, c4 f mem, hlk, q2 w H1 ?_⟩
          refine ⟨R2.len, R2.has, ?_⟩
          have : Rel C X.K H1 ((w, .d x) :: (pr ee σ ++ fr)) := ⟨G, S2, g, ⟨[], S2, rfl, ⟨rfl, hw⟩, k⟩, by subst e2; exact (List.nodup_append.mp nd).2.1, fun p hp => no p (by subst e2; exact List.mem_append_right _ hp)⟩
          exact this.perm List.perm_middle.symm
        · exact q1.elim
      | path i =>
        simp only at q1
        split at q1
        · rename_i c' fs hs
          obtain ⟨e1, x, hx, q2⟩ := q1
          subst e1
          have R1' : RelX C X.K H1 ee σ fr ∧ σ[i]? = some (some v) ∧ _ := R1
          obtain ⟨Rb, hv, _⟩ := R1'
          have P := pr_take hs hv
          have R3 : Rel C X.K H1 ((v, .ins c' fs) :: (pr (ee.set i none) σ ++ fr)) := Rb.rel.perm (P.append_right fr)
          obtain ⟨G, S', g, ⟨S1, S2, e2, ⟨p, dx, vs, S3, e4, eS, hp, hl, ho⟩, k⟩, nd, no⟩ := R3
          obtain ⟨w, hw, hr⟩ := owns_get ho hx
          refine ⟨p, C.addr c', dx, _, w, e4, hp, c3, c4 f mem, zip_lookup (by rw [c1]; exact c2) (by rw [c1]; exact h1) hw, q2 w H1 ⟨Rb.len, Rb.has, ?_⟩⟩
          have R4 : Rel C X.K H1 ((w, .d x) :: (v, .ins c' fs) :: (pr (ee.set i none) σ ++ fr)) := ⟨G, S', g, ⟨[], S', rfl, ⟨rfl, hr⟩, S1, S2, e2, ⟨p, dx, vs, S3, e4, eS, hp, hl, ho⟩, k⟩, nd, no⟩
          exact (R4.perm (((P.append_right fr).symm).cons _)).perm List.perm_middle.symm
        · exact q1.elim
    · cases h1
  | _ => simp [chkE] at h

/-! ### every expression -/
mutual
theorem snd : ∀ a : T, Snd B C Γ a
  | .var i => snd_var i
  | .int i => snd_int i
  | .bl b => snd_bl b
  | .non => snd_non
  | .str s => snd_str s
  | .glob x i => snd_glob x i
  | .tup as => snd_tup (sndTs as)
  | .lst as => snd_lst (sndTs as)
  | .prim u as => snd_prim (sndTs as)
  | .chain o1 o2 a b c => snd_chain (snd a) (snd b) (snd c)
  | .chain3 _ _ _ a b c d => snd_chain3 (snd a) (snd b) (snd c) (snd d)
  | .mrg a b => snd_mrg (snd a) (snd b)
  | .dic1 a b => snd_dic1 (snd a) (snd b)
  | .meq _ _ a b => snd_meq (snd a) (snd b)
  | .and as => snd_and (sndTs as)
  | .or as => snd_or (sndTs as)
  | .not a => snd_not (snd a)
  | .ite c a b => snd_ite (snd c) (snd a) (snd b)
  | .call f as => snd_call (sndTs as)
  | .mut u i as => snd_mut (sndTs as)
  | .star a b => snd_star (snd a) (snd b)
  | .tupR a => snd_tupR (snd a)
  | .frz a => snd_frz (snd a)
  | .comp own p k as ifs e => snd_comp (sndTs as) (sndTs ifs) (snd e)
  | .compO own p i ifs e => snd_compO (snd_var i) ⟨snd_var i, trivial⟩ (sndTs ifs) (snd e)
  | .dic0 t => snd_dic0 t
  | .call0 f => snd_call0 f
  | .new c f fz as => snd_new (sndTs as)
  | .meth l m r as => snd_meth (snd r) (sndTs as)
  | .dget a as => snd_dget (snd a) (sndTs as)
  | .fld c j e => snd_fld (snd e)
  | .isi e k => snd_isi (snd e)
  | .comp2 own p kd as own2 p2 kd2 as2 ifs e => snd_comp2 (sndTs as) (sndTs as2) (sndTs ifs) (snd e)
theorem sndTs : ∀ as : Ts, AllS B C Γ as
  | .nil => trivial
  | .cons a as => ⟨snd a, sndTs as⟩
end
end
end VE
/-! VEF: stores in place: dicts, attributes -/
namespace VE
open PySem PySem.Spec PyProof.Rows L2
section
variable {C : CT} {K : PySem.W.Frag} {G H : Hp}
theorem ownL_sub {L M : Prs} (s : M.Sublist L) : ∀ {S : List Addr}, ownL C K H G L S → ∃ T, T.Sublist S ∧ ownL C K H G M T := by
  induction s with
  | slnil => intro S h; exact ⟨S, .refl _, h⟩
  | cons a _ ih =>
    rintro S ⟨S1, S2, e, h1, h2⟩
    obtain ⟨T, t, k⟩ := ih h2
    exact ⟨T, by rw [e]; exact t.trans (List.sublist_append_right _ _), k⟩
  | cons_cons a _ ih =>
    rintro S ⟨S1, S2, e, h1, h2⟩
    obtain ⟨T, t, k⟩ := ih h2
    exact ⟨S1 ++ T, by rw [e]; exact List.Sublist.append (.refl _) t, S1, T, rfl, h1, k⟩
theorem owns_zip : ∀ {fs : List O} {vs : List V} {S : List Addr}, owns C K H G fs vs S → fs.length = vs.length ∧ ownL C K H G (vs.zip fs) S
  | [], _, _, ⟨e1, e2⟩ => by subst e1 e2; exact ⟨rfl, rfl⟩
  | o :: os, _, _, ⟨v, r, S1, S2, e1, e2, h1, h2⟩ => by
    subst e1 e2
    obtain ⟨k1, k2⟩ := owns_zip h2
    exact ⟨by simp [k1], S1, S2, rfl, h1, k2⟩
theorem zip_owns : ∀ {fs : List O} {vs : List V} {S : List Addr}, fs.length = vs.length → ownL C K H G (vs.zip fs) S → owns C K H G fs vs S
  | [], [], _, _, h => ⟨rfl, h⟩
  | [], _ :: _, _, h, _ => by simp at h
  | _ :: _, [], _, h, _ => by simp at h
  | o :: os, v :: vs, _, h, ⟨S1, S2, e, h1, h2⟩ => ⟨v, vs, S1, S2, rfl, e, h1, zip_owns (by simpa using h) h2⟩
theorem zip_set2 {α β : Type} {a : α} {b : β} : ∀ {xs : List α} {ys : List β} {j : Nat}, (xs.set j a).zip (ys.set j b) = (xs.zip ys).set j (a, b)
  | [], _, _ => rfl
  | _ :: _, [], j => by simp
  | x :: xs, y :: ys, 0 => rfl
  | x :: xs, y :: ys, j + 1 => by simp [zip_set2]
theorem set_perm {α : Type} {a : α} : ∀ {xs : List α} {j : Nat}, j < xs.length → (xs.set j a).Perm (a :: xs.eraseIdx j)
  | [], _, h => by simp at h
  | x :: xs, 0, _ => .refl _
  | x :: xs, j + 1, h => (List.Perm.cons x (set_perm (by simpa using h))).trans (.swap _ _ _)
theorem putF_new {f : Str} {w : V} : ∀ {ns : List Str} {vs : List V}, ns.Nodup → ns[vs.length]? = some f → putF f w (ns.zip vs) = ns.zip (vs ++ [w])
  | [], vs, _, h => by simp at h
  | n :: ns, [], _, h => by
    have e : n = f := by simpa using h
    subst e
    simp [putF]
  | n :: ns, v :: vs, nd, h => by
    have h' : ns[vs.length]? = some f := by simpa using h
    have ne : n ≠ f := fun e => by
      subst e
      exact (List.nodup_cons.mp nd).1 (List.mem_of_getElem? h')
    rw [List.zip_cons_cons, List.cons_append, List.zip_cons_cons]
    unfold putF
    rw [if_neg ne, putF_new (List.nodup_cons.mp nd).2 h']
theorem putF_old {f : Str} {w : V} : ∀ {ns : List Str} {vs : List V} {j : Nat}, ns.Nodup → ns[j]? = some f → j < vs.length → putF f w (ns.zip vs) = ns.zip (vs.set j w)
  | [], vs, _, _, h, _ => by simp at h
  | n :: ns, [], _, _, _, h => by simp at h
  | n :: ns, v :: vs, 0, nd, h, _ => by
    have e : n = f := by simpa using h
    subst e
    simp [putF]
  | n :: ns, v :: vs, j + 1, nd, h, hj => by
    have h' : ns[j]? = some f := by simpa using h
    have ne : n ≠ f := fun e => by
      subst e
      exact (List.nodup_cons.mp nd).1 (List.mem_of_getElem? h')
    rw [List.zip_cons_cons, List.set_cons_succ, List.zip_cons_cons]
    unfold putF
    rw [if_neg ne, putF_old (List.nodup_cons.mp nd).2 h' (by simpa using hj)]
end
section
variable {C : CT} {K : PySem.W.Frag} {H : Hp} {env : Ev} {σ : Sg} {fr : Prs}
/-- an attribute is stored -/
theorem setF_ok {c j : Nat} {fs : List O} {o : O} {v w : V} {f : Str} (R : RelX C K H env σ ((v, .ins c fs) :: (w, o) :: fr)) (nd : (C.names c).Nodup) (hf : (C.names c)[j]? = some f) (hj : j ≤ fs.length) :
    ∃ p dx ps, v = .ref p ∧ H p = some (.ins (C.addr c) dx ps) ∧ ps.length ≤ (C.names c).length ∧ RelX C K (L2.upd H p (.ins (C.addr c) dx (putF f w ps))) env σ ((v, .ins c (if j = fs.length then fs ++ [o] else fs.set j o)) :: fr) := by
  have R0 : Rel C K H ((v, .ins c fs) :: (w, o) :: (pr env σ ++ fr)) := R.rel.perm (by
    refine List.Perm.trans List.perm_middle ?_
    exact List.Perm.cons _ List.perm_middle)
  obtain ⟨G, S, g, ⟨S1, S2, e2, ⟨p, dx, vs, S', e3, e4, hp, hl, ho⟩, h2⟩, ndS, no⟩ := R0
  subst e2 e4
  obtain ⟨lz, oz⟩ := owns_zip ho
  have hjn : j < (C.names c).length := (List.getElem?_eq_some_iff.mp hf).1
  have np : p ∉ S' ++ S2 := (List.nodup_cons.mp ndS).1
  have nd2 : (S' ++ S2).Nodup := (List.nodup_cons.mp ndS).2
  have gp : G p = none := no p (by simp)
  -- all that is owned beside p
  have all : ownL C K H G (vs.zip fs ++ ((w, o) :: (pr env σ ++ fr))) (S' ++ S2) := ownL.append oz h2
  -- .. the new fields in front
  have key : ∃ vs' T, putF f w ((C.names c).zip vs) = (C.names c).zip vs' ∧ (if j = fs.length then fs ++ [o] else fs.set j o).length = vs'.length ∧ (if j = fs.length then fs ++ [o] else fs.set j o).length ≤ (C.names c).length ∧ T.Nodup ∧ (∀ q ∈ T, q ∈ S' ++ S2) ∧
      ownL C K H G (vs'.zip (if j = fs.length then fs ++ [o] else fs.set j o) ++ (pr env σ ++ fr)) T := by
    by_cases hz : j = fs.length
    · rw [if_pos hz]
      refine ⟨vs ++ [w], S' ++ S2, putF_new nd (by rw [← lz, ← hz]; exact hf), by simp [lz], by simp; omega, nd2, fun _ h => h, ?_⟩
      rw [List.zip_append lz.symm, List.append_assoc]
      exact all
    · rw [if_neg hz]
      have hlt : j < vs.length := by omega
      have pm : (vs.zip fs ++ ((w, o) :: (pr env σ ++ fr))).Perm ((w, o) :: (vs.zip fs ++ (pr env σ ++ fr))) := List.perm_middle
      obtain ⟨T1, p1, k1⟩ := ownL.perm pm all
      have hsub : ((w, o) :: ((vs.zip fs).eraseIdx j ++ (pr env σ ++ fr))).Sublist ((w, o) :: (vs.zip fs ++ (pr env σ ++ fr))) := List.Sublist.cons_cons _ (List.Sublist.append (List.eraseIdx_sublist ..) (.refl _))
      obtain ⟨T2, p2, k2⟩ := ownL_sub hsub k1
      have e5 : (vs.set j w).zip (fs.set j o) = (vs.zip fs).set j (w, o) := zip_set2
      obtain ⟨T3, p3, k3⟩ := ownL.perm (show ((w, o) :: ((vs.zip fs).eraseIdx j ++ (pr env σ ++ fr))).Perm ((vs.set j w).zip (fs.set j o) ++ (pr env σ ++ fr)) by
        rw [e5, ← List.cons_append]
        exact List.Perm.append_right _ (set_perm (by rw [List.length_zip]; omega)).symm) k2
      refine ⟨vs.set j w, T3, putF_old nd hf hlt, by simp [lz], by simp; omega, ?_, fun q hq => ?_, k3⟩
      · exact (p3.nodup_iff).mp ((p1.nodup_iff.mp nd2).sublist p2)
      · exact p1.mem_iff.mpr (p2.subset (p3.mem_iff.mpr hq))
  obtain ⟨vs', T, e6, l6, l7, ndT, hT, k⟩ := key
  refine ⟨p, dx, _, e3, hp, by rw [List.length_zip]; exact Nat.min_le_left .., R.len, R.has, ?_⟩
  obtain ⟨T1, T2, e7, k1, k2⟩ := ownL.split k
  have npT : p ∉ T := fun h => np (hT p h)
  have fin : Rel C K (L2.upd H p (.ins (C.addr c) dx (putF f w ((C.names c).zip vs)))) ((v, .ins c (if j = fs.length then fs ++ [o] else fs.set j o)) :: (pr env σ ++ fr)) := by
    refine ⟨G, p :: T, fun q u e => ?_, ⟨p :: T1, T2, by rw [e7]; rfl, ⟨p, dx, vs', T1, e3, rfl, by rw [upd_same, e6], l7, ?_⟩, ?_⟩, List.nodup_cons.mpr ⟨npT, ndT⟩, fun q hq => ?_⟩
    · rw [upd_ne (fun z => by rw [z, gp] at e; cases e)]; exact g _ _ e
    · exact owns.keep _ _ _ (zip_owns l6 k1) (fun q hq => upd_ne fun e => npT (by rw [e7]; exact e ▸ List.mem_append_left _ hq)) (Same.refl G)
    · exact ownL.keep _ _ k2 (fun q hq => upd_ne fun e => npT (by rw [e7]; exact e ▸ List.mem_append_right _ hq)) (Same.refl G)
    · rcases List.mem_cons.mp hq with rfl | hq
      · exact gp
      · exact no q (List.mem_cons_of_mem _ (hT q hq))
  exact fin.perm List.perm_middle.symm
/-- d[k] = x -/
theorem RelX.putD {t : Bool} {ks xs : List D} {k x : D} {v vk vx : V} (R : RelX C K H env σ ((v, .dic t ks xs) :: (vk, .d k) :: (vx, .d x) :: fr)) (hk : kOk t k = true) (hl : ks.length < sizeLine) :
    ∃ p H', v = .ref p ∧ DPut H p vk vx H' ∧ RelX C K H' env σ ((v, .dic t (dput ks xs k x).1 (dput ks xs k x).2) :: fr) := by
  have R0 : Rel C K H ((v, .dic t ks xs) :: (vk, .d k) :: (vx, .d x) :: (pr env σ ++ fr)) := R.rel.perm (by
    refine List.Perm.trans List.perm_middle ?_
    refine List.Perm.cons _ ?_
    refine List.Perm.trans List.perm_middle ?_
    exact List.Perm.cons _ List.perm_middle)
  obtain ⟨G, S, g, ⟨S1, S2, e2, ⟨p, ws, ev, eS, hp, ⟨ok, hlen⟩, hr⟩, ⟨S3, S4, e4, ⟨e5, hrk⟩, ⟨S5, S6, e6, ⟨e7, hrx⟩, h2⟩⟩⟩, nd, no⟩ := R0
  subst e2 eS e4 e5 e6 e7 ev
  have np : p ∉ S6 := (List.nodup_cons.mp nd).1
  have gp : G p = none := no p (by simp)
  have fin : ∀ o' ws', keysOk t (dput ks xs k x).1 = true ∧ (dput ks xs k x).1.length = (dput ks xs k x).2.length → Reps C K G (dput ks xs k x).2 ws' → o' = dHO t (dput ks xs k x).1 ws' → RelX C K (L2.upd H p o') env σ ((.ref p, .dic t (dput ks xs k x).1 (dput ks xs k x).2) :: fr) := by
    intro o' ws' hk' hr' eo
    subst eo
    refine ⟨R.len, R.has, ?_⟩
    have r1 : Rel C K (L2.upd H p (dHO t (dput ks xs k x).1 ws')) ((.ref p, .dic t (dput ks xs k x).1 (dput ks xs k x).2) :: (pr env σ ++ fr)) := by
      refine ⟨G, p :: S6, fun q u e => ?_, ⟨[p], S6, rfl, ⟨p, ws', rfl, rfl, upd_same, hk', hr'⟩, ownL.keep _ _ h2 (fun q hq => upd_ne fun e => np (e ▸ hq)) (Same.refl G)⟩, nd, fun q hq => no q hq⟩
      rw [upd_ne (fun z => by rw [z, gp] at e; cases e)]; exact g _ _ e
    exact r1.perm List.perm_middle.symm
  have hl2 : ks.length = ws.length := hlen.trans hr.length
  rcases keysT.mp hk with ⟨rfl, hk1⟩ | ⟨rfl, hk1⟩
  · have e : vk = kV (toKey k) := key_V hk1 hrk
    subst e
    obtain ⟨ws', e8, r8, k8, l8⟩ := putK_dput (C := C) (K := K) (G := G) (f := toKey) (p := isKey) toKey_inj hk1 ok hlen hr hrx
    refine ⟨p, _, rfl, .inl ⟨_, toKey k, hp, rfl, by rw [List.length_zip, List.length_map]; omega, rfl⟩, ?_⟩
    exact fin _ ws' ⟨k8, l8⟩ r8 (by rw [e8]; rfl)
  · cases k <;> first | (cases hk1; done) | skip
    rename_i zs
    obtain ⟨b, us, rfl, k1, k2⟩ := hrk
    have e := keys_V (show zs.all isKey = true from hk1) k2
    obtain ⟨ws', e8, r8, k8, l8⟩ := putK_dput (C := C) (K := K) (G := G) (f := toKeyT) (p := isKeyT) toKeyT_inj hk1 ok hlen hr hrx
    refine ⟨p, _, rfl, .inr ⟨_, zs.map toKey, b, hp, rfl, ?_, by rw [List.length_zip, List.length_map]; omega, rfl⟩, ?_⟩
    · rw [g _ _ k1, e]
    · exact fin _ ws' ⟨k8, l8⟩ r8 (by show HO.dT (putK _ (toKeyT (D.tup zs)) vx) = _; rw [e8]; rfl)
end
def rSetB : V → V → V → Hp → (Hp → Prop) → Prop := fun o i v H Q => rSetL o i v H Q ∨ rSetD o i v H Q
theorem set_both {X : Cx} (hu : X.A.units + 1 < cLine) : PSet X rSetB := by
  intro pins s σ H o i v ov iv u Q I ro ri rv h
  rcases h with h | h
  · exact set_list pins s σ H o i v ov iv u Q I ro ri rv h
  · exact set_dict hu pins s σ H o i v ov iv u Q I ro ri rv h
end VE
/-! VE16: statements -/
namespace VE
open PySem PySem.Spec PyProof.Rows L2
/-! ### the check -/
def swB (sc : Scope) (x : Str) (px : Pos) : Expr → Bool
  | .ListComp _ _ scope pos => decide (sc.names.lookup x = some .local) && px.line == pos.line && !(scope.names.any fun (n, k) => n == x && (k == .local || k == .cell))
  | _ => false
def ntLoc (sc : Scope) : Expr → Bool
  | .Name x _ => !decide (sc.names.lookup x = some .local)
  | _ => true
def foldOk (sc : Scope) (ts : List Expr) : Expr → Bool
  | .Tuple vs _ _ => vs.all (foldedForSure 8) || !(ts.length == 2 || ts.length == 3) || ts.any (ntLoc sc)
  | _ => true
/-- plain names as targets -/
def nmsOk (B : Tb) (F : List Nat) (sc : Scope) : List Nat → List Expr → Bool
  | [], [] => true
  | i :: is, .Name x _ :: es => tgOk B sc none i x && !F.contains i && nmsOk B F sc is es
  | _, _ => false
def locB (B : Tb) (F : List Nat) (sc : Scope) (i : Nat) (x : Str) : Bool := decide (B.N[i]? = some x) && decide (sc.names.lookup x = some .local) && !F.contains i
def notO : T → Bool
  | .compO _ _ _ _ _ => false
  | _ => true
mutual
def chkS (B : Tb) (F : List Nat) (sc : Scope) : S → Stmt → Bool
  | .pass, .Pass _ => true
  | .pass, .Expr (.Constant (.str _) _ _) _ => true
  | .set i e, .Assign [.Name x _] v _ => tgOk B sc none i x && !F.contains i && (chkE B e sc none v && notO e)
  | .asg (.t ps) e, .Assign [.Tuple es _ _] v _ => chkPs B sc none ps es && (ps.vs.all fun i => !F.contains i) && chkE B e sc none v && foldOk sc es v
  | .parN is as, .Assign [.Tuple es _ _] (.Tuple vs k2 p2) _ => nmsOk B F sc is es && chkEs B as sc none vs && decide (vs.length ≤ 1000) && decide (vs.length = es.length) && foldOk sc es (.Tuple vs k2 p2)
  | .par [i, j] (.cons a (.cons b .nil)), .Assign [.Tuple [.Name x px, .Name y py] _ _] (.Tuple [u, v] _ _) _ =>
    locB B F sc i x && locB B F sc j y && decide (i ≠ j) && chkEs B (.cons a (.cons b .nil)) sc none [u, v] && px.line == py.line && !([u, v].all (foldedForSure 8)) && !([u, v].all (constantsAlone 8))
  | .par [i, j, k] (.cons a (.cons b (.cons c .nil))), .Assign [.Tuple [.Name x px, .Name y py, .Name z pz] _ _] (.Tuple [u, v, w] _ _) _ =>
    locB B F sc i x && locB B F sc j y && locB B F sc k z && decide (i ≠ j) && decide (i ≠ k) && decide (j ≠ k) && chkEs B (.cons a (.cons b (.cons c .nil))) sc none [u, v, w] && px.line == py.line && px.line == pz.line && !([u, v, w].all (foldedForSure 8)) && !([u, v, w].all (constantsAlone 8))
  | .setIx i a e, .Assign [.Subscript (.Name x _) ie _] v _ => decide (B.N[i]? = some x) && visB sc x && nmOk x && chkE B a sc none ie && plainIx ie && chkE B e sc none v
  | .setF c i j e, .Assign [.Attribute (.Name x _) f _] v _ => (match B.cl c with | some ns => decide (ns[j]? = some f) && decide (j < 900) | none => false) && decide (B.N[i]? = some x) && visB sc x && nmOk x && chkE B e sc none v
  | .aug i op e, .AugAssign (.Name x _) op' v _ => decide (op = op') && (decide (op = .Add) || decide (op = .Sub)) && tgOk B sc none i x && !F.contains i && chkE B e sc none v
  | .augIx i a op e, .AugAssign (.Subscript (.Name x _) ie _) op' v _ => decide (op = op') && (decide (op = .Add) || decide (op = .Sub)) && decide (B.N[i]? = some x) && visB sc x && nmOk x && chkE B a sc none ie && plainIx ie && chkE B e sc none v
  | .expr e, .Expr v _ => chkE B e sc none v && (match v with | .ListComp .. => false | _ => true)
  | .ret e, .Return (some v) _ => chkE B e sc none v
  | .retN, .Return none _ => true
  | .brk, .Break _ => true
  | .cont, .Continue _ => true
  | .ifs c a b, .If t x y _ => chkE B c sc none t && chkSs B F sc a x && chkSs B F sc b y
  | .whl c b, .While t x [] _ => chkE B c sc none t && chkSs B F sc b x
  | .for_ p kd as b, .For tg iter x [] _ => chkP B sc none p tg && (p.vs.all fun i => !F.contains i) && chkI B kd as sc none tg iter && chkSs B F sc b x
  | .forO p en i b, .For tg iter x [] _ => chkP B sc none p tg && (p.vs.all fun i => !F.contains i) && F.contains i && chkI B (if en = true then .enum else .seq) (.cons (.var i) .nil) sc none tg iter && chkSs B F sc b x
  | .never, _ => true
  | _, _ => false
def chkSs (B : Tb) (F : List Nat) (sc : Scope) : Ss → List Stmt → Bool
  | .nil, [] => true
  | .cons s ss, st :: sts => chkS B F sc s st && chkSs B F sc ss sts
  | _, _ => false
end

/-! ### what a body must have -/
structure SupS (B : Tb) (C : CT) (Γ : Gam) (sc : Scope) (X : Cx) : Prop where
  few : ∀ c ns, B.cl c = some ns → ns.length < 1000
  sup : Sup B C Γ sc none X
  kind : sc.kind = .function
  pass : PassesOwn (model X.prog X.w) X.A X.env X.xe
def Fix (F : List Nat) (fx : Nat → Option (Option V)) (σ : Sg) : Prop := ∀ i ∈ F, σ[i]? = fx i
structure EndOk (C : CT) (K : PySem.W.Frag) (F : List Nat) (fx : Nat → Option (Option V)) (fr : Prs) (P : Post) (D : Ends) : Prop where
  nx : ∀ e σ H, P.nx e → RelX C K H e σ fr → Fix F fx σ → D.nx σ H
  bk : ∀ e σ H, P.bk e → RelX C K H e σ fr → Fix F fx σ → D.bk σ H
  ct : ∀ e σ H, P.ct e → RelX C K H e σ fr → Fix F fx σ → D.ct σ H
  rt : ∀ o e v σ H, P.rt o e → RelX C K H e σ ((v, o) :: fr) → Fix F fx σ → D.rt v H
  xc : ∀ x e, ¬ P.xc x e
def tS (C : CT) (K : PySem.W.Frag) (Γ : Gam) (F : List Nat) (s : S) : TS := fun D σ H => ∃ env fr fx P, RelX C K H env σ fr ∧ Fix F fx σ ∧ wpS Γ F s env P ∧ EndOk C K F fx fr P D
def tSs (C : CT) (K : PySem.W.Frag) (Γ : Gam) (F : List Nat) (s : Ss) : TS := fun D σ H => ∃ env fr fx P, RelX C K H env σ fr ∧ Fix F fx σ ∧ wpSs Γ F s env P ∧ EndOk C K F fx fr P D
section
variable {B : Tb} {C : CT} {Γ : Gam} {F : List Nat}
theorem PS.weak {X : Cx} {e : Stmt} {t t' : TS} (h : PS X e t) (w : ∀ D σ H, t' D σ H → t D σ H) : PS X e t' := ⟨fun pins s σ H D I q => h.run pins s σ H D I (w D σ H q)⟩
theorem PSs.weak {X : Cx} {e : List Stmt} {t t' : TS} (h : PSs X e t) (w : ∀ D σ H, t' D σ H → t D σ H) : PSs X e t' := ⟨fun pins s σ H D I q => h.run pins s σ H D I (w D σ H q)⟩
theorem PS.weakI {X : Cx} {e : Stmt} {t t' : TS} (h : PS X e t) (w : ∀ D σ H, X.N.length = σ.length → t' D σ H → t D σ H) : PS X e t' := ⟨fun pins s σ H D I q => h.run pins s σ H D I (w D σ H I.len.symm q)⟩
section
variable {K : PySem.W.Frag} {H : Hp} {env : Ev} {σ : Sg} {fr : Prs}
theorem ev_x {a : T} {P : Post} {k : R → Ev → Prop} (nx : ∀ x e, ¬ P.xc x e) (h : ev Γ a env P.xc k) : ev Γ a env E0x k := ev_mono a (fun x e z => (nx x e z).elim) (fun _ _ h => h) h
theorem evs_x {a : Ts} {P : Post} {k : List R → Ev → Prop} (nx : ∀ x e, ¬ P.xc x e) (h : evs Γ a env P.xc k) : evs Γ a env E0x k := evs_mono a (fun x e z => (nx x e z).elim) (fun _ _ h => h) h
theorem evsO_x {a : Ts} {P : Post} {k : List O → Ev → Prop} (nx : ∀ x e, ¬ P.xc x e) (h : evsO Γ a env P.xc k) : evsO Γ a env E0x k := evsO_mono a (fun x e z => (nx x e z).elim) (fun _ _ h => h) h
theorem Fix.set {fx : Nat → Option (Option V)} {i : Nat} {a : Option V} (h : Fix F fx σ) (hi : F.contains i = false) : Fix F fx (σ.set i a) := fun j hj => by
  rw [List.getElem?_set_ne (fun e => by subst e; rw [List.contains_iff_mem.mpr hj] at hi; cases hi)]
  exact h j hj
end
/-- the reading of operands whose objects are handed on -/
def tAO (C : CT) (K : PySem.W.Frag) (Γ : Gam) (as : Ts) : TA := fun σ H Q => ∃ env fr, RelX C K H env σ fr ∧ evsO Γ as env E0x fun os e => ∀ vs H', vs.length = os.length → RelX C K H' e σ (vs.zip os ++ fr) → Q vs H'
theorem sndAO {X : Cx} {sc : Scope} {ow : Option Scope} (S : Sup B C Γ sc ow X) : ∀ (as : Ts) (es : List Expr), chkEs B as sc ow es = true → PA X es (tAO C X.K Γ as)
  | .nil, es, h => by
    cases es with
    | cons _ _ => simp [chkEs] at h
    | nil =>
      refine PA.weak pa_nil fun σ H Q q => ?_
      obtain ⟨env, fr, R, q⟩ := q
      unfold evsO at q
      exact q [] H rfl R
  | .cons a as, es, h => by
    cases es with
    | nil => simp [chkEs] at h
    | cons e es =>
      simp only [chkEs, Bool.and_eq_true] at h
      refine PA.weak (pa_cons (snd a S e h.1.2).1 (sndAO S as es h.2) (star_cons h.1.1)) fun σ H Q q => ?_
      obtain ⟨env, fr, R, q⟩ := q
      unfold evsO at q
      refine tE_of R q fun r e1 v H' q1 R1 => ?_
      obtain ⟨o, e2, q2, R2⟩ := R1.get q1
      exact ⟨e2, _, R2, evsO_mono as e0 (fun os e3 q3 vs H3 hl R3 => q3 (v :: vs) H3 (by simp [hl]) (R3.perm List.perm_middle)) q2⟩

/-! ### names that are stored -/
theorem sw_false {e : Expr} {x : Str} {px : Pos} {l : Nat} {env : Env} {sc : Scope} {B : Tb} {t : T} {ow : Option Scope} (hs : env.scope = sc) (hk : sc.kind = .function) (hc : chkE B t sc ow e = true) (h : swB sc x px e = false) : swapsWith e (some (.Name x px)) l env = pure false := by
  cases e with
  | ListComp elt gs scope pos =>
    have hb : env.blockKind = .function := by unfold Env.blockKind; rw [hs, hk]; rfl
    unfold swB at h
    unfold swapsWith
    show (pure (env.blockKind == .function && env.kindOf x == some .local && px.line == pos.line && !(scope.names.any fun (n, k) => n == x && (k == .local || k == .cell))) : Sem Bool) = pure false
    congr 1
    have ky : (env.kindOf x == some .local) = decide (sc.names.lookup x = some .local) := by
      have : env.kindOf x = sc.names.lookup x := by rw [← hs]; rfl
      rw [this]
      by_cases e : sc.names.lookup x = some .local
      · rw [e]; rfl
      · rw [decide_eq_false e]; exact beq_eq_false_iff_ne.mpr e
    rw [hb, ky]
    simpa using h
  | SetComp => cases t <;> first
    | (simp [chkE, e_mrg, e_dic1, e_isi, e_ch3, e_cmp] at hc; done)
    | (rename_i q; cases q <;> first | (simp [chkE, e_isi] at hc; done) | (cases hc; done))
    | (cases hc; done)
  | DictComp => cases t <;> first
    | (simp [chkE, e_mrg, e_dic1, e_isi, e_ch3, e_cmp] at hc; done)
    | (rename_i q; cases q <;> first | (simp [chkE, e_isi] at hc; done) | (cases hc; done))
    | (cases hc; done)
  | _ => rfl
theorem sw_tup {e : Expr} {es : List Expr} {k : Nat} {pt : Pos} {l : Nat} {env : Env} : swapsWithSole [.Tuple es k pt] e l env = pure false := by
  cases e <;> rfl
theorem fm_lt {α β : Type} {f : α → Option β} {p : α → Bool} (hp : ∀ t, p t = true → f t = none) : ∀ {l : List α}, l.any p = true → (l.filterMap f).length ≠ l.length
  | [], h => by simp at h
  | t :: l, h => by
    simp only [List.any_cons, Bool.or_eq_true] at h
    have hle := List.length_filterMap_le f l
    by_cases z : p t = true
    · rw [List.filterMap_cons, hp t z]
      simp only [List.length_cons]
      omega
    · have := fm_lt hp (l := l) (by simpa [z] using h)
      rw [List.filterMap_cons]
      cases f t with
      | none => simp only [List.length_cons]; omega
      | some b => simp only [List.length_cons]; omega
theorem st_none {e : Expr} {es : List Expr} {k : Nat} {pt : Pos} {env : Env} {sc : Scope} (hsc : env.scope = sc) (h : foldOk sc es e = true) : swappedStores [.Tuple es k pt] e env = pure none := by
  cases e with
  | Tuple vs k2 p2 =>
    unfold foldOk at h
    simp only [Bool.or_eq_true] at h
    unfold swappedStores
    simp only
    split
    · rfl
    · rename_i h1
      split
      · rfl
      · split
        · rfl
        · rename_i h3
          rcases h with (h | h) | h
          · rw [if_pos h]
          · exact absurd (by rw [h]; rfl) h1
          · exfalso
            apply h3
            simp only [Bool.or_eq_true, bne_iff_ne]
            left
            refine fm_lt (fun t ht => ?_) h
            cases t with
            | Name x px =>
              have : (env.kindOf x == some .local) = false := by
                rw [beq_eq_false_iff_ne]
                unfold Env.kindOf
                rw [hsc]
                simpa [ntLoc] using ht
              simp [this]
            | _ => rfl
  | _ => rfl
/-! ### stores in place, op= -/
def rAddI : TIp := fun x y H Q => (∃ i j, x = .int i ∧ y = .int j ∧ Q (.int (i + j)) H) ∨ (∃ i j, x = .str i ∧ y = .str j ∧ i.length + j.length ≤ sizeLine ∧ Q (.str (i ++ j)) H) ∨ rExt2 x y H Q
theorem ip_add3 {X : Cx} : PIp X .Add rAddI := by
  intro pins s σ H x y v u Q I rx ry h
  rcases h with ⟨i, j, e1, e2, q⟩ | h | h
  · exact ip_add pins s σ H x y v u Q I rx ry ⟨i, j, e1, e2, q⟩
  · exact iop_add_str pins s σ H x y v u Q I rx ry h
  · exact iop_ext pins s σ H x y v u Q I rx ry h
theorem iw_add {o : O} {y : D} {k : O → Prop} (h : iw .Add o y k) : (∃ i j, o = .d (.int i) ∧ y = .int j ∧ k (rI (i + j))) ∨ (∃ i j : Str, o = .d (.str i) ∧ y = .str j ∧ i.length + j.length ≤ sizeLine ∧ k (.d (.str (i ++ j)))) ∨ (∃ xs ys, o = .lst xs ∧ y = .lst ys ∧ xs.length + ys.length ≤ sizeLine ∧ k (.lst (xs ++ ys))) := by
  unfold iw at h
  split at h <;> first | exact .inl ⟨_, _, rfl, rfl, h⟩ | exact .inr (.inl ⟨_, _, rfl, rfl, h⟩) | exact .inr (.inr ⟨_, _, rfl, rfl, h⟩) | contradiction | exact h.elim
theorem iw_sub {o : O} {y : D} {k : O → Prop} (h : iw .Sub o y k) : ∃ i j, o = .d (.int i) ∧ y = .int j ∧ k (rI (i - j)) := by
  unfold iw at h
  split at h <;> first | exact ⟨_, _, rfl, rfl, h⟩ | contradiction | exact h.elim
theorem aug_add {K : PySem.W.Frag} {H : Hp} {env : Ev} {σ : Sg} {fr : Prs} {v w : V} {o : O} {y : D} {k : O → Prop} {Q : VK} (R : RelX C K H env σ ((v, o) :: (w, .d y) :: fr)) (h : iw .Add o y k) (q : ∀ o' z H', k o' → RelX C K H' env σ ((z, o') :: fr) → Q z H') : rAddI v w H Q := by
  rcases iw_add h with ⟨i, j, rfl, rfl, h⟩ | ⟨i, j, rfl, rfl, h⟩ | ⟨xs, ys, rfl, rfl, h⟩
  · have e1 : v = .int _ := R.top.rep
    have e2 : w = .int _ := R.pop.top.rep
    exact .inl ⟨_, _, e1, e2, q _ _ _ h (R.pop.pop.std fun G => rfl)⟩
  · have e1 : v = .str _ := R.top.rep
    have e2 : w = .str _ := R.pop.top.rep
    exact .inr (.inl ⟨_, _, e1, e2, h.1, q _ _ _ h.2 (R.pop.pop.std fun G => rfl)⟩)
  · obtain ⟨p, ws, G, ev, hp, g, hr, hx, hu⟩ := RelX.upd (xs := [.lst ys]) (vs := [w]) R rfl
    obtain ⟨_, _, e1, ⟨b, zs, e3, h3, h4⟩, e2⟩ := hx
    cases e2; cases e1; subst e3 ev
    exact .inr (.inr ⟨p, b, ws, zs, rfl, rfl, hp, g _ _ h3, by rw [← hr.length, ← h4.length]; exact h.1, q _ _ _ h.2 (hu _ _ .non .non (hr.append h4) rfl).pop⟩)
theorem aug_sub {K : PySem.W.Frag} {H : Hp} {env : Ev} {σ : Sg} {fr : Prs} {v w : V} {o : O} {y : D} {k : O → Prop} {Q : VK} (R : RelX C K H env σ ((v, o) :: (w, .d y) :: fr)) (h : iw .Sub o y k) (q : ∀ o' z H', k o' → RelX C K H' env σ ((z, o') :: fr) → Q z H') : ipI (fun i j => i - j) v w H Q := by
  obtain ⟨i, j, rfl, rfl, h⟩ := iw_sub h
  have e1 : v = .int _ := R.top.rep
  have e2 : w = .int _ := R.pop.top.rep
  exact ⟨_, _, e1, e2, q _ _ _ h (R.pop.pop.std fun G => rfl)⟩
theorem sw_is {o : O} {dk dx : D} {k : O → Prop} (h : sw o dk dx k) : (∃ xs i, o = .lst xs ∧ dk = .int i ∧ ∃ j, ixN xs.length i = some j ∧ k (.lst (xs.set j dx))) ∨ ∃ t ks vs, o = .dic t ks vs ∧ (kOk t dk = true ∧ ks.length < sizeLine) ∧ k (.dic t (dput ks vs dk dx).1 (dput ks vs dk dx).2) := by
  unfold sw at h
  split at h
  · exact .inl ⟨_, _, rfl, rfl, h⟩
  · exact .inr ⟨_, _, _, rfl, h⟩
  · exact h.elim
theorem set_ok {K : PySem.W.Frag} {H : Hp} {env : Ev} {σ : Sg} {fr : Prs} {o : O} {v vk vx : V} {dk dx : D} {k : O → Prop} {Q : Hp → Prop} (R : RelX C K H env σ ((v, o) :: (vk, .d dk) :: (vx, .d dx) :: fr)) (h : sw o dk dx k) (q : ∀ o' H', k o' → RelX C K H' env σ ((v, o') :: fr) → Q H') : rSetB v vk vx H Q := by
  rcases sw_is h with ⟨xs, i, rfl, rfl, j, hj, h⟩ | ⟨t, ks, vs, rfl, hk, h⟩
  rotate_left
  · obtain ⟨p, H', ev, dp, R2⟩ := R.putD hk.1 hk.2
    exact .inr ⟨p, H', ev, dp, q _ _ h R2⟩
  refine .inl ?_
  obtain ⟨p, ws, G, ev, hp, g, hr, hx, hu⟩ := RelX.upd (xs := [.int i, dx]) (vs := [vk, vx]) R rfl
  obtain ⟨_, _, e1, h1, _, _, e2, h2, e3⟩ := hx
  cases e3; cases e2; cases e1; cases h1; subst ev
  exact ⟨p, ws, _, j, rfl, rfl, hp, by rw [← hr.length]; exact hj, q _ _ h (hu _ _ .non .non (hr.set j h2) rfl).pop⟩
/-! ### every statement -/
theorem tg_of {sc : Scope} {X : Cx} (S : SupS B C Γ sc X) {i : Nat} {x : Str} (h : tgOk B sc none i x = true) : X.N[i]? = some x ∧ L2.Loc X.env.scope x ∧ (X.fn x = true ∨ X.env.scope.names.lookup x = some .local) := by
  have h0 := h
  unfold tgOk at h
  simp only [Bool.and_eq_true, Bool.or_eq_true, decide_eq_true_eq] at h
  obtain ⟨⟨h1, h2⟩, h3⟩ := h
  refine ⟨by rw [S.sup.hN]; exact h1, by show _ ∨ _; rw [S.sup.hsc]; exact h2, ?_⟩
  rcases S.sup.tg i x h0 with z | z
  · exact .inl z
  · exact .inr (by rw [S.sup.hsc]; exact z)
theorem lt_of {X : Cx} {i : Nat} {x : Str} {env : Ev} {σ : Sg} {K : PySem.W.Frag} {H : Hp} {fr : Prs} (hi : X.N[i]? = some x) (hl : X.N.length = σ.length) (R : RelX C K H env σ fr) : i < env.length := by
  rw [R.len, ← hl]; exact (List.getElem?_eq_some_iff.mp hi).1
theorem st_setIx {sc : Scope} {X : Cx} (S : SupS B C Γ sc X) {i : Nat} {a e : T} {st : Stmt} (h : chkS B F sc (.setIx i a e) st = true) : PS X st (tS C X.K Γ F (.setIx i a e)) := by
  cases st with
  | Assign ts v pos =>
    cases ts with
    | nil => simp [chkS] at h
    | cons t ts =>
      cases ts with
      | cons _ _ => cases t <;> first | exact absurd h Bool.false_ne_true | (rename_i o _ _; cases o <;> exact absurd h Bool.false_ne_true)
      | nil =>
        cases t with
        | Subscript o ie p2 =>
          cases o with
          | Name x px =>
            simp only [chkS, Bool.and_eq_true, decide_eq_true_eq] at h
            obtain ⟨⟨⟨⟨⟨h1, h2⟩, h3⟩, h4⟩, h5⟩, h6⟩ := h
            have hv : chkE B (.var i) sc none (.Name x px) = true := by simp only [chkE, Bool.and_eq_true, decide_eq_true_eq]; exact ⟨⟨h1, h2⟩, h3⟩
            have var := (snd (B := B) (C := C) (Γ := Γ) (.var i) S.sup (.Name x px) hv).1
            refine PS.weak (ps_asg (snd e S.sup v h6).1 (pg_sub var (snd a S.sup ie h4).1 (set_both S.sup.hu1) (by intro v; cases ie <;> first | rfl | cases h5)) (by cases v <;> rfl) (by cases v <;> rfl)) fun D σ H q => ?_
            obtain ⟨env, fr, fx, P, R, fi, q, E⟩ := q
            unfold wpS at q
            refine tE_of R (ev_x E.xc q) fun r e1 w H1 q1 R1 => ?_
            obtain ⟨x, e2, ⟨hl, q2⟩, R2⟩ := R1.val q1
            obtain ⟨ys, hs, hvr⟩ := ownAt_is hl
            refine ⟨e2, _, R2, ?_⟩
            unfold ev
            rw [hs]
            show ∀ v H', RelR C X.K H' e2 σ _ v (vR i ys) → _
            rw [hvr]
            intro u H2 R3
            have R3' : RelX C X.K H2 e2 σ ((w, .d x) :: fr) ∧ σ[i]? = some (some u) ∧ _ := R3
            obtain ⟨R4, hu, _⟩ := R3'
            refine tE_of R4 (ev_x E.xc q2) fun ra e3 vk H3 q3 R5 => ?_
            obtain ⟨dk, e4, q4, R6⟩ := R5.val q3
            split at q4
            · rename_i o hs4
              exact set_ok (R6.take hs4 hu) q4 fun o' H' qq R7 => E.nx _ _ _ qq (R7.back' hu) fi
            · exact q4.elim
          | _ => simp [chkS] at h
        | _ => simp [chkS] at h
  | _ => simp [chkS] at h
theorem st_setF {sc : Scope} {X : Cx} (S : SupS B C Γ sc X) {c i j : Nat} {e : T} {st : Stmt} (h : chkS B F sc (.setF c i j e) st = true) : PS X st (tS C X.K Γ F (.setF c i j e)) := by
  cases st with
  | Assign ts v pos =>
    cases ts with
    | nil => simp [chkS] at h
    | cons t ts =>
      cases ts with
      | cons _ _ => cases t <;> first | exact absurd h Bool.false_ne_true | (rename_i o _ _; cases o <;> exact absurd h Bool.false_ne_true)
      | nil =>
        cases t with
        | Attribute o f p2 =>
          cases o with
          | Name x px =>
            simp only [chkS, Bool.and_eq_true, decide_eq_true_eq] at h
            obtain ⟨⟨⟨⟨h1, h2⟩, h3⟩, h4⟩, h5⟩ := h
            split at h1
            · rename_i ns hc
              simp only [Bool.and_eq_true, decide_eq_true_eq] at h1
              obtain ⟨c1, c2, c3, c4⟩ := S.sup.cls c ns hc
              have hv : chkE B (.var i) sc none (.Name x px) = true := by simp only [chkE, Bool.and_eq_true, decide_eq_true_eq]; exact ⟨⟨h2, h3⟩, h4⟩
              have var := (snd (B := B) (C := C) (Γ := Γ) (.var i) S.sup (.Name x px) hv).1
              refine PS.weak (ps_fld var (snd e S.sup v h5).1 (by cases v <;> rfl)) fun D σ H q => ?_
              obtain ⟨env, fr, fx, P, R, fi, q, E⟩ := q
              unfold wpS at q
              refine tE_of R (ev_x E.xc q) fun r e1 w H1 q1 R1 => ?_
              obtain ⟨ov, e2, q2, R2⟩ := R1.get q1
              split at q2
              · rename_i c' fs hs
                obtain ⟨ec, hj, q3⟩ := q2
                subst ec
                refine ⟨e2, _, R2, ?_⟩
                unfold ev
                rw [hs]
                intro u H2 R3
                have R3' : RelX C X.K H2 e2 σ ((w, ov) :: fr) ∧ σ[i]? = some (some u) ∧ _ := R3
                obtain ⟨R4, hu, _⟩ := R3'
                obtain ⟨p, dx, ps, eu, hp, hlen, R5⟩ := setF_ok (j := j) (f := f) (R4.take hs hu) (by rw [c1]; exact c2) (by rw [c1]; exact h1.1) hj
                subst eu
                refine ⟨p, C.addr c', dx, ps, rfl, hp, c3, c4 f (List.mem_of_getElem? h1.1), ?_, E.nx _ _ _ q3 (R5.back' hu) fi⟩
                have := S.few c' ns hc
                rw [c1] at hlen
                omega
              · exact q2.elim
            · cases h1
          | _ => simp [chkS] at h
        | _ => simp [chkS] at h
  | _ => simp [chkS] at h
theorem st_two {env : Env} {sc : Scope} {x y : Str} {px py pt p2 : Pos} {k k2 : Nat} {u v : Expr} (hs : env.scope = sc) (hk : sc.kind = .function) (hx : sc.names.lookup x = some .local) (hy : sc.names.lookup y = some .local) (hl : (px.line == py.line) = true) (ne : x ≠ y) (n1 : noStar u = true) (n2 : noStar v = true)
    (hf : [u, v].all (foldedForSure 8) = false) (hc : [u, v].all (constantsAlone 8) = false) : swappedStores [.Tuple [.Name x px, .Name y py] k pt] (.Tuple [u, v] k2 p2) env = pure (some [x, y]) := by
  have hb : env.blockKind = .function := by unfold Env.blockKind; rw [hs, hk]; rfl
  have kx : env.kindOf x = some .local := by rw [← hx, ← hs]; rfl
  have ky : env.kindOf y = some .local := by rw [← hy, ← hs]; rfl
  have su : ∀ e : Expr, noStar e = true → (match e with | .Starred .. => true | _ => false) = false := by intro e h; cases e <;> first | rfl | cases h
  have l2 : (py.line == px.line) = true := by rw [beq_iff_eq] at hl ⊢; exact hl.symm
  unfold swappedStores
  simp only [hb, List.filterMap_cons, List.filterMap_nil, kx, ky, List.any_cons, List.any_nil, su u n1, su v n2, hf, hc, List.head?_cons, Option.map_some, Option.getD_some, Expr.pos, l2, beq_self_eq_true, Bool.and_self, if_true, List.length_cons, List.length_nil, List.eraseDups_cons]
  have e : (y == x) = false := by rw [beq_eq_false_iff_ne]; exact fun z => ne z.symm
  simp [e]
  rw [if_neg, if_pos (show [y].eraseDups.length = 1 from rfl)]
  rintro (h | h)
  · cases u <;> first | (cases h; done) | (cases n1; done)
  · cases v <;> first | (cases h; done) | (cases n2; done)
theorem st_three {env : Env} {sc : Scope} {x y z : Str} {px py pz pt p2 : Pos} {k k2 : Nat} {u v w : Expr} (hs : env.scope = sc) (hk : sc.kind = .function) (hx : sc.names.lookup x = some .local) (hy : sc.names.lookup y = some .local) (hz : sc.names.lookup z = some .local) (hl : (px.line == py.line) = true) (hl2 : (px.line == pz.line) = true) (ne : x ≠ y) (ne2 : x ≠ z) (ne3 : y ≠ z) (n1 : noStar u = true) (n2 : noStar v = true) (n3 : noStar w = true)
    (hf : [u, v, w].all (foldedForSure 8) = false) (hc : [u, v, w].all (constantsAlone 8) = false) : swappedStores [.Tuple [.Name x px, .Name y py, .Name z pz] k pt] (.Tuple [u, v, w] k2 p2) env = pure (some [x, y, z]) := by
  have hb : env.blockKind = .function := by unfold Env.blockKind; rw [hs, hk]; rfl
  have kx : env.kindOf x = some .local := by rw [← hx, ← hs]; rfl
  have ky : env.kindOf y = some .local := by rw [← hy, ← hs]; rfl
  have kz : env.kindOf z = some .local := by rw [← hz, ← hs]; rfl
  have l2 : (py.line == px.line) = true := by rw [beq_iff_eq] at hl ⊢; exact hl.symm
  have l3 : (pz.line == px.line) = true := by rw [beq_iff_eq] at hl2 ⊢; exact hl2.symm
  unfold swappedStores
  simp only [hb, List.filterMap_cons, List.filterMap_nil, kx, ky, kz, List.any_cons, List.any_nil, hf, hc, List.head?_cons, Option.map_some, Option.getD_some, Expr.pos, l2, l3, beq_self_eq_true, Bool.and_self, if_true, List.length_cons, List.length_nil, List.eraseDups_cons]
  have e : (y == x) = false := by rw [beq_eq_false_iff_ne]; exact fun z => ne z.symm
  have e2 : (z == x) = false := by rw [beq_eq_false_iff_ne]; exact fun z => ne2 z.symm
  have e3 : (z == y) = false := by rw [beq_eq_false_iff_ne]; exact fun z => ne3 z.symm
  simp [e, e2, e3]
  rw [if_neg, if_pos]
  · have : ([y, z].eraseDups) = [y, z] := by
      rw [List.eraseDups_cons]
      simp [e3]
      rfl
    rw [this]; rfl
  rintro (h | h | h)
  · cases u <;> first | (cases h; done) | (cases n1; done)
  · cases v <;> first | (cases h; done) | (cases n2; done)
  · cases w <;> first | (cases h; done) | (cases n3; done)
theorem evsO_len : ∀ (as : Ts) {env : Ev} {E : Ex → Ev → Prop} {k : List O → Ev → Prop}, evsO Γ as env E k → evsO Γ as env E fun os e => os.length = as.len ∧ k os e
  | .nil, _, _, _, h => by unfold evsO at h ⊢; exact ⟨rfl, h⟩
  | .cons a as, _, _, _, h => by
    unfold evsO at h ⊢
    exact ev_mono a (fun _ _ h => h) (fun r e h => get_mono (fun o e1 h => evsO_mono as (fun _ _ h => h) (fun os e2 ⟨h1, h2⟩ => ⟨by simp [Ts.len, h1], h2⟩) (evsO_len as h)) h) h
theorem loc_of {sc : Scope} {X : Cx} (S : SupS B C Γ sc X) {i : Nat} {x : Str} (h : locB B F sc i x = true) : X.N[i]? = some x ∧ sc.names.lookup x = some .local ∧ F.contains i = false := by
  unfold locB at h
  simp only [Bool.and_eq_true, decide_eq_true_eq, Bool.not_eq_true'] at h
  exact ⟨by rw [S.sup.hN]; exact h.1.1, h.1.2, h.2⟩
theorem nd_ne {N : List Str} (nd : N.Nodup) {i j : Nat} {x y : Str} (hi : N[i]? = some x) (hj : N[j]? = some y) (h : i ≠ j) : x ≠ y := fun e => by
  subst e
  obtain ⟨l1, e1⟩ := List.getElem?_eq_some_iff.mp hi
  obtain ⟨l2, e2⟩ := List.getElem?_eq_some_iff.mp hj
  exact h ((List.getElem?_inj l1 nd).mp (hi.trans hj.symm))
theorem st_par2 {sc : Scope} {X : Cx} (S : SupS B C Γ sc X) {i j : Nat} {a b : T} {x y : Str} {px py pt p2 pos : Pos} {k k2 : Nat} {u v : Expr}
    (h : chkS B F sc (.par [i, j] (.cons a (.cons b .nil))) (.Assign [.Tuple [.Name x px, .Name y py] k pt] (.Tuple [u, v] k2 p2) pos) = true) : PS X (.Assign [.Tuple [.Name x px, .Name y py] k pt] (.Tuple [u, v] k2 p2) pos) (tS C X.K Γ F (.par [i, j] (.cons a (.cons b .nil)))) := by
  unfold chkS at h
  simp only [Bool.and_eq_true, Bool.not_eq_true', decide_eq_true_eq] at h
  obtain ⟨⟨⟨⟨⟨⟨h1, h2⟩, h3⟩, h4⟩, h5⟩, h6⟩, h7⟩ := h
  obtain ⟨hi, li, fi'⟩ := loc_of S h1
  obtain ⟨hj, lj, fj'⟩ := loc_of S h2
  have hn := h4
  simp only [chkEs, Bool.and_eq_true] at hn
  have nd : X.N.Nodup := by rw [S.sup.hN]; exact S.sup.nd
  refine PS.weakI (ps_par S.sup.calm nd hi hj h3 (by rw [S.sup.hsc]; exact li) (by rw [S.sup.hsc]; exact lj) (sndAO S.sup _ _ h4) (st_two S.sup.hsc S.kind li lj h5 (nd_ne nd hi hj h3) hn.1.1 hn.2.1.1 h6 h7)) fun D σ H hl q => ?_
  obtain ⟨env, fr, fx, P, R, fi, q, E⟩ := q
  unfold wpS at q
  refine ⟨env, fr, R, evsO_mono _ e0 (fun os e q vs H' hv R' => ?_) (evsO_x E.xc (evsO_len _ q))⟩
  obtain ⟨ho, q⟩ := q
  match os, vs, ho, hv, R', q with
  | [o1, o2], [v1, v2], _, _, R', q =>
    have R1 : RelX C X.K H' e σ ((v1, o1) :: (v2, o2) :: fr) := R'
    have R2 := (R1.put (i := i) (lt_of hi hl R1))
    have R3 := R2.put (i := j) (lt_of hj (by rw [List.length_set]; exact hl) R2)
    exact ⟨v1, v2, rfl, E.nx _ _ _ q R3 ((fi.set fi').set fj')⟩
theorem st_par3 {sc : Scope} {X : Cx} (S : SupS B C Γ sc X) {i j l : Nat} {a b c : T} {x y z : Str} {px py pz pt p2 pos : Pos} {k k2 : Nat} {u v w : Expr}
    (h : chkS B F sc (.par [i, j, l] (.cons a (.cons b (.cons c .nil)))) (.Assign [.Tuple [.Name x px, .Name y py, .Name z pz] k pt] (.Tuple [u, v, w] k2 p2) pos) = true) : PS X (.Assign [.Tuple [.Name x px, .Name y py, .Name z pz] k pt] (.Tuple [u, v, w] k2 p2) pos) (tS C X.K Γ F (.par [i, j, l] (.cons a (.cons b (.cons c .nil))))) := by
  unfold chkS at h
  simp only [Bool.and_eq_true, Bool.not_eq_true', decide_eq_true_eq] at h
  obtain ⟨⟨⟨⟨⟨⟨⟨⟨⟨⟨h1, h2⟩, h3⟩, n1⟩, n2⟩, n3⟩, h4⟩, h5⟩, h5'⟩, h6⟩, h7⟩ := h
  obtain ⟨hi, li, fi'⟩ := loc_of S h1
  obtain ⟨hj, lj, fj'⟩ := loc_of S h2
  obtain ⟨hk, lk, fk'⟩ := loc_of S h3
  have hn := h4
  simp only [chkEs, Bool.and_eq_true] at hn
  have nd : X.N.Nodup := by rw [S.sup.hN]; exact S.sup.nd
  refine PS.weakI (ps_par3 S.sup.calm nd hi hj hk n1 n2 n3 (by rw [S.sup.hsc]; exact li) (by rw [S.sup.hsc]; exact lj) (by rw [S.sup.hsc]; exact lk) (sndAO S.sup _ _ h4)
    (st_three S.sup.hsc S.kind li lj lk h5 h5' (nd_ne nd hi hj n1) (nd_ne nd hi hk n2) (nd_ne nd hj hk n3) hn.1.1 hn.2.1.1 hn.2.2.1.1 h6 h7)) fun D σ H hl q => ?_
  obtain ⟨env, fr, fx, P, R, fi, q, E⟩ := q
  unfold wpS at q
  refine ⟨env, fr, R, evsO_mono _ e0 (fun os e q vs H' hv R' => ?_) (evsO_x E.xc (evsO_len _ q))⟩
  obtain ⟨ho, q⟩ := q
  match os, vs, ho, hv, R', q with
  | [o1, o2, o3], [v1, v2, v3], _, _, R', q =>
    have R1 : RelX C X.K H' e σ ((v1, o1) :: (v2, o2) :: (v3, o3) :: fr) := R'
    have R2 := (R1.put (i := i) (lt_of hi hl R1))
    have R3 := R2.put (i := j) (lt_of hj (by rw [List.length_set]; exact hl) R2)
    have R4 := R3.put (i := l) (lt_of hk (by rw [List.length_set, List.length_set]; exact hl) R3)
    exact ⟨v1, v2, v3, rfl, E.nx _ _ _ q R4 (((fi.set fi').set fj').set fk')⟩
theorem st_par {sc : Scope} {X : Cx} (S : SupS B C Γ sc X) {is : List Nat} {as : Ts} {st : Stmt} (h : chkS B F sc (.par is as) st = true) : PS X st (tS C X.K Γ F (.par is as)) := by
  obtain ⟨ts, v, pos, rfl⟩ : ∃ ts v pos, st = .Assign ts v pos := by cases st <;> first | exact ⟨_, _, _, rfl⟩ | exact absurd h (by unfold chkS; simp)
  match is, as, ts, v, h with
  | [i, j], .cons a (.cons b .nil), [.Tuple [.Name x px, .Name y py] _ _], .Tuple [u, v] _ _, h => exact st_par2 S h
  | [i, j, l], .cons a (.cons b (.cons c .nil)), [.Tuple [.Name x px, .Name y py, .Name z pz] _ _], .Tuple [u, v, w] _ _, h => exact st_par3 S h
theorem Rel.ext {K : PySem.W.Frag} {H : Hp} {L : Prs} {p : Addr} {u : HO} (R : Rel C K H L) (hp : H p = none) : Rel C K (L2.upd H p u) L := by
  obtain ⟨G, S, g, k, nd, no⟩ := R
  obtain ⟨n1, n2⟩ := own_there g k hp
  refine ⟨G, S, fun q v e => ?_, ownL.keep L S k (fun q hq => upd_ne fun e => n1 (e ▸ hq)) (Same.refl G), nd, no⟩
  rw [upd_ne (fun z => by rw [z, n2] at e; cases e)]
  exact g _ _ e
theorem RelX.ext {K : PySem.W.Frag} {H : Hp} {env : Ev} {σ : Sg} {fr : Prs} {p : Addr} {u : HO} (R : RelX C K H env σ fr) (hp : H p = none) : RelX C K (L2.upd H p u) env σ fr := ⟨R.len, R.has, R.rel.ext hp⟩
def gNms : List Nat → TGs
  | [] => gNil
  | i :: is => gCons (gName i) (gNms is)
theorem pg_nms {sc : Scope} {X : Cx} (S : SupS B C Γ sc X) : ∀ {is : List Nat} {es : List Expr}, nmsOk B F sc is es = true → PGs X es (gNms is) ∧ (assignEach es X.env).length = es.length ∧ (assignEach es X.env).findIdx? (·.1) = none ∧ is.length = es.length ∧ (∀ i ∈ is, F.contains i = false ∧ ∃ x, X.N[i]? = some x)
  | [], [], _ => ⟨pgs_nil, rfl, rfl, rfl, fun _ h => nomatch h⟩
  | [], _ :: _, h => by simp [nmsOk] at h
  | _ :: _, [], h => by simp [nmsOk] at h
  | i :: is, e :: es, h => by
    cases e with
    | Name x px =>
      simp only [nmsOk, Bool.and_eq_true, Bool.not_eq_true'] at h
      obtain ⟨⟨h1, h2⟩, h3⟩ := h
      obtain ⟨hi, hx, hf⟩ := tg_of S h1
      obtain ⟨k1, k2, k3, k4, k5⟩ := pg_nms S h3
      refine ⟨pgs_cons (pg_name (by rw [S.sup.hN]; exact S.sup.nd) hi hx hf) k1 rfl, ?_, ?_, by simp [k4], fun j hj => ?_⟩
      · show ((false, assign (.Name x px) X.env) :: assignEach es X.env).length = _
        simp [k2]
      · show ((false, assign (.Name x px) X.env) :: assignEach es X.env).findIdx? (·.1) = none
        rw [List.findIdx?_cons]; simp [k3]
      · rcases List.mem_cons.mp hj with rfl | hj
        · exact ⟨h2, x, hi⟩
        · exact k5 j hj
    | _ => simp [nmsOk] at h
theorem nms_ok {K : PySem.W.Frag} {X : Cx} {fx : Nat → Option (Option V)} {Q : Sg → Hp → Prop} {H : Hp} {fr : Prs} : ∀ {is : List Nat} {os : List O} {vs : List V} {e : Ev} {σ : Sg}, is.length = os.length → vs.length = os.length → (∀ i ∈ is, F.contains i = false ∧ i < e.length) → RelX C K H e σ (vs.zip os ++ fr) → Fix F fx σ →
    (∀ σ', RelX C K H (setAll e is os) σ' fr → Fix F fx σ' → Q σ' H) → gNms is vs σ H Q
  | [], [], [], e, σ, _, _, _, R, fi, q => ⟨rfl, q σ R fi⟩
  | [], [], _ :: _, _, _, _, h, _, _, _, _ => by simp at h
  | [], _ :: _, _, _, _, h, _, _, _, _, _ => by simp at h
  | _ :: _, [], _, _, _, h, _, _, _, _, _ => by simp at h
  | _ :: _, _ :: _, [], _, _, _, h, _, _, _, _ => by simp at h
  | i :: is, o :: os, v :: vs, e, σ, h1, h2, hi, R, fi, q => by
    refine ⟨v, vs, rfl, ?_⟩
    have R1 : RelX C K H e σ ((v, o) :: (vs.zip os ++ fr)) := R
    have z := hi i (by simp)
    exact nms_ok (X := X) (by simpa using h1) (by simpa using h2) (fun j hj => ⟨(hi j (by simp [hj])).1, by rw [List.length_set]; exact (hi j (by simp [hj])).2⟩) (R1.put z.2) (fi.set z.1) q
theorem st_parN {sc : Scope} {X : Cx} (S : SupS B C Γ sc X) {is : List Nat} {as : Ts} {st : Stmt} (h : chkS B F sc (.parN is as) st = true) : PS X st (tS C X.K Γ F (.parN is as)) := by
  cases st with
  | Assign ts v pos =>
    match ts, v, h with
    | [.Tuple es k pt], .Tuple vs k2 p2, h =>
      simp only [chkS, Bool.and_eq_true, decide_eq_true_eq] at h
      obtain ⟨⟨⟨⟨h1, h2⟩, h3⟩, h4⟩, h5⟩ := h
      obtain ⟨k1, l1, l2, l3, l4⟩ := pg_nms (F := F) S h1
      refine PS.weakI (ps_asg (pe_tup (sndAO S.sup as vs h2)) (pg_tup S.sup.calm k1 (n := es.length) l1 l2) sw_tup (st_none S.sup.hsc h5)) fun D σ H hl q => ?_
      obtain ⟨env, fr, fx, P, R, fi, q, E⟩ := q
      unfold wpS at q
      refine ⟨env, fr, R, evsO_mono as e0 (fun os e q ws H' hw R1 => ?_) (evsO_len as (evsO_x E.xc q))⟩
      have lo : os.length = vs.length := by rw [q.1]; exact (chk_len h2).symm ▸ rfl
      refine ⟨by rw [hw, lo, sizeLine_eq]; omega, fun p hp => ⟨p, ws, rfl, .of upd_same, by rw [hw, lo, h4], ?_⟩⟩
      refine nms_ok (X := X) (by rw [l3, ← h4, lo]) hw (fun i hi => ⟨(l4 i hi).1, ?_⟩) (R1.ext hp) fi fun σ' R2 fi2 => E.nx _ _ _ q.2 R2 fi2
      obtain ⟨x, hx⟩ := (l4 i hi).2
      exact lt_of hx hl R1
  | _ => exact absurd h (by unfold chkS; simp)
def rGL (K : PySem.W.Frag) : V → V → Hp → VK → Prop := fun x y H Q => ∃ p xs i v, x = .ref p ∧ y = .int i ∧ SqL K H p xs ∧ atI xs i = some v ∧ Q v H
theorem get_list {X : Cx} : PGet X (rGL X.K) := by
  rintro pins s σ H _ _ v u Q I rx ry ⟨p, xs, i, z, rfl, rfl, hq, he, q⟩
  cases rx
  obtain ⟨t, rfl⟩ := ry
  obtain ⟨its, r, pl, few⟩ := I.list hq
  obtain ⟨j, at1, at2, _, lo, hi⟩ := atI_get he
  obtain ⟨w, ew, rw'⟩ := r.get at2
  have n := r.length
  have big := line63
  have out : EP X pins σ Q w s := ⟨z, H, I, rw', q⟩
  rcases Int.lt_or_le i 0 with neg | pos
  · have e := Option.some.inj ((seqIndex_neg neg lo).symm.trans at1)
    exact wpAny_getItem_list_neg pl.isList neg (by rw [List.size_toArray]; omega) (by omega) (by rw [List.size_toArray, ← n, e]; simpa using ew) out
  · have e := Option.some.inj ((seqIndex_of pos hi).symm.trans at1)
    exact wpAny_getItem_list pl.isList pos (by omega) (by rw [e]; simpa using ew) out
theorem at_get {K : PySem.W.Frag} {G : Hp} {xs : List D} {vs : List V} {i : Int} {x : D} (h2 : Reps C K G xs vs) (hx : atI xs i = some x) : ∃ w, atI vs i = some w ∧ Rep C K G x w := by
  unfold atI at hx ⊢
  rw [← h2.length]
  cases e : ixN xs.length i with
  | none => rw [e] at hx; cases hx
  | some j =>
    rw [e] at hx
    exact h2.get hx
theorem st_augIx {sc : Scope} {X : Cx} (S : SupS B C Γ sc X) {i : Nat} {a e : T} {op : Operator} {st : Stmt} (h : chkS B F sc (.augIx i a op e) st = true) : PS X st (tS C X.K Γ F (.augIx i a op e)) := by
  obtain ⟨t, op', v, pos, rfl⟩ : ∃ t op' v pos, st = .AugAssign t op' v pos := by cases st <;> first | exact ⟨_, _, _, _, rfl⟩ | exact absurd h (by unfold chkS; simp)
  match t, h with
  | .Subscript (.Name x px) ie p2, h =>
    unfold chkS at h
    simp only [Bool.and_eq_true, Bool.or_eq_true, decide_eq_true_eq] at h
    obtain ⟨⟨⟨⟨⟨⟨⟨h1, h2⟩, h3⟩, h4⟩, h5⟩, h6⟩, h7⟩, h8⟩ := h
    subst h1
    have hv : chkE B (.var i) sc none (.Name x px) = true := by simp only [chkE, Bool.and_eq_true, decide_eq_true_eq]; exact ⟨⟨h3, h4⟩, h5⟩
    have var := (snd (B := B) (C := C) (Γ := Γ) (.var i) S.sup (.Name x px) hv).1
    have ha : ∀ ov iv new, augStore ie ov iv new = (do holding [new, ov, iv] (setItem ov iv new); release [new, ov, iv] []; pure .next) := by intro ov iv new; cases ie <;> first | rfl | cases h7
    have fin : ∀ {ti : TIp}, (∀ {K : PySem.W.Frag} {H : Hp} {env : Ev} {σ : Sg} {fr : Prs} {v w : V} {o : O} {y : D} {k : O → Prop} {Q : VK}, RelX C K H env σ ((v, o) :: (w, .d y) :: fr) → iw op o y k → (∀ o' z H', k o' → RelX C K H' env σ ((z, o') :: fr) → Q z H') → ti v w H Q) →
        ∀ D σ H, tS C X.K Γ F (.augIx i a op e) D σ H → tAugS (tE C X.K Γ (.var i)) (tE C X.K Γ a) (tE C X.K Γ e) (rGL X.K) ti rSetB D σ H := by
      intro ti hti Dd σ H q
      obtain ⟨env, fr, fx, P, R, fi, q, E⟩ := q
      unfold wpS at q
      obtain ⟨hl, q⟩ := q
      obtain ⟨ys, hs⟩ := lstAt_is hl
      refine ⟨env, _, R, ?_⟩
      unfold ev
      rw [hs]
      intro u H2 R3
      have R3' : RelX C X.K H2 env σ fr ∧ σ[i]? = some (some u) ∧ _ := R3
      obtain ⟨R4, hu, _⟩ := R3'
      refine tE_of R4 (ev_x E.xc q) fun ra e1 vk H3 q3 R5 => ?_
      obtain ⟨dk, e2, q4, R6⟩ := R5.val q3
      split at q4
      · rename_i xs hs4
        obtain ⟨k, dv, e5, hat, q5⟩ := q4
        subst e5
        have ek : vk = .int k := R6.top.rep
        have R7 := R6.take hs4 hu
        -- the item
        obtain ⟨p, ws, G, ev, hp, g, hr, hx, hu2⟩ := RelX.upd (xs := [.int k]) (vs := [vk]) R7 rfl
        obtain ⟨vi, hvi, hri⟩ := at_get hr hat
        refine ⟨p, ws, k, vi, ev, ek, .inl (.of hp), hvi, ?_⟩
        have same : L2.upd H3 p (.lst ws) = H3 := by
          funext b
          by_cases e : b = p
          · subst e; rw [upd_same, hp]
          · rw [upd_ne e]
        have R8 := hu2 xs ws dv vi hr hri
        rw [same] at R8
        have R9 : RelX C X.K H3 e2 σ ((vi, .d dv) :: (vk, .d (.int k)) :: fr) := by
          have e9 : (e2.set i none).set i (some (.lst xs)) = e2 := by
            rw [List.set_set]
            apply List.ext_getElem?
            intro j
            by_cases z : i = j
            · subst z; rw [List.getElem?_set_self (slot_lt hs4), slot_some.mp hs4]
            · rw [List.getElem?_set_ne z]
          have Ra := R8.swap.back' hu
          have Rb : RelX C X.K H3 e2 σ ((vi, .d dv) :: fr) := by
            have : e2.set i (some (.lst xs)) = e2 := by rw [List.set_set] at e9; exact e9
            rwa [this] at Ra
          subst ek
          exact (Rb.std (v := .int k) (x := .int k) fun G => rfl).swap
        refine tE_of R9 (ev_x E.xc q5) fun r e3 w H4 q6 Rc => ?_
        obtain ⟨y, e4, q7, Rd⟩ := Rc.val q6
        refine hti (Rd.swap) q7 fun z vz H5 q8 Re => ?_
        split at q8
        · rename_i o2 hs5
          have Rf := (Re.freeze).take hs5 hu
          exact set_ok (Rf.perm (List.Perm.cons _ (.swap _ _ _))) q8 fun o' H' qq Rg => E.nx _ _ _ qq (Rg.back' hu) fi
        · exact q8.elim
      · exact q4.elim
    rcases h2 with h2 | h2
    · subst h2
      exact PS.weak (ps_augS var (snd a S.sup ie h6).1 get_list (snd e S.sup v h8).1 ip_add3 (set_both S.sup.hu1) ha) (fin fun R h q => aug_add R h q)
    · subst h2
      exact PS.weak (ps_augS var (snd a S.sup ie h6).1 get_list (snd e S.sup v h8).1 ip_sub (set_both S.sup.hu1) ha) (fin fun R h q => aug_sub R h q)
theorem st_set2 {sc : Scope} {X : Cx} (S : SupS B C Γ sc X) {i : Nat} {x : Str} {px pos p2' : Pos} {elt : Expr} {gs : List Comprehension} {scope : Scope} {own own2 : List Nat} {p p2 : Pat} {kd kd2 : ItK} {as as2 ifs : Ts} {a : T} (h1 : tgOk B sc none i x = true) (h2 : F.contains i = false)
    (h3 : chkE B (.comp2 own p kd as own2 p2 kd2 as2 ifs a) sc none (.ListComp elt gs scope p2') = true) (w1 : sc.names.lookup x = some .local) (w2 : (px.line == p2'.line) = true) (w3 : (scope.names.any fun (n, k) => n == x && (k == .local || k == .cell)) = false)
    (fin : ∀ D σ H, X.N.length = σ.length → tS C X.K Γ F (.set i (.comp2 own p kd as own2 p2 kd2 as2 ifs a)) D σ H → tAsg (tE C X.K Γ (.comp2 own p kd as own2 p2 kd2 as2 ifs a)) (gName i) D σ H) :
    PS X (.Assign [.Name x px] (.ListComp elt gs scope p2') pos) (tS C X.K Γ F (.set i (.comp2 own p kd as own2 p2 kd2 as2 ifs a))) := by
  match gs, h3 with
  | [⟨tg, iter, [], z⟩, ⟨tg2, iter2, cs2, z2⟩], h3 =>
    obtain ⟨hi, hx, hf0⟩ := tg_of S h1
    simp only [chkE, Bool.and_eq_true, decide_eq_true_eq, List.all_eq_true] at h3
    obtain ⟨⟨⟨⟨⟨⟨⟨⟨⟨⟨⟨⟨k1, k1'⟩, k2⟩, k3⟩, k4⟩, k5⟩, k6⟩, k7⟩, k8⟩, k9⟩, k10⟩, k11⟩, k12⟩ := h3
    subst k1 k1'
    obtain ⟨hi2, hf⟩ := sndI S.sup (sndTs (B := B) (C := C) (Γ := Γ) as) k9
    have ok := blkOk_by k2
    have mem : ∀ {l m : List Nat}, (∀ x ∈ l, m.contains x = true) → ∀ i ∈ l, i ∈ m := fun hh i hi => by
      have := hh i hi
      simpa using this
    have hf2 : ∀ env x, foldedSetIterable iter2 env x = pure x := by
      intro env x
      cases iter2 with
      | Set => rw [chkI_set] at k10; cases k10
      | _ => rfl
    refine PS.weakI (ps_setLc2 (g := gP C X.K p) (g1 := gP C X.K p2) (tt := tAs C X.K Γ (evIfs Γ) .nil) (tt1 := tAs C X.K Γ (evIfs Γ) ifs) (wi1 := tI C X.K Γ kd2 as2) (te := tE C X.K Γ a) (vs1 := own2) S.sup.calm (by rw [S.sup.hN]; exact S.sup.nd) hi (by rw [S.sup.hsc]; exact w1)
      (sw_true (by rw [S.sup.hsc]; exact S.kind) (by rw [S.sup.hsc]; exact w1) w2 w3) hi2 (by rw [S.sup.hN, S.sup.hsc]; exact ok) (by rw [k3]; exact mem k4)
      (fun s H A cl fp => sndP (S.sup.blk scope s H A cl fp) p tg k7) (fun s H A cl fp => cIfs (S.sup.blk scope s H A cl fp) (ifs := .nil) trivial rfl) (fun s H A cl fp => (sndI (S.sup.blk scope s H A cl fp) (sndTs as2) k10).1)
      (fun s H A cl fp => sndP (S.sup.blk scope s H A cl fp) p2 tg2 k8) (fun s H A cl fp => cIfs (S.sup.blk scope s H A cl fp) (sndTs ifs) k11) (fun s H A cl fp => (snd a (S.sup.blk scope s H A cl fp) elt k12).1) hf hf2) fun D σ H hl q => ?_
    have q2 := fin D σ H hl q
    show tLc2 _ _ _ _ _ _ _ _ _ σ H _
    rw [k3]
    exact lc2_law (mem k5) (mem k6) (mem k4) q2
mutual
theorem sndS {sc : Scope} {X : Cx} (S : SupS B C Γ sc X) : ∀ (s : VE.S) (st : Stmt), chkS B F sc s st = true → PS X st (tS C X.K Γ F s)
  | .pass, st, h => by
    cases st with
    | Pass pos =>
      refine PS.weak ps_pass fun D σ H q => ?_
      obtain ⟨env, fr, fx, P, R, fi, q, E⟩ := q
      unfold wpS at q
      exact E.nx _ _ _ q R fi
    | Expr e pos =>
      cases e with
      | Constant c k p =>
        cases c with
        | str s =>
          refine PS.weak ps_doc fun D σ H q => ?_
          obtain ⟨env, fr, fx, P, R, fi, q, E⟩ := q
          unfold wpS at q
          exact E.nx _ _ _ q R fi
        | _ => simp [chkS] at h
      | _ => simp [chkS] at h
    | _ => simp [chkS] at h
  | .set i e, st, h => by
    cases st with
    | Assign ts v pos =>
      cases ts with
      | nil => simp [chkS] at h
      | cons t ts =>
        cases ts with
        | cons _ _ => cases t <;> simp [chkS] at h
        | nil =>
          cases t with
          | Name x px =>
            simp only [chkS, Bool.and_eq_true, Bool.not_eq_true'] at h
            obtain ⟨⟨h1, h2⟩, h3, h30⟩ := h
            obtain ⟨hi, hx, hf⟩ := tg_of S h1
            have fin : ∀ D σ H, X.N.length = σ.length → tS C X.K Γ F (.set i e) D σ H → tAsg (tE C X.K Γ e) (gName i) D σ H := by
              intro D σ H hl q
              obtain ⟨env, fr, fx, P, R, fi, q, E⟩ := q
              unfold wpS at q
              refine tE_of R (ev_x E.xc q) fun r e1 w H1 q1 R1 => ?_
              obtain ⟨o, e2, q2, R2⟩ := R1.get q1
              exact E.nx _ _ _ q2 (R2.put (lt_of hi hl R2)) (fi.set h2)
            by_cases sw : swB sc x px v = true
            · cases v with
              | ListComp elt gs scope p2 =>
                unfold swB at sw
                simp only [Bool.and_eq_true, decide_eq_true_eq, Bool.not_eq_true'] at sw
                obtain ⟨⟨w1, w2⟩, w3⟩ := sw
                cases e with
                | comp own p kd as ifs a =>
                  cases gs with
                  | nil => simp [chkE] at h3
                  | cons g gs =>
                    cases gs with
                    | cons _ _ => obtain ⟨_, _, _, _⟩ := g; simp [chkE] at h3
                    | nil =>
                      obtain ⟨tg, iter, cs, z⟩ := g
                      simp only [chkE, Bool.and_eq_true, decide_eq_true_eq, List.all_eq_true] at h3
                      obtain ⟨⟨⟨⟨⟨⟨⟨k1, k2⟩, k3⟩, k4⟩, k5⟩, k6⟩, k7⟩, k8⟩ := h3
                      subst k1
                      obtain ⟨hi2, hf2⟩ := sndI S.sup (sndTs (B := B) (C := C) (Γ := Γ) as) k6
                      have ok := blkOk_by k2
                      refine PS.weakI (ps_setLc (g := gP C X.K p) (tt := tAs C X.K Γ (evIfs Γ) ifs) (te := tE C X.K Γ a) S.sup.calm (by rw [S.sup.hN]; exact S.sup.nd) hi (by rw [S.sup.hsc]; exact w1) (sw_true (by rw [S.sup.hsc]; exact S.kind) (by rw [S.sup.hsc]; exact w1) w2 w3) hi2 (by rw [S.sup.hN, S.sup.hsc]; exact ok)
                        (fun s H A cl fp => sndP (S.sup.blk scope s H A cl fp) p tg k5) (fun s H A cl fp => cIfs (S.sup.blk scope s H A cl fp) (sndTs ifs) k7) (fun s H A cl fp => (snd a (S.sup.blk scope s H A cl fp) elt k8).1) hf2) fun D σ H hl q => ?_
                      have q2 := fin D σ H hl q
                      show tLc _ _ _ _ _ σ H _
                      rw [k3]
                      exact lc_law (fun i hi => by
                        have := k4 i hi
                        simpa using this) q2
                | comp2 own p kd as own2 p2 kd2 as2 ifs a => exact st_set2 S h1 h2 h3 w1 w2 w3 fin
                | compO _ _ _ _ _ => cases h30
                | mrg _ _ => simp [chkE, e_mrg] at h3
                | dic1 _ _ => simp [chkE, e_dic1] at h3
                | chain3 _ _ _ _ _ _ _ => simp [chkE, e_ch3] at h3
                | meq _ _ _ _ => simp [chkE, e_cmp] at h3
                | isi _ q => cases q <;> simp [chkE, e_isi] at h3
                | _ => simp [chkE] at h3
              | _ => simp [swB] at sw
            · exact PS.weakI (ps_set (by rw [S.sup.hN]; exact S.sup.nd) hi hx (snd e S.sup v h3).1 (sw_false S.sup.hsc S.kind h3 (by simpa using sw)) hf) fin
          | _ => simp [chkS] at h
    | _ => simp [chkS] at h
  | .asg (.v i) e, st, h => by cases st <;> simp [chkS] at h
  | .asg (.t ps) e, st, h => by
    cases st with
    | Assign ts v pos =>
      cases ts with
      | nil => simp [chkS] at h
      | cons t ts =>
        cases ts with
        | cons _ _ => cases t <;> simp [chkS] at h
        | nil =>
          cases t with
          | Tuple es k pt =>
            simp only [chkS, Bool.and_eq_true, List.all_eq_true, Bool.not_eq_true'] at h
            obtain ⟨⟨⟨h1, h2⟩, h3⟩, h4⟩ := h
            have g := sndP S.sup (.t ps) (.Tuple es k pt) (by simp only [chkP]; exact h1)
            refine PS.weak (ps_asg (snd e S.sup v h3).1 g sw_tup (st_none S.sup.hsc h4)) fun D σ H q => ?_
            obtain ⟨env, fr, fx, P, R, fi, q, E⟩ := q
            unfold wpS at q
            refine tE_of R (ev_x E.xc q) fun r e1 w H1 q1 R1 => ?_
            obtain ⟨x, e2, q2, R2⟩ := R1.val q1
            refine ⟨e2, fr, x, R2, asgP_mono _ (fun e3 q3 σ' ag R3 => E.nx _ _ _ q3 R3 fun j hj => ?_) q2⟩
            rw [ag j fun z => ?_]
            · exact fi j hj
            · have := h2 j z
              rw [List.contains_iff_mem.mpr hj] at this; cases this
          | _ => simp [chkS] at h
    | _ => simp [chkS] at h
  | .par is as, st, h => st_par S h
  | .parN is as, st, h => st_parN S h
  | .setF c i j e, st, h => st_setF S h
  | .setIx i a e, st, h => st_setIx S h
  | .aug i op e, st, h => by
    cases st with
    | AugAssign t op' v pos =>
      cases t with
      | Name x px =>
        simp only [chkS, Bool.and_eq_true, Bool.or_eq_true, decide_eq_true_eq, Bool.not_eq_true'] at h
        obtain ⟨⟨⟨⟨h1, h2⟩, h3⟩, h4⟩, h5⟩ := h
        subst h1
        obtain ⟨hi, hx, hf⟩ := tg_of S h3
        have fin : ∀ {ti : TIp}, (∀ {K : PySem.W.Frag} {H : Hp} {env : Ev} {σ : Sg} {fr : Prs} {v w : V} {o : O} {y : D} {k : O → Prop} {Q : VK}, RelX C K H env σ ((v, o) :: (w, .d y) :: fr) → iw op o y k → (∀ o' z H', k o' → RelX C K H' env σ ((z, o') :: fr) → Q z H') → ti v w H Q) →
            ∀ D σ H, X.N.length = σ.length → tS C X.K Γ F (.aug i op e) D σ H → tAug i (tE C X.K Γ e) ti D σ H := by
          intro ti hti D σ H hl q
          obtain ⟨env, fr, fx, P, R, fi, q, E⟩ := q
          unfold wpS at q
          obtain ⟨hs, q⟩ := q
          obtain ⟨o0, hs0⟩ := Option.isSome_iff_exists.mp hs
          obtain ⟨u, hu⟩ := R.has i o0 hs0
          refine ⟨u, hu, tE_of R (ev_x E.xc q) fun r e1 w H1 q1 R1 => ?_⟩
          obtain ⟨y, e2, q2, R2⟩ := R1.val q1
          split at q2
          · rename_i o hs2
            refine hti (R2.take hs2 hu) q2 fun o' z H' qq R3 => E.nx _ _ _ qq ?_ (fi.set h4)
            have R4 := R3.put (i := i) (lt_of hi hl R3)
            rwa [List.set_set] at R4
          · exact q2.elim
        rcases h2 with h2 | h2
        · subst h2
          exact PS.weakI (ps_aug (by rw [S.sup.hN]; exact S.sup.nd) hi hx (snd e S.sup v h5).1 ip_add3 hf) (fin fun R h q => aug_add R h q)
        · subst h2
          exact PS.weakI (ps_aug (by rw [S.sup.hN]; exact S.sup.nd) hi hx (snd e S.sup v h5).1 ip_sub hf) (fin fun R h q => aug_sub R h q)
      | _ => simp [chkS] at h
    | _ => simp [chkS] at h
  | .augIx i a op e, st, h => st_augIx S h
  | .expr e, st, h => by
    cases st with
    | Expr v pos =>
      simp only [chkS, Bool.and_eq_true] at h
      have sw : swapsWith v none pos.line X.env = pure false := by
        cases v with
        | ListComp => cases h.2
        | SetComp => have := h.1; cases e <;> first
          | (simp [chkE, e_mrg, e_dic1, e_isi, e_ch3, e_cmp] at this; done)
          | (rename_i q; cases q <;> first | (simp [chkE, e_isi] at this; done) | (cases this; done))
          | (cases this; done)
        | DictComp => have := h.1; cases e <;> first
          | (simp [chkE, e_mrg, e_dic1, e_isi, e_ch3, e_cmp] at this; done)
          | (rename_i q; cases q <;> first | (simp [chkE, e_isi] at this; done) | (cases this; done))
          | (cases this; done)
        | _ => rfl
      refine PS.weak (ps_expr (snd e S.sup v h.1).1 sw) fun D σ H q => ?_
      obtain ⟨env, fr, fx, P, R, fi, q, E⟩ := q
      unfold wpS at q
      exact tE_of R (ev_x E.xc q) fun r e1 w H1 q1 R1 => E.nx _ _ _ q1 R1.base fi
    | _ => simp [chkS] at h
  | .ret e, st, h => by
    cases st with
    | Return v pos =>
      cases v with
      | none => simp [chkS] at h
      | some v =>
        simp only [chkS] at h
        refine PS.weak (ps_ret (snd e S.sup v h).1) fun D σ H q => ?_
        obtain ⟨env, fr, fx, P, R, fi, q, E⟩ := q
        unfold wpS at q
        refine tE_of R (ev_x E.xc q) fun r e1 w H1 q1 R1 => ?_
        cases r with
        | obj o =>
          obtain ⟨o', e2, q2, R2⟩ := R1.get q1
          exact E.rt _ _ _ _ _ q2 R2 fi
        | path j =>
          simp only at q1
          split at q1
          · obtain ⟨x, e2, q2, R2⟩ := R1.val q1
            exact E.rt _ _ _ _ _ q2 R2 fi
          · split at q1
            · rename_i o hs
              exact E.rt _ _ _ _ _ q1 (R1.1.take hs R1.2.1) fi
            · exact q1.elim
    | _ => simp [chkS] at h
  | .retN, st, h => by
    cases st with
    | Return v pos =>
      cases v with
      | some v => simp [chkS] at h
      | none =>
        refine PS.weak ps_retN fun D σ H q => ?_
        obtain ⟨env, fr, fx, P, R, fi, q, E⟩ := q
        unfold wpS at q
        exact E.rt _ _ .non σ H q (R.std fun G => rfl) fi
    | _ => simp [chkS] at h
  | .brk, st, h => by
    cases st with
    | Break pos =>
      refine PS.weak ps_break fun D σ H q => ?_
      obtain ⟨env, fr, fx, P, R, fi, q, E⟩ := q
      unfold wpS at q
      exact E.bk _ _ _ q R fi
    | _ => simp [chkS] at h
  | .cont, st, h => by
    cases st with
    | Continue pos =>
      refine PS.weak ps_continue fun D σ H q => ?_
      obtain ⟨env, fr, fx, P, R, fi, q, E⟩ := q
      unfold wpS at q
      exact E.ct _ _ _ q R fi
    | _ => simp [chkS] at h
  | .ifs c a b, st, h => by
    cases st with
    | If t x y pos =>
      simp only [chkS, Bool.and_eq_true] at h
      refine PS.weak (ps_if (snd c S.sup t h.1.1).2 (sndSs S a x h.1.2) (sndSs S b y h.2)) fun D σ H q => ?_
      obtain ⟨env, fr, fx, P, R, fi, q, E⟩ := q
      unfold wpS at q
      refine ⟨env, fr, R, ev_mono c e0 (fun r e q => tst_mono (fun t q H' R' => ?_) q) (ev_x E.xc q)⟩
      split at q
      · rename_i ht; rw [if_pos ht]; exact ⟨e, fr, fx, P, R', fi, q, E⟩
      · rename_i ht; rw [if_neg ht]; exact ⟨e, fr, fx, P, R', fi, q, E⟩
    | _ => simp [chkS] at h
  | .whl c b, st, h => by
    cases st with
    | While t x y pos =>
      cases y with
      | cons _ _ => simp [chkS] at h
      | nil =>
        simp only [chkS, Bool.and_eq_true] at h
        refine PS.weak (ps_while S.pass (snd c S.sup t h.1).2 (sndSs S b x h.2)) fun D σ H q => ?_
        obtain ⟨env, fr, fx, P, R, fi, q, E⟩ := q
        unfold wpS at q
        obtain ⟨I, ⟨m0, i0⟩, q⟩ := q
        refine ⟨fun m σ H => ∃ env, RelX C X.K H env σ fr ∧ Fix F fx σ ∧ I m env, ⟨m0, env, R, fi, i0⟩, ?_⟩
        rintro m σ H ⟨env, R, fi, im⟩
        refine ⟨env, fr, R, ev_mono c e0 (fun r e q => tst_mono (fun t q H' R' => ?_) q) (ev_x E.xc (q m env im))⟩
        split at q
        · rename_i ht; rw [if_pos ht]
          refine ⟨fun σ H => ∃ env m', m' < m ∧ RelX C X.K H env σ fr ∧ Fix F fx σ ∧ I m' env, fun σ' H' ⟨env', m', hm, R', f', i'⟩ => ⟨m', hm, env', R', f', i'⟩, e, fr, fx, _, R', fi, q, ⟨?_, ?_, ?_, ?_, E.xc⟩⟩
          · exact fun e σ H ⟨m', hm, i'⟩ R f => ⟨e, m', hm, R, f, i'⟩
          · exact fun e σ H n R f => E.nx e σ H n R f
          · exact fun e σ H ⟨m', hm, i'⟩ R f => ⟨e, m', hm, R, f, i'⟩
          · exact fun o e v σ H r R f => E.rt o e v σ H r R f
        · rename_i ht; rw [if_neg ht]; exact E.nx _ _ _ q R' fi
    | _ => simp [chkS] at h
  | .for_ p kd as b, st, h => by
    cases st with
    | For tg iter x y pos =>
      cases y with
      | cons _ _ => simp [chkS] at h
      | nil =>
        simp only [chkS, Bool.and_eq_true, List.all_eq_true, Bool.not_eq_true'] at h
        obtain ⟨⟨⟨h1, h2⟩, h3⟩, h4⟩ := h
        obtain ⟨hi, hf⟩ := sndI S.sup (sndTs (B := B) (C := C) (Γ := Γ) as) h3
        refine PS.weak (ps_for S.pass S.sup.calm hi (sndP S.sup p tg h1) (sndSs S b x h4) hf) fun Dd σ H q => ?_
        obtain ⟨env, fr, fx, P, R, fi, q, E⟩ := q
        unfold wpS at q
        refine ⟨env, fr, R, evs_mono as e0 (fun rs e q => vals_mono (fun ds e' q => itW_mono (fun xs q J H1 base wk R1 => ?_) q) q) (evs_x E.xc q)⟩
        generalize hb : (fun (x : D) (e1 : Ev) (kk : Ev → Prop) => asgP p x e1 fun e2 => wpSs Γ F b e2 { P with nx := kk, ct := kk, bk := P.nx }) = body at q
        refine ⟨fun i m σ H => m = xs.length - i ∧ i ≤ xs.length ∧ ∃ env1, RelX C X.K H env1 σ (base ++ fr) ∧ Fix F fx σ ∧ floop body (xs.drop i) env1 P.nx, ⟨xs.length, by simp, Nat.zero_le _, e', R1, fi, by simpa using q⟩, ?_⟩
        rintro i m σ2 H2 ⟨rfl, hi', env1, R3, fi3, q⟩
        have rl : Rel C X.K H2 (base ++ (pr env1 σ2 ++ fr)) := R3.rel.perm (List.perm_append_comm_assoc _ _ _)
        by_cases hlt : i < xs.length
        · refine .inr ⟨wk.go i H2 _ hlt rl, fun σ' H' => ∃ env1, RelX C X.K H' env1 σ' (base ++ fr) ∧ Fix F fx σ' ∧ floop body (xs.drop (i + 1)) env1 P.nx, fun σ' H' n' => ⟨xs.length - (i + 1), by omega, rfl, hlt, n'⟩, fun x H' y => ?_⟩
          have rl2 := wk.yld i H2 _ x H' hlt rl y
          have R4 : RelX C X.K H' env1 σ2 ((x, .d xs[i]) :: (base ++ fr)) := ⟨R3.len, R3.has, rl2.perm (by
            refine List.Perm.trans ?_ List.perm_middle.symm
            exact (List.perm_append_comm_assoc _ _ _).cons _)⟩
          rw [List.drop_eq_getElem_cons hlt] at q
          unfold floop at q
          rw [← hb] at q
          refine ⟨env1, _, xs[i], R4, asgP_mono p (fun e2 q σ' ag R5 => ?_) q⟩
          have sub : ∀ {v : V} {o : O}, ((v, o) :: fr).Sublist ((v, o) :: (base ++ fr)) := (List.sublist_append_right _ _).cons_cons _
          refine ⟨e2, base ++ fr, fx, _, R5, fun j hj => ?_, q, ⟨?_, ?_, ?_, ?_, E.xc⟩⟩
          · rw [ag j fun z => ?_]
            · exact fi3 j hj
            · have := h2 j z
              rw [List.contains_iff_mem.mpr hj] at this; cases this
          · intro e σ H n R f
            rw [hb] at n
            exact ⟨e, R, f, n⟩
          · exact fun e σ H n R f => E.nx e σ H n (R.sub (List.sublist_append_right _ _)) f
          · intro e σ H n R f
            rw [hb] at n
            exact ⟨e, R, f, n⟩
          · exact fun o e v σ H r R f => E.rt o e v σ H r (R.sub ((List.sublist_append_right _ _).cons_cons _)) f
        · have ei : i = xs.length := by omega
          subst ei
          refine .inl ⟨wk.stop H2 _ rl, ?_⟩
          rw [List.drop_length] at q
          unfold floop at q
          exact E.nx _ _ _ q (R3.sub (List.sublist_append_right _ _)) fi3
    | _ => simp [chkS] at h
  | .forO p en i b, st, h => by
    cases st with
    | For tg iter x y pos =>
      cases y with
      | cons _ _ => simp [chkS] at h
      | nil =>
        simp only [chkS, Bool.and_eq_true, List.all_eq_true, Bool.not_eq_true'] at h
        obtain ⟨⟨⟨⟨h1, h2⟩, hF⟩, h3⟩, h4⟩ := h
        have iF : i ∈ F := List.contains_iff_mem.mp hF
        obtain ⟨hi, hf⟩ := sndO (C := C) (Γ := Γ) S.sup (snd_var i) (sndTs (B := B) (C := C) (Γ := Γ) (.cons (.var i) .nil)) h3
        refine PS.weak (ps_for S.pass S.sup.calm hi (sndP S.sup p tg h1) (sndSs S b x h4) hf) fun Dd σ H q => ?_
        obtain ⟨env, fr, fx, P, R, fi, q, E⟩ := q
        unfold wpS at q
        split at q
        · rename_i xs hs
          refine ⟨env, fr, xs, R, hs, fun a H1 R1 ha => ?_⟩
          generalize hb : (fun (x : D) (e1 : Ev) (kk : Ev → Prop) => asgP p x e1 fun e2 => wpSs Γ F b e2 { P with nx := fun e => slot e i = some (.lst xs) ∧ kk e, ct := fun e => slot e i = some (.lst xs) ∧ kk e, bk := P.nx }) = body at q
          generalize hz : (if en = true then enumD 0 xs else xs) = zs at q
          have wk : Walks C X.K (if en = true then Ite X.K a else Itl X.K a) [(.ref a, .lst xs)] zs := by
            subst hz
            cases en
            · exact walks_lstO
            · exact walks_enumO
          have fa : fx i = some (some (.ref a)) := by rw [← fi i iF]; exact ha
          refine ⟨fun n m σ H => m = zs.length - n ∧ n ≤ zs.length ∧ ∃ env1, RelX C X.K H env1 σ fr ∧ Fix F fx σ ∧ slot env1 i = some (.lst xs) ∧ floop body (zs.drop n) env1 P.nx, ⟨zs.length, by simp, Nat.zero_le _, env, R1, fi, hs, by simpa using q⟩, ?_⟩
          rintro n m σ2 H2 ⟨rfl, hn', env1, R3, fi3, hs3, q⟩
          have ha3 : σ2[i]? = some (some (.ref a)) := (fi3 i iF).trans fa
          have R3t := R3.take hs3 ha3
          have rl : Rel C X.K H2 ([(.ref a, .lst xs)] ++ (pr (env1.set i none) σ2 ++ fr)) := R3t.top
          have back : env1.set i (some (.lst xs)) = env1 := by
            apply List.ext_getElem?
            intro j
            by_cases z : i = j
            · subst z; rw [List.getElem?_set_self (slot_lt hs3), slot_some.mp hs3]
            · rw [List.getElem?_set_ne z]
          by_cases hlt : n < zs.length
          · refine .inr ⟨wk.go n H2 _ hlt rl, fun σ' H' => ∃ env1, RelX C X.K H' env1 σ' fr ∧ Fix F fx σ' ∧ slot env1 i = some (.lst xs) ∧ floop body (zs.drop (n + 1)) env1 P.nx, fun σ' H' n' => ⟨zs.length - (n + 1), by omega, rfl, hlt, n'⟩, fun x H' y => ?_⟩
            have rl2 : Rel C X.K H' ((x, .d zs[n]) :: (.ref a, .lst xs) :: (pr (env1.set i none) σ2 ++ fr)) := wk.yld n H2 _ x H' hlt rl y
            have R4 : RelX C X.K H' (env1.set i none) σ2 ((.ref a, .lst xs) :: (x, .d zs[n]) :: fr) := ⟨R3t.len, R3t.has, rl2.perm (by
              refine List.Perm.trans (List.Perm.swap _ _ _) ?_
              refine List.Perm.trans ?_ List.perm_middle.symm
              exact List.Perm.cons _ List.perm_middle.symm)⟩
            have R5 := R4.back' ha3
            rw [back] at R5
            rw [List.drop_eq_getElem_cons hlt] at q
            unfold floop at q
            rw [← hb] at q
            refine ⟨env1, _, zs[n], R5, asgP_mono p (fun e2 q σ' ag R6 => ?_) q⟩
            refine ⟨e2, fr, fx, _, R6, fun j hj => ?_, q, ⟨?_, ?_, ?_, ?_, E.xc⟩⟩
            · rw [ag j fun z => ?_]
              · exact fi3 j hj
              · have := h2 j z
                rw [List.contains_iff_mem.mpr hj] at this; cases this
            · intro e σ H n R f
              rw [hb] at n
              exact ⟨e, R, f, n.1, n.2⟩
            · exact fun e σ H n R f => E.nx e σ H n R f
            · intro e σ H n R f
              rw [hb] at n
              exact ⟨e, R, f, n.1, n.2⟩
            · exact fun o e v σ H r R f => E.rt o e v σ H r R f
          · have ei : n = zs.length := by omega
            subst ei
            refine .inl ⟨wk.stop H2 _ rl, ?_⟩
            rw [List.drop_length] at q
            unfold floop at q
            exact E.nx _ _ _ q R3 fi3
        · exact q.elim
    | _ => simp [chkS] at h
  | .never, st, h => by
    refine PS.weak ps_never fun D σ H q => ?_
    obtain ⟨env, fr, fx, P, R, fi, q, E⟩ := q
    unfold wpS at q
    exact q.elim
theorem sndSs {sc : Scope} {X : Cx} (S : SupS B C Γ sc X) : ∀ (ss : Ss) (sts : List Stmt), chkSs B F sc ss sts = true → PSs X sts (tSs C X.K Γ F ss)
  | .nil, sts, h => by
    cases sts with
    | cons _ _ => simp [chkSs] at h
    | nil =>
      refine PSs.weak pss_nil fun D σ H q => ?_
      obtain ⟨env, fr, fx, P, R, fi, q, E⟩ := q
      unfold wpSs at q
      exact E.nx _ _ _ q R fi
  | .cons s ss, sts, h => by
    cases sts with
    | nil => simp [chkSs] at h
    | cons st sts =>
      simp only [chkSs, Bool.and_eq_true] at h
      refine PSs.weak (pss_cons (sndS S s st h.1) (sndSs S ss sts h.2)) fun D σ H q => ?_
      obtain ⟨env, fr, fx, P, R, fi, q, E⟩ := q
      unfold wpSs at q
      refine ⟨env, fr, fx, _, R, fi, q, ⟨?_, E.bk, E.ct, E.rt, E.xc⟩⟩
      exact fun e σ H n R f => ⟨e, fr, fx, P, R, f, n, E⟩
end
end
end VE
/-! VE17: defs -/
namespace VE
open PySem PySem.Spec PyProof.Rows L2
/-- the objects at the entry: a parameter that is stored anew (not in F) is frozen first -/
def inO (F : List Nat) : Nat → List O → List O
  | _, [] => []
  | k, o :: os => (if F.contains k then o else .d o.toD) :: inO F (k + 1) os
def cps (F : List Nat) : Nat → List V → List O → Prs
  | k, v :: vs, o :: os => if F.contains k then cps F (k + 1) vs os else (v, .d o.toD) :: cps F (k + 1) vs os
  | _, _, _ => []
/-- .. at the end -/
def outO (F : List Nat) (e : Ev) : Nat → List O → Option (List O)
  | _, [] => some []
  | k, o :: os => match (if F.contains k then slot e k else some (.d o.toD)), outO F e (k + 1) os with
    | some a, some r => some (a :: r)
    | _, _ => none
def env0 (F : List Nat) (n : Nat) (os : List O) : Ev := (inO F 0 os).map some ++ List.replicate (n - os.length) none
def postD (F : List Nat) (os : List O) (Q : O → List O → Prop) : Post where
  nx := fun e => ∃ os', outO F e 0 os = some os' ∧ Q (.d .non) os'
  rt := fun o e => ∃ os', outO F e 0 os = some os' ∧ Q o os'
  bk := fun _ => False
  ct := fun _ => False
  xc := fun _ _ => False
section
variable {C : CT} {K : PySem.W.Frag} {H : Hp} {F : List Nat}
theorem inO_len : ∀ {os : List O} {k : Nat}, (inO F k os).length = os.length
  | [], _ => rfl
  | _ :: os, k => by simp [inO, inO_len]
theorem entry : ∀ {os : List O} {vs : List V} {k : Nat} {L : Prs}, vs.length = os.length → Rel C K H (vs.zip os ++ L) → Rel C K H (vs.zip (inO F k os) ++ (cps F k vs os ++ L))
  | [], [], _, _, _, R => R
  | [], _ :: _, _, _, h, _ => by simp at h
  | _ :: _, [], _, _, h, _ => by simp at h
  | o :: os, v :: vs, k, L, h, R => by
    unfold inO cps
    by_cases hk : F.contains k = true
    · rw [if_pos hk, if_pos hk]
      have R1 : Rel C K H (vs.zip os ++ ((v, o) :: L)) := R.perm List.perm_middle.symm
      have R2 := entry (k := k + 1) (by simpa using h) R1
      refine R2.perm ?_
      show (vs.zip (inO F (k + 1) os) ++ (cps F (k + 1) vs os ++ (v, o) :: L)).Perm ((v, o) :: (vs.zip (inO F (k + 1) os) ++ (cps F (k + 1) vs os ++ L)))
      refine List.Perm.trans (List.Perm.append_left _ List.perm_middle) ?_
      exact List.perm_middle
    · rw [if_neg hk, if_neg hk]
      have R1 : Rel C K H ((v, .d o.toD) :: (v, .d o.toD) :: (vs.zip os ++ L)) := (Rel.freeze R).dup
      have R2 : Rel C K H (vs.zip os ++ ((v, .d o.toD) :: (v, .d o.toD) :: L)) := R1.perm (by
        refine List.Perm.trans ?_ List.perm_middle.symm
        exact List.Perm.cons _ List.perm_middle.symm)
      have R3 := entry (k := k + 1) (by simpa using h) R2
      refine R3.perm ?_
      show (vs.zip (inO F (k + 1) os) ++ (cps F (k + 1) vs os ++ (v, .d o.toD) :: (v, .d o.toD) :: L)).Perm ((v, .d o.toD) :: (vs.zip (inO F (k + 1) os) ++ ((v, .d o.toD) :: cps F (k + 1) vs os ++ L)))
      refine List.Perm.trans (List.Perm.append_left _ List.perm_middle) ?_
      refine List.Perm.trans List.perm_middle ?_
      refine List.Perm.cons _ ?_
      exact List.Perm.append_left _ List.perm_middle
theorem outO_set {a : Option O} {i : Nat} : ∀ {os : List O} {e : Ev} {k : Nat}, i < k → outO F (e.set i a) k os = outO F e k os
  | [], _, _, _ => rfl
  | o :: os, e, k, h => by
    unfold outO
    rw [outO_set (by omega), slot_set_ne (by omega)]
theorem exit : ∀ {os os' : List O} {vs : List V} {k : Nat} {M : Prs} {e : Ev} {σ : Sg}, vs.length = os.length → (∀ j, F.contains (k + j) = true → ∀ v, vs[j]? = some v → σ[k + j]? = some (some v)) → outO F e k os = some os' → RelX C K H e σ (cps F k vs os ++ M) → ∃ e2, RelX C K H e2 σ (vs.zip os' ++ M)
  | [], os', [], k, M, e, σ, _, _, h, R => by
    simp [outO] at h; subst h; exact ⟨e, R⟩
  | [], _, _ :: _, _, _, _, _, h, _, _, _ => by simp at h
  | _ :: _, _, [], _, _, _, _, h, _, _, _ => by simp at h
  | o :: os, os', v :: vs, k, M, e, σ, hl, hf, h, R => by
    unfold outO at h
    unfold cps at R
    by_cases hk : F.contains k = true
    · rw [if_pos hk] at h R
      cases e1 : slot e k with
      | none => rw [e1] at h; cases h
      | some a =>
        rw [e1] at h
        cases e2 : outO F e (k + 1) os with
        | none => rw [e2] at h; cases h
        | some r =>
          rw [e2] at h
          have h' : some (a :: r) = some os' := h
          cases h'
          have hv := hf 0 hk v rfl
          have R1 := RelX.take R e1 hv
          have R2 : RelX C K H (e.set k none) σ (cps F (k + 1) vs os ++ ((v, a) :: M)) := R1.perm List.perm_middle.symm
          obtain ⟨e3, R3⟩ := exit (k := k + 1) (by simpa using hl) (fun j hj v hv => by
            have := hf (j + 1) (by rw [show k + (j + 1) = k + 1 + j by omega]; exact hj) v (by simpa using hv)
            rwa [show k + (j + 1) = k + 1 + j by omega] at this) (by rw [outO_set (by omega)]; exact e2) R2
          exact ⟨e3, R3.perm List.perm_middle⟩
    · rw [if_neg hk] at h R
      cases e2 : outO F e (k + 1) os with
      | none => rw [e2] at h; cases h
      | some r =>
        rw [e2] at h
        have h' : some (.d o.toD :: r) = some os' := h
        cases h'
        have R2 : RelX C K H e σ (cps F (k + 1) vs os ++ ((v, .d o.toD) :: M)) := RelX.perm R List.perm_middle.symm
        obtain ⟨e3, R3⟩ := exit (k := k + 1) (by simpa using hl) (fun j hj v hv => by
          have := hf (j + 1) (by rw [show k + (j + 1) = k + 1 + j by omega]; exact hj) v (by simpa using hv)
          rwa [show k + (j + 1) = k + 1 + j by omega] at this) e2 R2
        exact ⟨e3, R3.perm List.perm_middle⟩
theorem pr_start : ∀ {os : List O} {vs : List V} {n m : Nat}, vs.length = os.length → pr (os.map some ++ List.replicate n none) (vs.map some ++ List.replicate m none) = vs.zip os
  | [], [], n, m, _ => by
    show pr (List.replicate n none) (List.replicate m none) = []
    induction n generalizing m with
    | zero => rfl
    | succ n ih =>
      cases m with
      | zero => rfl
      | succ m => exact ih m
  | [], _ :: _, _, _, h => by simp at h
  | _ :: _, [], _, _, h => by simp at h
  | o :: os, v :: vs, n, m, h => by
    show (v, o) :: pr (os.map some ++ List.replicate n none) (vs.map some ++ List.replicate m none) = _
    rw [pr_start (by simpa using h)]; rfl
theorem relX_start {os : List O} {vs : List V} {N : List Str} {fr : Prs} (hl : vs.length = os.length) (R : Rel C K H (vs.zip os ++ fr)) : RelX C K H (os.map some ++ List.replicate (N.length - os.length) none) (L2.start N vs) fr := by
  refine ⟨by simp [L2.start, hl], fun i o h => ?_, ?_⟩
  · have h' := slot_some.mp h
    by_cases hi : i < os.length
    · have hv : i < vs.length := by omega
      exact ⟨vs[i], by unfold L2.start; rw [List.getElem?_append_left (by simpa using hv), List.getElem?_map, List.getElem?_eq_getElem hv]; rfl⟩
    · rw [List.getElem?_append_right (by simpa using hi)] at h'
      rw [List.getElem?_replicate] at h'
      split at h' <;> cases h'
  · unfold L2.start
    rw [pr_start hl]; exact R
end

theorem zip_none {m : Str} : ∀ {ns : List Str} {vs : List V}, m ∉ ns → (ns.zip vs).lookup m = none
  | [], _, _ => by simp
  | n :: ns, [], _ => by simp
  | n :: ns, v :: vs, h => by
    have h1 : (m == n) = false := beq_eq_false_iff_ne.mpr fun e => h (by simp [e])
    rw [List.zip_cons_cons, List.lookup_cons, h1]
    exact zip_none fun e => h (by simp [e])
/-! ### a def keeps its promise -/
/-- def number f, named x, keeps Γ's promise at level k -/
def FA (C : CT) (Γ : Gam) (ar : Nat → Nat) (P : Program) (w : World) (K : PySem.W.Frag) (mg : Str → Option Value) (base : Heap) (k : Nat) (f : Nat) (x : Str) : Prop :=
  ∃ a fd ps, FnOk P w K mg base CX0 k a fd ps (spOf C K (ar f) (Γ.fn f)) ∧ mg x = some (.ref a) ∧ PySem.W.keepIn K (.ref a) = true ∧ Binds K fd ps []
/-- __init__ of class c is def number f; the class's global name is x -/
def FI (C : CT) (Γ : Gam) (ar : Nat → Nat) (P : Program) (w : World) (K : PySem.W.Frag) (mg : Str → Option Value) (base : Heap) (k : Nat) (c f : Nat) (x : Str) : Prop :=
  ∃ a fd ps, Mk K (C.addr c) a ∧ FnOk P w K mg base CX0 k a fd ps (spOf C K (ar f) (Γ.fn f)) ∧ mg x = some (.ref (C.addr c)) ∧ Binds K fd ps []
/-- method m of class c is def number f -/
def FM (C : CT) (Γ : Gam) (ar : Nat → Nat) (P : Program) (w : World) (K : PySem.W.Frag) (mg : Str → Option Value) (base : Heap) (k : Nat) (c f : Nat) (m : Str) : Prop :=
  (∀ vs : List V, ((C.names c).zip vs).lookup m = none) ∧ ∃ a fd ps, Cls K (C.addr c) ∧ Meth K (C.addr c) m a ∧ FnOk P w K mg base CX0 k a fd ps (spOf C K (ar f) (Γ.fn f)) ∧ Binds K fd ps []
/-- class c's global name is x; for isinstance -/
def FO (C : CT) (K : PySem.W.Frag) (mg : Str → Option Value) (c : Nat) (x : Str) : Prop := OwnC K (C.addr c) ∧ Cls K (C.addr c) ∧ mg x = some (.ref (C.addr c))
/-- __eq__ of class c is def number f; for == and != -/
def FQ (C : CT) (Γ : Gam) (ar : Nat → Nat) (P : Program) (w : World) (K : PySem.W.Frag) (mg : Str → Option Value) (base : Heap) (k : Nat) (c f : Nat) : Prop :=
  OwnC K (C.addr c) ∧ ∃ a fd ps, Meth K (C.addr c) "__eq__" a ∧ FnOk P w K mg base CX0 k a fd ps (spOf C K (ar f) (Γ.fn f)) ∧ Binds K fd ps []
/-- class c's attributes are ns -/
def FC (C : CT) (K : PySem.W.Frag) (c : Nat) (ns : List Str) : Prop := (C.names c = ns ∧ ns.Nodup ∧ Cls K (C.addr c) ∧ ∀ f ∈ ns, NoAttr K (C.addr c) f) ∧ ns.length < 1000
/-- what a def leans on: its names, whom it calls, the classes -/
structure Uses where
  calls : List (Nat × Str) := []
  cls : List (Nat × List Str) := []
  news : List ((Nat × Nat) × Str) := []
  meths : List (Nat × Nat × Str) := []
  own : List (Nat × Str) := []
  eqs : List (Nat × Nat) := []
/-- a def's own table -/
def mkB (ar : Nat → Nat) (glob : List (Str × Int)) (free : List Str) (N : List Str) (U : Uses) : Tb :=
  { N := N, fn := fun f => U.calls.lookup f, ar := ar, glob := glob, free := free, cl := fun c => U.cls.lookup c, nw := fun c f => U.news.lookup (c, f), me := fun c f m => U.meths.contains (c, f, m), ow := fun c => U.own.lookup c, eq := fun c f => U.eqs.contains (c, f) }
section
variable {C : CT} {Γ : Gam} {ar : Nat → Nat} {P : Program} {w : World} {K : PySem.W.Frag} {mg : Str → Option Value} {base : Heap} {glob : List (Str × Int)} {free : List Str}
theorem FA.mono {j k f : Nat} {x : Str} (h : FA C Γ ar P w K mg base j f x) (hk : j ≤ k) : FA C Γ ar P w K mg base k f x := by
  obtain ⟨a, fd, ps, F, r⟩ := h
  exact ⟨a, fd, ps, F.mono hk, r⟩
theorem FI.mono {j k c f : Nat} {x : Str} (h : FI C Γ ar P w K mg base j c f x) (hk : j ≤ k) : FI C Γ ar P w K mg base k c f x := by
  obtain ⟨a, fd, ps, M, F, r⟩ := h
  exact ⟨a, fd, ps, M, F.mono hk, r⟩
theorem FQ.mono {j k c f : Nat} (h : FQ C Γ ar P w K mg base j c f) (hk : j ≤ k) : FQ C Γ ar P w K mg base k c f := by
  obtain ⟨o, a, fd, ps, M, F, r⟩ := h
  exact ⟨o, a, fd, ps, M, F.mono hk, r⟩
theorem FM.mono {j k c f : Nat} {x : Str} (h : FM C Γ ar P w K mg base j c f x) (hk : j ≤ k) : FM C Γ ar P w K mg base k c f x := by
  obtain ⟨n, a, fd, ps, c, M, F, r⟩ := h
  exact ⟨n, a, fd, ps, c, M, F.mono hk, r⟩
theorem lookup_mem {κ α : Type} [BEq κ] [LawfulBEq κ] : ∀ {l : List (κ × α)} {f : κ} {x : α}, l.lookup f = some x → (f, x) ∈ l
  | (g, y) :: l, f, x, h => by
    rw [List.lookup_cons] at h
    cases e : f == g with
    | true =>
      rw [e] at h
      have e' := beq_iff_eq.mp e
      cases h; subst e'; exact List.mem_cons_self
    | false => rw [e] at h; exact List.mem_cons_of_mem _ (lookup_mem h)
theorem body_ok {k n f : Nat} {x qual : Str} {params : Arguments} {body : List Stmt} {scope : Scope} {a : Addr} {fd : FuncData} {N ps : List Str} {U : Uses} {F : List Nat} {ss : Ss}
    (FD : FunD K x qual params body scope [] [] a fd) (S : FnScope N ps scope) (hn : ar f = ps.length)
    (hc : chkSs (mkB ar glob free N U) F scope ss body = true) (hcall : ∀ p ∈ U.calls, FA C Γ ar P w K mg base k p.1 p.2) (hcls : ∀ p ∈ U.cls, FC C K p.1 p.2) (hnew : ∀ p ∈ U.news, ∃ k', k' + 1 ≤ k ∧ FI C Γ ar P w K mg base k' p.1.1 p.1.2 p.2)
    (hmeth : ∀ p ∈ U.meths, FM C Γ ar P w K mg base k p.1 p.2.1 p.2.2) (hown : ∀ p ∈ U.own, FO C K mg p.1 p.2) (heqs : ∀ p ∈ U.eqs, ∃ k', k' + 1 ≤ k ∧ FQ C Γ ar P w K mg base k' p.1 p.2) (hfree : ∀ y ∈ free, mg y = none) (hglob : ∀ p ∈ glob, ∃ t, mg p.1 = some (.int p.2 t))
    (hΦ : ∀ os Q E, os.length = ps.length → Γ.fn f os Q E → wpSs Γ F ss (env0 F N.length os) (postD F os Q)) : FnOk P w K mg base CX0 (k + 1) a fd ps (spOf C K (ar f) (Γ.fn f)) := by
  refine FD.ok S (fun vs H Q E h => by rw [← hn]; exact h.1) fun cdv A outer s H vs Q E hr h => ?_
  obtain ⟨hv, L, os, hos, R, Q0, E0, hP, hQ, hE⟩ := h
  have hl : vs.length = os.length := by rw [hv, hos]
  have sup : Sup (mkB ar glob free N U) C Γ scope none (cxOf CX0 P w K mg base N qual scope a cdv A outer s H E).nox := ⟨rfl, ?_, ?_, rfl, S.nd, rfl, fun i x h => .inl rfl, hfree, fun x i h => hglob (x, i) h, fun c ns h => (hcls (c, ns) (lookup_mem h)).1, fun c x h => hown (c, x) (lookup_mem h), fun c g h => ?_, fun c g y h => ?_, fun c g m h => ?_, fun g y h => ?_⟩
  rotate_left
  · have := hr.un
    show (A.deeper (envOfC qual scope s.heap.objs.size a cdv)).units + 70 < cLine
    omega
  · have := hr.un
    show (A.deeper (envOfC qual scope s.heap.objs.size a cdv)).units + 1 < cLine
    omega
  · obtain ⟨k', hk, o', a', fd', ps', M, F', h1⟩ := heqs (c, g) (List.contains_iff_mem.mp h)
    exact ⟨o', k', a', fd', ps', M, F', hr.mono hk, h1⟩
  · obtain ⟨k', hk, a', fd', ps', M, F', h1, h2⟩ := hnew ((c, g), y) (lookup_mem h)
    exact ⟨k', a', fd', ps', M, F', hr.mono hk, h1, h2⟩
  · obtain ⟨h0, a', fd', ps', h1, h2, F', h3⟩ := hmeth (c, g, m) (List.contains_iff_mem.mp h)
    exact ⟨h0, k, a', fd', ps', h1, h2, F', hr, h3⟩
  · obtain ⟨a', fd', ps', F', h1, h2, h3⟩ := hcall (g, y) (lookup_mem h)
    exact ⟨k, a', fd', ps', F', hr, h1, h2, h3⟩
  refine ⟨tSs C K Γ F ss, PSs.nox (sndSs (B := mkB ar glob free N U) (sc := scope) (X := (cxOf CX0 P w K mg base N qual scope a cdv A outer s H E).nox) ⟨fun c ns h => (hcls (c, ns) (lookup_mem h)).2, sup, S.kind, PassesOwn.never⟩ ss body hc), ?_⟩
  · have R1 := entry (F := F) (k := 0) hl R
    have R2 := relX_start (N := N) (by rw [inO_len]; exact hl) R1
    rw [inO_len] at R2
    have fixed : ∀ {σ : Sg}, Fix F (fun i => (L2.start N vs)[i]?) σ → ∀ j, F.contains (0 + j) = true → ∀ v, vs[j]? = some v → σ[0 + j]? = some (some v) := by
      intro σ hf j hj v hv
      rw [Nat.zero_add] at hj ⊢
      rw [hf j (List.contains_iff_mem.mp hj)]
      show (L2.start N vs)[j]? = _
      unfold L2.start
      have hlt := (List.getElem?_eq_some_iff.mp hv).1
      rw [List.getElem?_append_left (by simpa using hlt), List.getElem?_map, hv]
      rfl
    have done : ∀ o e v σ H2, (∃ os', outO F e 0 os = some os' ∧ Q0 o os') → RelX C K H2 e σ ((v, o) :: (cps F 0 vs os ++ L)) → Fix F (fun i => (L2.start N vs)[i]?) σ → Q v H2 := by
      intro o e v σ H2 ⟨os', h1, h2⟩ R3 hf
      obtain ⟨e2, R4⟩ := exit (k := 0) (M := (v, o) :: L) hl (fixed hf) h1 (R3.perm List.perm_middle.symm)
      refine (hQ o os' h2).2 v H2 ?_
      exact (Rel.dropL R4.rel).perm List.perm_middle
    refine ⟨env0 F N.length os, cps F 0 vs os ++ L, fun i => (L2.start N vs)[i]?, postD F os Q0, R2, fun _ _ => rfl, hΦ os Q0 E0 (by rw [hos, hn]) hP, ⟨?_, fun _ _ _ h => h.elim, fun _ _ _ h => h.elim, ?_, fun _ _ h => h⟩⟩
    · exact fun e σ H2 h R3 hf => done _ e .non σ H2 h (R3.std fun G => rfl) hf
    · exact fun o e v σ H2 h R3 hf => done o e v σ H2 h R3 hf
end
/-- def number n keeps promise sp -/
class Pr (Γ : Gam) (n : Nat) (sp : outParam DSp) : Prop where
  eq : Γ.fn n = sp
end VE
/-! VHK: what the end tells of the module, by own kinds of facts too -/
namespace VHK
open PySem PySem.Spec PyProof.Rows L2
inductive Fb where
  | fa (f : He.Fa)
  | own (x : Str)
def Fb.ok (K : PySem.W.Frag) : Fb → Bool
  | .fa f => f.ok K
  | .own x => He.eqO (PySem.W.findIn K (.ref (He.ga K x)) "__class__") (some (some (.builtin "object.__class__"))) && (He.eqO (PySem.W.specialIn K (.builtin "object.__class__") "__get__") (some (some (.builtin "getset_descriptor.__get__"))) &&
    (decide (PySem.W.takesIn K (.builtin "object.__class__") = some true) && (decide (PySem.W.mroIn K (He.ga K x) (.type "object") = some true) && He.eqO (PySem.W.findIn K (.ref (He.ga K x)) "__ne__") (some (some (.builtin "object.__ne__"))))))
theorem own_ok {K : PySem.W.Frag} {x : Str} (c : (Fb.own x).ok K = true) : VE.OwnC K (He.ga K x) := by
  obtain ⟨c1, c⟩ := He.ba c
  obtain ⟨c2, c⟩ := He.ba c
  obtain ⟨c3, c⟩ := He.ba c
  obtain ⟨c4, c5⟩ := He.ba c
  exact ⟨He.eqO_ok c1, He.eqO_ok c2, of_decide_eq_true c3, of_decide_eq_true c4, He.eqO_ok c5⟩
def obsF (fb : List Fb) (fn : List He.DefD) (K : PySem.W.Frag) : He.AlD := ((fb.all fun f => f.ok K) && fn.all fun d => d.ok K, fn.map fun d => He.fnW K d.at_)
def SaysF (fb : List Fb) (fn : List He.DefD) (K : PySem.W.Frag) : Prop := obsF fb fn K = He.valD fn
def obsFG (n : Nat) (fb : List Fb) (fn : List He.DefD) (g : Addr → Option Obj) : He.AlD := obsF fb fn (He.frG g (He.asD g n))
def hookF (n : Nat) (fb : List Fb) (fn : List He.DefD) : PySem.W.Hook where
  α := He.AlD
  obs := fun s => obsFG n fb fn s.heap.get?
  val := fun _ => He.valD fn
  says := fun _ h => ∃ K : PySem.W.Frag, K.In h ∧ SaysF fb fn K
  of := fun _ _ e => ⟨_, He.frG_in, e⟩
  keeps := fun _ _ _ ⟨K, hK, c⟩ k => ⟨K, PySem.W.Frag.In.keeps hK k, c⟩
theorem obsFG_eq {n : Nat} {fb : List Fb} {fn : List He.DefD} {g : Addr → Option Obj} {s : Shared} (h : ∀ a, g a = s.heap.get? a) : obsFG n fb fn g = (hookF n fb fn).obs s := by
  have e : g = s.heap.get? := funext h
  rw [e] <;> rfl
section
variable {fb : List Fb} {fn : List He.DefD} {K : PySem.W.Frag}
theorem SaysF.fact (c : SaysF fb fn K) (i : Nat) {f : Fb} (h : fb[i]? = some f := by rfl) : f.ok K = true := by
  have c1 := (He.ba (show ((fb.all fun f => f.ok K) && fn.all fun d => d.ok K) = true from congrArg (fun z : He.AlD => z.1) c)).1
  exact List.all_eq_true.mp c1 f (List.mem_of_getElem? h)
theorem SaysF.def_ (c : SaysF fb fn K) (i : Nat) {d : He.DefD} (h : fn[i]? = some d := by rfl) : ∃ fd, FunD K d.name d.qual d.params d.body d.scope (d.dvs K) (d.kws K) (He.fAd K d.at_) fd := by
  have c2 := (He.ba (show ((fb.all fun f => f.ok K) && fn.all fun d => d.ok K) = true from congrArg (fun z : He.AlD => z.1) c)).2
  have e : fn.map (fun d => He.fnW K d.at_) = fn.map He.DefD.val := congrArg (fun z : He.AlD => z.2) c
  have e2 : (fn.map fun d => He.fnW K d.at_)[i]? = (fn.map He.DefD.val)[i]? := by rw [e]
  rw [List.getElem?_map, List.getElem?_map, h] at e2
  exact He.DefD.funD (Option.some.inj e2) (List.all_eq_true.mp c2 d (List.mem_of_getElem? h))
end
end VHK
/-! VE18: unfolding by simp; promises of a plain form -/
namespace VE
open PySem PySem.Spec PyProof.Rows L2
/-! ### states, by continuations (so that simp runs the program from its head) -/
@[simp] theorem rI_def {i : Int} : rI i = .d (.int i) := rfl
@[simp] theorem rB_def {i : Bool} : rB i = .d (.bl i) := rfl
@[simp] theorem slot_nil {i : Nat} : slot [] i = none := rfl
@[simp] theorem slot_zero {a : Option O} {l : Ev} : slot (a :: l) 0 = a := by cases a <;> rfl
@[simp] theorem slot_succ {a : Option O} {l : Ev} {i : Nat} : slot (a :: l) (i + 1) = slot l i := rfl
@[simp] theorem toD_d {x : D} : O.toD (.d x) = x := by simp [O.toD]
@[simp] theorem toD_lst {x : List D} : O.toD (.lst x) = .lst x := by simp [O.toD]
@[simp] theorem toD_dic {t : Bool} {ks vs : List D} : O.toD (.dic t ks vs) = .dic t ks vs := by simp [O.toD]
@[simp] theorem toDs_nil : O.toDs [] = [] := by simp [O.toDs]
@[simp] theorem toDs_cons {o : O} {os : List O} : O.toDs (o :: os) = o.toD :: O.toDs os := by simp [O.toDs]
@[simp] theorem toD_ins {c : Nat} {fs : List O} : O.toD (.ins c fs) = .ins c (O.toDs fs) := by simp [O.toD]
def slotK (env : Ev) (i : Nat) (k : O → Prop) : Prop := match slot env i with
  | some o => k o
  | none => False
def lstK (env : Ev) (i : Nat) (k : List D → Prop) : Prop := match slot env i with
  | some (.lst xs) => k xs
  | _ => False
def ownK (env : Ev) (i : Nat) (k : Prop) : Prop := match slot env i with
  | some (.lst _) => k
  | some (.dic _ _ _) => k
  | _ => False
def opK (env : Ev) (r : R) (k : O → Prop) : Prop := match getR env r with
  | some o => k o
  | none => False
def opsK (env : Ev) (rs : List R) (k : List O → Prop) : Prop := match opsO env rs with
  | some os => k os
  | none => False
def dtK (o : O) (k : D → Prop) : Prop := k o.toD
def dsO (os : List O) (k : List D → Prop) : Prop := k (O.toDs os)
def setK (e : Ev) (i : Nat) (a : Option O) (k : Ev → Prop) : Prop := k (e.set i a)
def vrK (i : Nat) (o : O) (k : R → Prop) : Prop := k (vR i o)
def nrmK (r : R) (k : R → Prop) : Prop := k r.nrm
def dsK (env : Ev) (rs : List R) (k : List D → Prop) : Prop := opsK env rs fun os => k (os.map O.toD)
def putsK (e : Ev) (rs : List R) (os : List O) (k : Ev → Prop) : Prop := k (puts e rs os)
def wipeK (e : Ev) (is : List Nat) (k : Ev → Prop) : Prop := k (wipeE e is)
def backK (e0 e : Ev) (is : List Nat) (k : Ev → Prop) : Prop := k (backE e0 e is)
def datO : Option O → Option O
  | some (.d x) => some (.d x)
  | _ => none
def slotV (e : Ev) (i : Nat) (k : Option O → Prop) : Prop := k (slot e i)
def allK (e : Ev) (is : List Nat) (os : List O) (k : Ev → Prop) : Prop := k (setAll e is os)
@[simp] theorem datO_d {x : D} : datO (some (.d x)) = some (.d x) := rfl
@[simp] theorem datO_none : datO none = none := rfl
@[simp] theorem datO_dic {t : Bool} {ks vs : List D} : datO (some (.dic t ks vs)) = none := rfl
@[simp] theorem datO_ins {c : Nat} {fs : List O} : datO (some (.ins c fs)) = none := rfl
@[simp] theorem datO_lst {x : List D} : datO (some (.lst x)) = none := rfl
section
variable {k : O → Prop} {kl : List D → Prop} {ko : List O → Prop} {kd : D → Prop} {ke : Ev → Prop} {kr : R → Prop} {kv : Option O → Prop} {a : Option O} {l env : Ev} {o x : O} {i : Nat} {xs : List D} {d : D} {b : Option O} {rs : List R} {os : List O}
@[simp ↓] theorem slotK_zero : slotK (some o :: l) 0 k = k o := rfl
@[simp ↓] theorem slotK_succ : slotK (a :: l) (i + 1) k = slotK l i k := rfl
@[simp ↓] theorem lstK_zero : lstK (some (.lst xs) :: l) 0 kl = kl xs := rfl
@[simp ↓] theorem lstK_succ : lstK (a :: l) (i + 1) kl = lstK l i kl := rfl
@[simp ↓] theorem ownK_lst {k : Prop} : ownK (some (.lst xs) :: l) 0 k = k := rfl
@[simp ↓] theorem ownK_dic {k : Prop} {t : Bool} {ks vs : List D} : ownK (some (.dic t ks vs) :: l) 0 k = k := rfl
@[simp ↓] theorem ownK_succ {k : Prop} : ownK (a :: l) (i + 1) k = ownK l i k := rfl
@[simp ↓] theorem opK_obj : opK env (.obj o) k = k o := rfl
@[simp ↓] theorem opK_path : opK env (.path i) k = slotK env i k := rfl
@[simp ↓] theorem slotV_zero : slotV (a :: l) 0 kv = kv a := by cases a <;> rfl
@[simp ↓] theorem slotV_succ : slotV (a :: l) (i + 1) kv = slotV l i kv := rfl
@[simp ↓] theorem opsK_nil : opsK env [] ko = ko [] := rfl
@[simp ↓] theorem opsK_obj : opsK env (.obj x :: rs) ko = opsK env rs fun os => ko (x :: os) := by
  show (match (match getR env (.obj x), opsO env rs with | some o, some os => some (o :: os) | _, _ => none) with | some os => ko os | none => False) = _
  unfold opsK
  cases opsO env rs <;> rfl
@[simp ↓] theorem opsK_path : opsK env (.path i :: rs) ko = slotK env i fun o => opsK env rs fun os => ko (o :: os) := by
  show (match (match slot env i, opsO env rs with | some o, some os => some (o :: os) | _, _ => none) with | some os => ko os | none => False) = _
  unfold opsK slotK
  cases slot env i <;> cases opsO env rs <;> rfl
@[simp ↓] theorem dtK_d : dtK (.d d) kd = kd d := by unfold dtK; rw [toD_d]
@[simp ↓] theorem dtK_lst : dtK (.lst xs) kd = kd (.lst xs) := by unfold dtK; rw [toD_lst]
@[simp ↓] theorem dtK_dic {t : Bool} {ks vs : List D} : dtK (.dic t ks vs) kd = kd (.dic t ks vs) := by unfold dtK; rw [toD_dic]
@[simp ↓] theorem dsO_nil : dsO [] kl = kl [] := by unfold dsO; rw [toDs_nil]
@[simp ↓] theorem dsO_cons : dsO (o :: os) kl = dtK o fun d => dsO os fun ds => kl (d :: ds) := by unfold dsO dtK; rw [toDs_cons]
@[simp ↓] theorem dtK_ins {c : Nat} {fs : List O} : dtK (.ins c fs) kd = dsO fs fun ds => kd (.ins c ds) := by unfold dtK dsO; rw [toD_ins]
@[simp ↓] theorem setK_zero : setK (a :: l) 0 b ke = ke (b :: l) := rfl
@[simp ↓] theorem setK_succ : setK (a :: l) (i + 1) b ke = setK l i b fun e => ke (a :: e) := rfl
@[simp ↓] theorem vrK_d : vrK i (.d d) kr = kr (.obj (.d d)) := rfl
@[simp ↓] theorem vrK_lst : vrK i (.lst xs) kr = kr (.path i) := rfl
@[simp ↓] theorem vrK_dic {t : Bool} {ks vs : List D} : vrK i (.dic t ks vs) kr = kr (.path i) := rfl
@[simp ↓] theorem vrK_ins {c : Nat} {fs : List O} : vrK i (.ins c fs) kr = kr (.path i) := rfl
@[simp ↓] theorem nrmK_dic {t : Bool} {ks vs : List D} : nrmK (.obj (.dic t ks vs)) kr = kr (.obj (.d (.dic t ks vs))) := by unfold nrmK; show kr (.obj (.d (O.toD (.dic t ks vs)))) = _; rw [toD_dic]
@[simp ↓] theorem nrmK_d : nrmK (.obj (.d d)) kr = kr (.obj (.d d)) := by unfold nrmK; show kr (.obj (.d (O.toD (.d d)))) = _; rw [toD_d]
@[simp ↓] theorem nrmK_lst : nrmK (.obj (.lst xs)) kr = kr (.obj (.d (.lst xs))) := by unfold nrmK; show kr (.obj (.d (O.toD (.lst xs)))) = _; rw [toD_lst]
@[simp ↓] theorem nrmK_path : nrmK (.path i) kr = kr (.path i) := rfl
@[simp ↓] theorem dsK_nil : dsK env [] kl = kl [] := rfl
@[simp ↓] theorem dsK_obj : dsK env (.obj (.d d) :: rs) kl = dsK env rs fun ds => kl (d :: ds) := by
  unfold dsK
  rw [opsK_obj]
  simp only [List.map_cons, toD_d]
@[simp ↓] theorem dsK_path : dsK env (.path i :: rs) kl = slotK env i fun o => dtK o fun d => dsK env rs fun ds => kl (d :: ds) := by
  unfold dsK
  rw [opsK_path]
  rfl
@[simp ↓] theorem putsK_nil : putsK env [] os ke = ke env := by unfold putsK; cases os <;> rfl
@[simp ↓] theorem putsK_obj : putsK env (.obj x :: rs) (o :: os) ke = putsK env rs os ke := rfl
@[simp ↓] theorem putsK_path : putsK env (.path i :: rs) (o :: os) ke = setK env i (some o) fun e => putsK e rs os ke := rfl
@[simp ↓] theorem wipeK_nil : wipeK env [] ke = ke env := rfl
@[simp ↓] theorem wipeK_cons {is : List Nat} : wipeK env (i :: is) ke = wipeK env is fun e => setK e i none ke := rfl
@[simp ↓] theorem backK_nil {e0 : Ev} : backK e0 env [] ke = ke env := rfl
@[simp ↓] theorem backK_cons {e0 : Ev} {is : List Nat} : backK e0 env (i :: is) ke = backK e0 env is fun e => slotV e0 i fun a => setK e i (datO a) ke := by
  unfold backK slotV setK
  show ke ((backE e0 env is).set i (match slot e0 i with | some (.d x) => some (.d x) | _ => none)) = ke ((backE e0 env is).set i (datO (slot e0 i)))
  cases slot e0 i with
  | none => rfl
  | some o => cases o <;> rfl
@[simp ↓] theorem allK_nil : allK env [] os ke = ke env := by unfold allK; cases os <;> rfl
@[simp ↓] theorem allK_cons {is : List Nat} : allK env (i :: is) (o :: os) ke = setK env i (some o) fun e => allK e is os ke := rfl
end
@[simp ↓] theorem val_d {x : D} {env : Ev} {k : D → Ev → Prop} : R.val (.obj (.d x)) env k = k x env := by
  show k (O.toD (.d x)) env = _; rw [toD_d]
@[simp ↓] theorem val_lst {x : List D} {env : Ev} {k : D → Ev → Prop} : R.val (.obj (.lst x)) env k = k (.lst x) env := by
  show k (O.toD (.lst x)) env = _; rw [toD_lst]
@[simp ↓] theorem val_dic {t : Bool} {ks vs : List D} {env : Ev} {k : D → Ev → Prop} : R.val (.obj (.dic t ks vs)) env k = k (.dic t ks vs) env := by
  show k (O.toD (.dic t ks vs)) env = _; rw [toD_dic]
@[simp ↓] theorem val_path {i : Nat} {env : Ev} {k : D → Ev → Prop} : R.val (.path i) env k = slotK env i fun o => dtK o fun d => setK env i (some (.d d)) fun e => k d e := rfl
@[simp ↓] theorem get_obj {x : O} {env : Ev} {k : O → Ev → Prop} : R.get (.obj x) env k = k x env := rfl
@[simp ↓] theorem get_path {i : Nat} {env : Ev} {k : O → Ev → Prop} : R.get (.path i) env k = R.val (.path i) env fun x e => k (.d x) e := rfl
@[simp ↓] theorem vals_nil {env : Ev} {k : List D → Ev → Prop} : vals [] env k = k [] env := rfl
@[simp ↓] theorem vals_cons {r : R} {rs : List R} {env : Ev} {k : List D → Ev → Prop} : vals (r :: rs) env k = r.val env fun x e => vals rs e fun xs e2 => k (x :: xs) e2 := rfl
@[simp] theorem apart_nil {is : List Nat} : apart [] is = true := rfl
@[simp] theorem apart_obj {x : O} {rs : List R} {is : List Nat} : apart (.obj x :: rs) is = apart rs is := rfl
@[simp] theorem apart_path {i : Nat} {rs : List R} {is : List Nat} : apart (.path i :: rs) is = (!is.contains i && apart rs (i :: is)) := rfl
@[simp ↓] theorem asgP_v {i : Nat} {x : D} {env : Ev} {k : Ev → Prop} : asgP (.v i) x env k = setK env i (some (.d x)) k := by unfold asgP; rfl
@[simp ↓] theorem asgP_t {ps : Pats} {xs : List D} {env : Ev} {k : Ev → Prop} : asgP (.t ps) (.tup xs) env k = asgPs ps xs env k := by (conv => lhs; unfold asgP) <;> rfl
@[simp ↓] theorem asgPs_nil {env : Ev} {k : Ev → Prop} : asgPs .nil [] env k = k env := by unfold asgPs; rfl
@[simp ↓] theorem asgPs_cons {p : Pat} {ps : Pats} {x : D} {xs : List D} {env : Ev} {k : Ev → Prop} : asgPs (.cons p ps) (x :: xs) env k = asgP p x env fun e => asgPs ps xs e k := by (conv => lhs; unfold asgPs) <;> rfl
@[simp ↓] theorem tst_bl2 {b : Bool} {k : Bool → Prop} : tst (.obj (.d (.bl b))) k = k b := rfl
@[simp ↓] theorem addA_def {acc : List D} {y : D} {k : List D → Prop} : addA acc y k = (acc.length < sizeLine ∧ k (acc ++ [y])) := rfl
/-! ### primitives -/
@[simp] theorem atI_0 {α : Type} {a : α} {l : List α} : atI (a :: l) 0 = some a := by
  simp [atI, ixN]
  first | done | (rw [if_pos (by omega)]; done) | (rw [if_pos (by omega)]; rfl)
@[simp] theorem atI_1 {α : Type} {a b : α} {l : List α} : atI (a :: b :: l) 1 = some b := by
  simp [atI, ixN]
  first | done | (rw [if_pos (by omega)]; done) | (rw [if_pos (by omega)]; rfl)
theorem atI_mod {α : Type} {ns : List α} {i : Int} (h : 0 < ns.length) : ∃ n, atI ns (i % ns.length) = some n := by
  have h1 : 0 ≤ i % (ns.length : Int) := Int.emod_nonneg _ (by omega)
  have h2 : i % (ns.length : Int) < ns.length := Int.emod_lt_of_pos _ (by omega)
  unfold atI ixN
  rw [if_pos h1, if_pos h2]
  exact ⟨ns[(i % (ns.length : Int)).toNat]'(by omega), by simp⟩

section
variable {Q : O → Prop} {i j : Int} {xs ys : List D} {b : Bool}
@[simp ↓] theorem pw_bop {o : Operator} {ds : List D} : pw (.bop o) ds Q = wBop o ds Q := by unfold pw; rfl
@[simp ↓] theorem pw_cmp {o : CmpOp} {ds : List D} : pw (.cmp o) ds Q = wCmp o ds Q := by unfold pw; rfl
@[simp ↓] theorem pw_ix {ds : List D} : pw .ix ds Q = wIx ds Q := by unfold pw; rfl
@[simp ↓] theorem pw_sl {l h : Bool} {ds : List D} : pw (.sl l h) ds Q = wSlice l h ds Q := by unfold pw; rfl
@[simp ↓] theorem pw_call {n : String} {ds : List D} : pw (.call n) ds Q = wCall n ds Q := by unfold pw; rfl
@[simp ↓] theorem pw_ty {n : String} {ds : List D} : pw (.ty n) ds Q = wTy n ds Q := by unfold pw; rfl
@[simp ↓] theorem pw_neg : pw .neg [.int i] Q = Q (.d (.int (-i))) := by unfold pw; rfl
@[simp ↓] theorem pw_rev : pw .rev [.lst xs] Q = Q (.lst xs.reverse) := by unfold pw; rfl
@[simp ↓] theorem add_int : wBop .Add [.int i, .int j] Q = Q (.d (.int (i + j))) := by unfold wBop; rfl
@[simp ↓] theorem add_tup : wBop .Add [.tup xs, .tup ys] Q = (xs.length + ys.length ≤ sizeLine ∧ Q (.d (.tup (xs ++ ys)))) := by unfold wBop; rfl
@[simp ↓] theorem add_lst : wBop .Add [.lst xs, .lst ys] Q = (xs.length + ys.length ≤ sizeLine ∧ Q (.lst (xs ++ ys))) := by unfold wBop; rfl
@[simp ↓] theorem sub_int : wBop .Sub [.int i, .int j] Q = Q (.d (.int (i - j))) := by unfold wBop; rfl
@[simp ↓] theorem mul_int : wBop .Mult [.int i, .int j] Q = (MulOk i j ∧ Q (.d (.int (i * j)))) := by unfold wBop; rfl
@[simp ↓] theorem mul_lst : wBop .Mult [.lst xs, .int j] Q = ((-(2 ^ 63) ≤ j ∧ j < 2 ^ 63 ∧ xs.length * j.toNat ≤ sizeLine) ∧ Q (.lst (List.replicate j.toNat xs).flatten)) := by unfold wBop; rfl
@[simp ↓] theorem div_int : wBop .FloorDiv [.int i, .int j] Q = (DivOk j ∧ Q (.d (.int (i / j)))) := by unfold wBop; rfl
@[simp ↓] theorem mod_int : wBop .Mod [.int i, .int j] Q = (0 < j ∧ Q (.d (.int (i % j)))) := by unfold wBop; rfl
@[simp ↓] theorem pow_int : wBop .Pow [.int i, .int j] Q = ((0 ≤ j ∧ j ≤ 1000000 ∧ i.natAbs < 2 ^ 64) ∧ Q (.d (.int (i ^ j.toNat)))) := by unfold wBop; rfl
@[simp] theorem eqOk_int : eqOk (.int i) (.int j) = true := by simp [eqOk, D.pur, D.dep]
@[simp] theorem ltOk_int : ltOk (.int i) (.int j) = true := by simp [ltOk, D.like, D.pyb, D.dep]
@[simp] theorem lt_int : D.lt (.int i) (.int j) = decide (i < j) := by simp [D.lt]
@[simp ↓] theorem cmp_eq_int : wCmp .Eq [.int i, .int j] Q = Q (.d (.bl (decide (i = j)))) := by simp [wCmp, wEq]
@[simp ↓] theorem cmp_ne_int : wCmp .NotEq [.int i, .int j] Q = Q (.d (.bl (!decide (i = j)))) := by simp [wCmp]
@[simp ↓] theorem cmp_lt_int : wCmp .Lt [.int i, .int j] Q = Q (.d (.bl (decide (i < j)))) := by simp [wCmp]
@[simp ↓] theorem cmp_le_int : wCmp .LtE [.int i, .int j] Q = Q (.d (.bl (decide (i ≤ j)))) := by simp [wCmp, ← decide_not]
@[simp ↓] theorem cmp_gt_int : wCmp .Gt [.int i, .int j] Q = Q (.d (.bl (decide (j < i)))) := by simp [wCmp]
@[simp ↓] theorem cmp_ge_int : wCmp .GtE [.int i, .int j] Q = Q (.d (.bl (decide (j ≤ i)))) := by simp [wCmp, ← decide_not]
@[simp ↓] theorem cmp_eq_scr {ns : List Int} {y : D} : wCmp .Eq [.scr ns, y] Q = (y = .lst [] ∧ Q (.d (.bl (ns.isEmpty)))) := by simp [wCmp, wEq]
@[simp ↓] theorem cmp_eq_dic {ks vs ks2 vs2 : List D} : wCmp .Eq [.dic true ks vs, .dic true ks2 vs2] Q = ((vs.all isInt && vs2.all isInt) = true ∧ Q (.d (.bl (dicEq ks vs ks2 vs2)))) := by simp [wCmp, wEq, dicInts]
@[simp ↓] theorem cmp_eq_tup : wCmp .Eq [.tup xs, .tup ys] Q = (eqOk (.tup xs) (.tup ys) = true ∧ Q (.d (.bl (decide (xs = ys))))) := by simp [wCmp, wEq]
@[simp ↓] theorem cmp_ne_tup : wCmp .NotEq [.tup xs, .tup ys] Q = (eqOk (.tup xs) (.tup ys) = true ∧ Q (.d (.bl (!decide (xs = ys))))) := by simp [wCmp]
@[simp ↓] theorem cmp_eq_lst : wCmp .Eq [.lst xs, .lst ys] Q = (eqOk (.lst xs) (.lst ys) = true ∧ Q (.d (.bl (decide (xs = ys))))) := by simp [wCmp, wEq]
@[simp ↓] theorem cmp_ne_lst : wCmp .NotEq [.lst xs, .lst ys] Q = (eqOk (.lst xs) (.lst ys) = true ∧ Q (.d (.bl (!decide (xs = ys))))) := by simp [wCmp]
@[simp ↓] theorem cmp_in {x y : D} : wCmp .In [x, y] Q = wIn x y fun b => Q (.d (.bl b)) := by simp [wCmp]
@[simp ↓] theorem cmp_notin {x y : D} : wCmp .NotIn [x, y] Q = wIn x y fun b => Q (.d (.bl (!b))) := by simp [wCmp]
@[simp ↓] theorem in_lst {x : D} {Q : Bool → Prop} : wIn x (.lst ys) Q = ((x.pur && D.purs ys && decide (x.dep ≤ 60) && decide (D.deps ys ≤ 60)) = true ∧ Q (decide (x ∈ ys))) := by cases x <;> rfl
@[simp ↓] theorem in_tup {x : D} {Q : Bool → Prop} : wIn x (.tup ys) Q = ((x.pur && D.purs ys && decide (x.dep ≤ 60) && decide (D.deps ys ≤ 60)) = true ∧ Q (decide (x ∈ ys))) := by cases x <;> rfl
@[simp ↓ high] theorem ix_lst0 {x : D} : wIx [.lst (x :: xs), .int 0] Q = Q (.d x) := by
  show (∃ y, atI (x :: xs) 0 = some y ∧ Q (.d y)) = _
  rw [atI_0]; simp
@[simp ↓ high] theorem ix_lst1 {x y : D} : wIx [.lst (x :: y :: xs), .int 1] Q = Q (.d y) := by
  show (∃ z, atI (x :: y :: xs) 1 = some z ∧ Q (.d z)) = _
  rw [atI_1]; simp
@[simp ↓] theorem ix_lst : wIx [.lst xs, .int i] Q = ∃ x, atI xs i = some x ∧ Q (.d x) := rfl
@[simp ↓] theorem ix_tp : wIx [.tup xs, .int i] Q = ∃ x, atI xs i = some x ∧ Q (.d x) := rfl
@[simp ↓] theorem ix_scr {ns : List Int} : wIx [.scr ns, .int i] Q = ∃ n, atI ns i = some n ∧ Q (.d (.int n)) := rfl
@[simp ↓] theorem len_lst : wCall "len" [.lst xs] Q = Q (.d (.int (xs.length))) := by simp [wCall, dlen]
@[simp ↓] theorem len_tup : wCall "len" [.tup xs] Q = Q (.d (.int (xs.length))) := by simp [wCall, dlen]
@[simp ↓] theorem len_scr {ns : List Int} : wCall "len" [.scr ns] Q = Q (.d (.int (ns.length))) := by simp [wCall, dlen]
@[simp ↓] theorem abs_int : wCall "abs" [.int i] Q = Q (.d (.int (if i < 0 then -i else i))) := by unfold wCall; rfl
@[simp ↓] theorem in_dic {x : D} {t : Bool} {ks vs : List D} {Q : Bool → Prop} : wIn x (.dic t ks vs) Q = (kOk t x = true ∧ Q (decide (x ∈ ks))) := by cases x <;> rfl
@[simp ↓] theorem ix_dic {t : Bool} {ks vs : List D} {x : D} : wIx [.dic t ks vs, x] Q = (kOk t x = true ∧ ∃ z, dget ks vs x = some z ∧ Q (.d z)) := by unfold wIx; cases x <;> rfl
@[simp ↓] theorem max3_int {l : Int} : wCall "max" [.int i, .int j, .int l] Q = Q (.d (.int (let m := if j > i then j else i; if l > m then l else m))) := by unfold wCall; rfl
@[simp ↓] theorem sorted_dicT {ks vs : List D} : wCall "sorted" [.dic true ks vs] Q = (((∀ a ∈ ks, ∀ b ∈ ks, ltOk a b = true) ∧ (∀ a ∈ ks, a ≠ .tup [])) ∧ Q (.lst (dsort ks))) := by unfold wCall; rfl
@[simp ↓] theorem sorted_dic {ks vs : List D} : wCall "sorted" [.dic false ks vs] Q = (ks.all isInt = true ∧ Q (.lst (dsort ks))) := by unfold wCall; rfl
@[simp ↓] theorem pw_get {t : Bool} {ks vs : List D} {x z : D} : pw (.meth "dict" "get") [.dic t ks vs, x, z] Q = ((kOk t x = true ∧ plainD z = true) ∧ Q (.d ((dget ks vs x).getD z))) := by unfold pw wMeth; rfl
@[simp ↓] theorem sw_dic {t : Bool} {ks vs : List D} {x z : D} : sw (.dic t ks vs) x z Q = ((kOk t x = true ∧ ks.length < sizeLine) ∧ Q (.dic t (dput ks vs x z).1 (dput ks vs x z).2)) := by unfold sw; cases x <;> rfl
@[simp] theorem kOk_int : kOk false (.int i) = true := rfl
@[simp] theorem kOk_str {s : Str} : kOk false (.str s) = true := rfl
@[simp] theorem plain_int : plainD (.int i) = true := rfl
@[simp ↓] theorem isi_int_int {k : Bool → Prop} : isiW (.b "int") (.int i) k = k true := rfl
@[simp ↓] theorem isi_bool_int {k : Bool → Prop} : isiW (.b "bool") (.int i) k = k false := rfl
@[simp ↓] theorem isi_tuple_tup {k : Bool → Prop} : isiW (.b "tuple") (.tup xs) k = k true := rfl
@[simp ↓] theorem max_int : wCall "max" [.int i, .int j] Q = Q (.d (.int (if j > i then j else i))) := by unfold wCall; rfl
@[simp ↓] theorem min_int : wCall "min" [.int i, .int j] Q = Q (.d (.int (if j < i then j else i))) := by unfold wCall; rfl
@[simp ↓] theorem sum_lst : wCall "sum" [.lst xs] Q = (xs.all isInt = true ∧ Q (.d (.int (dsum xs)))) := by unfold wCall; rfl
@[simp ↓] theorem any_lst : wCall "any" [.lst xs] Q = (xs.all isBl = true ∧ Q (.d (.bl (xs.any unB)))) := by unfold wCall; rfl
@[simp ↓] theorem all_lst : wCall "all" [.lst xs] Q = (xs.all isBl = true ∧ Q (.d (.bl (xs.all unB)))) := by unfold wCall; rfl
@[simp ↓] theorem sorted_lst : wCall "sorted" [.lst xs] Q = ((∀ a ∈ xs, ∀ b ∈ xs, ltOk a b = true) ∧ (∀ a ∈ xs, a ≠ .tup []) ∧ Q (.lst (dsort xs))) := by unfold wCall; rfl
@[simp ↓] theorem ty_int : wTy "int" [.int i] Q = Q (.d (.int i)) := by unfold wTy; rfl
@[simp ↓] theorem ty_bl : wTy "int" [.bl b] Q = Q (.d (.int (if b then 1 else 0))) := by unfold wTy; rfl
@[simp ↓] theorem ty_tupl : wTy "tuple" [.lst xs] Q = Q (.d (.tup xs)) := by unfold wTy; rfl
@[simp ↓] theorem ty_tupt : wTy "tuple" [.tup xs] Q = Q (.d (.tup xs)) := by unfold wTy; rfl
@[simp ↓] theorem ty_lstl : wTy "list" [.lst xs] Q = Q (.lst xs) := by unfold wTy; rfl
@[simp ↓] theorem ty_dicT {ks vs : List D} : wTy "dict" [.dic true ks vs] Q = ((ks.all isKeyI = true ∧ (ks.map hashT).Nodup) ∧ Q (.dic true ks vs)) := by unfold wTy; rfl
@[simp ↓] theorem ty_dicK {ks vs : List D} : wTy "dict" [.dic false ks vs] Q = Q (.dic false ks vs) := by unfold wTy; rfl
@[simp ↓] theorem ty_lstt : wTy "list" [.tup xs] Q = Q (.lst xs) := by unfold wTy; rfl
@[simp ↓] theorem mw_append {x : D} {Q : O → D → Prop} : mw .append (.lst xs) [x] Q = (xs.length < sizeLine ∧ Q (.lst (xs ++ [x])) .non) := by unfold mw; rfl
@[simp ↓] theorem mw_extend {Q : O → D → Prop} : mw .extend (.lst xs) [.lst ys] Q = (xs.length + ys.length ≤ sizeLine ∧ Q (.lst (xs ++ ys)) .non) := by unfold mw; rfl
@[simp ↓] theorem mw_pop {Q : O → D → Prop} : mw .pop (.lst xs) [] Q = ∃ x, xs[xs.length - 1]? = some x ∧ Q (.lst xs.dropLast) x := by unfold mw; rfl
@[simp ↓] theorem mw_dpop1 {x : D} {ks vs : List D} {Q : O → D → Prop} : mw .dpop1 (.dic false ks vs) [x] Q = (isKey x = true ∧ ∃ z, dget ks vs x = some z ∧ Q (.dic false (ddrop ks vs x).1 (ddrop ks vs x).2) z) := by unfold mw; rfl
@[simp ↓] theorem mw_dupd {ks vs ks2 vs2 : List D} {Q : O → D → Prop} : mw .dupd (.dic true ks vs) [.dic true ks2 vs2] Q = (((ks2.all isKeyI = true ∧ (ks2.map hashT).Nodup) ∧ ks.length + ks2.length ≤ sizeLine) ∧ Q (.dic true (dputs ks vs ks2 vs2).1 (dputs ks vs ks2 vs2).2) .non) := by unfold mw; rfl
@[simp ↓] theorem mw_popAt {Q : O → D → Prop} : mw .popAt (.lst xs) [.int i] Q = ((0 ≤ i ∧ i < xs.length ∧ i < 2 ^ 63) ∧ ∃ x, xs[i.toNat]? = some x ∧ Q (.lst (xs.eraseIdx i.toNat)) x) := by unfold mw; rfl
@[simp ↓] theorem sw_lst {x : D} : sw (.lst xs) (.int i) x Q = ∃ j, ixN xs.length i = some j ∧ Q (.lst (xs.set j x)) := by unfold sw; rfl
@[simp ↓] theorem iw_addI : iw .Add (.d (.int i)) (.int j) Q = Q (.d (.int (i + j))) := by unfold iw; rfl
@[simp ↓] theorem iw_subI : iw .Sub (.d (.int i)) (.int j) Q = Q (.d (.int (i - j))) := by unfold iw; rfl
@[simp ↓] theorem iw_addL : iw .Add (.lst xs) (.lst ys) Q = (xs.length + ys.length ≤ sizeLine ∧ Q (.lst (xs ++ ys))) := by unfold iw; rfl
@[simp ↓] theorem it_lst {Q : List D → Prop} : itW .seq [.lst xs] Q = Q xs := by unfold itW; rfl
@[simp ↓] theorem it_tup {Q : List D → Prop} : itW .seq [.tup xs] Q = Q xs := by unfold itW; rfl
@[simp ↓] theorem it_seqR {Q : List D → Prop} : itW .seq [.rng i j] Q = ((b62 i ∧ b62 j) ∧ Q (rngD i j)) := by unfold itW; rfl
@[simp ↓] theorem ty_range {Q : O → Prop} : wTy "range" [.int i, .int j] Q = ((b62 i ∧ b62 j) ∧ Q (.d (.rng i j))) := by unfold wTy; rfl
@[simp ↓] theorem it_rng1 {Q : List D → Prop} : itW .rng [.int j] Q = (b62 j ∧ Q (rngD 0 j)) := by unfold itW; rfl
@[simp ↓] theorem it_rng2 {Q : List D → Prop} : itW .rng [.int i, .int j] Q = ((b62 i ∧ b62 j) ∧ Q (rngD i j)) := by unfold itW; rfl
@[simp ↓] theorem it_zipT {Q : List D → Prop} : itW .zip [.tup xs, .tup ys] Q = Q (zip2 xs ys) := by unfold itW; rfl
@[simp ↓] theorem it_zip3 {zs : List D} {Q : List D → Prop} : itW .zip [.tup xs, .tup ys, .tup zs] Q = Q (zip3 xs ys zs) := by unfold itW; rfl
@[simp ↓] theorem it_zip4 {zs us : List D} {Q : List D → Prop} : itW .zip [.tup xs, .tup ys, .tup zs, .tup us] Q = Q (zip4 xs ys zs us) := by unfold itW; rfl
@[simp ↓] theorem it_zipN {Q : List D → Prop} : itW .zipN [.tup xs, .tup ys] Q = Q (zip2 xs ys) := by unfold itW; rfl
@[simp ↓] theorem it_zipL {Q : List D → Prop} : itW .zip [.lst xs, .lst ys] Q = Q (zip2 xs ys) := by unfold itW; rfl
@[simp ↓] theorem it_items {Q : List D → Prop} : itW .items [.dic true xs ys] Q = Q (zip2 xs ys) := by unfold itW; rfl
@[simp ↓] theorem it_enum {Q : List D → Prop} : itW .enum [.lst xs] Q = Q (enumD 0 xs) := by unfold itW; rfl
theorem mulOk_l (h : -(2 ^ 64) < i ∧ i < 2 ^ 64) : MulOk i j := .inl h
theorem mulOk_r (h : -(2 ^ 64) < j ∧ j < 2 ^ 64) : MulOk i j := .inr (.inl h)
theorem divOk (h : 0 < j ∧ j < 2 ^ 64) : DivOk j := ⟨h.1, .inl h.2⟩
end
/-! ### expressions, statements -/
section
variable {Γ : Gam} {env : Ev} {E : Ex → Ev → Prop} {k : R → Ev → Prop} {F : List Nat} {P : Post}
@[simp ↓] theorem ev_var {i : Nat} : ev Γ (.var i) env E k = slotK env i fun o => vrK i o fun r => k r env := by (conv => lhs; unfold ev) <;> rfl
@[simp ↓] theorem ev_int {i : Int} : ev Γ (.int i) env E k = k (.obj (.d (.int i))) env := by unfold ev; rfl
@[simp ↓] theorem ev_bl {i : Bool} : ev Γ (.bl i) env E k = k (.obj (.d (.bl i))) env := by unfold ev; rfl
@[simp ↓] theorem ev_non : ev Γ .non env E k = k (.obj (.d .non)) env := by unfold ev; rfl
@[simp ↓] theorem ev_str {s : Str} : ev Γ (.str s) env E k = k (.obj (.d (.str s))) env := by unfold ev; rfl
@[simp ↓] theorem ev_glob {x : Str} {i : Int} : ev Γ (.glob x i) env E k = k (.obj (.d (.int i))) env := by unfold ev; rfl
@[simp ↓] theorem ev_tup {as : Ts} : ev Γ (.tup as) env E k = evs Γ as env E fun rs e => vals rs e fun xs e2 => k (.obj (.d (.tup xs))) e2 := by (conv => lhs; unfold ev) <;> rfl
@[simp ↓] theorem ev_lst {as : Ts} : ev Γ (.lst as) env E k = evs Γ as env E fun rs e => vals rs e fun xs e2 => k (.obj (.lst xs)) e2 := by (conv => lhs; unfold ev) <;> rfl
def tupK (x : D) (k : List D → Prop) : Prop := match x with
  | .tup xs => k xs
  | _ => False
@[simp ↓] theorem tupK_t {xs : List D} {k : List D → Prop} : tupK (.tup xs) k = k xs := rfl
def frzK (r : R) (k : R → Prop) : Prop := match r with
  | .obj o => k (.obj (.d o.toD))
  | _ => False
@[simp ↓] theorem frzK_o {o : O} {k : R → Prop} : frzK (.obj o) k = k (.obj (.d o.toD)) := rfl
@[simp ↓] theorem ev_frz {a : T} : ev Γ (.frz a) env E k = ev Γ a env E fun r e => frzK r fun r => k r e := by
  (conv => lhs; unfold ev)
  all_goals first
    | rfl
    | (congr 1; funext r e; unfold frzK; split <;> rfl)
def intK (r : R) (k : Int → Prop) : Prop := match r with
  | .obj (.d (.int j)) => k j
  | _ => False
@[simp ↓] theorem intK_i {j : Int} {k : Int → Prop} : intK (.obj (.d (.int j))) k = k j := rfl
@[simp ↓] theorem ev_tupR {a : T} : ev Γ (.tupR a) env E k = ev Γ a env E fun r e => intK r fun j => (b62 j ∧ j ≤ 16777216) ∧ k (.obj (.d (.tup (rngD 0 j)))) e := by
  (conv => lhs; unfold ev)
  all_goals first
    | rfl
    | (congr 1; funext r e; unfold intK; split <;> rfl)
@[simp ↓] theorem ev_star {a b : T} : ev Γ (.star a b) env E k = ev Γ a env E fun ra e1 => ra.val e1 fun x e2 => tupK x fun xs => ev Γ b e2 E fun rb e3 => rb.val e3 fun y e4 => xs.length < sizeLine ∧ k (.obj (.d (.tup (xs ++ [y])))) e4 := by
  (conv => lhs; unfold ev)
  all_goals first
    | rfl
    | (congr 1; funext ra e1; congr 1; funext x e2; cases x <;> rfl)
@[simp ↓] theorem ev_prim {u : Prim} {as : Ts} : ev Γ (.prim u as) env E k = evs Γ as env E fun rs e => dsK e rs fun ds => pw u ds fun o => k (.obj o) e := by (conv => lhs; unfold ev) <;> rfl
def chT (o : O) (A B : Prop) : Prop := tst (.obj o) fun b => if b = true then A else B
@[simp ↓] theorem chT_bl {b : Bool} {A B : Prop} : chT (.d (.bl b)) A B = if b = true then A else B := rfl
@[simp ↓] theorem ev_chain {o1 o2 : CmpOp} {a b c : T} : ev Γ (.chain o1 o2 a b c) env E k = ev Γ a env E fun ra e1 => ev Γ b e1 E fun rb e2 => nrmK ra fun ra' => nrmK rb fun rb' => dsK e2 [ra', rb'] fun ds => wCmp o1 ds fun o => chT o (ev Γ c e2 E fun rc e3 => nrmK rc fun rc' => dsK e3 [rb', rc'] fun ds2 => wCmp o2 ds2 fun o2 => k (.obj o2) e3) (k (.obj (.d (.bl false))) e2) := by
  conv => lhs; unfold ev
  congr 1; funext ra e1; congr 1; funext rb e2
  show _ = opsK e2 [ra.nrm, rb.nrm] fun os => _
  unfold opsK
  cases opsO e2 [ra.nrm, rb.nrm] with
  | none => rfl
  | some os =>
    show pw (.cmp o1) (os.map O.toD) _ = wCmp o1 (os.map O.toD) _
    rw [pw_cmp]
    congr 1
    funext o
    have hc : (ev Γ c e2 E fun rc e3 => match opsO e3 [rb.nrm, rc.nrm] with
        | some os2 => pw (.cmp o2) (os2.map O.toD) fun o2 => k (.obj o2) e3
        | none => False) = (ev Γ c e2 E fun rc e3 => match opsO e3 [rb.nrm, rc.nrm] with
        | some os2 => wCmp o2 (os2.map O.toD) fun o2 => k (.obj o2) e3
        | none => False) := by simp only [pw_cmp]
    cases o with
    | d x =>
      cases x with
      | bl b => cases b with
        | true => exact hc
        | false => rfl
      | _ => rfl
    | _ => rfl
@[simp ↓] theorem ev_chain3 {o1 o2 o3 : CmpOp} {a b c d : T} : ev Γ (.chain3 o1 o2 o3 a b c d) env E k = ev Γ a env E fun ra e1 => ev Γ b e1 E fun rb e2 => nrmK ra fun ra' => nrmK rb fun rb' => dsK e2 [ra', rb'] fun ds => wCmp o1 ds fun o => chT o (ev Γ c e2 E fun rc e3 => nrmK rc fun rc' => dsK e3 [rb', rc'] fun ds2 => wCmp o2 ds2 fun o2 => chT o2 (ev Γ d e3 E fun rd e4 => nrmK rd fun rd' => dsK e4 [rc', rd'] fun ds3 => wCmp o3 ds3 fun o3 => k (.obj o3) e4) (k (.obj (.d (.bl false))) e3)) (k (.obj (.d (.bl false))) e2) := by
  conv => lhs; unfold ev
  simp only [pw_cmp]
  congr 1; funext ra e1; congr 1; funext rb e2
  show _ = opsK e2 [ra.nrm, rb.nrm] fun os => _
  unfold opsK
  cases opsO e2 [ra.nrm, rb.nrm] with
  | none => rfl
  | some os =>
    show wCmp o1 (os.map O.toD) _ = wCmp o1 (os.map O.toD) _
    congr 1
    funext o
    cases o with
    | d x =>
      cases x with
      | bl b => cases b with
        | true =>
          show ev Γ c e2 E _ = ev Γ c e2 E _
          congr 1; funext rc e3
          show _ = opsK e3 [rb.nrm, rc.nrm] fun os => _
          unfold opsK
          cases opsO e3 [rb.nrm, rc.nrm] with
          | none => rfl
          | some os =>
            show wCmp o2 (os.map O.toD) _ = wCmp o2 (os.map O.toD) _
            congr 1
            funext o
            cases o with
            | d x =>
              cases x with
              | bl b => cases b <;> rfl
              | _ => rfl
            | _ => rfl
        | false => rfl
      | _ => rfl
    | _ => rfl
def dctK (x : D) (k : List D → List D → Prop) : Prop := match x with
  | .dic true ks vs => k ks vs
  | _ => False
@[simp ↓] theorem dctK_t {ks vs : List D} {k : List D → List D → Prop} : dctK (.dic true ks vs) k = k ks vs := rfl
@[simp ↓] theorem ev_mrg {a b : T} : ev Γ (.mrg a b) env E k = ev Γ a env E fun ra e1 => ra.val e1 fun x e2 => dctK x fun ks vs => (ks.all isKeyI = true ∧ (ks.map hashT).Nodup) ∧ ev Γ b e2 E fun rb e3 => rb.val e3 fun y e4 => dctK y fun ks2 vs2 =>
    ((ks2.all isKeyI = true ∧ (ks2.map hashT).Nodup) ∧ ks.length + ks2.length ≤ sizeLine) ∧ k (.obj (.dic true (dputs ks vs ks2 vs2).1 (dputs ks vs ks2 vs2).2)) e4 := by
  (conv => lhs; unfold ev) <;> rfl
@[simp ↓] theorem ev_dic1 {a b : T} : ev Γ (.dic1 a b) env E k = ev Γ a env E fun ra e1 => ra.val e1 fun x e2 => isKeyT x = true ∧ ev Γ b e2 E fun rb e3 => rb.val e3 fun y e4 => k (.obj (.dic true [x] [y])) e4 := by (conv => lhs; unfold ev) <;> rfl
def insW (os : List O) (k : Nat → Prop) : Prop := insK os k
@[simp ↓] theorem insW_dd {c c' : Nat} {fs gs : List D} {k : Nat → Prop} : insW [.d (.ins c fs), .d (.ins c' gs)] k = (c' = c ∧ k c) := rfl
@[simp ↓] theorem isi_own {c c' : Nat} {fs : List D} {k : Bool → Prop} : isiW (.own c) (.ins c' fs) k = (c' = c ∧ k true) := by unfold isiW; rfl
@[simp ↓] theorem ev_and {as : Ts} : ev Γ (.and as) env E k = evAnd Γ as env E fun b e => k (.obj (.d (.bl b))) e := by (conv => lhs; unfold ev) <;> rfl
@[simp ↓] theorem ev_or {as : Ts} : ev Γ (.or as) env E k = evOr Γ as env E fun b e => k (.obj (.d (.bl b))) e := by (conv => lhs; unfold ev) <;> rfl
@[simp ↓] theorem ev_not {a : T} : ev Γ (.not a) env E k = ev Γ a env E fun r e => tst r fun b => k (.obj (.d (.bl (!b)))) e := by (conv => lhs; unfold ev) <;> rfl
@[simp ↓] theorem ev_ite {c a b : T} : ev Γ (.ite c a b) env E k = ev Γ c env E fun r e => tst r fun t => if t = true then ev Γ a e E k else ev Γ b e E k := by (conv => lhs; unfold ev) <;> rfl
@[simp ↓] theorem ev_call {f : Nat} {as : Ts} : ev Γ (.call f as) env E k = evs Γ as env E fun rs e => opsK e rs fun os => apart rs [] = true ∧ callW (Γ.fn f) os (fun o os' => putsK e rs os' fun e2 => k (.obj o) e2) (fun x os' => E x (puts e rs os')) := by (conv => lhs; unfold ev) <;> rfl
/-- a comprehension's turn -/
def compB (Γ : Gam) (ow : List Nat) (p : Pat) (ifs : Ts) (a : T) (x : D) (acc : List D) (e1 : Ev) (kk : List D → Ev → Prop) : Prop := asgP p x e1 fun e2 => evIfs Γ ifs e2 E0x fun b e3 =>
        if b = true then ev Γ a e3 E0x fun r e4 => r.val e4 fun y e5 => addA acc y fun acc' => wipeK e5 ow fun e6 => kk acc' e6 else wipeK e3 ow fun e6 => kk acc e6
@[simp ↓] theorem ev_comp {ow : List Nat} {p : Pat} {kd : ItK} {as ifs : Ts} {a : T} : ev Γ (.comp ow p kd as ifs a) env E k = evs Γ as env E fun rs e => vals rs e fun ds e' => itW kd ds fun xs => wipeK e' ow fun e1 => cloop (compB Γ ow p ifs a) xs [] e1 fun ys e6 => backK e' e6 ow fun e7 => k (.obj (.lst ys)) e7 := by (conv => lhs; unfold ev) <;> rfl
/-- .. of two clauses: the outer turn, the inner one -/
def compI (Γ : Gam) (ow2 : List Nat) (p2 : Pat) (ifs : Ts) (a : T) (x : D) (acc : List D) (e1 : Ev) (kk : List D → Ev → Prop) : Prop := compB Γ ow2 p2 ifs a x acc e1 kk
@[simp ↓] theorem ev_compO {ow : List Nat} {p : Pat} {i : Nat} {ifs : Ts} {a : T} : ev Γ (.compO ow p i ifs a) env E k = lstK env i fun us => setK env i none fun e0 => wipeK e0 ow fun e1 => cloop (compB Γ ow p ifs a) us [] e1 fun ys e6 => backK e0 e6 ow fun e7 => setK e7 i (some (.lst us)) fun e8 => k (.obj (.lst ys)) e8 := by
  (conv => lhs; unfold ev)
  unfold lstK
  cases slot env i with
  | none => rfl
  | some o => cases o <;> rfl
def compO (Γ : Gam) (ow : List Nat) (p : Pat) (ow2 : List Nat) (p2 : Pat) (kd2 : ItK) (as2 : Ts) (ifs : Ts) (a : T) (x : D) (acc : List D) (e1 : Ev) (kk : List D → Ev → Prop) : Prop := asgP p x e1 fun e2 => evs Γ as2 e2 E0x fun rs2 e3 => vals rs2 e3 fun ds2 e3' =>
        itW kd2 ds2 fun xs2 => wipeK e3' ow2 fun e4 => cloop (compB Γ ow2 p2 ifs a) xs2 acc e4 fun acc3 e9 => wipeK e9 ow fun e10 => kk acc3 e10
@[simp ↓] theorem ev_comp2 {ow ow2 : List Nat} {p p2 : Pat} {kd kd2 : ItK} {as as2 ifs : Ts} {a : T} : ev Γ (.comp2 ow p kd as ow2 p2 kd2 as2 ifs a) env E k = evs Γ as env E fun rs e => vals rs e fun ds e' => itW kd ds fun xs => wipeK e' ow fun e1 => cloop (compO Γ ow p ow2 p2 kd2 as2 ifs a) xs [] e1 fun ys e6 => backK e' e6 ow fun e7 => k (.obj (.lst ys)) e7 := by (conv => lhs; unfold ev) <;> rfl
/-- a dict stands in the slot -/
def dicS (env : Ev) (i : Nat) (k : Prop) : Prop := match slot env i with
  | some (.dic _ _ _) => k
  | _ => False
@[simp ↓] theorem dicS_zero {l : Ev} {t : Bool} {ks vs : List D} {k : Prop} : dicS (some (.dic t ks vs) :: l) 0 k = k := rfl
@[simp ↓] theorem dicS_succ {a : Option O} {l : Ev} {i : Nat} {k : Prop} : dicS (a :: l) (i + 1) k = dicS l i k := rfl
theorem ev_mutD {u : Mu} {i : Nat} {as : Ts} (hu : muL u = false) : ev Γ (.mut u i as) env E k = dicS env i (evs Γ as env E fun rs e => vals rs e fun xs e2 => slotK e2 i fun o => mw u o xs fun o' x => setK e2 i (some o') fun e3 => k (.obj (.d x)) e3) := by
  (conv => lhs; unfold ev)
  unfold dicS mutAt
  rw [hu]
  cases slot env i with
  | none => simp
  | some o => cases o <;> simp <;> rfl
@[simp ↓] theorem ev_dpop1 {i : Nat} {as : Ts} : ev Γ (.mut .dpop1 i as) env E k = dicS env i (evs Γ as env E fun rs e => vals rs e fun xs e2 => slotK e2 i fun o => mw .dpop1 o xs fun o' x => setK e2 i (some o') fun e3 => k (.obj (.d x)) e3) := ev_mutD rfl
@[simp ↓] theorem ev_dupd {i : Nat} {as : Ts} : ev Γ (.mut .dupd i as) env E k = dicS env i (evs Γ as env E fun rs e => vals rs e fun xs e2 => slotK e2 i fun o => mw .dupd o xs fun o' x => setK e2 i (some o') fun e3 => k (.obj (.d x)) e3) := ev_mutD rfl
theorem ev_mut {u : Mu} {i : Nat} {as : Ts} (hu : muL u = true) : ev Γ (.mut u i as) env E k = lstK env i fun _ => evs Γ as env E fun rs e => vals rs e fun xs e2 => slotK e2 i fun o => mw u o xs fun o' x => setK e2 i (some o') fun e3 => k (.obj (.d x)) e3 := by
  (conv => lhs; unfold ev)
  unfold lstK mutAt
  rw [hu]
  cases slot env i with
  | none => simp
  | some o => cases o <;> simp <;> rfl
@[simp ↓] theorem ev_append {i : Nat} {as : Ts} : ev Γ (.mut .append i as) env E k = lstK env i fun _ => evs Γ as env E fun rs e => vals rs e fun xs e2 => slotK e2 i fun o => mw .append o xs fun o' x => setK e2 i (some o') fun e3 => k (.obj (.d x)) e3 := ev_mut rfl
@[simp ↓] theorem ev_extend {i : Nat} {as : Ts} : ev Γ (.mut .extend i as) env E k = lstK env i fun _ => evs Γ as env E fun rs e => vals rs e fun xs e2 => slotK e2 i fun o => mw .extend o xs fun o' x => setK e2 i (some o') fun e3 => k (.obj (.d x)) e3 := ev_mut rfl
@[simp ↓] theorem ev_pop {i : Nat} {as : Ts} : ev Γ (.mut .pop i as) env E k = lstK env i fun _ => evs Γ as env E fun rs e => vals rs e fun xs e2 => slotK e2 i fun o => mw .pop o xs fun o' x => setK e2 i (some o') fun e3 => k (.obj (.d x)) e3 := ev_mut rfl
@[simp ↓] theorem ev_popAt {i : Nat} {as : Ts} : ev Γ (.mut .popAt i as) env E k = lstK env i fun _ => evs Γ as env E fun rs e => vals rs e fun xs e2 => slotK e2 i fun o => mw .popAt o xs fun o' x => setK e2 i (some o') fun e3 => k (.obj (.d x)) e3 := ev_mut rfl
/-- an item of a list by its place -/
def nthK (l : List D) (j : Nat) (k : D → Prop) : Prop := match l[j]? with
  | some x => k x
  | none => False
@[simp ↓] theorem nthK_zero {x : D} {l : List D} {k : D → Prop} : nthK (x :: l) 0 k = k x := rfl
@[simp ↓] theorem nthK_succ {x : D} {l : List D} {j : Nat} {k : D → Prop} : nthK (x :: l) (j + 1) k = nthK l j k := rfl
def nthO (l : List O) (j : Nat) (k : D → Prop) : Prop := match l[j]? with
  | some (.d x) => k x
  | _ => False
@[simp ↓] theorem nthO_zero {x : D} {l : List O} {k : D → Prop} : nthO (.d x :: l) 0 k = k x := rfl
@[simp ↓] theorem nthO_succ {x : O} {l : List O} {j : Nat} {k : D → Prop} : nthO (x :: l) (j + 1) k = nthO l j k := rfl
def fldO (c j : Nat) (o : O) (k : D → Prop) : Prop := match o with
  | .ins c' fs => c' = c ∧ nthO fs j k
  | _ => False
def fldD (c j : Nat) (d : D) (k : D → Prop) : Prop := match d with
  | .ins c' fs => c' = c ∧ nthK fs j k
  | _ => False
@[simp ↓] theorem fldO_ins {c j : Nat} {fs : List O} {k : D → Prop} : fldO c j (.ins c fs) k = nthO fs j k := by simp [fldO]
@[simp ↓] theorem fldD_ins {c j : Nat} {fs : List D} {k : D → Prop} : fldD c j (.ins c fs) k = nthK fs j k := by simp [fldD]
theorem fldW_obj {c j : Nat} {o : O} {e : Ev} {k : R → Prop} : fldW c j (.obj o) e k = dtK o fun d => fldD c j d fun x => k (.obj (.d x)) := by
  show (match o.toD with
    | .ins c' fs => c' = c ∧ ∃ x, fs[j]? = some x ∧ k (.obj (.d x))
    | _ => False) = fldD c j o.toD _
  generalize o.toD = d
  cases d with
  | ins c' fs =>
    show (c' = c ∧ ∃ x, fs[j]? = some x ∧ k (.obj (.d x))) = (c' = c ∧ nthK fs j _)
    unfold nthK
    cases fs[j]? <;> simp
  | _ => rfl
theorem fldW_path {c j i : Nat} {e : Ev} {k : R → Prop} : fldW c j (.path i) e k = slotK e i fun o => fldO c j o fun x => k (.obj (.d x)) := by
  show (match slot e i with
    | some (O.ins c' fs) => c' = c ∧ ∃ x, fs[j]? = some (O.d x) ∧ k (.obj (.d x))
    | _ => False) = _
  unfold slotK
  cases slot e i with
  | none => rfl
  | some o =>
    cases o with
    | ins c' fs =>
      show (c' = c ∧ ∃ x, fs[j]? = some (O.d x) ∧ k (.obj (.d x))) = (c' = c ∧ nthO fs j _)
      unfold nthO
      cases fs[j]? with
      | none => simp
      | some x => cases x <;> simp
    | _ => rfl
def fldK (c j : Nat) (r : R) (e : Ev) (k : R → Prop) : Prop := fldW c j r e k
@[simp ↓] theorem fldK_obj {c j : Nat} {o : O} {e : Ev} {k : R → Prop} : fldK c j (.obj o) e k = dtK o fun d => fldD c j d fun x => k (.obj (.d x)) := fldW_obj
@[simp ↓] theorem fldK_path {c j i : Nat} {e : Ev} {k : R → Prop} : fldK c j (.path i) e k = slotK e i fun o => fldO c j o fun x => k (.obj (.d x)) := fldW_path
@[simp ↓] theorem ev_fld {c j : Nat} {a : T} : ev Γ (.fld c j a) env E k = ev Γ a env E fun r e => fldK c j r e fun r2 => k r2 e := by (conv => lhs; unfold ev) <;> rfl
def clsO (o : O) (k : Nat → Prop) : Prop := match o with
  | .ins c _ => k c
  | .d (.ins c _) => k c
  | _ => False
@[simp ↓] theorem clsO_ins {c : Nat} {fs : List O} {k : Nat → Prop} : clsO (.ins c fs) k = k c := rfl
@[simp ↓] theorem clsO_d {c : Nat} {fs : List D} {k : Nat → Prop} : clsO (.d (.ins c fs)) k = k c := rfl
def lkK (l : List (Nat × Nat)) (c : Nat) (k : Nat → Prop) : Prop := match l.lookup c with
  | some f => k f
  | none => False
@[simp ↓] theorem lkK_cons {l : List (Nat × Nat)} {c c' f : Nat} {k : Nat → Prop} : lkK ((c, f) :: l) c' k = if c' = c then k f else lkK l c' k := by
  unfold lkK
  rw [List.lookup_cons]
  by_cases h : c' = c
  · subst h; simp
  · have : (c' == c) = false := beq_eq_false_iff_ne.mpr h
    rw [this, if_neg h]
@[simp ↓] theorem ev_meth {l : List (Nat × Nat)} {m : Str} {r : T} {as : Ts} : ev Γ (.meth l m r as) env E k = ev Γ r env E fun r0 e0 => opK e0 r0 fun o0 => clsO o0 fun c => lkK l c fun f => nrmK r0 fun r1 => evs Γ as e0 E fun rs e => opsK e (r1 :: rs) fun os => apart (r1 :: rs) [] = true ∧
    callW (Γ.fn f) os (fun o os' => putsK e (r1 :: rs) os' fun e2 => k (.obj o) e2) (fun x os' => E x (puts e (r1 :: rs) os')) := by
  (conv => lhs; unfold ev)
  congr 1; funext r0 e0
  unfold clsK opK clsO
  cases getR e0 r0 with
  | none => rfl
  | some o =>
    cases o <;> first | rfl | skip
    rename_i d
    cases d <;> rfl
@[simp ↓] theorem newK_true {self : O} {r : List O} {k : O → List O → Prop} : newK true (self :: r) k = dtK self fun d => k (.d d) r := rfl
@[simp ↓] theorem newK_false {self : O} {r : List O} {k : O → List O → Prop} : newK false (self :: r) k = k self r := rfl
@[simp ↓] theorem ev_new {c f : Nat} {fz : Bool} {as : Ts} : ev Γ (.new c f fz as) env E k = evs Γ as env E fun rs e => opsK e rs fun os => apart rs [] = true ∧ callW (Γ.fn f) (.ins c [] :: os) (fun o os' => o = .d .non ∧ newK fz os' fun self r => putsK e rs r fun e2 => k (.obj self) e2) (fun x os' => match os' with
      | _ :: r => E x (puts e rs r)
      | [] => False) := by
  (conv => lhs; unfold ev)
  rfl
@[simp ↓] theorem ev_call0 {f : Nat} : ev Γ (.call0 f) env E k = callW (Γ.fn f) [] (fun o _ => k (.obj o) env) (fun x _ => E x env) := by (conv => lhs; unfold ev) <;> rfl
@[simp ↓] theorem ev_dic0 {t : Bool} : ev Γ (.dic0 t) env E k = k (.obj (.dic t [] [])) env := by unfold ev; rfl
@[simp ↓] theorem ev_isi {a : T} {q : Cl} : ev Γ (.isi a q) env E k = ev Γ a env E fun r e => opK e r fun o => dtK o fun d => isiW q d fun b => k (.obj (.d (.bl b))) e := by
  (conv => lhs; unfold ev)
  congr 1
def dicK (e : Ev) (r : R) (k : Prop) : Prop := dicAt e r ∧ k
@[simp ↓] theorem ev_meq {neg : Bool} {l : List (Nat × Nat)} {a b : T} : ev Γ (.meq neg l a b) env E k = ev Γ a env E fun r0 e0 => ev Γ b e0 E fun r1 e => nrmK r0 fun r0' => nrmK r1 fun r1' => opsK e [r0', r1'] fun os => insW os fun c => lkK l c fun f =>
    apart [r0', r1'] [] = true ∧ callW (Γ.fn f) os (fun o os' => ∃ t, o = .d (.bl t) ∧ putsK e [r0', r1'] os' fun e2 => k (.obj (.d (.bl (t != neg)))) e2) (fun x os' => E x (puts e [r0', r1'] os')) := by
  (conv => lhs; unfold ev) <;> rfl
@[simp ↓] theorem dicK_obj {t : Bool} {ks vs : List D} {e : Ev} {k : Prop} : dicK e (.obj (.d (.dic t ks vs))) k = k := by simp [dicK, dicAt, getR, isDic]
@[simp ↓] theorem dicK_path {i : Nat} {e : Ev} {k : Prop} : dicK e (.path i) k = slotK e i fun o => dtK o fun d => isDic d ∧ k := by
  unfold dicK dicAt slotK dtK
  show ((match slot e i with | some o => isDic o.toD | none => False) ∧ k) = _
  cases slot e i <;> simp
@[simp ↓] theorem isDic_dic {t : Bool} {ks vs : List D} : isDic (.dic t ks vs) = True := rfl
@[simp ↓] theorem ev_dget {a : T} {as : Ts} : ev Γ (.dget a as) env E k = ev Γ a env E fun ra e0 => dicK e0 ra <| nrmK ra fun r1 => evs Γ as e0 E fun rs e => dsK e (r1 :: rs) fun ds => pw (.meth "dict" "get") ds fun o => k (.obj o) e := by
  (conv => lhs; unfold ev)
  rfl
@[simp ↓] theorem evs_nil {k : List R → Ev → Prop} : evs Γ .nil env E k = k [] env := by unfold evs; rfl
@[simp ↓] theorem evs_cons {a : T} {as : Ts} {k : List R → Ev → Prop} : evs Γ (.cons a as) env E k = ev Γ a env E fun r e => nrmK r fun r' => evs Γ as e E fun rs e2 => k (r' :: rs) e2 := by (conv => lhs; unfold evs) <;> rfl
@[simp ↓] theorem evAnd_nil {k : Bool → Ev → Prop} : evAnd Γ .nil env E k = k true env := by unfold evAnd; rfl
@[simp ↓] theorem evAnd_cons {a : T} {as : Ts} {k : Bool → Ev → Prop} : evAnd Γ (.cons a as) env E k = ev Γ a env E fun r e => tst r fun b => if b = true then evAnd Γ as e E k else k false e := by (conv => lhs; unfold evAnd) <;> rfl
@[simp ↓] theorem evOr_nil {k : Bool → Ev → Prop} : evOr Γ .nil env E k = k false env := by unfold evOr; rfl
@[simp ↓] theorem evOr_cons {a : T} {as : Ts} {k : Bool → Ev → Prop} : evOr Γ (.cons a as) env E k = ev Γ a env E fun r e => tst r fun b => if b = true then k true e else evOr Γ as e E k := by (conv => lhs; unfold evOr) <;> rfl
@[simp ↓] theorem evIfs_nil {k : Bool → Ev → Prop} : evIfs Γ .nil env E k = k true env := by unfold evIfs; rfl
@[simp ↓] theorem evIfs_cons {a : T} {as : Ts} {k : Bool → Ev → Prop} : evIfs Γ (.cons a as) env E k = ev Γ a env E fun r e => tst r fun b => if b = true then evIfs Γ as e E k else k false e := by (conv => lhs; unfold evIfs) <;> rfl
@[simp ↓] theorem evsO_nil {k : List O → Ev → Prop} : evsO Γ .nil env E k = k [] env := by unfold evsO; rfl
@[simp ↓] theorem evsO_cons {a : T} {as : Ts} {k : List O → Ev → Prop} : evsO Γ (.cons a as) env E k = ev Γ a env E fun r e => r.get e fun o e1 => evsO Γ as e1 E fun os e2 => k (o :: os) e2 := by (conv => lhs; unfold evsO) <;> rfl
/-- what follows: not entered before the state is known -/
def nxK (Γ : Gam) (F : List Nat) (ss : Ss) (P : Post) : Ev → Prop := fun e => wpSs Γ F ss e P
@[simp ↓] theorem nxK_cons {a : Option O} {l : Ev} {ss : Ss} : nxK Γ F ss P (a :: l) = wpSs Γ F ss (a :: l) P := rfl
/-- a for loop's turn -/
def forB (Γ : Gam) (F : List Nat) (p : Pat) (b : Ss) (P : Post) (x : D) (e1 : Ev) (kk : Ev → Prop) : Prop := asgP p x e1 fun e2 => wpSs Γ F b e2 { P with nx := kk, ct := kk, bk := P.nx }
@[simp ↓] theorem wpSs_nil : wpSs Γ F .nil env P = P.nx env := by unfold wpSs; rfl
@[simp ↓] theorem wpSs_cons {s : S} {ss : Ss} : wpSs Γ F (.cons s ss) env P = wpS Γ F s env { P with nx := nxK Γ F ss P } := by (conv => lhs; unfold wpSs) <;> rfl
@[simp ↓] theorem wpS_set {i : Nat} {e : T} : wpS Γ F (.set i e) env P = ev Γ e env P.xc fun r e1 => r.get e1 fun o e2 => setK e2 i (some o) P.nx := by (conv => lhs; unfold wpS) <;> rfl
@[simp ↓] theorem wpS_asg {p : Pat} {e : T} : wpS Γ F (.asg p e) env P = ev Γ e env P.xc fun r e1 => r.val e1 fun x e2 => asgP p x e2 P.nx := by (conv => lhs; unfold wpS) <;> rfl
@[simp ↓] theorem wpS_par {is : List Nat} {as : Ts} : wpS Γ F (.par is as) env P = evsO Γ as env P.xc fun os e => allK e is os P.nx := by (conv => lhs; unfold wpS) <;> rfl
@[simp ↓] theorem wpS_parN {is : List Nat} {as : Ts} : wpS Γ F (.parN is as) env P = evsO Γ as env P.xc fun os e => allK e is os P.nx := by (conv => lhs; unfold wpS) <;> rfl
@[simp ↓] theorem wpS_setIx {i : Nat} {a e : T} : wpS Γ F (.setIx i a e) env P = ev Γ e env P.xc fun r e1 => r.val e1 fun x e2 => ownK e2 i <| ev Γ a e2 P.xc fun ra e3 => ra.val e3 fun q e4 => slotK e4 i fun o => sw o q x fun o' => setK e4 i (some o') P.nx := by
  (conv => lhs; unfold wpS)
  congr 1; funext r e1; congr 1; funext x e2
  unfold ownK ownAt
  cases slot e2 i with
  | none => simp
  | some o => cases o <;> simp <;> rfl
/-- an attribute stored -/
def stK (fs : List O) (j : Nat) (o : O) (k : List O → Prop) : Prop := j ≤ fs.length ∧ k (if j = fs.length then fs ++ [o] else fs.set j o)
@[simp ↓] theorem stK_nil {o : O} {k : List O → Prop} : stK [] 0 o k = k [o] := by simp [stK]
@[simp ↓] theorem stK_zero {a o : O} {fs : List O} {k : List O → Prop} : stK (a :: fs) 0 o k = k (o :: fs) := by simp [stK]
@[simp ↓] theorem stK_succ {a o : O} {fs : List O} {j : Nat} {k : List O → Prop} : stK (a :: fs) (j + 1) o k = stK fs j o fun r => k (a :: r) := by
  unfold stK
  simp only [List.length_cons, Nat.add_le_add_iff_right, Nat.add_right_cancel_iff, List.cons_append, List.set_cons_succ]
  by_cases h : j = fs.length <;> simp [h]
def insO (c : Nat) (o : O) (k : List O → Prop) : Prop := match o with
  | .ins c' fs => c' = c ∧ k fs
  | _ => False
@[simp ↓] theorem insO_ins {c : Nat} {fs : List O} {k : List O → Prop} : insO c (.ins c fs) k = k fs := by simp [insO]
@[simp ↓] theorem wpS_setF {c i j : Nat} {e : T} : wpS Γ F (.setF c i j e) env P = ev Γ e env P.xc fun r e1 => r.get e1 fun o e2 => slotK e2 i fun s => insO c s fun fs => stK fs j o fun fs' => setK e2 i (some (.ins c fs')) P.nx := by
  (conv => lhs; unfold wpS)
  congr 1; funext r e1; congr 1; funext o e2
  unfold slotK insO stK
  cases slot e2 i with
  | none => rfl
  | some s => cases s <;> rfl
@[simp ↓] theorem wpS_aug {i : Nat} {op : Operator} {e : T} : wpS Γ F (.aug i op e) env P = slotK env i fun _ => ev Γ e env P.xc fun r e1 => r.val e1 fun y e2 => slotK e2 i fun o => iw op o y fun o' => setK e2 i (some o') P.nx := by
  (conv => lhs; unfold wpS)
  unfold slotK
  cases slot env i <;> simp <;> rfl
@[simp ↓] theorem wpS_augIx {i : Nat} {a e : T} {op : Operator} : wpS Γ F (.augIx i a op e) env P = lstK env i fun _ => ev Γ a env P.xc fun ra e1 => ra.val e1 fun q e2 => lstK e2 i fun xs => wIx [.lst xs, q] fun x => dtK x fun v => ev Γ e e2 P.xc fun r e3 => r.val e3 fun y e4 => iw op (.d v) y fun z => slotK e4 i fun o2 => dtK z fun zd => sw o2 q zd fun o3 => setK e4 i (some o3) P.nx := by
  (conv => lhs; unfold wpS)
  have key : ∀ (e2 : Ev) (q : D) (K : Int → D → Prop), (lstK e2 i fun xs => ∃ k v, q = .int k ∧ atI xs k = some v ∧ K k v) = lstK e2 i fun xs => wIx [.lst xs, q] fun x => dtK x fun v => match q with | .int k => K k v | _ => False := by
    intro e2 q K
    unfold lstK
    split
    · rename_i xs _
      cases q with
      | int k =>
        show (∃ k' v, D.int k = D.int k' ∧ atI xs k' = some v ∧ K k' v) = ∃ x, atI xs k = some x ∧ dtK (.d x) fun v => K k v
        apply propext
        constructor
        · rintro ⟨k', v, h1, h2, h3⟩; cases h1; exact ⟨v, h2, by rw [dtK_d]; exact h3⟩
        · rintro ⟨x, h1, h2⟩; rw [dtK_d] at h2; exact ⟨k, x, rfl, h1, h2⟩
      | _ => simp [wIx]
    · rfl
  have key2 : ∀ (e2 : Ev) (q : D) (K : D → Prop), (lstK e2 i fun xs => wIx [.lst xs, q] fun x => dtK x fun v => match q with | .int k => K v | _ => False) = lstK e2 i fun xs => wIx [.lst xs, q] fun x => dtK x K := by
    intro e2 q K
    unfold lstK
    split
    · cases q <;> first | rfl | simp [wIx]
    · rfl
  show (lstAt env i ∧ ev Γ a env P.xc fun ra e1 => ra.val e1 fun q e2 => lstK e2 i fun xs => ∃ k v, q = .int k ∧ atI xs k = some v ∧ (fun (_ : Int) v => ev Γ e e2 P.xc fun r e3 => r.val e3 fun y e4 => iw op (.d v) y fun z => slotK e4 i fun o2 => dtK z fun zd => sw o2 q zd fun o3 => setK e4 i (some o3) P.nx) k v) = _
  have e1 : (fun (ra : R) (e1 : Ev) => ra.val e1 fun q e2 => lstK e2 i fun xs => ∃ k v, q = .int k ∧ atI xs k = some v ∧ (fun (_ : Int) v => ev Γ e e2 P.xc fun r e3 => r.val e3 fun y e4 => iw op (.d v) y fun z => slotK e4 i fun o2 => dtK z fun zd => sw o2 q zd fun o3 => setK e4 i (some o3) P.nx) k v) =
      fun ra e1 => ra.val e1 fun q e2 => lstK e2 i fun xs => wIx [.lst xs, q] fun x => dtK x fun v => ev Γ e e2 P.xc fun r e3 => r.val e3 fun y e4 => iw op (.d v) y fun z => slotK e4 i fun o2 => dtK z fun zd => sw o2 q zd fun o3 => setK e4 i (some o3) P.nx := by
    funext ra e1
    congr 1
    funext q e2
    rw [key, key2]
  rw [e1]
  unfold lstAt
  show _ = lstK env i fun _ => _
  unfold lstK
  cases slot env i with
  | none => simp
  | some o => cases o <;> simp
@[simp ↓] theorem wpS_expr {e : T} : wpS Γ F (.expr e) env P = ev Γ e env P.xc fun _ e1 => P.nx e1 := by (conv => lhs; unfold wpS) <;> rfl
/-- what a return hands on -/
def retK (F : List Nat) (P : Post) : R → Ev → Prop
  | .path j, e => if F.contains j = true then slotK e j fun o => dtK o fun d => setK e j (some (.d d)) fun e2 => P.rt (.d d) e2 else slotK e j fun o => setK e j none fun e2 => P.rt o e2
  | .obj x, e => P.rt x e
@[simp ↓] theorem retK_obj {x : O} {e : Ev} : retK F P (.obj x) e = P.rt x e := rfl
@[simp ↓] theorem retK_path {j : Nat} {e : Ev} : retK F P (.path j) e = if F.contains j = true then slotK e j fun o => dtK o fun d => setK e j (some (.d d)) fun e2 => P.rt (.d d) e2 else slotK e j fun o => setK e j none fun e2 => P.rt o e2 := rfl
@[simp ↓] theorem wpS_ret {e : T} : wpS Γ F (.ret e) env P = ev Γ e env P.xc fun r e1 => retK F P r e1 := by
  (conv => lhs; unfold wpS)
  congr 1; funext r e1
  cases r <;> rfl
@[simp ↓] theorem wpS_retN : wpS Γ F .retN env P = P.rt (.d .non) env := by unfold wpS; rfl
@[simp ↓] theorem wpS_pass : wpS Γ F .pass env P = P.nx env := by unfold wpS; rfl
@[simp ↓] theorem wpS_brk : wpS Γ F .brk env P = P.bk env := by unfold wpS; rfl
@[simp ↓] theorem wpS_cont : wpS Γ F .cont env P = P.ct env := by unfold wpS; rfl
@[simp ↓] theorem wpS_ifs {c : T} {a b : Ss} : wpS Γ F (.ifs c a b) env P = ev Γ c env P.xc fun r e => tst r fun t => if t = true then wpSs Γ F a e P else wpSs Γ F b e P := by (conv => lhs; unfold wpS) <;> rfl
theorem wpS_whl {c : T} {b : Ss} : wpS Γ F (.whl c b) env P = ∃ I : Nat → Ev → Prop, (∃ m, I m env) ∧ ∀ m e, I m e → ev Γ c e P.xc fun r e1 => tst r fun t =>
      if t = true then wpSs Γ F b e1 { P with nx := fun e2 => ∃ m', m' < m ∧ I m' e2, ct := fun e2 => ∃ m', m' < m ∧ I m' e2, bk := P.nx } else P.nx e1 := by (conv => lhs; unfold wpS) <;> rfl
@[simp ↓] theorem wpS_for {p : Pat} {kd : ItK} {as : Ts} {b : Ss} : wpS Γ F (.for_ p kd as b) env P = evs Γ as env P.xc fun rs e => vals rs e fun ds e' => itW kd ds fun xs => floop (forB Γ F p b P) xs e' P.nx := by (conv => lhs; unfold wpS) <;> rfl
def keepK (e : Ev) (i : Nat) (xs : List D) (k : Prop) : Prop := slot e i = some (.lst xs) ∧ k
@[simp ↓] theorem keepK_zero {xs ys : List D} {l : Ev} {k : Prop} : keepK (some (.lst ys) :: l) 0 xs k = (ys = xs ∧ k) := by simp [keepK]
@[simp ↓] theorem keepK_succ {xs : List D} {a : Option O} {l : Ev} {i : Nat} {k : Prop} : keepK (a :: l) (i + 1) xs k = keepK l i xs k := by simp [keepK]
def forO (Γ : Gam) (F : List Nat) (p : Pat) (i : Nat) (xs : List D) (b : Ss) (P : Post) : D → Ev → (Ev → Prop) → Prop := fun x e1 kk => asgP p x e1 fun e2 => wpSs Γ F b e2 { P with nx := fun e => keepK e i xs (kk e), ct := fun e => keepK e i xs (kk e), bk := P.nx }
@[simp ↓] theorem wpS_forO {p : Pat} {en : Bool} {i : Nat} {b : Ss} : wpS Γ F (.forO p en i b) env P = lstK env i fun xs => floop (forO Γ F p i xs b P) (if en = true then enumD 0 xs else xs) env P.nx := by (conv => lhs; unfold wpS) <;> rfl
end
/-! ### loops -/
theorem floop_inv {body : D → Ev → (Ev → Prop) → Prop} {Q : Ev → Prop} : ∀ {xs : List D} {env : Ev} (I : Nat → Ev → Prop) (n : Nat), I n env → (∀ k e kk, (h : k < xs.length) → I (n + k) e → (∀ e', I (n + k + 1) e' → kk e') → body xs[k] e kk) → (∀ e, I (n + xs.length) e → Q e) → floop body xs env Q
  | [], env, I, n, h0, _, hQ => by unfold floop; exact hQ env h0
  | x :: xs, env, I, n, h0, hs, hQ => by
    unfold floop
    refine hs 0 env _ (by simp) h0 fun e' h' => ?_
    refine floop_inv I (n + 1) h' (fun k e kk h i f => ?_) fun e h => hQ e (by simpa [Nat.add_assoc, Nat.add_comm 1] using h)
    have := hs (k + 1) e kk (by simpa using h) (by rw [show n + (k + 1) = n + 1 + k by omega]; exact i) fun e' h => f e' (by rw [show n + 1 + k + 1 = n + (k + 1) + 1 by omega]; exact h)
    simpa using this
/-- by turns from 0 -/
theorem floop_by {body : D → Ev → (Ev → Prop) → Prop} {Q : Ev → Prop} {xs : List D} {env : Ev} (I : Nat → Ev → Prop) (h0 : I 0 env) (hs : ∀ k e kk, (h : k < xs.length) → I k e → (∀ e', I (k + 1) e' → kk e') → body xs[k] e kk) (hQ : ∀ e, I xs.length e → Q e) : floop body xs env Q :=
  floop_inv I 0 h0 (fun k e kk h i f => hs k e kk h (by simpa using i) (by simpa using f)) fun e h => hQ e (by simpa using h)
theorem cloop_inv {body : D → List D → Ev → (List D → Ev → Prop) → Prop} {Q : List D → Ev → Prop} : ∀ {xs acc : List D} {env : Ev} (I : Nat → List D → Ev → Prop) (n : Nat), I n acc env → (∀ k acc e kk, (h : k < xs.length) → I (n + k) acc e → (∀ acc' e', I (n + k + 1) acc' e' → kk acc' e') → body xs[k] acc e kk) →
    (∀ acc e, I (n + xs.length) acc e → Q acc e) → cloop body xs acc env Q
  | [], acc, env, I, n, h0, _, hQ => by unfold cloop; exact hQ acc env h0
  | x :: xs, acc, env, I, n, h0, hs, hQ => by
    unfold cloop
    refine hs 0 acc env _ (by simp) h0 fun acc' e' h' => ?_
    refine cloop_inv I (n + 1) h' (fun k acc e kk h i f => ?_) fun acc e h => hQ acc e (by simpa [Nat.add_assoc, Nat.add_comm 1] using h)
    have := hs (k + 1) acc e kk (by simpa using h) (by rw [show n + (k + 1) = n + 1 + k by omega]; exact i) fun acc' e' h => f acc' e' (by rw [show n + 1 + k + 1 = n + (k + 1) + 1 by omega]; exact h)
    simpa using this
theorem cloop_by {body : D → List D → Ev → (List D → Ev → Prop) → Prop} {Q : List D → Ev → Prop} {xs : List D} {env : Ev} (I : Nat → List D → Ev → Prop) (h0 : I 0 [] env) (hs : ∀ k acc e kk, (h : k < xs.length) → I k acc e → (∀ acc' e', I (k + 1) acc' e' → kk acc' e') → body xs[k] acc e kk)
    (hQ : ∀ acc e, I xs.length acc e → Q acc e) : cloop body xs [] env Q :=
  cloop_inv I 0 h0 (fun k acc e kk h i f => hs k acc e kk h (by simpa using i) (by simpa using f)) fun acc e h => hQ acc e (by simpa using h)
/-- a plain comprehension: each item's value, the state as it was -/
theorem cloop_map {body : D → List D → Ev → (List D → Ev → Prop) → Prop} {Q : List D → Ev → Prop} {xs : List D} {env : Ev} (f : D → D) (hl : xs.length ≤ sizeLine) (hs : ∀ x ∈ xs, ∀ acc kk, acc.length < sizeLine → kk (acc ++ [f x]) env → body x acc env kk) (hQ : Q (xs.map f) env) : cloop body xs [] env Q := by
  refine cloop_by (fun k acc e => e = env ∧ acc = (xs.take k).map f) ⟨rfl, rfl⟩ (fun k acc e kk h ⟨h1, h2⟩ g => ?_) fun acc e ⟨h1, h2⟩ => ?_
  · subst h1 h2
    refine hs _ (List.getElem_mem h) _ _ (by simp; omega) (g _ _ ⟨rfl, ?_⟩)
    rw [List.take_succ_eq_append_getElem h, List.map_append]; rfl
  · subst h1 h2
    rw [List.take_length]; exact hQ
/-- with a test -/
theorem cloop_filter {body : D → List D → Ev → (List D → Ev → Prop) → Prop} {Q : List D → Ev → Prop} {xs : List D} {env : Ev} (f : D → Option D) (hl : xs.length ≤ sizeLine) (hs : ∀ x ∈ xs, ∀ acc kk, acc.length < sizeLine → (match f x with | some y => kk (acc ++ [y]) env | none => kk acc env) → body x acc env kk) (hQ : Q (xs.filterMap f) env) : cloop body xs [] env Q := by
  refine cloop_by (fun k acc e => e = env ∧ acc = (xs.take k).filterMap f) ⟨rfl, rfl⟩ (fun k acc e kk h ⟨h1, h2⟩ g => ?_) fun acc e ⟨h1, h2⟩ => ?_
  · subst h1 h2
    refine hs _ (List.getElem_mem h) _ _ ?_ ?_
    · have := List.length_filterMap_le f (xs.take k)
      simp at this; omega
    · have e : (xs.take (k + 1)).filterMap f = (xs.take k).filterMap f ++ (match f xs[k] with | some y => [y] | none => []) := by
        rw [List.take_succ_eq_append_getElem h, List.filterMap_append]
        congr 1
        cases h9 : f xs[k] with
        | none => simp [h9]
        | some y => simp [h9]
      cases h3 : f xs[k] with
      | none => exact g _ _ ⟨rfl, by rw [e, h3]; simp⟩
      | some y => exact g _ _ ⟨rfl, by rw [e, h3]⟩
  · subst h1 h2
    rw [List.take_length]; exact hQ
theorem rngD_len {i j : Int} : (rngD i j).length = (j - i).toNat := by simp [rngD]
theorem rngD_get {i j : Int} {k : Nat} (h : k < (rngD i j).length) : (rngD i j)[k] = .int (i + k) := by simp [rngD]
theorem mem_rngD {i j : Int} {x : D} : x ∈ rngD i j ↔ ∃ n, x = .int n ∧ i ≤ n ∧ n < j := by
  unfold rngD
  simp only [List.mem_map, List.mem_range]
  constructor
  · rintro ⟨k, h, rfl⟩; exact ⟨_, rfl, by omega, by omega⟩
  · rintro ⟨n, rfl, h1, h2⟩
    exact ⟨(n - i).toNat, by omega, by congr 1; omega⟩
/-! ### plain promises -/
/-- a value of the arguments; they stay as they are -/
def fnSp (f : List O → Option O) : DSp := fun os Q _ => ∃ r, f os = some r ∧ Q r os
@[simp] theorem callW_fnSp {f : List O → Option O} {os : List O} {Q : O → List O → Prop} {E : Ex → List O → Prop} : callW (fnSp f) os Q E = ∃ r, f os = some r ∧ Q r os := by
  apply propext
  constructor
  · rintro ⟨Q0, E0, ⟨r, h1, h2⟩, h3, h4⟩
    exact ⟨r, h1, (h3 _ _ h2).2⟩
  · rintro ⟨r, h1, h2⟩
    exact callW.of ⟨r, h1, rfl, h2⟩
/-- a value of the arguments, under a condition; they stay as they are -/
def gSp (f : List O → Option (Prop × O)) : DSp := fun os Q _ => ∃ p r, f os = some (p, r) ∧ p ∧ Q r os
def gK (x : Option (Prop × O)) (os : List O) (Q : O → List O → Prop) : Prop := match x with
  | some (p, r) => p ∧ Q r os
  | none => False
theorem callW_gSp {f : List O → Option (Prop × O)} {os : List O} {Q : O → List O → Prop} {E : Ex → List O → Prop} : callW (gSp f) os Q E = gK (f os) os Q := by
  apply propext
  unfold gK
  constructor
  · rintro ⟨Q0, E0, ⟨p, r, h1, h2, h3⟩, h4, h5⟩
    rw [h1]
    exact ⟨h2, (h4 _ _ h3).2⟩
  · intro h
    split at h
    · rename_i p r e
      exact callW.of ⟨p, r, e, h.1, rfl, h.2⟩
    · exact h.elim
@[simp ↓] theorem callW_Pr {Γ : Gam} {n : Nat} {sp : DSp} [h : Pr Γ n sp] {os : List O} {Q : O → List O → Prop} {E : Ex → List O → Prop} : callW (Γ.fn n) os Q E = callW sp os Q E := by rw [h.eq]
/-- some value; the arguments may turn -/
def ndSp (P : List O → Prop) (R : List O → O → List O → Prop) : DSp := fun os Q _ => P os ∧ ∀ o os', R os o os' → Q o os'
theorem callW_ndSp {P : List O → Prop} {R : List O → O → List O → Prop} {os : List O} {Q : O → List O → Prop} {E : Ex → List O → Prop} (hl : ∀ o os', R os o os' → os'.length = os.length) : callW (ndSp P R) os Q E = (P os ∧ ∀ o os', R os o os' → Q o os') := by
  apply propext
  constructor
  · rintro ⟨Q0, E0, ⟨h1, h2⟩, h3, h4⟩
    exact ⟨h1, fun o os' r => (h3 _ _ (h2 o os' r)).2⟩
  · rintro ⟨h1, h2⟩
    exact callW.of ⟨h1, fun o os' r => ⟨hl o os' r, h2 o os' r⟩⟩
@[simp] theorem postD_nx {F : List Nat} {os : List O} {Q : O → List O → Prop} {e : Ev} : (postD F os Q).nx e = ∃ os', outO F e 0 os = some os' ∧ Q (.d .non) os' := rfl
@[simp] theorem postD_rt {F : List Nat} {os : List O} {Q : O → List O → Prop} {o : O} {e : Ev} : (postD F os Q).rt o e = ∃ os', outO F e 0 os = some os' ∧ Q o os' := rfl
@[simp] theorem postD_xc {F : List Nat} {os : List O} {Q : O → List O → Prop} : (postD F os Q).xc = fun _ _ => False := rfl
@[simp] theorem outO_nil {F : List Nat} {e : Ev} {k : Nat} : outO F e k [] = some [] := by simp [outO]
@[simp] theorem outO_cons {F : List Nat} {e : Ev} {k : Nat} {o : O} {os : List O} : outO F e k (o :: os) = match (if F.contains k then slot e k else some (.d o.toD)), outO F e (k + 1) os with
    | some a, some r => some (a :: r)
    | _, _ => none := by (conv => lhs; unfold outO) <;> rfl
@[simp] theorem inO_nil {F : List Nat} {k : Nat} : inO F k [] = [] := by simp [inO]
@[simp] theorem inO_cons {F : List Nat} {k : Nat} {o : O} {os : List O} : inO F k (o :: os) = (if F.contains k then o else .d o.toD) :: inO F (k + 1) os := by simp [inO]
@[simp] theorem env0_def {F : List Nat} {n : Nat} {os : List O} : env0 F n os = (inO F 0 os).map some ++ List.replicate (n - os.length) none := rfl
/-- one statement, by a word between -/
theorem step {Γ : Gam} {F : List Nat} {s : S} {ss : Ss} {env : Ev} {P : Post} (M : Ev → Prop) (h1 : wpS Γ F s env { P with nx := M }) (h2 : ∀ e, M e → wpSs Γ F ss e P) : wpSs Γ F (.cons s ss) env P := by
  unfold wpSs
  exact wpS_mono (P := { P with nx := M }) (P' := { P with nx := fun e => wpSs Γ F ss e P }) s ⟨h2, fun _ _ h => h, fun _ h => h, fun _ h => h, fun _ _ h => h⟩ h1
/-- lists of ints -/
theorem purs_int : ∀ {xs : List D}, xs.all isInt = true → D.purs xs = true ∧ D.deps xs = 0
  | [], _ => by simp [D.purs, D.deps]
  | x :: xs, h => by
    rw [List.all_cons, Bool.and_eq_true] at h
    obtain ⟨h1, h2⟩ := purs_int h.2
    cases x <;> simp [isInt] at h
    simp [D.purs, D.deps, D.pur, D.dep, h1, h2]
theorem eqOk_ints {xs ys : List D} (h1 : xs.all isInt = true) (h2 : ys.all isInt = true) : eqOk (.tup xs) (.tup ys) = true := by
  obtain ⟨a1, a2⟩ := purs_int h1
  obtain ⟨b1, b2⟩ := purs_int h2
  simp [eqOk, D.pur, D.dep, a1, a2, b1, b2]
end VE
/-! VE19: the laws' own defs -/
namespace VE
open PySem PySem.Spec PyProof.Rows L2
def numP : List O → Prop := fun os => ∃ ns i, os = [.d (.scr ns), .d (.int i)]
def numR : List O → O → List O → Prop := fun os o os' => os' = os ∧ ∃ r, o = .d (.int r) ∧ 0 ≤ r ∧ r < 2147483647
def numSp : DSp := ndSp numP numR
@[simp ↓] theorem call_num {ns : List Int} {i : Int} {Q : O → List O → Prop} {E : Ex → List O → Prop} : callW numSp [.d (.scr ns), .d (.int i)] Q E = ∀ r, 0 ≤ r → r < 2147483647 → Q (.d (.int r)) [.d (.scr ns), .d (.int i)] := by
  unfold numSp
  rw [callW_ndSp fun o os' h => by rw [h.1]]
  apply propext
  constructor
  · exact fun ⟨_, h⟩ r h1 h2 => h _ _ ⟨rfl, r, rfl, h1, h2⟩
  · exact fun h => ⟨⟨ns, i, rfl⟩, fun o os' ⟨h1, r, h2, h3, h4⟩ => by subst h1 h2; exact h r h3 h4⟩
def b_num : Ss :=
  .cons (.ifs (.prim (.cmp .Eq) (.cons (.var 0) (.cons (.lst .nil) .nil))) (.cons (.ret (.prim (.ty "int") (.cons (.prim (.bop .Mod) (.cons (.prim (.bop .Add) (.cons (.prim (.bop .Mult) (.cons (.var 1) (.cons (.int 48271) .nil))) (.cons (.int 12345) .nil))) (.cons (.int 2147483647) .nil))) .nil))) .nil) .nil) <|
  .cons (.set 2 (.prim .ix (.cons (.var 0) (.cons (.prim (.bop .Mod) (.cons (.var 1) (.cons (.prim (.call "len") (.cons (.var 0) .nil)) .nil))) .nil)))) <|
  .cons (.ifs (.prim (.cmp .GtE) (.cons (.prim (.call "abs") (.cons (.var 2) .nil)) (.cons (.prim (.bop .Pow) (.cons (.int 10) (.cons (.int 60) .nil))) .nil))) (.cons (.set 2 (.prim (.bop .Mod) (.cons (.var 2) (.cons (.prim (.bop .Pow) (.cons (.int 10) (.cons (.int 18) .nil))) .nil)))) .nil) .nil) <|
  .cons (.set 3 (.prim (.bop .Mod) (.cons (.prim (.bop .Add) (.cons (.prim (.bop .Mult) (.cons (.prim (.bop .Add) (.cons (.var 2) (.cons (.prim (.bop .Mult) (.cons (.int 977) (.cons (.var 1) .nil))) .nil))) (.cons (.int 48271) .nil))) (.cons (.prim (.bop .Mult) (.cons (.int 31) (.cons (.prim (.call "len") (.cons (.var 0) .nil)) .nil))) .nil))) (.cons (.int 2147483647) .nil)))) <|
  .cons (.ret (.prim (.ty "int") (.cons (.prim (.bop .Mod) (.cons (.prim (.bop .Add) (.cons (.prim (.bop .Mult) (.cons (.prim (.bop .Mod) (.cons (.prim (.bop .Mult) (.cons (.var 3) (.cons (.int 69621) .nil))) (.cons (.int 2147483629) .nil))) (.cons (.int 16807) .nil))) (.cons (.var 1) .nil))) (.cons (.int 2147483587) .nil))) .nil))) <|
  .nil
theorem w_num (Γ : Gam) (os : List O) (Q : O → List O → Prop) (E : Ex → List O → Prop) (h : numSp os Q E) : wpSs Γ [0, 1] b_num (env0 [0, 1] 4 os) (postD [0, 1] os Q) := by
  obtain ⟨⟨ns, i, rfl⟩, h⟩ := h
  have ok : ∀ r, 0 ≤ r → r < 2147483647 → Q (.d (.int r)) [.d (.scr ns), .d (.int i)] := fun r h1 h2 => h _ _ ⟨rfl, r, rfl, h1, h2⟩
  simp [b_num, MulOk]
  by_cases h0 : ns = []
  · rw [if_pos h0]; apply ok <;> omega
  · rw [if_neg h0]
    have hp : 0 < ns.length := List.length_pos_iff.mpr h0
    refine ⟨hp, ?_⟩
    obtain ⟨n, hn⟩ := atI_mod (i := i) hp
    refine ⟨n, hn, ?_⟩
    split <;> split <;> apply ok <;> omega
def takeP : List O → Prop := fun os => ∃ ns i m, os = [.lst [.scr ns, .int i], .d (.int m)] ∧ 0 < m
def takeR : List O → O → List O → Prop := fun os o os' => ∃ ns i m r, os = [.lst [.scr ns, .int i], .d (.int m)] ∧ os' = [.lst [.scr ns, .int (i + 1)], .d (.int m)] ∧ o = .d (.int r) ∧ 0 ≤ r ∧ r < m
def takeSp : DSp := ndSp takeP takeR
@[simp ↓] theorem call_take {ns : List Int} {i m : Int} {Q : O → List O → Prop} {E : Ex → List O → Prop} : callW takeSp [.lst [.scr ns, .int i], .d (.int m)] Q E = (0 < m ∧ ∀ r, 0 ≤ r → r < m → Q (.d (.int r)) [.lst [.scr ns, .int (i + 1)], .d (.int m)]) := by
  unfold takeSp
  rw [callW_ndSp fun o os' ⟨_, _, _, _, h1, h2, _⟩ => by rw [h1, h2]; rfl]
  apply propext
  constructor
  · rintro ⟨⟨ns', i', m', e, hm⟩, h⟩
    cases e
    exact ⟨hm, fun r h1 h2 => h _ _ ⟨ns, i, m, r, rfl, rfl, rfl, h1, h2⟩⟩
  · rintro ⟨hm, h⟩
    refine ⟨⟨ns, i, m, rfl, hm⟩, ?_⟩
    rintro o os' ⟨ns', i', m', r, e, e2, e3, h3, h4⟩
    cases e; subst e2 e3
    exact h r h3 h4
def b_take (f : Nat) : Ss :=
  .cons (.augIx 0 (.int 1) .Add (.int 1)) <|
  .cons (.ret (.prim (.bop .Mod) (.cons (.prim (.ty "int") (.cons (.call f (.cons (.prim .ix (.cons (.var 0) (.cons (.int 0) .nil))) (.cons (.prim (.ty "int") (.cons (.prim .ix (.cons (.var 0) (.cons (.int 1) .nil))) .nil)) .nil))) .nil)) (.cons (.var 1) .nil)))) <|
  .nil
theorem w_take (Γ : Gam) {f : Nat} (hf : Γ.fn f = numSp) (os : List O) (Q : O → List O → Prop) (E : Ex → List O → Prop) (h : takeSp os Q E) : wpSs Γ [0, 1] (b_take f) (env0 [0, 1] 2 os) (postD [0, 1] os Q) := by
  obtain ⟨⟨ns, i, m, rfl, hm⟩, h⟩ := h
  have ok : ∀ r, 0 ≤ r → r < m → Q (.d (.int r)) [.lst [.scr ns, .int (i + 1)], .d (.int m)] := fun r h1 h2 => h _ _ ⟨ns, i, m, r, rfl, rfl, rfl, h1, h2⟩
  simp [b_take, hf, ixN]
  exact fun r h1 h2 => ⟨hm, ok _ (Int.emod_nonneg _ (by omega)) (Int.emod_lt_of_pos _ hm)⟩
/-- the law's def at its call -/
theorem law_sp {C : CT} {K : PySem.W.Frag} {H : Hp} {a : Addr} {ns : List Int} {n : Nat} {Φ : DSp} {E : XK} (hO : L2.Only H) (hS : SqL K H a (ns.map V.int)) (hp : n = 1 ∧ ∀ ns, callW Φ [.d (.scr ns)] (fun o _ => o = .d (.bl true)) (fun _ _ => False)) : spOf C K n Φ [.ref a] H (fun v _ => v = .bl true) E := by
  obtain ⟨e, hp⟩ := hp
  subst e
  refine ⟨rfl, [], [.d (.scr ns)], rfl, ⟨H, [], Same.refl H, ⟨[], [], rfl, ⟨rfl, a, rfl, hS⟩, rfl⟩, List.nodup_nil, fun _ h => nomatch h⟩, callW.mono (hp ns) (fun o os' _ h v H' R => ?_) fun _ _ h => h⟩
  subst h
  exact R.rep
end VE
namespace A
open PySem VE
/-! 0 _law_number -/
def n_law_number : List Str := ["_law_script", "_law_index", "_law_cell", "_law_blend"]
def p_law_number : List Str := ["_law_script", "_law_index"]
def f_law_number : List Nat := [0, 1]
def b_law_number : Ss := 
  .cons (.ifs (.prim (.cmp .Eq) (.cons (.var 0) (.cons (.lst .nil) .nil))) (.cons (.ret (.prim (.ty "int") (.cons (.prim (.bop .Mod) (.cons (.prim (.bop .Add) (.cons (.prim (.bop .Mult) (.cons (.var 1) (.cons (.int 48271) .nil))) (.cons (.int 12345) .nil))) (.cons (.int 2147483647) .nil))) .nil))) .nil) .nil) <|
  .cons (.set 2 (.prim .ix (.cons (.var 0) (.cons (.prim (.bop .Mod) (.cons (.var 1) (.cons (.prim (.call "len") (.cons (.var 0) .nil)) .nil))) .nil)))) <|
  .cons (.ifs (.prim (.cmp .GtE) (.cons (.prim (.call "abs") (.cons (.var 2) .nil)) (.cons (.prim (.bop .Pow) (.cons (.int 10) (.cons (.int 60) .nil))) .nil))) (.cons (.set 2 (.prim (.bop .Mod) (.cons (.var 2) (.cons (.prim (.bop .Pow) (.cons (.int 10) (.cons (.int 18) .nil))) .nil)))) .nil) .nil) <|
  .cons (.set 3 (.prim (.bop .Mod) (.cons (.prim (.bop .Add) (.cons (.prim (.bop .Mult) (.cons (.prim (.bop .Add) (.cons (.var 2) (.cons (.prim (.bop .Mult) (.cons (.int 977) (.cons (.var 1) .nil))) .nil))) (.cons (.int 48271) .nil))) (.cons (.prim (.bop .Mult) (.cons (.int 31) (.cons (.prim (.call "len") (.cons (.var 0) .nil)) .nil))) .nil))) (.cons (.int 2147483647) .nil)))) <|
  .cons (.ret (.prim (.ty "int") (.cons (.prim (.bop .Mod) (.cons (.prim (.bop .Add) (.cons (.prim (.bop .Mult) (.cons (.prim (.bop .Mod) (.cons (.prim (.bop .Mult) (.cons (.var 3) (.cons (.int 69621) .nil))) (.cons (.int 2147483629) .nil))) (.cons (.int 16807) .nil))) (.cons (.var 1) .nil))) (.cons (.int 2147483587) .nil))) .nil))) <|
  .nil
/-! 1 _law_take -/
def n_law_take : List Str := ["_law_draw", "_law_many"]
def p_law_take : List Str := ["_law_draw", "_law_many"]
def f_law_take : List Nat := [0, 1]
def b_law_take : Ss := 
  .cons (.augIx 0 (.int 1) .Add (.int 1)) <|
  .cons (.ret (.prim (.bop .Mod) (.cons (.prim (.ty "int") (.cons (.call 0 (.cons (.prim .ix (.cons (.var 0) (.cons (.int 0) .nil))) (.cons (.prim (.ty "int") (.cons (.prim .ix (.cons (.var 0) (.cons (.int 1) .nil))) .nil)) .nil))) .nil)) (.cons (.var 1) .nil)))) <|
  .nil
/-! 2 _law_pick -/
def n_law_pick : List Str := ["_law_draw", "_law_items"]
def p_law_pick : List Str := ["_law_draw", "_law_items"]
def f_law_pick : List Nat := [0, 1]
def b_law_pick : Ss := 
  .cons (.ret (.prim .ix (.cons (.var 1) (.cons (.call 1 (.cons (.var 0) (.cons (.prim (.call "len") (.cons (.var 1) .nil)) .nil))) .nil)))) <|
  .nil
/-! 3 is_whole -/
def n_is_whole : List Str := ["thing", "low", "high"]
def p_is_whole : List Str := ["thing", "low", "high"]
def f_is_whole : List Nat := [0, 1, 2]
def b_is_whole : Ss := 
  .cons (.ret (.and (.cons (.isi (.var 0) (.b "int")) (.cons (.not (.isi (.var 0) (.b "bool"))) (.cons (.chain .LtE .LtE (.var 1) (.var 0) (.var 2)) .nil))))) <|
  .nil
/-! 4 power -/
def n_power : List Str := ["times", "found", "turn"]
def p_power : List Str := ["times"]
def f_power : List Nat := [0]
def l_power_0 : Ss :=
  .cons (.set 1 (.prim (.bop .Mult) (.cons (.var 1) (.cons (.int 2) .nil)))) <|
  .nil
def b_power : Ss := 
  .cons (.set 1 (.int 1)) <|
  .cons (.for_ (.v 2) .rng (.cons (.var 0) .nil) l_power_0) <|
  .cons (.ret (.var 1)) <|
  .nil
/-! 5 Space.__init__ -/
def n_Space_init : List Str := ["self", "dimensions", "bits"]
def p_Space_init : List Str := ["self", "dimensions", "bits"]
def f_Space_init : List Nat := [0, 1, 2]
def b_Space_init : Ss := 
  .cons (.ifs (.not (.call 3 (.cons (.var 1) (.cons (.int 1) (.cons (.glob "MOST_DIMENSIONS" 3) .nil))))) (.cons .never .nil) .nil) <|
  .cons (.ifs (.not (.call 3 (.cons (.var 2) (.cons (.int 1) (.cons (.glob "MOST_BITS" 10) .nil))))) (.cons .never .nil) .nil) <|
  .cons (.setF 0 0 0 (.var 1)) <|
  .cons (.setF 0 0 1 (.var 2)) <|
  .cons (.setF 0 0 2 (.prim (.bop .Mult) (.cons (.var 1) (.cons (.var 2) .nil)))) <|
  .cons (.setF 0 0 3 (.call 4 (.cons (.var 2) .nil))) <|
  .nil
/-! 6 _law_space -/
def n_law_space : List Str := ["_law_draw", "_law_most", "_law_found", "_law_dimensions", "_law_bits"]
def p_law_space : List Str := ["_law_draw", "_law_most"]
def f_law_space : List Nat := [0, 1]
def b_law_space : Ss := 
  .cons (.set 2 (.prim (.bop .Add) (.cons (.comp [4] (.v 4) .rng (.cons (.int 1) (.cons (.prim (.bop .Add) (.cons (.prim (.call "min") (.cons (.int 8) (.cons (.var 1) .nil))) (.cons (.int 1) .nil))) .nil)) .nil (.tup (.cons (.int 1) (.cons (.var 4) .nil)))) (.cons (.comp [4] (.v 4) .rng (.cons (.int 1) (.cons (.prim (.bop .Add) (.cons (.prim (.bop .FloorDiv) (.cons (.var 1) (.cons (.int 2) .nil))) (.cons (.int 1) .nil))) .nil)) .nil (.tup (.cons (.int 2) (.cons (.var 4) .nil)))) .nil)))) <|
  .cons (.aug 2 .Add (.comp [4] (.v 4) .rng (.cons (.int 1) (.cons (.prim (.bop .Add) (.cons (.prim (.bop .FloorDiv) (.cons (.var 1) (.cons (.int 3) .nil))) (.cons (.int 1) .nil))) .nil)) .nil (.tup (.cons (.int 3) (.cons (.var 4) .nil))))) <|
  .cons (.asg (.t (.cons (.v 3) (.cons (.v 4) .nil))) (.call 2 (.cons (.var 0) (.cons (.var 2) .nil)))) <|
  .cons (.ret (.new 0 5 true (.cons (.var 3) (.cons (.var 4) .nil)))) <|
  .nil
/-! 7 Space.is_point -/
def n_Space_is_point : List Str := ["self", "thing", "number"]
def p_Space_is_point : List Str := ["self", "thing"]
def f_Space_is_point : List Nat := [0, 1]
def b_Space_is_point : Ss := 
  .cons (.ifs (.or (.cons (.not (.isi (.var 1) (.b "tuple"))) (.cons (.prim (.cmp .NotEq) (.cons (.prim (.call "len") (.cons (.var 1) .nil)) (.cons (.fld 0 0 (.var 0)) .nil))) .nil))) (.cons (.ret (.bl false)) .nil) .nil) <|
  .cons (.ret (.prim (.call "all") (.cons (.comp [2] (.v 2) .seq (.cons (.var 1) .nil) .nil (.call 3 (.cons (.var 2) (.cons (.int 0) (.cons (.prim (.bop .Sub) (.cons (.fld 0 3 (.var 0)) (.cons (.int 1) .nil))) .nil))))) .nil))) <|
  .nil
/-! 8 Space.check_point -/
def n_Space_check_point : List Str := ["self", "thing"]
def p_Space_check_point : List Str := ["self", "thing"]
def f_Space_check_point : List Nat := [0, 1]
def b_Space_check_point : Ss := 
  .cons (.ifs (.not (.meth [(0, 7)] "is_point" (.var 0) (.cons (.var 1) .nil))) (.cons .never .nil) .nil) <|
  .nil
/-! 9 Space.woven -/
def n_Space_woven : List Str := ["self", "point", "turn", "found", "half", "number"]
def p_Space_woven : List Str := ["self", "point"]
def f_Space_woven : List Nat := [0, 1]
def l_Space_woven_0 : Ss :=
  .cons (.set 3 (.prim (.bop .Add) (.cons (.prim (.bop .Mult) (.cons (.var 3) (.cons (.int 2) .nil))) (.cons (.prim (.bop .Mod) (.cons (.prim (.ty "int") (.cons (.prim (.bop .FloorDiv) (.cons (.var 5) (.cons (.var 4) .nil))) .nil)) (.cons (.int 2) .nil))) .nil)))) <|
  .nil
def l_Space_woven_1 : Ss :=
  .cons (.for_ (.v 5) .seq (.cons (.var 1) .nil) l_Space_woven_0) <|
  .cons (.set 4 (.prim (.bop .FloorDiv) (.cons (.var 4) (.cons (.int 2) .nil)))) <|
  .nil
def b_Space_woven : Ss := 
  .cons (.expr (.meth [(0, 8)] "check_point" (.var 0) (.cons (.var 1) .nil))) <|
  .cons (.par [3, 4] (.cons (.int 0) (.cons (.prim (.bop .FloorDiv) (.cons (.fld 0 3 (.var 0)) (.cons (.int 2) .nil))) .nil))) <|
  .cons (.for_ (.v 2) .rng (.cons (.fld 0 1 (.var 0)) .nil) l_Space_woven_1) <|
  .cons (.ret (.var 3)) <|
  .nil
/-! 10 Cloud.__init__ -/
def n_Cloud_init : List Str := ["self", "space", "points", "known", "point", "number"]
def p_Cloud_init : List Str := ["self", "space", "points"]
def f_Cloud_init : List Nat := [0, 1, 2]
def l_Cloud_init_0 : Ss :=
  .cons (.set 5 (.meth [(0, 9)] "woven" (.var 1) (.cons (.var 4) .nil))) <|
  .cons (.ifs (.prim (.cmp .In) (.cons (.var 5) (.cons (.var 3) .nil))) (.cons .never .nil) .nil) <|
  .cons (.setIx 3 (.var 5) (.bl true)) <|
  .nil
def b_Cloud_init : Ss := 
  .cons (.set 3 (.dic0 false)) <|
  .cons (.for_ (.v 4) .seq (.cons (.var 2) .nil) l_Cloud_init_0) <|
  .cons (.setF 1 0 0 (.var 1)) <|
  .cons (.setF 1 0 1 (.prim (.ty "tuple") (.cons (.prim (.call "sorted") (.cons (.var 3) .nil)) .nil))) <|
  .nil
/-! 11 _law_point -/
def n_law_point : List Str := ["_law_draw", "_law_space_here", "_law_axis"]
def p_law_point : List Str := ["_law_draw", "_law_space_here"]
def f_law_point : List Nat := [0, 1]
def b_law_point : Ss := 
  .cons (.ret (.prim (.ty "tuple") (.cons (.comp [2] (.v 2) .rng (.cons (.fld 0 0 (.var 1)) .nil) .nil (.call 1 (.cons (.var 0) (.cons (.fld 0 3 (.var 1)) .nil)))) .nil))) <|
  .nil
/-! 12 _law_points -/
def n_law_points : List Str := ["_law_draw", "_law_space_here", "_law_most", "_law_found", "_law_turn", "_law_point_here"]
def p_law_points : List Str := ["_law_draw", "_law_space_here", "_law_most"]
def f_law_points : List Nat := [0, 1, 2]
def l_law_points_0 : Ss :=
  .cons (.set 5 (.call 11 (.cons (.var 0) (.cons (.var 1) .nil)))) <|
  .cons (.ifs (.prim (.cmp .NotIn) (.cons (.var 5) (.cons (.var 3) .nil))) (.cons (.expr (.mut .append 3 (.cons (.var 5) .nil))) .nil) .nil) <|
  .nil
def b_law_points : Ss := 
  .cons (.set 3 (.lst .nil)) <|
  .cons (.for_ (.v 4) .rng (.cons (.call 1 (.cons (.var 0) (.cons (.prim (.bop .Add) (.cons (.var 2) (.cons (.int 1) .nil))) .nil))) .nil) l_law_points_0) <|
  .cons (.ret (.var 3)) <|
  .nil
/-! 13 _law_cloud -/
def n_law_cloud : List Str := ["_law_draw", "_law_space_here", "_law_most"]
def p_law_cloud : List Str := ["_law_draw", "_law_space_here", "_law_most"]
def f_law_cloud : List Nat := [0, 1, 2]
def b_law_cloud : Ss := 
  .cons (.ret (.new 1 10 true (.cons (.var 1) (.cons (.call 12 (.cons (.var 0) (.cons (.var 1) (.cons (.var 2) .nil)))) .nil)))) <|
  .nil
/-! 14 Box.__init__ -/
def n_Box_init : List Str := ["self", "space", "lows", "highs", "point", "low", "high"]
def p_Box_init : List Str := ["self", "space", "lows", "highs"]
def f_Box_init : List Nat := [0, 1, 2, 3]
def l_Box_init_0 : Ss :=
  .cons (.expr (.meth [(0, 8)] "check_point" (.var 1) (.cons (.var 4) .nil))) <|
  .nil
def b_Box_init : Ss := 
  .cons (.for_ (.v 4) .seq (.cons (.tup (.cons (.var 2) (.cons (.var 3) .nil))) .nil) l_Box_init_0) <|
  .cons (.ifs (.not (.prim (.call "all") (.cons (.comp [5, 6] (.t (.cons (.v 5) (.cons (.v 6) .nil))) .zip (.cons (.var 2) (.cons (.var 3) .nil)) .nil (.prim (.cmp .LtE) (.cons (.var 5) (.cons (.var 6) .nil)))) .nil))) (.cons .never .nil) .nil) <|
  .cons (.setF 2 0 0 (.var 1)) <|
  .cons (.setF 2 0 1 (.var 2)) <|
  .cons (.setF 2 0 2 (.var 3)) <|
  .nil
/-! 15 _law_box -/
def n_law_box : List Str := ["_law_draw", "_law_space_here", "_law_one", "_law_other", "_law_pair"]
def p_law_box : List Str := ["_law_draw", "_law_space_here"]
def f_law_box : List Nat := [0, 1]
def b_law_box : Ss := 
  .cons (.par [2, 3] (.cons (.call 11 (.cons (.var 0) (.cons (.var 1) .nil))) (.cons (.call 11 (.cons (.var 0) (.cons (.var 1) .nil))) .nil))) <|
  .cons (.ret (.new 2 14 true (.cons (.var 1) (.cons (.prim (.ty "tuple") (.cons (.comp [4] (.v 4) .zipN (.cons (.var 2) (.cons (.var 3) .nil)) .nil (.prim (.call "min") (.cons (.var 4) .nil))) .nil)) (.cons (.prim (.ty "tuple") (.cons (.comp [4] (.v 4) .zipN (.cons (.var 2) (.cons (.var 3) .nil)) .nil (.prim (.call "max") (.cons (.var 4) .nil))) .nil)) .nil))))) <|
  .nil
/-! 16 Space.size -/
def n_Space_size : List Str := ["self", "prefix"]
def p_Space_size : List Str := ["self", "prefix"]
def f_Space_size : List Nat := [0, 1]
def b_Space_size : Ss := 
  .cons (.ret (.call 4 (.cons (.prim (.bop .Sub) (.cons (.fld 0 2 (.var 0)) (.cons (.prim .ix (.cons (.var 1) (.cons (.int 0) .nil))) .nil))) .nil))) <|
  .nil
/-! 17 Space.point_of -/
def n_Space_point_of : List Str := ["self", "number", "turn", "found", "room", "axis"]
def p_Space_point_of : List Str := ["self", "number"]
def f_Space_point_of : List Nat := [0, 1]
def l_Space_point_of_0 : Ss :=
  .cons (.set 5 (.prim (.bop .Mod) (.cons (.prim (.ty "int") (.cons (.var 2) .nil)) (.cons (.fld 0 0 (.var 0)) .nil)))) <|
  .cons (.setIx 3 (.var 5) (.prim (.bop .Add) (.cons (.prim (.bop .Mult) (.cons (.prim .ix (.cons (.var 3) (.cons (.var 5) .nil))) (.cons (.int 2) .nil))) (.cons (.prim (.bop .Mod) (.cons (.prim (.ty "int") (.cons (.prim (.bop .FloorDiv) (.cons (.var 1) (.cons (.var 4) .nil))) .nil)) (.cons (.int 2) .nil))) .nil)))) <|
  .cons (.set 4 (.prim (.call "max") (.cons (.int 1) (.cons (.prim (.bop .FloorDiv) (.cons (.var 4) (.cons (.int 2) .nil))) .nil)))) <|
  .nil
def b_Space_point_of : Ss := 
  .cons (.par [3, 4] (.cons (.prim (.bop .Mult) (.cons (.lst (.cons (.int 0) .nil)) (.cons (.fld 0 0 (.var 0)) .nil))) (.cons (.prim (.bop .FloorDiv) (.cons (.call 4 (.cons (.fld 0 2 (.var 0)) .nil)) (.cons (.int 2) .nil))) .nil))) <|
  .cons (.for_ (.v 2) .rng (.cons (.fld 0 2 (.var 0)) .nil) l_Space_point_of_0) <|
  .cons (.ret (.prim (.ty "tuple") (.cons (.var 3) .nil))) <|
  .nil
/-! 18 Space.cell -/
def n_Space_cell : List Str := ["self", "prefix", "first"]
def p_Space_cell : List Str := ["self", "prefix"]
def f_Space_cell : List Nat := [0, 1]
def b_Space_cell : Ss := 
  .cons (.set 2 (.prim (.bop .Mult) (.cons (.prim .ix (.cons (.var 1) (.cons (.int 1) .nil))) (.cons (.meth [(0, 16)] "size" (.var 0) (.cons (.var 1) .nil)) .nil)))) <|
  .cons (.ret (.tup (.cons (.meth [(0, 17)] "point_of" (.var 0) (.cons (.var 2) .nil)) (.cons (.meth [(0, 17)] "point_of" (.var 0) (.cons (.prim (.bop .Sub) (.cons (.prim (.bop .Add) (.cons (.var 2) (.cons (.meth [(0, 16)] "size" (.var 0) (.cons (.var 1) .nil)) .nil))) (.cons (.int 1) .nil))) .nil)) .nil)))) <|
  .nil
/-! 19 Box.room -/
def n_Box_room : List Str := ["self", "prefix", "found", "lows", "highs", "low", "high", "first", "last"]
def p_Box_room : List Str := ["self", "prefix"]
def f_Box_room : List Nat := [0, 1]
def l_Box_room_0 : Ss :=
  .cons (.set 2 (.prim (.bop .Mult) (.cons (.var 2) (.cons (.prim (.call "max") (.cons (.int 0) (.cons (.prim (.bop .Add) (.cons (.prim (.bop .Sub) (.cons (.prim (.call "min") (.cons (.var 6) (.cons (.var 8) .nil))) (.cons (.prim (.call "max") (.cons (.var 5) (.cons (.var 7) .nil))) .nil))) (.cons (.int 1) .nil))) .nil))) .nil)))) <|
  .nil
def b_Box_room : Ss := 
  .cons (.asg (.t (.cons (.v 3) (.cons (.v 4) .nil))) (.meth [(0, 18)] "cell" (.fld 2 0 (.var 0)) (.cons (.var 1) .nil))) <|
  .cons (.set 2 (.int 1)) <|
  .cons (.for_ (.t (.cons (.v 5) (.cons (.v 6) (.cons (.v 7) (.cons (.v 8) .nil))))) .zip (.cons (.fld 2 1 (.var 0)) (.cons (.fld 2 2 (.var 0)) (.cons (.var 3) (.cons (.var 4) .nil)))) l_Box_room_0) <|
  .cons (.ret (.var 2)) <|
  .nil
/-! 20 prefixes_of -/
def n_prefixes_of : List Str := ["box", "found", "waiting", "prefix", "inside"]
def p_prefixes_of : List Str := ["box"]
def f_prefixes_of : List Nat := [0]
def l_prefixes_of_0 : Ss :=
  .cons (.set 3 (.mut .pop 2 .nil)) <|
  .cons (.set 4 (.meth [(2, 19)] "room" (.var 0) (.cons (.var 3) .nil))) <|
  .cons (.ifs (.prim (.cmp .Eq) (.cons (.var 4) (.cons (.meth [(0, 16)] "size" (.fld 2 0 (.var 0)) (.cons (.var 3) .nil)) .nil))) (.cons (.expr (.mut .append 1 (.cons (.var 3) .nil))) .nil) (.cons (.ifs (.prim (.cmp .Gt) (.cons (.var 4) (.cons (.int 0) .nil))) (.cons (.expr (.mut .append 2 (.cons (.tup (.cons (.prim (.bop .Add) (.cons (.prim .ix (.cons (.var 3) (.cons (.int 0) .nil))) (.cons (.int 1) .nil))) (.cons (.prim (.bop .Add) (.cons (.prim (.bop .Mult) (.cons (.prim .ix (.cons (.var 3) (.cons (.int 1) .nil))) (.cons (.int 2) .nil))) (.cons (.int 1) .nil))) .nil))) .nil))) (.cons (.expr (.mut .append 2 (.cons (.tup (.cons (.prim (.bop .Add) (.cons (.prim .ix (.cons (.var 3) (.cons (.int 0) .nil))) (.cons (.int 1) .nil))) (.cons (.prim (.bop .Mult) (.cons (.prim .ix (.cons (.var 3) (.cons (.int 1) .nil))) (.cons (.int 2) .nil))) .nil))) .nil))) .nil)) .nil) .nil)) <|
  .nil
def b_prefixes_of : Ss := 
  .cons (.par [1, 2] (.cons (.lst .nil) (.cons (.lst (.cons (.tup (.cons (.int 0) (.cons (.int 0) .nil))) .nil)) .nil))) <|
  .cons (.whl (.prim (.cmp .NotEq) (.cons (.var 2) (.cons (.lst .nil) .nil))) l_prefixes_of_0) <|
  .cons (.ret (.var 1)) <|
  .nil
/-! 21 place_in -/
def n_place_in : List Str := ["row", "number", "low", "high", "middle"]
def p_place_in : List Str := ["row", "number"]
def f_place_in : List Nat := [0, 1]
def l_place_in_0 : Ss :=
  .cons (.set 4 (.prim (.bop .FloorDiv) (.cons (.prim (.bop .Add) (.cons (.var 2) (.cons (.var 3) .nil))) (.cons (.int 2) .nil)))) <|
  .cons (.ifs (.prim (.cmp .Lt) (.cons (.prim .ix (.cons (.var 0) (.cons (.var 4) .nil))) (.cons (.var 1) .nil))) (.cons (.set 2 (.prim (.bop .Add) (.cons (.var 4) (.cons (.int 1) .nil)))) .nil) (.cons (.set 3 (.var 4)) .nil)) <|
  .nil
def b_place_in : Ss := 
  .cons (.par [2, 3] (.cons (.int 0) (.cons (.prim (.call "len") (.cons (.var 0) .nil)) .nil))) <|
  .cons (.whl (.prim (.cmp .Lt) (.cons (.var 2) (.cons (.var 3) .nil))) l_place_in_0) <|
  .cons (.ret (.var 2)) <|
  .nil
/-! 22 Cloud.count -/
def n_Cloud_count : List Str := ["self", "prefix", "size"]
def p_Cloud_count : List Str := ["self", "prefix"]
def f_Cloud_count : List Nat := [0, 1]
def b_Cloud_count : Ss := 
  .cons (.set 2 (.meth [(0, 16)] "size" (.fld 1 0 (.var 0)) (.cons (.var 1) .nil))) <|
  .cons (.ret (.prim (.bop .Sub) (.cons (.call 21 (.cons (.fld 1 1 (.var 0)) (.cons (.prim (.bop .Add) (.cons (.prim (.bop .Mult) (.cons (.prim .ix (.cons (.var 1) (.cons (.int 1) .nil))) (.cons (.var 2) .nil))) (.cons (.var 2) .nil))) .nil))) (.cons (.call 21 (.cons (.fld 1 1 (.var 0)) (.cons (.prim (.bop .Mult) (.cons (.prim .ix (.cons (.var 1) (.cons (.int 1) .nil))) (.cons (.var 2) .nil))) .nil))) .nil)))) <|
  .nil
/-! 23 Cloud.points -/
def n_Cloud_points : List Str := ["self", "number"]
def p_Cloud_points : List Str := ["self"]
def f_Cloud_points : List Nat := [0]
def b_Cloud_points : Ss := 
  .cons (.ret (.prim (.ty "tuple") (.cons (.comp [1] (.v 1) .seq (.cons (.fld 1 1 (.var 0)) .nil) .nil (.meth [(0, 17)] "point_of" (.fld 1 0 (.var 0)) (.cons (.var 1) .nil))) .nil))) <|
  .nil
/-! 24 Box.holds -/
def n_Box_holds : List Str := ["self", "point", "low", "number", "high"]
def p_Box_holds : List Str := ["self", "point"]
def f_Box_holds : List Nat := [0, 1]
def b_Box_holds : Ss := 
  .cons (.ret (.prim (.call "all") (.cons (.comp [2, 3, 4] (.t (.cons (.v 2) (.cons (.v 3) (.cons (.v 4) .nil)))) .zip (.cons (.fld 2 1 (.var 0)) (.cons (.var 1) (.cons (.fld 2 2 (.var 0)) .nil))) .nil (.chain .LtE .LtE (.var 2) (.var 3) (.var 4))) .nil))) <|
  .nil
/-! 25 _law_power -/
def n_law_power : List Str := ["_law_times", "_law_found", "_law_turn"]
def p_law_power : List Str := ["_law_times"]
def f_law_power : List Nat := [0]
def l_law_power_0 : Ss :=
  .cons (.set 1 (.prim (.bop .Mult) (.cons (.var 1) (.cons (.int 2) .nil)))) <|
  .nil
def b_law_power : Ss := 
  .cons (.set 1 (.int 1)) <|
  .cons (.for_ (.v 2) .rng (.cons (.var 0) .nil) l_law_power_0) <|
  .cons (.ret (.var 1)) <|
  .nil
/-! 26 is_inside -/
def n_is_inside : List Str := ["prefix", "other"]
def p_is_inside : List Str := ["prefix", "other"]
def f_is_inside : List Nat := [0, 1]
def b_is_inside : Ss := 
  .cons (.ret (.and (.cons (.prim (.cmp .GtE) (.cons (.prim .ix (.cons (.var 0) (.cons (.int 0) .nil))) (.cons (.prim .ix (.cons (.var 1) (.cons (.int 0) .nil))) .nil))) (.cons (.prim (.cmp .Eq) (.cons (.prim (.bop .FloorDiv) (.cons (.prim .ix (.cons (.var 0) (.cons (.int 1) .nil))) (.cons (.call 4 (.cons (.prim (.bop .Sub) (.cons (.prim .ix (.cons (.var 0) (.cons (.int 0) .nil))) (.cons (.prim .ix (.cons (.var 1) (.cons (.int 0) .nil))) .nil))) .nil)) .nil))) (.cons (.prim .ix (.cons (.var 1) (.cons (.int 1) .nil))) .nil))) .nil)))) <|
  .nil
/-! 27 _law_meet -/
def n_law_meet : List Str := ["_law_space_here", "_law_one", "_law_other", "_law_lows", "_law_highs", "_law_pair", "_law_low", "_law_high"]
def p_law_meet : List Str := ["_law_space_here", "_law_one", "_law_other"]
def f_law_meet : List Nat := [0, 1, 2]
def b_law_meet : Ss := 
  .cons (.set 3 (.prim (.ty "tuple") (.cons (.comp [5] (.v 5) .zipN (.cons (.fld 2 1 (.var 1)) (.cons (.fld 2 1 (.var 2)) .nil)) .nil (.prim (.call "max") (.cons (.var 5) .nil))) .nil))) <|
  .cons (.set 4 (.prim (.ty "tuple") (.cons (.comp [5] (.v 5) .zipN (.cons (.fld 2 2 (.var 1)) (.cons (.fld 2 2 (.var 2)) .nil)) .nil (.prim (.call "min") (.cons (.var 5) .nil))) .nil))) <|
  .cons (.ifs (.prim (.call "any") (.cons (.comp [6, 7] (.t (.cons (.v 6) (.cons (.v 7) .nil))) .zip (.cons (.var 3) (.cons (.var 4) .nil)) .nil (.prim (.cmp .Gt) (.cons (.var 6) (.cons (.var 7) .nil)))) .nil)) (.cons (.ret .non) .nil) .nil) <|
  .cons (.ret (.new 2 14 true (.cons (.var 0) (.cons (.var 3) (.cons (.var 4) .nil))))) <|
  .nil
/-! 28 _law_shared -/
def n_law_shared : List Str := ["_law_one", "_law_more", "_law_found", "_law_first", "_law_second"]
def p_law_shared : List Str := ["_law_one", "_law_more"]
def f_law_shared : List Nat := [0, 1]
def l_law_shared_0 : Ss :=
  .cons (.ifs (.call 26 (.cons (.var 3) (.cons (.var 4) .nil))) (.cons (.expr (.mut .append 2 (.cons (.var 3) .nil))) .nil) (.cons (.ifs (.call 26 (.cons (.var 4) (.cons (.var 3) .nil))) (.cons (.expr (.mut .append 2 (.cons (.var 4) .nil))) .nil) .nil) .nil)) <|
  .nil
def l_law_shared_1 : Ss :=
  .cons (.for_ (.v 4) .seq (.cons (.var 1) .nil) l_law_shared_0) <|
  .nil
def b_law_shared : Ss := 
  .cons (.set 2 (.lst .nil)) <|
  .cons (.for_ (.v 3) .seq (.cons (.var 0) .nil) l_law_shared_1) <|
  .cons (.ret (.var 2)) <|
  .nil
/-! 29 law -/
def n_law : List Str := ["_law_script", "_law_draw", "_law_turn", "_law_space_here", "_law_found", "_law_length", "_law_prefix", "_law_halves", "_law_shared_here", "_law_cloud_here", "_law_box_here", "_law_lows", "_law_highs", "_law_cell", "_law_other", "_law_both", "_law_two", "_law_one", "_law_more", "_law_point_here", "_law_half"]
def p_law : List Str := ["_law_script"]
def f_law : List Nat := [0]
def l_law_0 : Ss :=
  .cons (.set 3 (.call 6 (.cons (.var 1) (.cons (.int 12) .nil)))) <|
  .cons (.parN [9, 10] (.cons (.call 13 (.cons (.var 1) (.cons (.var 3) (.cons (.int 20) .nil)))) (.cons (.call 15 (.cons (.var 1) (.cons (.var 3) .nil))) .nil))) <|
  .cons (.set 4 (.call 20 (.cons (.var 10) .nil))) <|
  .cons (.ifs (.prim (.cmp .NotEq) (.cons (.prim (.call "sum") (.cons (.comp [6] (.v 6) .seq (.cons (.var 4) .nil) .nil (.meth [(1, 22)] "count" (.var 9) (.cons (.var 6) .nil))) .nil)) (.cons (.prim (.call "len") (.cons (.comp [19] (.v 19) .seq (.cons (.meth [(1, 23)] "points" (.var 9) .nil) .nil) (.cons (.meth [(2, 24)] "holds" (.var 10) (.cons (.var 19) .nil)) .nil) (.var 19)) .nil)) .nil))) (.cons (.ret (.bl false)) .nil) .nil) <|
  .cons (.ifs (.prim (.cmp .NotEq) (.cons (.prim (.call "sum") (.cons (.comp [6] (.v 6) .seq (.cons (.var 4) .nil) .nil (.meth [(0, 16)] "size" (.var 3) (.cons (.var 6) .nil))) .nil)) (.cons (.meth [(2, 19)] "room" (.var 10) (.cons (.tup (.cons (.int 0) (.cons (.int 0) .nil))) .nil)) .nil))) (.cons (.ret (.bl false)) .nil) .nil) <|
  .cons (.set 5 (.call 1 (.cons (.var 1) (.cons (.fld 0 2 (.var 3)) .nil)))) <|
  .cons (.set 6 (.tup (.cons (.var 5) (.cons (.call 1 (.cons (.var 1) (.cons (.call 25 (.cons (.var 5) .nil)) .nil))) .nil)))) <|
  .cons (.set 7 (.lst (.cons (.tup (.cons (.prim (.bop .Add) (.cons (.var 5) (.cons (.int 1) .nil))) (.cons (.prim (.bop .Mult) (.cons (.int 2) (.cons (.prim .ix (.cons (.var 6) (.cons (.int 1) .nil))) .nil))) .nil))) (.cons (.tup (.cons (.prim (.bop .Add) (.cons (.var 5) (.cons (.int 1) .nil))) (.cons (.prim (.bop .Add) (.cons (.prim (.bop .Mult) (.cons (.int 2) (.cons (.prim .ix (.cons (.var 6) (.cons (.int 1) .nil))) .nil))) (.cons (.int 1) .nil))) .nil))) .nil)))) <|
  .cons (.ifs (.or (.cons (.prim (.cmp .NotEq) (.cons (.meth [(2, 19)] "room" (.var 10) (.cons (.var 6) .nil)) (.cons (.prim (.call "sum") (.cons (.comp [20] (.v 20) .seq (.cons (.var 7) .nil) .nil (.meth [(2, 19)] "room" (.var 10) (.cons (.var 20) .nil))) .nil)) .nil))) (.cons (.not (.prim (.call "all") (.cons (.comp [20] (.v 20) .seq (.cons (.var 7) .nil) .nil (.call 26 (.cons (.var 20) (.cons (.var 6) .nil)))) .nil))) .nil))) (.cons (.ret (.bl false)) .nil) .nil) <|
  .cons (.ifs (.or (.cons (.prim (.cmp .NotEq) (.cons (.meth [(1, 22)] "count" (.var 9) (.cons (.var 6) .nil)) (.cons (.prim (.call "sum") (.cons (.comp [20] (.v 20) .seq (.cons (.var 7) .nil) .nil (.meth [(1, 22)] "count" (.var 9) (.cons (.var 20) .nil))) .nil)) .nil))) (.cons (.call 26 (.cons (.var 6) (.cons (.prim .ix (.cons (.var 7) (.cons (.int 0) .nil))) .nil))) .nil))) (.cons (.ret (.bl false)) .nil) .nil) <|
  .cons (.asg (.t (.cons (.v 11) (.cons (.v 12) .nil))) (.meth [(0, 18)] "cell" (.var 3) (.cons (.var 6) .nil))) <|
  .cons (.par [13, 14] (.cons (.new 2 14 true (.cons (.var 3) (.cons (.var 11) (.cons (.var 12) .nil)))) (.cons (.call 15 (.cons (.var 1) (.cons (.var 3) .nil))) .nil))) <|
  .cons (.par [15, 16] (.cons (.call 27 (.cons (.var 3) (.cons (.var 13) (.cons (.var 10) .nil)))) (.cons (.call 27 (.cons (.var 3) (.cons (.var 10) (.cons (.var 14) .nil)))) .nil))) <|
  .cons (.ifs (.prim (.cmp .NotEq) (.cons (.meth [(2, 19)] "room" (.var 10) (.cons (.var 6) .nil)) (.cons (.ite (.prim (.cmp .Is) (.cons (.var 15) (.cons .non .nil))) (.int 0) (.meth [(2, 19)] "room" (.var 15) (.cons (.tup (.cons (.int 0) (.cons (.int 0) .nil))) .nil))) .nil))) (.cons (.ret (.bl false)) .nil) .nil) <|
  .cons (.par [17, 18] (.cons (.call 20 (.cons (.var 10) .nil)) (.cons (.call 20 (.cons (.var 14) .nil)) .nil))) <|
  .cons (.set 8 (.call 28 (.cons (.var 17) (.cons (.var 18) .nil)))) <|
  .cons (.ifs (.prim (.cmp .NotEq) (.cons (.prim (.call "sum") (.cons (.comp [6] (.v 6) .seq (.cons (.var 8) .nil) .nil (.meth [(0, 16)] "size" (.var 3) (.cons (.var 6) .nil))) .nil)) (.cons (.ite (.prim (.cmp .Is) (.cons (.var 16) (.cons .non .nil))) (.int 0) (.meth [(2, 19)] "room" (.var 16) (.cons (.tup (.cons (.int 0) (.cons (.int 0) .nil))) .nil))) .nil))) (.cons (.ret (.bl false)) .nil) .nil) <|
  .nil
def b_law : Ss := 
  .cons (.set 1 (.lst (.cons (.var 0) (.cons (.int 0) .nil)))) <|
  .cons (.for_ (.v 2) .rng (.cons (.int 3) .nil) l_law_0) <|
  .cons (.ret (.bl true)) <|
  .nil
/-! 41 _law_space -/
def n_law_space_v2 : List Str := ["_law_draw", "_law_dimensions", "_law_bits"]
def p_law_space_v2 : List Str := ["_law_draw"]
def f_law_space_v2 : List Nat := [0]
def b_law_space_v2 : Ss := 
  .cons (.asg (.t (.cons (.v 1) (.cons (.v 2) .nil))) (.call 2 (.cons (.var 0) (.cons (.lst (.cons (.tup (.cons (.int 1) (.cons (.int 1) .nil))) (.cons (.tup (.cons (.int 1) (.cons (.int 3) .nil))) (.cons (.tup (.cons (.int 1) (.cons (.int 5) .nil))) (.cons (.tup (.cons (.int 2) (.cons (.int 1) .nil))) (.cons (.tup (.cons (.int 2) (.cons (.int 2) .nil))) (.cons (.tup (.cons (.int 2) (.cons (.int 3) .nil))) (.cons (.tup (.cons (.int 3) (.cons (.int 1) .nil))) (.cons (.tup (.cons (.int 3) (.cons (.int 2) .nil))) .nil))))))))) .nil)))) <|
  .cons (.ret (.new 0 5 true (.cons (.var 1) (.cons (.var 2) .nil)))) <|
  .nil
/-! 39 _law_square -/
def n_law_square : List Str := ["_law_one", "_law_other", "_law_first", "_law_second"]
def p_law_square : List Str := ["_law_one", "_law_other"]
def f_law_square : List Nat := [0, 1]
def b_law_square : Ss := 
  .cons (.ret (.prim (.call "sum") (.cons (.comp [2, 3] (.t (.cons (.v 2) (.cons (.v 3) .nil))) .zip (.cons (.var 0) (.cons (.var 1) .nil)) .nil (.prim (.bop .Mult) (.cons (.prim (.bop .Sub) (.cons (.var 2) (.cons (.var 3) .nil))) (.cons (.prim (.bop .Sub) (.cons (.var 2) (.cons (.var 3) .nil))) .nil)))) .nil))) <|
  .nil
/-! 42 Ball.__init__ -/
def n_Ball_init : List Str := ["self", "space", "centre", "square"]
def p_Ball_init : List Str := ["self", "space", "centre", "square"]
def f_Ball_init : List Nat := [0, 1, 2, 3]
def b_Ball_init : Ss := 
  .cons (.expr (.meth [(0, 8)] "check_point" (.var 1) (.cons (.var 2) .nil))) <|
  .cons (.setF 3 0 0 (.var 1)) <|
  .cons (.setF 3 0 1 (.var 2)) <|
  .cons (.setF 3 0 2 (.var 3)) <|
  .nil
/-! 43 Lone.__init__ -/
def n_Lone_init : List Str := ["self", "space", "point"]
def p_Lone_init : List Str := ["self", "space", "point"]
def f_Lone_init : List Nat := [0, 1, 2]
def b_Lone_init : Ss := 
  .cons (.setF 4 0 0 (.var 1)) <|
  .cons (.setF 4 0 1 (.var 2)) <|
  .cons (.setF 4 0 2 (.meth [(0, 9)] "woven" (.var 1) (.cons (.var 2) .nil))) <|
  .nil
/-! 44 _law_all -/
def n_law_all : List Str := ["_law_space_here", "_law_found", "_law_axis", "_law_longer", "_law_row", "_law_place"]
def p_law_all : List Str := ["_law_space_here"]
def f_law_all : List Nat := [0]
def l_law_all_0 : Ss :=
  .cons (.set 3 (.prim (.bop .Add) (.cons (.var 3) (.cons (.comp [5] (.v 5) .rng (.cons (.fld 0 3 (.var 0)) .nil) .nil (.prim (.bop .Add) (.cons (.var 4) (.cons (.tup (.cons (.var 5) .nil)) .nil)))) .nil)))) <|
  .nil
def l_law_all_1 : Ss :=
  .cons (.set 3 (.lst .nil)) <|
  .cons (.for_ (.v 4) .seq (.cons (.var 1) .nil) l_law_all_0) <|
  .cons (.set 1 (.var 3)) <|
  .nil
def b_law_all : Ss := 
  .cons (.set 1 (.lst (.cons (.tup .nil) .nil))) <|
  .cons (.for_ (.v 2) .rng (.cons (.fld 0 0 (.var 0)) .nil) l_law_all_1) <|
  .cons (.ret (.var 1)) <|
  .nil
/-! 36 square_between -/
def n_square_between : List Str := ["one", "other", "first", "second"]
def p_square_between : List Str := ["one", "other"]
def f_square_between : List Nat := [0, 1]
def b_square_between : Ss := 
  .cons (.ret (.prim (.call "sum") (.cons (.comp [2, 3] (.t (.cons (.v 2) (.cons (.v 3) .nil))) .zip (.cons (.var 0) (.cons (.var 1) .nil)) .nil (.prim (.bop .Mult) (.cons (.prim (.bop .Sub) (.cons (.var 2) (.cons (.var 3) .nil))) (.cons (.prim (.bop .Sub) (.cons (.var 2) (.cons (.var 3) .nil))) .nil)))) .nil))) <|
  .nil
/-! 45 Ball.holds -/
def n_Ball_holds : List Str := ["self", "point"]
def p_Ball_holds : List Str := ["self", "point"]
def f_Ball_holds : List Nat := [0, 1]
def b_Ball_holds : Ss := 
  .cons (.ret (.prim (.cmp .LtE) (.cons (.call 36 (.cons (.fld 3 1 (.var 0)) (.cons (.var 1) .nil))) (.cons (.fld 3 2 (.var 0)) .nil)))) <|
  .nil
/-! 46 Lone.holds -/
def n_Lone_holds : List Str := ["self", "point"]
def p_Lone_holds : List Str := ["self", "point"]
def f_Lone_holds : List Nat := [0, 1]
def b_Lone_holds : Ss := 
  .cons (.ret (.prim (.cmp .Eq) (.cons (.var 1) (.cons (.fld 4 1 (.var 0)) .nil)))) <|
  .nil
/-! 47 _law_prefixes -/
def n_law_prefixes : List Str := ["_law_space_here", "_law_found", "_law_length", "_law_number_here"]
def p_law_prefixes : List Str := ["_law_space_here"]
def f_law_prefixes : List Nat := [0]
def l_law_prefixes_0 : Ss :=
  .cons (.set 1 (.prim (.bop .Add) (.cons (.var 1) (.cons (.comp [3] (.v 3) .rng (.cons (.prim (.bop .FloorDiv) (.cons (.meth [(0, 16)] "size" (.var 0) (.cons (.tup (.cons (.int 0) (.cons (.int 0) .nil))) .nil)) (.cons (.meth [(0, 16)] "size" (.var 0) (.cons (.tup (.cons (.var 2) (.cons (.int 0) .nil))) .nil)) .nil))) .nil) .nil (.tup (.cons (.var 2) (.cons (.var 3) .nil)))) .nil)))) <|
  .nil
def b_law_prefixes : Ss := 
  .cons (.set 1 (.lst .nil)) <|
  .cons (.for_ (.v 2) .rng (.cons (.prim (.bop .Add) (.cons (.fld 0 2 (.var 0)) (.cons (.int 1) .nil))) .nil) l_law_prefixes_0) <|
  .cons (.ret (.var 1)) <|
  .nil
/-! 48 greatest_square -/
def n_greatest_square : List Str := ["space", "centre", "prefix", "found", "lows", "highs", "place", "low", "high", "far"]
def p_greatest_square : List Str := ["space", "centre", "prefix"]
def f_greatest_square : List Nat := [0, 1, 2]
def l_greatest_square_0 : Ss :=
  .cons (.set 9 (.prim (.call "max") (.cons (.prim (.call "abs") (.cons (.prim (.bop .Sub) (.cons (.var 6) (.cons (.var 7) .nil))) .nil)) (.cons (.prim (.call "abs") (.cons (.prim (.bop .Sub) (.cons (.var 8) (.cons (.var 6) .nil))) .nil)) .nil)))) <|
  .cons (.aug 3 .Add (.prim (.bop .Mult) (.cons (.var 9) (.cons (.var 9) .nil)))) <|
  .nil
def b_greatest_square : Ss := 
  .cons (.asg (.t (.cons (.v 4) (.cons (.v 5) .nil))) (.meth [(0, 18)] "cell" (.var 0) (.cons (.var 2) .nil))) <|
  .cons (.set 3 (.int 0)) <|
  .cons (.for_ (.t (.cons (.v 6) (.cons (.v 7) (.cons (.v 8) .nil)))) .zip (.cons (.var 1) (.cons (.var 4) (.cons (.var 5) .nil))) l_greatest_square_0) <|
  .cons (.ret (.var 3)) <|
  .nil
/-! 34 least_square -/
def n_least_square : List Str := ["space", "centre", "prefix", "found", "lows", "highs", "place", "low", "high", "short"]
def p_least_square : List Str := ["space", "centre", "prefix"]
def f_least_square : List Nat := [0, 1, 2]
def l_least_square_0 : Ss :=
  .cons (.set 9 (.prim (.call "max") (.cons (.int 0) (.cons (.prim (.bop .Sub) (.cons (.var 7) (.cons (.var 6) .nil))) (.cons (.prim (.bop .Sub) (.cons (.var 6) (.cons (.var 8) .nil))) .nil))))) <|
  .cons (.aug 3 .Add (.prim (.bop .Mult) (.cons (.var 9) (.cons (.var 9) .nil)))) <|
  .nil
def b_least_square : Ss := 
  .cons (.asg (.t (.cons (.v 4) (.cons (.v 5) .nil))) (.meth [(0, 18)] "cell" (.var 0) (.cons (.var 2) .nil))) <|
  .cons (.set 3 (.int 0)) <|
  .cons (.for_ (.t (.cons (.v 6) (.cons (.v 7) (.cons (.v 8) .nil)))) .zip (.cons (.var 1) (.cons (.var 4) (.cons (.var 5) .nil))) l_least_square_0) <|
  .cons (.ret (.var 3)) <|
  .nil
/-! 37 halves_of -/
def n_halves_of : List Str := ["prefix"]
def p_halves_of : List Str := ["prefix"]
def f_halves_of : List Nat := [0]
def b_halves_of : Ss := 
  .cons (.ret (.tup (.cons (.tup (.cons (.prim (.bop .Add) (.cons (.prim .ix (.cons (.var 0) (.cons (.int 0) .nil))) (.cons (.int 1) .nil))) (.cons (.prim (.bop .Mult) (.cons (.int 2) (.cons (.prim .ix (.cons (.var 0) (.cons (.int 1) .nil))) .nil))) .nil))) (.cons (.tup (.cons (.prim (.bop .Add) (.cons (.prim .ix (.cons (.var 0) (.cons (.int 0) .nil))) (.cons (.int 1) .nil))) (.cons (.prim (.bop .Add) (.cons (.prim (.bop .Mult) (.cons (.int 2) (.cons (.prim .ix (.cons (.var 0) (.cons (.int 1) .nil))) .nil))) (.cons (.int 1) .nil))) .nil))) .nil)))) <|
  .nil
/-! 49 Ball.room -/
def n_Ball_room : List Str := ["self", "prefix", "found", "waiting", "one"]
def p_Ball_room : List Str := ["self", "prefix"]
def f_Ball_room : List Nat := [0, 1]
def l_Ball_room_0 : Ss :=
  .cons (.set 4 (.mut .pop 3 .nil)) <|
  .cons (.ifs (.prim (.cmp .LtE) (.cons (.call 48 (.cons (.fld 3 0 (.var 0)) (.cons (.fld 3 1 (.var 0)) (.cons (.var 4) .nil)))) (.cons (.fld 3 2 (.var 0)) .nil))) (.cons (.aug 2 .Add (.meth [(0, 16)] "size" (.fld 3 0 (.var 0)) (.cons (.var 4) .nil))) .nil) (.cons (.ifs (.prim (.cmp .LtE) (.cons (.call 34 (.cons (.fld 3 0 (.var 0)) (.cons (.fld 3 1 (.var 0)) (.cons (.var 4) .nil)))) (.cons (.fld 3 2 (.var 0)) .nil))) (.cons (.expr (.mut .extend 3 (.cons (.prim (.ty "list") (.cons (.call 37 (.cons (.var 4) .nil)) .nil)) .nil))) .nil) .nil) .nil)) <|
  .nil
def b_Ball_room : Ss := 
  .cons (.par [2, 3] (.cons (.int 0) (.cons (.lst (.cons (.var 1) .nil)) .nil))) <|
  .cons (.whl (.prim (.cmp .NotEq) (.cons (.var 3) (.cons (.lst .nil) .nil))) l_Ball_room_0) <|
  .cons (.ret (.var 2)) <|
  .nil
/-! 50 Lone.room -/
def n_Lone_room : List Str := ["self", "prefix", "size"]
def p_Lone_room : List Str := ["self", "prefix"]
def f_Lone_room : List Nat := [0, 1]
def b_Lone_room : Ss := 
  .cons (.set 2 (.meth [(0, 16)] "size" (.fld 4 0 (.var 0)) (.cons (.var 1) .nil))) <|
  .cons (.ret (.prim (.ty "int") (.cons (.chain .LtE .Lt (.prim (.bop .Mult) (.cons (.prim .ix (.cons (.var 1) (.cons (.int 1) .nil))) (.cons (.var 2) .nil))) (.fld 4 2 (.var 0)) (.prim (.bop .Mult) (.cons (.prim (.bop .Add) (.cons (.prim .ix (.cons (.var 1) (.cons (.int 1) .nil))) (.cons (.int 1) .nil))) (.cons (.var 2) .nil)))) .nil))) <|
  .nil
/-! 51 law -/
def n_law_v3 : List Str := ["_law_script", "_law_draw", "_law_space_here", "_law_square_here", "_law_prefix", "_law_centre", "_law_other", "_law_ball", "_law_lone", "_law_points", "_law_size", "_law_inside", "_law_squares", "_law_point_here", "_law_one"]
def p_law_v3 : List Str := ["_law_script"]
def f_law_v3 : List Nat := [0]
def l_law_v3_0 : Ss :=
  .cons (.set 10 (.meth [(0, 16)] "size" (.var 2) (.cons (.var 4) .nil))) <|
  .cons (.set 11 (.comp [13] (.v 13) .seq (.cons (.var 9) .nil) (.cons (.chain .LtE .Lt (.prim (.bop .Mult) (.cons (.prim .ix (.cons (.var 4) (.cons (.int 1) .nil))) (.cons (.var 10) .nil))) (.meth [(0, 9)] "woven" (.var 2) (.cons (.var 13) .nil)) (.prim (.bop .Add) (.cons (.prim (.bop .Mult) (.cons (.prim .ix (.cons (.var 4) (.cons (.int 1) .nil))) (.cons (.var 10) .nil))) (.cons (.var 10) .nil)))) .nil) (.var 13))) <|
  .cons (.set 12 (.comp [13] (.v 13) .seq (.cons (.var 11) .nil) .nil (.call 39 (.cons (.var 5) (.cons (.var 13) .nil))))) <|
  .cons (.ifs (.or (.cons (.prim (.cmp .NotEq) (.cons (.meth [(3, 49)] "room" (.var 7) (.cons (.var 4) .nil)) (.cons (.prim (.call "len") (.cons (.comp [14] (.v 14) .seq (.cons (.var 12) .nil) (.cons (.prim (.cmp .LtE) (.cons (.var 14) (.cons (.var 3) .nil))) .nil) (.var 14)) .nil)) .nil))) (.cons (.prim (.cmp .NotEq) (.cons (.meth [(4, 50)] "room" (.var 8) (.cons (.var 4) .nil)) (.cons (.prim (.ty "int") (.cons (.prim (.cmp .In) (.cons (.var 6) (.cons (.var 11) .nil))) .nil)) .nil))) .nil))) (.cons (.ret (.bl false)) .nil) .nil) <|
  .cons (.ifs (.or (.cons (.prim (.cmp .NotEq) (.cons (.call 34 (.cons (.var 2) (.cons (.var 5) (.cons (.var 4) .nil)))) (.cons (.prim (.call "min") (.cons (.var 12) .nil)) .nil))) (.cons (.prim (.cmp .NotEq) (.cons (.call 48 (.cons (.var 2) (.cons (.var 5) (.cons (.var 4) .nil)))) (.cons (.prim (.call "max") (.cons (.var 12) .nil)) .nil))) .nil))) (.cons (.ret (.bl false)) .nil) .nil) <|
  .nil
def b_law_v3 : Ss := 
  .cons (.set 1 (.lst (.cons (.var 0) (.cons (.int 0) .nil)))) <|
  .cons (.set 2 (.call 41 (.cons (.var 1) .nil))) <|
  .cons (.parN [5, 6] (.cons (.call 11 (.cons (.var 1) (.cons (.var 2) .nil))) (.cons (.call 11 (.cons (.var 1) (.cons (.var 2) .nil))) .nil))) <|
  .cons (.set 3 (.prim (.bop .Sub) (.cons (.call 1 (.cons (.var 1) (.cons (.prim (.bop .Add) (.cons (.prim (.bop .Add) (.cons (.int 2) (.cons (.call 39 (.cons (.var 5) (.cons (.var 6) .nil))) .nil))) (.cons (.int 9) .nil))) .nil))) (.cons (.int 1) .nil)))) <|
  .cons (.parN [7, 8, 9] (.cons (.new 3 42 true (.cons (.var 2) (.cons (.var 5) (.cons (.var 3) .nil)))) (.cons (.new 4 43 true (.cons (.var 2) (.cons (.var 6) .nil))) (.cons (.call 44 (.cons (.var 2) .nil)) .nil)))) <|
  .cons (.ifs (.prim (.cmp .NotEq) (.cons (.call 36 (.cons (.var 5) (.cons (.var 6) .nil))) (.cons (.call 39 (.cons (.var 5) (.cons (.var 6) .nil))) .nil))) (.cons (.ret (.bl false)) .nil) .nil) <|
  .cons (.ifs (.prim (.call "any") (.cons (.comp [13] (.v 13) .seq (.cons (.var 9) .nil) .nil (.prim (.cmp .NotEq) (.cons (.meth [(3, 45)] "holds" (.var 7) (.cons (.var 13) .nil)) (.cons (.prim (.cmp .LtE) (.cons (.call 39 (.cons (.var 5) (.cons (.var 13) .nil))) (.cons (.var 3) .nil))) .nil)))) .nil)) (.cons (.ret (.bl false)) .nil) .nil) <|
  .cons (.ifs (.prim (.call "any") (.cons (.comp [13] (.v 13) .seq (.cons (.var 9) .nil) .nil (.prim (.cmp .NotEq) (.cons (.meth [(4, 46)] "holds" (.var 8) (.cons (.var 13) .nil)) (.cons (.prim (.cmp .Eq) (.cons (.var 13) (.cons (.var 6) .nil))) .nil)))) .nil)) (.cons (.ret (.bl false)) .nil) .nil) <|
  .cons (.for_ (.v 4) .seq (.cons (.call 47 (.cons (.var 2) .nil)) .nil) l_law_v3_0) <|
  .cons (.ret (.bl true)) <|
  .nil
/-! 30 _law_point -/
def n_law_point_v2 : List Str := ["_law_draw", "_law_space", "_law_axis"]
def p_law_point_v2 : List Str := ["_law_draw", "_law_space"]
def f_law_point_v2 : List Nat := [0, 1]
def b_law_point_v2 : Ss := 
  .cons (.ret (.prim (.ty "tuple") (.cons (.comp [2] (.v 2) .rng (.cons (.fld 0 0 (.var 1)) .nil) .nil (.call 1 (.cons (.var 0) (.cons (.fld 0 3 (.var 1)) .nil)))) .nil))) <|
  .nil
/-! 31 _law_box -/
def n_law_box_v2 : List Str := ["_law_draw", "_law_space", "_law_lows", "_law_one", "_law_other", "_law_first", "_law_second"]
def p_law_box_v2 : List Str := ["_law_draw", "_law_space"]
def f_law_box_v2 : List Nat := [0, 1]
def b_law_box_v2 : Ss := 
  .cons (.par [3, 4] (.cons (.call 30 (.cons (.var 0) (.cons (.var 1) .nil))) (.cons (.call 30 (.cons (.var 0) (.cons (.var 1) .nil))) .nil))) <|
  .cons (.set 2 (.prim (.ty "tuple") (.cons (.comp [5, 6] (.t (.cons (.v 5) (.cons (.v 6) .nil))) .zip (.cons (.var 3) (.cons (.var 4) .nil)) .nil (.prim (.call "min") (.cons (.var 5) (.cons (.var 6) .nil)))) .nil))) <|
  .cons (.ret (.new 2 14 true (.cons (.var 1) (.cons (.var 2) (.cons (.prim (.ty "tuple") (.cons (.comp [5, 6] (.t (.cons (.v 5) (.cons (.v 6) .nil))) .zip (.cons (.var 3) (.cons (.var 4) .nil)) .nil (.prim (.call "max") (.cons (.var 5) (.cons (.var 6) .nil)))) .nil)) .nil))))) <|
  .nil
/-! 32 count_in -/
def n_count_in : List Str := ["cloud", "box", "prefix"]
def p_count_in : List Str := ["cloud", "box"]
def f_count_in : List Nat := [0, 1]
def b_count_in : Ss := 
  .cons (.ret (.prim (.call "sum") (.cons (.comp [2] (.v 2) .seq (.cons (.call 20 (.cons (.var 1) .nil)) .nil) .nil (.meth [(1, 22)] "count" (.var 0) (.cons (.var 2) .nil))) .nil))) <|
  .nil
/-! 33 points_in -/
def n_points_in : List Str := ["cloud", "box", "found", "prefix", "size", "number"]
def p_points_in : List Str := ["cloud", "box"]
def f_points_in : List Nat := [0, 1]
def l_points_in_0 : Ss :=
  .cons (.set 4 (.meth [(0, 16)] "size" (.fld 1 0 (.var 0)) (.cons (.var 3) .nil))) <|
  .cons (.expr (.mut .extend 2 (.cons (.comp [5] (.v 5) .seq (.cons (.fld 1 1 (.var 0)) .nil) (.cons (.chain .LtE .Lt (.prim (.bop .Mult) (.cons (.prim .ix (.cons (.var 3) (.cons (.int 1) .nil))) (.cons (.var 4) .nil))) (.var 5) (.prim (.bop .Mult) (.cons (.prim (.bop .Add) (.cons (.prim .ix (.cons (.var 3) (.cons (.int 1) .nil))) (.cons (.int 1) .nil))) (.cons (.var 4) .nil)))) .nil) (.var 5)) .nil))) <|
  .nil
def b_points_in : Ss := 
  .cons (.set 2 (.lst .nil)) <|
  .cons (.for_ (.v 3) .seq (.cons (.call 20 (.cons (.var 1) .nil)) .nil) l_points_in_0) <|
  .cons (.ret (.prim (.ty "tuple") (.cons (.prim (.call "sorted") (.cons (.comp [5] (.v 5) .seq (.cons (.var 2) .nil) .nil (.meth [(0, 17)] "point_of" (.fld 1 0 (.var 0)) (.cons (.var 5) .nil))) .nil)) .nil))) <|
  .nil
/-! 35 next_cell -/
def n_next_cell : List Str := ["waiting", "best", "at", "row"]
def p_next_cell : List Str := ["waiting"]
def f_next_cell : List Nat := [0]
def l_next_cell_0 : Ss :=
  .cons (.ifs (.prim (.cmp .Lt) (.cons (.var 3) (.cons (.prim .ix (.cons (.var 0) (.cons (.var 1) .nil))) .nil))) (.cons (.set 1 (.var 2)) .nil) .nil) <|
  .nil
def b_next_cell : Ss := 
  .cons (.set 1 (.int 0)) <|
  .cons (.forO (.t (.cons (.v 2) (.cons (.v 3) .nil))) true 0 l_next_cell_0) <|
  .cons (.ret (.var 1)) <|
  .nil
/-! 38 nearest -/
def n_nearest : List Str := ["cloud", "centre", "many", "space", "waiting", "found", "looked", "square", "kind", "thing", "point", "one"]
def p_nearest : List Str := ["cloud", "centre", "many"]
def f_nearest : List Nat := [0, 1, 2]
def l_nearest_0 : Ss :=
  .cons (.ifs (.prim (.cmp .Gt) (.cons (.meth [(1, 22)] "count" (.var 0) (.cons (.var 11) .nil)) (.cons (.int 0) .nil))) (.cons (.expr (.mut .append 4 (.cons (.tup (.cons (.call 34 (.cons (.var 3) (.cons (.var 1) (.cons (.var 11) .nil)))) (.cons (.int 0) (.cons (.var 11) .nil)))) .nil))) .nil) .nil) <|
  .nil
def l_nearest_1 : Ss :=
  .cons (.asg (.t (.cons (.v 7) (.cons (.v 8) (.cons (.v 9) .nil)))) (.mut .popAt 4 (.cons (.call 35 (.cons (.var 4) .nil)) .nil))) <|
  .cons (.ifs (.prim (.cmp .Eq) (.cons (.var 8) (.cons (.int 1) .nil))) (.cons (.expr (.mut .append 5 (.cons (.tup (.cons (.var 7) (.cons (.var 9) .nil))) .nil))) (.cons .cont .nil)) .nil) <|
  .cons (.aug 6 .Add (.int 1)) <|
  .cons (.ifs (.prim (.cmp .Eq) (.cons (.prim .ix (.cons (.var 9) (.cons (.int 0) .nil))) (.cons (.fld 0 2 (.var 3)) .nil))) (.cons (.set 10 (.meth [(0, 17)] "point_of" (.var 3) (.cons (.prim .ix (.cons (.var 9) (.cons (.int 1) .nil))) .nil))) (.cons (.expr (.mut .append 4 (.cons (.tup (.cons (.call 36 (.cons (.var 1) (.cons (.var 10) .nil))) (.cons (.int 1) (.cons (.var 10) .nil)))) .nil))) .nil)) (.cons (.for_ (.v 11) .seq (.cons (.call 37 (.cons (.var 9) .nil)) .nil) l_nearest_0) .nil)) <|
  .nil
def b_nearest : Ss := 
  .cons (.expr (.meth [(0, 8)] "check_point" (.fld 1 0 (.var 0)) (.cons (.var 1) .nil))) <|
  .cons (.ifs (.not (.call 3 (.cons (.var 2) (.cons (.int 0) (.cons (.meth [(0, 16)] "size" (.fld 1 0 (.var 0)) (.cons (.tup (.cons (.int 0) (.cons (.int 0) .nil))) .nil)) .nil))))) (.cons .never .nil) .nil) <|
  .cons (.parN [3, 4, 5, 6] (.cons (.fld 1 0 (.var 0)) (.cons (.lst .nil) (.cons (.lst .nil) (.cons (.int 0) .nil))))) <|
  .cons (.ifs (.prim (.cmp .Gt) (.cons (.meth [(1, 22)] "count" (.var 0) (.cons (.tup (.cons (.int 0) (.cons (.int 0) .nil))) .nil)) (.cons (.int 0) .nil))) (.cons (.expr (.mut .append 4 (.cons (.tup (.cons (.call 34 (.cons (.var 3) (.cons (.var 1) (.cons (.tup (.cons (.int 0) (.cons (.int 0) .nil))) .nil)))) (.cons (.int 0) (.cons (.tup (.cons (.int 0) (.cons (.int 0) .nil))) .nil)))) .nil))) .nil) .nil) <|
  .cons (.whl (.and (.cons (.prim (.cmp .NotEq) (.cons (.var 4) (.cons (.lst .nil) .nil))) (.cons (.prim (.cmp .Lt) (.cons (.prim (.call "len") (.cons (.var 5) .nil)) (.cons (.var 2) .nil))) .nil))) l_nearest_1) <|
  .cons (.ret (.tup (.cons (.prim (.ty "tuple") (.cons (.var 5) .nil)) (.cons (.var 6) .nil)))) <|
  .nil
/-! 40 law -/
def n_law_v2 : List Str := ["_law_script", "_law_draw", "_law_space", "_law_points", "_law_turn", "_law_cloud", "_law_dimensions", "_law_bits", "_law_point_here", "_law_due", "_law_found", "_law_box_here", "_law_centre", "_law_many", "_law_place"]
def p_law_v2 : List Str := ["_law_script"]
def f_law_v2 : List Nat := [0]
def l_law_v2_0 : Ss :=
  .cons (.set 8 (.call 30 (.cons (.var 1) (.cons (.var 2) .nil)))) <|
  .cons (.ifs (.and (.cons (.prim (.cmp .Eq) (.cons (.call 1 (.cons (.var 1) (.cons (.int 3) .nil))) (.cons (.int 0) .nil))) (.cons (.prim (.cmp .NotEq) (.cons (.var 3) (.cons (.lst .nil) .nil))) .nil))) (.cons (.set 8 (.prim (.ty "tuple") (.cons (.comp [14] (.v 14) .seq (.cons (.prim .ix (.cons (.var 3) (.cons (.prim .neg (.cons (.int 1) .nil)) .nil))) .nil) .nil (.prim (.call "min") (.cons (.prim (.bop .Sub) (.cons (.fld 0 3 (.var 2)) (.cons (.int 1) .nil))) (.cons (.prim (.bop .Add) (.cons (.var 14) (.cons (.call 1 (.cons (.var 1) (.cons (.int 3) .nil))) .nil))) .nil)))) .nil))) .nil) .nil) <|
  .cons (.set 3 (.ite (.prim (.cmp .In) (.cons (.var 8) (.cons (.var 3) .nil))) (.var 3) (.prim (.bop .Add) (.cons (.var 3) (.cons (.lst (.cons (.var 8) .nil)) .nil))))) <|
  .nil
def l_law_v2_1 : Ss :=
  .cons (.parN [11, 12, 13] (.cons (.call 31 (.cons (.var 1) (.cons (.var 2) .nil))) (.cons (.call 30 (.cons (.var 1) (.cons (.var 2) .nil))) (.cons (.call 1 (.cons (.var 1) (.cons (.int 5) .nil))) .nil)))) <|
  .cons (.set 9 (.prim (.call "sorted") (.cons (.comp [8] (.v 8) .seq (.cons (.var 3) .nil) (.cons (.meth [(2, 24)] "holds" (.var 11) (.cons (.var 8) .nil)) .nil) (.var 8)) .nil))) <|
  .cons (.ifs (.or (.cons (.prim (.cmp .NotEq) (.cons (.call 32 (.cons (.var 5) (.cons (.var 11) .nil))) (.cons (.prim (.call "len") (.cons (.var 9) .nil)) .nil))) (.cons (.prim (.cmp .NotEq) (.cons (.prim (.ty "list") (.cons (.call 33 (.cons (.var 5) (.cons (.var 11) .nil))) .nil)) (.cons (.var 9) .nil))) .nil))) (.cons (.ret (.bl false)) .nil) .nil) <|
  .cons (.set 10 (.prim .ix (.cons (.call 38 (.cons (.var 5) (.cons (.var 12) (.cons (.var 13) .nil)))) (.cons (.int 0) .nil)))) <|
  .cons (.ifs (.prim (.cmp .NotEq) (.cons (.prim (.ty "list") (.cons (.var 10) .nil)) (.cons (.prim (.sl false true) (.cons (.prim (.call "sorted") (.cons (.comp [8] (.v 8) .seq (.cons (.var 3) .nil) .nil (.tup (.cons (.call 39 (.cons (.var 12) (.cons (.var 8) .nil))) (.cons (.var 8) .nil)))) .nil)) (.cons (.var 13) .nil))) .nil))) (.cons (.ret (.bl false)) .nil) .nil) <|
  .nil
def b_law_v2 : Ss := 
  .cons (.set 1 (.lst (.cons (.var 0) (.cons (.int 0) .nil)))) <|
  .cons (.asg (.t (.cons (.v 6) (.cons (.v 7) .nil))) (.call 2 (.cons (.var 1) (.cons (.lst (.cons (.tup (.cons (.int 1) (.cons (.int 10) .nil))) (.cons (.tup (.cons (.int 2) (.cons (.int 7) .nil))) (.cons (.tup (.cons (.int 2) (.cons (.int 8) .nil))) (.cons (.tup (.cons (.int 3) (.cons (.int 4) .nil))) .nil))))) .nil)))) <|
  .cons (.set 2 (.new 0 5 true (.cons (.var 6) (.cons (.var 7) .nil)))) <|
  .cons (.set 3 (.lst .nil)) <|
  .cons (.for_ (.v 4) .rng (.cons (.call 1 (.cons (.var 1) (.cons (.int 12) .nil))) .nil) l_law_v2_0) <|
  .cons (.set 5 (.new 1 10 true (.cons (.var 2) (.cons (.var 3) .nil)))) <|
  .cons (.for_ (.v 4) .rng (.cons (.int 3) .nil) l_law_v2_1) <|
  .cons (.ret (.bl true)) <|
  .nil
/-! 52 _law_tiny -/
def n_law_tiny : List Str := ["_law_draw", "_law_dimensions", "_law_bits"]
def p_law_tiny : List Str := ["_law_draw"]
def f_law_tiny : List Nat := [0]
def b_law_tiny : Ss := 
  .cons (.asg (.t (.cons (.v 1) (.cons (.v 2) .nil))) (.call 2 (.cons (.var 0) (.cons (.lst (.cons (.tup (.cons (.int 1) (.cons (.int 2) .nil))) (.cons (.tup (.cons (.int 1) (.cons (.int 3) .nil))) (.cons (.tup (.cons (.int 2) (.cons (.int 1) .nil))) (.cons (.tup (.cons (.int 3) (.cons (.int 1) .nil))) .nil))))) .nil)))) <|
  .cons (.ret (.new 0 5 true (.cons (.var 1) (.cons (.var 2) .nil)))) <|
  .nil
/-! 53 _law_prefixes -/
def n_law_prefixes_v2 : List Str := ["_law_space", "_law_found", "_law_length", "_law_number_here"]
def p_law_prefixes_v2 : List Str := ["_law_space"]
def f_law_prefixes_v2 : List Nat := [0]
def l_law_prefixes_v2_0 : Ss :=
  .cons (.set 1 (.prim (.bop .Add) (.cons (.var 1) (.cons (.comp [3] (.v 3) .rng (.cons (.prim (.bop .FloorDiv) (.cons (.meth [(0, 16)] "size" (.var 0) (.cons (.tup (.cons (.int 0) (.cons (.int 0) .nil))) .nil)) (.cons (.meth [(0, 16)] "size" (.var 0) (.cons (.tup (.cons (.var 2) (.cons (.int 0) .nil))) .nil)) .nil))) .nil) .nil (.tup (.cons (.var 2) (.cons (.var 3) .nil)))) .nil)))) <|
  .nil
def b_law_prefixes_v2 : Ss := 
  .cons (.set 1 (.lst .nil)) <|
  .cons (.for_ (.v 2) .rng (.cons (.prim (.bop .Add) (.cons (.fld 0 2 (.var 0)) (.cons (.int 1) .nil))) .nil) l_law_prefixes_v2_0) <|
  .cons (.ret (.var 1)) <|
  .nil
/-! 54 Space.is_prefix -/
def n_Space_is_prefix : List Str := ["self", "thing"]
def p_Space_is_prefix : List Str := ["self", "thing"]
def f_Space_is_prefix : List Nat := [0, 1]
def b_Space_is_prefix : Ss := 
  .cons (.ifs (.or (.cons (.not (.isi (.var 1) (.b "tuple"))) (.cons (.prim (.cmp .NotEq) (.cons (.prim (.call "len") (.cons (.var 1) .nil)) (.cons (.int 2) .nil))) (.cons (.not (.call 3 (.cons (.prim .ix (.cons (.var 1) (.cons (.int 0) .nil))) (.cons (.int 0) (.cons (.fld 0 2 (.var 0)) .nil))))) .nil)))) (.cons (.ret (.bl false)) .nil) .nil) <|
  .cons (.ret (.call 3 (.cons (.prim .ix (.cons (.var 1) (.cons (.int 1) .nil))) (.cons (.int 0) (.cons (.prim (.bop .Sub) (.cons (.call 4 (.cons (.prim .ix (.cons (.var 1) (.cons (.int 0) .nil))) .nil)) (.cons (.int 1) .nil))) .nil))))) <|
  .nil
/-! 55 Rest.__init__ -/
def n_Rest_init : List Str := ["self", "prefix", "count", "inner"]
def p_Rest_init : List Str := ["self", "prefix", "count", "inner"]
def f_Rest_init : List Nat := [0, 1, 2, 3]
def b_Rest_init : Ss := 
  .cons (.setF 6 0 0 (.var 1)) <|
  .cons (.setF 6 0 1 (.var 2)) <|
  .cons (.setF 6 0 2 (.var 3)) <|
  .nil
/-! 56 Knowledge.next_inside -/
def n_Knowledge_next_inside : List Str := ["self", "prefix", "order", "found", "one", "other"]
def p_Knowledge_next_inside : List Str := ["self", "prefix", "order"]
def f_Knowledge_next_inside : List Nat := [0, 1, 2]
def l_Knowledge_next_inside_0 : Ss :=
  .cons (.ifs (.and (.cons (.prim (.cmp .NotEq) (.cons (.var 4) (.cons (.var 1) .nil))) (.cons (.call 26 (.cons (.var 4) (.cons (.var 1) .nil))) (.cons (.not (.prim (.call "any") (.cons (.compO [5] (.v 5) 3 .nil (.call 26 (.cons (.var 4) (.cons (.var 5) .nil)))) .nil))) .nil)))) (.cons (.expr (.mut .append 3 (.cons (.var 4) .nil))) .nil) .nil) <|
  .nil
def b_Knowledge_next_inside : Ss := 
  .cons (.set 3 (.lst .nil)) <|
  .cons (.for_ (.v 4) .seq (.cons (.var 2) .nil) l_Knowledge_next_inside_0) <|
  .cons (.ret (.var 3)) <|
  .nil
/-! 57 Knowledge.rests -/
def n_Knowledge_rests : List Str := ["self", "prefix", "order", "found"]
def p_Knowledge_rests : List Str := ["self"]
def f_Knowledge_rests : List Nat := [0]
def l_Knowledge_rests_0 : Ss :=
  .cons (.expr (.mut .append 3 (.cons (.new 6 55 true (.cons (.var 1) (.cons (.prim .ix (.cons (.fld 5 1 (.var 0)) (.cons (.var 1) .nil))) (.cons (.meth [(5, 56)] "next_inside" (.var 0) (.cons (.var 1) (.cons (.var 2) .nil))) .nil)))) .nil))) <|
  .nil
def b_Knowledge_rests : Ss := 
  .cons (.par [2, 3] (.cons (.prim (.call "sorted") (.cons (.fld 5 1 (.var 0)) .nil)) (.cons (.lst .nil) .nil))) <|
  .cons (.ifs (.prim (.cmp .NotIn) (.cons (.tup (.cons (.int 0) (.cons (.int 0) .nil))) (.cons (.fld 5 1 (.var 0)) .nil))) (.cons (.expr (.mut .append 3 (.cons (.new 6 55 true (.cons (.tup (.cons (.int 0) (.cons (.int 0) .nil))) (.cons .non (.cons (.meth [(5, 56)] "next_inside" (.var 0) (.cons (.tup (.cons (.int 0) (.cons (.int 0) .nil))) (.cons (.var 2) .nil))) .nil)))) .nil))) .nil) .nil) <|
  .cons (.for_ (.v 1) .seq (.cons (.var 2) .nil) l_Knowledge_rests_0) <|
  .cons (.ret (.var 3)) <|
  .nil
/-! 58 Knowledge.points_left -/
def n_Knowledge_points_left : List Str := ["self", "rest", "one"]
def p_Knowledge_points_left : List Str := ["self", "rest"]
def f_Knowledge_points_left : List Nat := [0, 1]
def b_Knowledge_points_left : Ss := 
  .cons (.ret (.prim (.bop .Sub) (.cons (.fld 6 1 (.var 1)) (.cons (.prim (.call "sum") (.cons (.comp [2] (.v 2) .seq (.cons (.fld 6 2 (.var 1)) .nil) .nil (.prim .ix (.cons (.fld 5 1 (.var 0)) (.cons (.var 2) .nil)))) .nil)) .nil)))) <|
  .nil
/-! 59 Knowledge.room -/
def n_Knowledge_room : List Str := ["self", "rest", "one"]
def p_Knowledge_room : List Str := ["self", "rest"]
def f_Knowledge_room : List Nat := [0, 1]
def b_Knowledge_room : Ss := 
  .cons (.ret (.prim (.bop .Sub) (.cons (.meth [(0, 16)] "size" (.fld 5 0 (.var 0)) (.cons (.fld 6 0 (.var 1)) .nil)) (.cons (.prim (.call "sum") (.cons (.comp [2] (.v 2) .seq (.cons (.fld 6 2 (.var 1)) .nil) .nil (.meth [(0, 16)] "size" (.fld 5 0 (.var 0)) (.cons (.var 2) .nil))) .nil)) .nil)))) <|
  .nil
/-! 60 Knowledge.is_fit -/
def n_Knowledge_is_fit : List Str := ["self", "rest"]
def p_Knowledge_is_fit : List Str := ["self", "rest"]
def f_Knowledge_is_fit : List Nat := [0, 1]
def b_Knowledge_is_fit : Ss := 
  .cons (.ifs (.prim (.cmp .Is) (.cons (.fld 6 1 (.var 1)) (.cons .non .nil))) (.cons (.ret (.bl true)) .nil) .nil) <|
  .cons (.ret (.chain .LtE .LtE (.int 0) (.meth [(5, 58)] "points_left" (.var 0) (.cons (.var 1) .nil)) (.meth [(5, 59)] "room" (.var 0) (.cons (.var 1) .nil)))) <|
  .nil
/-! 61 Knowledge.__init__ -/
def n_Knowledge_init : List Str := ["self", "space", "facts", "rest", "prefix", "count"]
def p_Knowledge_init : List Str := ["self", "space", "facts"]
def f_Knowledge_init : List Nat := [0, 1, 2]
def l_Knowledge_init_0 : Ss :=
  .cons (.ifs (.or (.cons (.not (.meth [(0, 54)] "is_prefix" (.var 1) (.cons (.var 4) .nil))) (.cons (.not (.call 3 (.cons (.var 5) (.cons (.int 0) (.cons (.meth [(0, 16)] "size" (.var 1) (.cons (.var 4) .nil)) .nil))))) .nil))) (.cons .never .nil) .nil) <|
  .nil
def l_Knowledge_init_1 : Ss :=
  .cons (.ifs (.not (.meth [(5, 60)] "is_fit" (.var 0) (.cons (.var 3) .nil))) (.cons .never .nil) .nil) <|
  .nil
def b_Knowledge_init : Ss := 
  .cons (.setF 5 0 0 (.var 1)) <|
  .cons (.for_ (.t (.cons (.v 4) (.cons (.v 5) .nil))) .items (.cons (.var 2) .nil) l_Knowledge_init_0) <|
  .cons (.setF 5 0 1 (.frz (.prim (.ty "dict") (.cons (.var 2) .nil)))) <|
  .cons (.for_ (.v 3) .seq (.cons (.meth [(5, 57)] "rests" (.var 0) .nil) .nil) l_Knowledge_init_1) <|
  .nil
/-! 62 _law_facts -/
def n_law_facts : List Str := ["_law_draw", "_law_cloud", "_law_prefix", "_law_rate", "_law_facts_here"]
def p_law_facts : List Str := ["_law_draw", "_law_cloud"]
def f_law_facts : List Nat := [0, 1]
def l_law_facts_0 : Ss :=
  .cons (.ifs (.prim (.cmp .Eq) (.cons (.call 1 (.cons (.var 0) (.cons (.var 3) .nil))) (.cons (.int 0) .nil))) (.cons (.setIx 4 (.var 2) (.meth [(1, 22)] "count" (.var 1) (.cons (.var 2) .nil))) .nil) .nil) <|
  .nil
def b_law_facts : Ss := 
  .cons (.par [3, 4] (.cons (.call 2 (.cons (.var 0) (.cons (.lst (.cons (.int 2) (.cons (.int 3) (.cons (.int 6) .nil)))) .nil))) (.cons (.dic0 true) .nil))) <|
  .cons (.for_ (.v 2) .seq (.cons (.call 53 (.cons (.fld 1 0 (.var 1)) .nil)) .nil) l_law_facts_0) <|
  .cons (.ret (.new 5 61 true (.cons (.fld 1 0 (.var 1)) (.cons (.var 4) .nil)))) <|
  .nil
/-! 63 _law_all -/
def n_law_all_v2 : List Str := ["_law_space", "_law_found", "_law_axis", "_law_longer", "_law_row", "_law_place"]
def p_law_all_v2 : List Str := ["_law_space"]
def f_law_all_v2 : List Nat := [0]
def l_law_all_v2_0 : Ss :=
  .cons (.set 3 (.prim (.bop .Add) (.cons (.var 3) (.cons (.comp [5] (.v 5) .rng (.cons (.fld 0 3 (.var 0)) .nil) .nil (.prim (.bop .Add) (.cons (.var 4) (.cons (.tup (.cons (.var 5) .nil)) .nil)))) .nil)))) <|
  .nil
def l_law_all_v2_1 : Ss :=
  .cons (.set 3 (.lst .nil)) <|
  .cons (.for_ (.v 4) .seq (.cons (.var 1) .nil) l_law_all_v2_0) <|
  .cons (.set 1 (.var 3)) <|
  .nil
def b_law_all_v2 : Ss := 
  .cons (.set 1 (.lst (.cons (.tup .nil) .nil))) <|
  .cons (.for_ (.v 2) .rng (.cons (.fld 0 0 (.var 0)) .nil) l_law_all_v2_1) <|
  .cons (.ret (.var 1)) <|
  .nil
/-! 64 _law_points -/
def n_law_points_v2 : List Str := ["_law_draw", "_law_space", "_law_rate", "_law_point_here"]
def p_law_points_v2 : List Str := ["_law_draw", "_law_space"]
def f_law_points_v2 : List Nat := [0, 1]
def b_law_points_v2 : Ss := 
  .cons (.set 2 (.call 2 (.cons (.var 0) (.cons (.lst (.cons (.int 2) (.cons (.int 3) (.cons (.int 5) (.cons (.int 9) .nil))))) .nil)))) <|
  .cons (.ret (.prim (.ty "tuple") (.cons (.comp [3] (.v 3) .seq (.cons (.call 63 (.cons (.var 1) .nil)) .nil) (.cons (.prim (.cmp .Eq) (.cons (.call 1 (.cons (.var 0) (.cons (.var 2) .nil))) (.cons (.int 0) .nil))) .nil) (.var 3)) .nil))) <|
  .nil
/-! 65 _law_clouds -/
def n_law_clouds : List Str := ["_law_knowledge", "_law_point_here", "_law_found", "_law_row", "_law_space", "_law_rows", "_law_cloud", "_law_prefix", "_law_count"]
def p_law_clouds : List Str := ["_law_knowledge"]
def f_law_clouds : List Nat := [0]
def l_law_clouds_0 : Ss :=
  .cons (.set 5 (.prim (.bop .Add) (.cons (.var 5) (.cons (.comp [3] (.v 3) .seq (.cons (.var 5) .nil) .nil (.prim (.bop .Add) (.cons (.var 3) (.cons (.tup (.cons (.var 1) .nil)) .nil)))) .nil)))) <|
  .nil
def l_law_clouds_1 : Ss :=
  .cons (.set 6 (.new 1 10 true (.cons (.var 4) (.cons (.var 3) .nil)))) <|
  .cons (.ifs (.prim (.call "all") (.cons (.comp [7, 8] (.t (.cons (.v 7) (.cons (.v 8) .nil))) .items (.cons (.fld 5 1 (.var 0)) .nil) .nil (.prim (.cmp .Eq) (.cons (.meth [(1, 22)] "count" (.var 6) (.cons (.var 7) .nil)) (.cons (.var 8) .nil)))) .nil)) (.cons (.expr (.mut .append 2 (.cons (.var 3) .nil))) .nil) .nil) <|
  .nil
def b_law_clouds : Ss := 
  .cons (.par [4, 5] (.cons (.fld 5 0 (.var 0)) (.cons (.lst (.cons (.tup .nil) .nil)) .nil))) <|
  .cons (.for_ (.v 1) .seq (.cons (.call 63 (.cons (.var 4) .nil)) .nil) l_law_clouds_0) <|
  .cons (.set 2 (.lst .nil)) <|
  .cons (.for_ (.v 3) .seq (.cons (.var 5) .nil) l_law_clouds_1) <|
  .cons (.ret (.var 2)) <|
  .nil
/-! 66 Knowledge.room_in -/
def n_Knowledge_room_in : List Str := ["self", "rest", "region", "one"]
def p_Knowledge_room_in : List Str := ["self", "rest", "region"]
def f_Knowledge_room_in : List Nat := [0, 1, 2]
def b_Knowledge_room_in : Ss := 
  .cons (.ret (.prim (.bop .Sub) (.cons (.meth [(2, 19), (3, 49), (4, 50)] "room" (.var 2) (.cons (.fld 6 0 (.var 1)) .nil)) (.cons (.prim (.call "sum") (.cons (.comp [3] (.v 3) .seq (.cons (.fld 6 2 (.var 1)) .nil) .nil (.meth [(2, 19), (3, 49), (4, 50)] "room" (.var 2) (.cons (.var 3) .nil))) .nil)) .nil)))) <|
  .nil
/-! 67 Knowledge.bounds -/
def n_Knowledge_bounds : List Str := ["self", "region", "rest", "least", "greatest", "inside", "left"]
def p_Knowledge_bounds : List Str := ["self", "region"]
def f_Knowledge_bounds : List Nat := [0, 1]
def l_Knowledge_bounds_0 : Ss :=
  .cons (.set 5 (.meth [(5, 66)] "room_in" (.var 0) (.cons (.var 2) (.cons (.var 1) .nil)))) <|
  .cons (.ifs (.prim (.cmp .Is) (.cons (.fld 6 1 (.var 2)) (.cons .non .nil))) (.cons (.set 4 (.prim (.bop .Add) (.cons (.var 4) (.cons (.var 5) .nil)))) .nil) (.cons (.set 6 (.meth [(5, 58)] "points_left" (.var 0) (.cons (.var 2) .nil))) (.cons (.set 3 (.prim (.bop .Add) (.cons (.var 3) (.cons (.prim (.call "max") (.cons (.int 0) (.cons (.prim (.bop .Sub) (.cons (.var 6) (.cons (.prim (.bop .Sub) (.cons (.meth [(5, 59)] "room" (.var 0) (.cons (.var 2) .nil)) (.cons (.var 5) .nil))) .nil))) .nil))) .nil)))) (.cons (.set 4 (.prim (.bop .Add) (.cons (.var 4) (.cons (.prim (.call "min") (.cons (.var 6) (.cons (.var 5) .nil))) .nil)))) .nil)))) <|
  .nil
def b_Knowledge_bounds : Ss := 
  .cons (.asg (.t (.cons (.v 3) (.cons (.v 4) .nil))) (.tup (.cons (.int 0) (.cons (.int 0) .nil)))) <|
  .cons (.for_ (.v 2) .seq (.cons (.meth [(5, 57)] "rests" (.var 0) .nil) .nil) l_Knowledge_bounds_0) <|
  .cons (.ret (.tup (.cons (.var 3) (.cons (.var 4) .nil)))) <|
  .nil
/-! 68 law -/
def n_law_v4 : List Str := ["_law_script", "_law_draw", "_law_space", "_law_knowledge", "_law_rows", "_law_turn", "_law_centre", "_law_region", "_law_counts", "_law_row", "_law_point_here"]
def p_law_v4 : List Str := ["_law_script"]
def f_law_v4 : List Nat := [0]
def l_law_v4_0 : Ss :=
  .cons (.set 6 (.call 30 (.cons (.var 1) (.cons (.var 2) .nil)))) <|
  .cons (.set 7 (.call 2 (.cons (.var 1) (.cons (.lst (.cons (.new 3 42 true (.cons (.var 2) (.cons (.var 6) (.cons (.prim (.bop .Sub) (.cons (.call 1 (.cons (.var 1) (.cons (.int 20) .nil))) (.cons (.int 1) .nil))) .nil)))) (.cons (.new 4 43 true (.cons (.var 2) (.cons (.var 6) .nil))) (.cons (.call 31 (.cons (.var 1) (.cons (.var 2) .nil))) .nil)))) .nil)))) <|
  .cons (.set 8 (.comp [9] (.v 9) .seq (.cons (.var 4) .nil) .nil (.prim (.call "len") (.cons (.comp [10] (.v 10) .seq (.cons (.var 9) .nil) (.cons (.meth [(2, 24), (3, 45), (4, 46)] "holds" (.var 7) (.cons (.var 10) .nil)) .nil) (.var 10)) .nil)))) <|
  .cons (.ifs (.prim (.cmp .NotEq) (.cons (.meth [(5, 67)] "bounds" (.var 3) (.cons (.var 7) .nil)) (.cons (.tup (.cons (.prim (.call "min") (.cons (.var 8) .nil)) (.cons (.prim (.call "max") (.cons (.var 8) .nil)) .nil))) .nil))) (.cons (.ret (.bl false)) .nil) .nil) <|
  .nil
def b_law_v4 : Ss := 
  .cons (.set 1 (.lst (.cons (.var 0) (.cons (.int 0) .nil)))) <|
  .cons (.set 2 (.call 52 (.cons (.var 1) .nil))) <|
  .cons (.set 3 (.call 62 (.cons (.var 1) (.cons (.new 1 10 true (.cons (.var 2) (.cons (.call 64 (.cons (.var 1) (.cons (.var 2) .nil))) .nil))) .nil)))) <|
  .cons (.set 4 (.call 65 (.cons (.var 3) .nil))) <|
  .cons (.for_ (.v 5) .rng (.cons (.int 6) .nil) l_law_v4_0) <|
  .cons (.ret (.bl true)) <|
  .nil
/-! 69 Bounds.__init__ -/
def n_Bounds_init : List Str := ["self", "knowledge", "centre"]
def p_Bounds_init : List Str := ["self", "knowledge", "centre"]
def f_Bounds_init : List Nat := [0, 1, 2]
def b_Bounds_init : Ss := 
  .cons (.setF 7 0 0 (.var 1)) <|
  .cons (.setF 7 0 1 (.var 2)) <|
  .nil
/-! 70 greatest_of -/
def n_greatest_of : List Str := ["space"]
def p_greatest_of : List Str := ["space"]
def f_greatest_of : List Nat := [0]
def b_greatest_of : Ss := 
  .cons (.ret (.prim (.bop .Mult) (.cons (.prim (.bop .Mult) (.cons (.fld 0 0 (.var 0)) (.cons (.prim (.bop .Sub) (.cons (.fld 0 3 (.var 0)) (.cons (.int 1) .nil))) .nil))) (.cons (.prim (.bop .Sub) (.cons (.fld 0 3 (.var 0)) (.cons (.int 1) .nil))) .nil)))) <|
  .nil
/-! 71 Knowledge.room_in -/
def n_Knowledge_room_in_v2 : List Str := ["self", "rest", "region", "one"]
def p_Knowledge_room_in_v2 : List Str := ["self", "rest", "region"]
def f_Knowledge_room_in_v2 : List Nat := [0, 1, 2]
def b_Knowledge_room_in_v2 : Ss := 
  .cons (.ret (.prim (.bop .Sub) (.cons (.meth [(2, 19), (3, 49)] "room" (.var 2) (.cons (.fld 6 0 (.var 1)) .nil)) (.cons (.prim (.call "sum") (.cons (.comp [3] (.v 3) .seq (.cons (.fld 6 2 (.var 1)) .nil) .nil (.meth [(2, 19), (3, 49)] "room" (.var 2) (.cons (.var 3) .nil))) .nil)) .nil)))) <|
  .nil
/-! 72 Knowledge.bounds -/
def n_Knowledge_bounds_v2 : List Str := ["self", "region", "rest", "least", "greatest", "inside", "left"]
def p_Knowledge_bounds_v2 : List Str := ["self", "region"]
def f_Knowledge_bounds_v2 : List Nat := [0, 1]
def l_Knowledge_bounds_v2_0 : Ss :=
  .cons (.set 5 (.meth [(5, 71)] "room_in" (.var 0) (.cons (.var 2) (.cons (.var 1) .nil)))) <|
  .cons (.ifs (.prim (.cmp .Is) (.cons (.fld 6 1 (.var 2)) (.cons .non .nil))) (.cons (.set 4 (.prim (.bop .Add) (.cons (.var 4) (.cons (.var 5) .nil)))) .nil) (.cons (.set 6 (.meth [(5, 58)] "points_left" (.var 0) (.cons (.var 2) .nil))) (.cons (.set 3 (.prim (.bop .Add) (.cons (.var 3) (.cons (.prim (.call "max") (.cons (.int 0) (.cons (.prim (.bop .Sub) (.cons (.var 6) (.cons (.prim (.bop .Sub) (.cons (.meth [(5, 59)] "room" (.var 0) (.cons (.var 2) .nil)) (.cons (.var 5) .nil))) .nil))) .nil))) .nil)))) (.cons (.set 4 (.prim (.bop .Add) (.cons (.var 4) (.cons (.prim (.call "min") (.cons (.var 6) (.cons (.var 5) .nil))) .nil)))) .nil)))) <|
  .nil
def b_Knowledge_bounds_v2 : Ss := 
  .cons (.asg (.t (.cons (.v 3) (.cons (.v 4) .nil))) (.tup (.cons (.int 0) (.cons (.int 0) .nil)))) <|
  .cons (.for_ (.v 2) .seq (.cons (.meth [(5, 57)] "rests" (.var 0) .nil) .nil) l_Knowledge_bounds_v2_0) <|
  .cons (.ret (.tup (.cons (.var 3) (.cons (.var 4) .nil)))) <|
  .nil
/-! 73 Bounds.told -/
def n_Bounds_told : List Str := ["self", "square"]
def p_Bounds_told : List Str := ["self", "square"]
def f_Bounds_told : List Nat := [0, 1]
def b_Bounds_told : Ss := 
  .cons (.ret (.meth [(5, 72)] "bounds" (.fld 7 0 (.var 0)) (.cons (.new 3 42 true (.cons (.fld 5 0 (.fld 7 0 (.var 0))) (.cons (.fld 7 1 (.var 0)) (.cons (.var 1) .nil)))) .nil))) <|
  .nil
/-! 74 Bounds.square_for -/
def n_Bounds_square_for : List Str := ["self", "many", "at", "low", "high", "middle"]
def p_Bounds_square_for : List Str := ["self", "many", "at"]
def f_Bounds_square_for : List Nat := [0, 1, 2]
def l_Bounds_square_for_0 : Ss :=
  .cons (.set 5 (.prim (.bop .FloorDiv) (.cons (.prim (.bop .Add) (.cons (.var 3) (.cons (.var 4) .nil))) (.cons (.int 2) .nil)))) <|
  .cons (.ifs (.prim (.cmp .GtE) (.cons (.prim .ix (.cons (.meth [(7, 73)] "told" (.var 0) (.cons (.var 5) .nil)) (.cons (.var 2) .nil))) (.cons (.var 1) .nil))) (.cons (.set 4 (.var 5)) .nil) (.cons (.set 3 (.prim (.bop .Add) (.cons (.var 5) (.cons (.int 1) .nil)))) .nil)) <|
  .nil
def b_Bounds_square_for : Ss := 
  .cons (.par [3, 4] (.cons (.int 0) (.cons (.call 70 (.cons (.fld 5 0 (.fld 7 0 (.var 0))) .nil)) .nil))) <|
  .cons (.ifs (.prim (.cmp .Lt) (.cons (.prim .ix (.cons (.meth [(7, 73)] "told" (.var 0) (.cons (.var 4) .nil)) (.cons (.var 2) .nil))) (.cons (.var 1) .nil))) (.cons (.ret .non) .nil) .nil) <|
  .cons (.whl (.prim (.cmp .Lt) (.cons (.var 3) (.cons (.var 4) .nil))) l_Bounds_square_for_0) <|
  .cons (.ret (.var 3)) <|
  .nil
/-! 75 nearest_bounds -/
def n_nearest_bounds : List Str := ["knowledge", "centre", "many", "told"]
def p_nearest_bounds : List Str := ["knowledge", "centre", "many"]
def f_nearest_bounds : List Nat := [0, 1, 2]
def b_nearest_bounds : Ss := 
  .cons (.expr (.meth [(0, 8)] "check_point" (.fld 5 0 (.var 0)) (.cons (.var 1) .nil))) <|
  .cons (.ifs (.not (.call 3 (.cons (.var 2) (.cons (.int 1) (.cons (.meth [(0, 16)] "size" (.fld 5 0 (.var 0)) (.cons (.tup (.cons (.int 0) (.cons (.int 0) .nil))) .nil)) .nil))))) (.cons .never .nil) .nil) <|
  .cons (.set 3 (.new 7 69 true (.cons (.var 0) (.cons (.var 1) .nil)))) <|
  .cons (.ret (.tup (.cons (.meth [(7, 74)] "square_for" (.var 3) (.cons (.var 2) (.cons (.int 1) .nil))) (.cons (.meth [(7, 74)] "square_for" (.var 3) (.cons (.var 2) (.cons (.int 0) .nil))) .nil)))) <|
  .nil
/-! 76 law -/
def n_law_v5 : List Str := ["_law_script", "_law_draw", "_law_space", "_law_knowledge", "_law_rows", "_law_turn", "_law_squares", "_law_row", "_law_told", "_law_least", "_law_greatest", "_law_centre", "_law_many", "_law_known", "_law_square_here", "_law_point_here"]
def p_law_v5 : List Str := ["_law_script"]
def f_law_v5 : List Nat := [0]
def l_law_v5_0 : Ss :=
  .cons (.set 13 (.prim (.call "sorted") (.cons (.comp [15] (.v 15) .seq (.cons (.var 7) .nil) .nil (.call 39 (.cons (.var 11) (.cons (.var 15) .nil)))) .nil))) <|
  .cons (.expr (.mut .append 6 (.cons (.ite (.prim (.cmp .GtE) (.cons (.prim (.call "len") (.cons (.var 13) .nil)) (.cons (.var 12) .nil))) (.prim .ix (.cons (.var 13) (.cons (.prim (.bop .Sub) (.cons (.var 12) (.cons (.int 1) .nil))) .nil))) .non) .nil))) <|
  .nil
def l_law_v5_1 : Ss :=
  .cons (.parN [11, 12] (.cons (.call 30 (.cons (.var 1) (.cons (.var 2) .nil))) (.cons (.prim (.bop .Add) (.cons (.int 1) (.cons (.call 1 (.cons (.var 1) (.cons (.int 4) .nil))) .nil))) .nil))) <|
  .cons (.set 6 (.lst .nil)) <|
  .cons (.for_ (.v 7) .seq (.cons (.var 4) .nil) l_law_v5_0) <|
  .cons (.set 8 (.comp [14] (.v 14) .seq (.cons (.var 6) .nil) (.cons (.prim (.cmp .IsNot) (.cons (.var 14) (.cons .non .nil))) .nil) (.var 14))) <|
  .cons (.set 9 (.ite (.prim (.cmp .NotEq) (.cons (.var 8) (.cons (.lst .nil) .nil))) (.prim (.call "min") (.cons (.var 8) .nil)) .non)) <|
  .cons (.set 10 (.ite (.prim (.cmp .NotIn) (.cons .non (.cons (.var 6) .nil))) (.prim (.call "max") (.cons (.var 8) .nil)) .non)) <|
  .cons (.ifs (.prim (.cmp .NotEq) (.cons (.call 75 (.cons (.var 3) (.cons (.var 11) (.cons (.var 12) .nil)))) (.cons (.tup (.cons (.var 9) (.cons (.var 10) .nil))) .nil))) (.cons (.ret (.bl false)) .nil) .nil) <|
  .nil
def b_law_v5 : Ss := 
  .cons (.set 1 (.lst (.cons (.var 0) (.cons (.int 0) .nil)))) <|
  .cons (.set 2 (.call 52 (.cons (.var 1) .nil))) <|
  .cons (.set 3 (.call 62 (.cons (.var 1) (.cons (.new 1 10 true (.cons (.var 2) (.cons (.call 64 (.cons (.var 1) (.cons (.var 2) .nil))) .nil))) .nil)))) <|
  .cons (.set 4 (.call 65 (.cons (.var 3) .nil))) <|
  .cons (.for_ (.v 5) .rng (.cons (.int 3) .nil) l_law_v5_1) <|
  .cons (.ret (.bl true)) <|
  .nil
/-! 77 is_possible -/
def n_is_possible : List Str := ["knowledge", "centre", "point", "inner"]
def p_is_possible : List Str := ["knowledge", "centre", "point"]
def f_is_possible : List Nat := [0, 1, 2]
def b_is_possible : Ss := 
  .cons (.expr (.meth [(0, 8)] "check_point" (.fld 5 0 (.var 0)) (.cons (.var 2) .nil))) <|
  .cons (.set 3 (.new 3 42 true (.cons (.fld 5 0 (.var 0)) (.cons (.var 1) (.cons (.prim (.bop .Sub) (.cons (.call 36 (.cons (.var 1) (.cons (.var 2) .nil))) (.cons (.int 1) .nil))) .nil))))) <|
  .cons (.ret (.and (.cons (.prim (.cmp .Eq) (.cons (.prim .ix (.cons (.meth [(5, 67)] "bounds" (.var 0) (.cons (.var 3) .nil)) (.cons (.int 0) .nil))) (.cons (.int 0) .nil))) (.cons (.prim (.cmp .Eq) (.cons (.prim .ix (.cons (.meth [(5, 67)] "bounds" (.var 0) (.cons (.new 4 43 true (.cons (.fld 5 0 (.var 0)) (.cons (.var 2) .nil))) .nil)) (.cons (.int 1) .nil))) (.cons (.int 1) .nil))) .nil)))) <|
  .nil
/-! 78 is_sure -/
def n_is_sure : List Str := ["knowledge", "centre", "point", "inner"]
def p_is_sure : List Str := ["knowledge", "centre", "point"]
def f_is_sure : List Nat := [0, 1, 2]
def b_is_sure : Ss := 
  .cons (.expr (.meth [(0, 8)] "check_point" (.fld 5 0 (.var 0)) (.cons (.var 2) .nil))) <|
  .cons (.set 3 (.new 3 42 true (.cons (.fld 5 0 (.var 0)) (.cons (.var 1) (.cons (.prim (.bop .Sub) (.cons (.call 36 (.cons (.var 1) (.cons (.var 2) .nil))) (.cons (.int 1) .nil))) .nil))))) <|
  .cons (.ret (.and (.cons (.prim (.cmp .Eq) (.cons (.prim .ix (.cons (.meth [(5, 67)] "bounds" (.var 0) (.cons (.var 3) .nil)) (.cons (.int 1) .nil))) (.cons (.int 0) .nil))) (.cons (.prim (.cmp .Eq) (.cons (.prim .ix (.cons (.meth [(5, 67)] "bounds" (.var 0) (.cons (.new 4 43 true (.cons (.fld 5 0 (.var 0)) (.cons (.var 2) .nil))) .nil)) (.cons (.int 0) .nil))) (.cons (.int 1) .nil))) .nil)))) <|
  .nil
/-! 79 law -/
def n_law_v6 : List Str := ["_law_script", "_law_draw", "_law_space", "_law_knowledge", "_law_rows", "_law_turn", "_law_centre", "_law_point_here", "_law_row", "_law_square_here", "_law_times", "_law_one"]
def p_law_v6 : List Str := ["_law_script"]
def f_law_v6 : List Nat := [0]
def l_law_v6_0 : Ss :=
  .cons (.ifs (.and (.cons (.prim (.cmp .In) (.cons (.var 7) (.cons (.var 8) .nil))) (.cons (.prim (.cmp .Eq) (.cons (.prim (.call "min") (.cons (.comp [11] (.v 11) .seq (.cons (.var 8) .nil) .nil (.call 39 (.cons (.var 6) (.cons (.var 11) .nil)))) .nil)) (.cons (.var 9) .nil))) .nil))) (.cons (.set 10 (.prim (.bop .Add) (.cons (.var 10) (.cons (.int 1) .nil)))) .nil) .nil) <|
  .nil
def l_law_v6_1 : Ss :=
  .cons (.par [9, 10] (.cons (.call 39 (.cons (.var 6) (.cons (.var 7) .nil))) (.cons (.int 0) .nil))) <|
  .cons (.for_ (.v 8) .seq (.cons (.var 4) .nil) l_law_v6_0) <|
  .cons (.ifs (.or (.cons (.prim (.cmp .NotEq) (.cons (.call 77 (.cons (.var 3) (.cons (.var 6) (.cons (.var 7) .nil)))) (.cons (.prim (.cmp .Gt) (.cons (.var 10) (.cons (.int 0) .nil))) .nil))) (.cons (.prim (.cmp .NotEq) (.cons (.call 78 (.cons (.var 3) (.cons (.var 6) (.cons (.var 7) .nil)))) (.cons (.prim (.cmp .Eq) (.cons (.var 10) (.cons (.prim (.call "len") (.cons (.var 4) .nil)) .nil))) .nil))) .nil))) (.cons (.ret (.bl false)) .nil) .nil) <|
  .nil
def l_law_v6_2 : Ss :=
  .cons (.set 6 (.call 30 (.cons (.var 1) (.cons (.var 2) .nil)))) <|
  .cons (.for_ (.v 7) .seq (.cons (.call 63 (.cons (.var 2) .nil)) .nil) l_law_v6_1) <|
  .nil
def b_law_v6 : Ss := 
  .cons (.set 1 (.lst (.cons (.var 0) (.cons (.int 0) .nil)))) <|
  .cons (.set 2 (.call 52 (.cons (.var 1) .nil))) <|
  .cons (.set 3 (.call 62 (.cons (.var 1) (.cons (.new 1 10 true (.cons (.var 2) (.cons (.call 64 (.cons (.var 1) (.cons (.var 2) .nil))) .nil))) .nil)))) <|
  .cons (.set 4 (.call 65 (.cons (.var 3) .nil))) <|
  .cons (.for_ (.v 5) .rng (.cons (.int 2) .nil) l_law_v6_2) <|
  .cons (.ret (.bl true)) <|
  .nil
/-! 80 Knowledge.room_in -/
def n_Knowledge_room_in_v3 : List Str := ["self", "rest", "region", "one"]
def p_Knowledge_room_in_v3 : List Str := ["self", "rest", "region"]
def f_Knowledge_room_in_v3 : List Nat := [0, 1, 2]
def b_Knowledge_room_in_v3 : Ss := 
  .cons (.ret (.prim (.bop .Sub) (.cons (.meth [(2, 19)] "room" (.var 2) (.cons (.fld 6 0 (.var 1)) .nil)) (.cons (.prim (.call "sum") (.cons (.comp [3] (.v 3) .seq (.cons (.fld 6 2 (.var 1)) .nil) .nil (.meth [(2, 19)] "room" (.var 2) (.cons (.var 3) .nil))) .nil)) .nil)))) <|
  .nil
/-! 81 Knowledge.bounds -/
def n_Knowledge_bounds_v3 : List Str := ["self", "region", "rest", "least", "greatest", "inside", "left"]
def p_Knowledge_bounds_v3 : List Str := ["self", "region"]
def f_Knowledge_bounds_v3 : List Nat := [0, 1]
def l_Knowledge_bounds_v3_0 : Ss :=
  .cons (.set 5 (.meth [(5, 80)] "room_in" (.var 0) (.cons (.var 2) (.cons (.var 1) .nil)))) <|
  .cons (.ifs (.prim (.cmp .Is) (.cons (.fld 6 1 (.var 2)) (.cons .non .nil))) (.cons (.set 4 (.prim (.bop .Add) (.cons (.var 4) (.cons (.var 5) .nil)))) .nil) (.cons (.set 6 (.meth [(5, 58)] "points_left" (.var 0) (.cons (.var 2) .nil))) (.cons (.set 3 (.prim (.bop .Add) (.cons (.var 3) (.cons (.prim (.call "max") (.cons (.int 0) (.cons (.prim (.bop .Sub) (.cons (.var 6) (.cons (.prim (.bop .Sub) (.cons (.meth [(5, 59)] "room" (.var 0) (.cons (.var 2) .nil)) (.cons (.var 5) .nil))) .nil))) .nil))) .nil)))) (.cons (.set 4 (.prim (.bop .Add) (.cons (.var 4) (.cons (.prim (.call "min") (.cons (.var 6) (.cons (.var 5) .nil))) .nil)))) .nil)))) <|
  .nil
def b_Knowledge_bounds_v3 : Ss := 
  .cons (.asg (.t (.cons (.v 3) (.cons (.v 4) .nil))) (.tup (.cons (.int 0) (.cons (.int 0) .nil)))) <|
  .cons (.for_ (.v 2) .seq (.cons (.meth [(5, 57)] "rests" (.var 0) .nil) .nil) l_Knowledge_bounds_v3_0) <|
  .cons (.ret (.tup (.cons (.var 3) (.cons (.var 4) .nil)))) <|
  .nil
/-! 82 Knowledge.joined -/
def n_Knowledge_joined : List Str := ["self", "other", "prefix", "count"]
def p_Knowledge_joined : List Str := ["self", "other"]
def f_Knowledge_joined : List Nat := [0, 1]
def l_Knowledge_joined_0 : Ss :=
  .cons (.ifs (.prim (.cmp .NotEq) (.cons (.dget (.fld 5 1 (.var 0)) (.cons (.var 2) (.cons (.var 3) .nil))) (.cons (.var 3) .nil))) (.cons .never .nil) .nil) <|
  .nil
def b_Knowledge_joined : Ss := 
  .cons (.for_ (.t (.cons (.v 2) (.cons (.v 3) .nil))) .items (.cons (.fld 5 1 (.var 1)) .nil) l_Knowledge_joined_0) <|
  .cons (.ret (.new 5 61 true (.cons (.fld 5 0 (.var 0)) (.cons (.mrg (.fld 5 1 (.var 0)) (.fld 5 1 (.var 1))) .nil)))) <|
  .nil
/-! 83 piece_of -/
def n_piece_of : List Str := ["cloud", "prefix", "deeper", "turn", "found", "level", "one", "bit"]
def p_piece_of : List Str := ["cloud", "prefix", "deeper"]
def f_piece_of : List Nat := [0, 1, 2]
def l_piece_of_0 : Ss :=
  .cons (.setIx 4 (.var 6) (.meth [(1, 22)] "count" (.var 0) (.cons (.var 6) .nil))) <|
  .nil
def l_piece_of_1 : Ss :=
  .cons (.for_ (.v 6) .seq (.cons (.var 5) .nil) l_piece_of_0) <|
  .cons (.set 5 (.comp2 [6, 7] (.v 6) .seq (.cons (.var 5) .nil) [7] (.v 7) .seq (.cons (.tup (.cons (.int 0) (.cons (.int 1) .nil))) .nil) (.cons (.prim (.cmp .Lt) (.cons (.prim .ix (.cons (.var 6) (.cons (.int 0) .nil))) (.cons (.fld 0 2 (.fld 1 0 (.var 0))) .nil))) .nil) (.tup (.cons (.prim (.bop .Add) (.cons (.prim .ix (.cons (.var 6) (.cons (.int 0) .nil))) (.cons (.int 1) .nil))) (.cons (.prim (.bop .Add) (.cons (.prim (.bop .Mult) (.cons (.prim .ix (.cons (.var 6) (.cons (.int 1) .nil))) (.cons (.int 2) .nil))) (.cons (.var 7) .nil))) .nil))))) <|
  .nil
def b_piece_of : Ss := 
  .cons (.par [4, 5] (.cons (.dic0 true) (.cons (.lst (.cons (.var 1) .nil)) .nil))) <|
  .cons (.for_ (.v 3) .rng (.cons (.prim (.bop .Add) (.cons (.var 2) (.cons (.int 1) .nil))) .nil) l_piece_of_1) <|
  .cons (.ret (.var 4)) <|
  .nil
/-! 84 Knowledge.known -/
def n_Knowledge_known : List Str := ["self", "prefix", "lows", "highs", "least", "greatest"]
def p_Knowledge_known : List Str := ["self", "prefix"]
def f_Knowledge_known : List Nat := [0, 1]
def b_Knowledge_known : Ss := 
  .cons (.asg (.t (.cons (.v 2) (.cons (.v 3) .nil))) (.meth [(0, 18)] "cell" (.fld 5 0 (.var 0)) (.cons (.var 1) .nil))) <|
  .cons (.asg (.t (.cons (.v 4) (.cons (.v 5) .nil))) (.meth [(5, 81)] "bounds" (.var 0) (.cons (.new 2 14 true (.cons (.fld 5 0 (.var 0)) (.cons (.var 2) (.cons (.var 3) .nil)))) .nil))) <|
  .cons (.ret (.ite (.prim (.cmp .Eq) (.cons (.var 4) (.cons (.var 5) .nil))) (.var 4) .non)) <|
  .nil
/-! 85 Space.__eq__ -/
def n_Space_eq : List Str := ["self", "other"]
def p_Space_eq : List Str := ["self", "other"]
def f_Space_eq : List Nat := [0, 1]
def b_Space_eq : Ss := 
  .cons (.ret (.and (.cons (.isi (.var 1) (.own 0)) (.cons (.prim (.cmp .Eq) (.cons (.tup (.cons (.fld 0 0 (.var 0)) (.cons (.fld 0 1 (.var 0)) .nil))) (.cons (.tup (.cons (.fld 0 0 (.var 1)) (.cons (.fld 0 1 (.var 1)) .nil))) .nil))) .nil)))) <|
  .nil
/-! 86 Cloud.__eq__ -/
def n_Cloud_eq : List Str := ["self", "other"]
def p_Cloud_eq : List Str := ["self", "other"]
def f_Cloud_eq : List Nat := [0, 1]
def b_Cloud_eq : Ss := 
  .cons (.ret (.and (.cons (.isi (.var 1) (.own 1)) (.cons (.meq false [(0, 85)] (.fld 1 0 (.var 0)) (.fld 1 0 (.var 1))) (.cons (.prim (.cmp .Eq) (.cons (.fld 1 1 (.var 0)) (.cons (.fld 1 1 (.var 1)) .nil))) .nil))))) <|
  .nil
/-! 87 Knowledge.places -/
def n_Knowledge_places : List Str := ["self", "rest", "size", "numbers", "depth", "number", "one"]
def p_Knowledge_places : List Str := ["self", "rest"]
def f_Knowledge_places : List Nat := [0, 1]
def b_Knowledge_places : Ss := 
  .cons (.set 2 (.meth [(0, 16)] "size" (.fld 5 0 (.var 0)) (.cons (.fld 6 0 (.var 1)) .nil))) <|
  .cons (.set 3 (.prim (.ty "range") (.cons (.prim (.bop .Mult) (.cons (.prim .ix (.cons (.fld 6 0 (.var 1)) (.cons (.int 1) .nil))) (.cons (.var 2) .nil))) (.cons (.prim (.bop .Add) (.cons (.prim (.bop .Mult) (.cons (.prim .ix (.cons (.fld 6 0 (.var 1)) (.cons (.int 1) .nil))) (.cons (.var 2) .nil))) (.cons (.var 2) .nil))) .nil)))) <|
  .cons (.set 4 (.fld 0 2 (.fld 5 0 (.var 0)))) <|
  .cons (.ret (.comp [5] (.v 5) .seq (.cons (.var 3) .nil) (.cons (.not (.prim (.call "any") (.cons (.comp [6] (.v 6) .seq (.cons (.fld 6 2 (.var 1)) .nil) .nil (.call 26 (.cons (.tup (.cons (.var 4) (.cons (.var 5) .nil))) (.cons (.var 6) .nil)))) .nil))) .nil) (.var 5))) <|
  .nil
/-! 88 cloud_of -/
def n_cloud_of : List Str := ["space", "numbers", "number"]
def p_cloud_of : List Str := ["space", "numbers"]
def f_cloud_of : List Nat := [0, 1]
def b_cloud_of : Ss := 
  .cons (.ret (.new 1 10 true (.cons (.var 0) (.cons (.comp [2] (.v 2) .seq (.cons (.var 1) .nil) .nil (.meth [(0, 17)] "point_of" (.var 0) (.cons (.var 2) .nil))) .nil)))) <|
  .nil
/-! 89 Knowledge.some_cloud -/
def n_Knowledge_some_cloud : List Str := ["self", "region", "is_most", "found", "rest", "places", "inside", "outside", "order", "number"]
def p_Knowledge_some_cloud : List Str := ["self", "region", "is_most"]
def f_Knowledge_some_cloud : List Nat := [0, 1, 2]
def l_Knowledge_some_cloud_0 : Ss :=
  .cons (.set 5 (.meth [(5, 87)] "places" (.var 0) (.cons (.var 4) .nil))) <|
  .cons (.set 6 (.comp [9] (.v 9) .seq (.cons (.var 5) .nil) (.cons (.meth [(2, 24)] "holds" (.var 1) (.cons (.meth [(0, 17)] "point_of" (.fld 5 0 (.var 0)) (.cons (.var 9) .nil)) .nil)) .nil) (.var 9))) <|
  .cons (.set 7 (.comp [9] (.v 9) .seq (.cons (.var 5) .nil) (.cons (.not (.meth [(2, 24)] "holds" (.var 1) (.cons (.meth [(0, 17)] "point_of" (.fld 5 0 (.var 0)) (.cons (.var 9) .nil)) .nil))) .nil) (.var 9))) <|
  .cons (.ifs (.prim (.cmp .Is) (.cons (.fld 6 1 (.var 4)) (.cons .non .nil))) (.cons (.aug 3 .Add (.ite (.var 2) (.var 6) (.lst .nil))) .nil) (.cons (.set 8 (.ite (.var 2) (.prim (.bop .Add) (.cons (.var 6) (.cons (.var 7) .nil))) (.prim (.bop .Add) (.cons (.var 7) (.cons (.var 6) .nil))))) (.cons (.aug 3 .Add (.prim (.sl false true) (.cons (.var 8) (.cons (.meth [(5, 58)] "points_left" (.var 0) (.cons (.var 4) .nil)) .nil)))) .nil))) <|
  .nil
def b_Knowledge_some_cloud : Ss := 
  .cons (.set 3 (.lst .nil)) <|
  .cons (.for_ (.v 4) .seq (.cons (.meth [(5, 57)] "rests" (.var 0) .nil) .nil) l_Knowledge_some_cloud_0) <|
  .cons (.ret (.call 88 (.cons (.fld 5 0 (.var 0)) (.cons (.prim (.call "sorted") (.cons (.var 3) .nil)) .nil)))) <|
  .nil
/-! 90 law -/
def n_law_v7 : List Str := ["_law_script", "_law_draw", "_law_turn", "_law_space_here", "_law_known", "_law_bounds", "_law_again", "_law_box_here", "_law_cloud_here", "_law_boxes", "_law_length", "_law_prefix", "_law_late", "_law_told", "_law_implied", "_law_count", "_law_inside", "_law_least", "_law_greatest", "_law_low", "_law_high", "_law_point_here"]
def p_law_v7 : List Str := ["_law_script"]
def f_law_v7 : List Nat := [0]
def l_law_v7_0 : Ss :=
  .cons (.ifs (.not (.chain3 .LtE .LtE .LtE (.var 17) (.var 19) (.var 20) (.var 18))) (.cons (.ret (.bl false)) .nil) .nil) <|
  .nil
def l_law_v7_1 : Ss :=
  .cons (.set 10 (.call 1 (.cons (.var 1) (.cons (.prim (.bop .Add) (.cons (.fld 0 2 (.var 3)) (.cons (.int 1) .nil))) .nil)))) <|
  .cons (.set 11 (.tup (.cons (.var 10) (.cons (.call 1 (.cons (.var 1) (.cons (.call 25 (.cons (.var 10) .nil)) .nil))) .nil)))) <|
  .cons (.set 4 (.meth [(5, 82)] "joined" (.var 4) (.cons (.new 5 61 true (.cons (.var 3) (.cons (.call 83 (.cons (.var 8) (.cons (.var 11) (.cons (.call 1 (.cons (.var 1) (.cons (.int 3) .nil))) .nil)))) .nil))) .nil))) <|
  .cons (.set 12 (.comp [7] (.v 7) .seq (.cons (.var 9) .nil) .nil (.meth [(5, 81)] "bounds" (.var 4) (.cons (.var 7) .nil)))) <|
  .cons (.for_ (.t (.cons (.t (.cons (.v 17) (.cons (.v 18) .nil))) (.cons (.t (.cons (.v 19) (.cons (.v 20) .nil))) .nil))) .zip (.cons (.var 5) (.cons (.var 12) .nil)) l_law_v7_0) <|
  .cons (.set 5 (.var 12)) <|
  .cons (.set 13 (.meth [(5, 84)] "known" (.var 4) (.cons (.var 11) .nil))) <|
  .cons (.ifs (.prim (.cmp .NotEq) (.cons (.var 13) (.cons (.meth [(1, 22)] "count" (.var 8) (.cons (.var 11) .nil)) .nil))) (.cons (.ret (.bl false)) .nil) .nil) <|
  .cons (.set 14 (.ite (.prim (.cmp .Gt) (.cons (.var 10) (.cons (.int 0) .nil))) (.tup (.cons (.prim (.bop .Sub) (.cons (.var 10) (.cons (.int 1) .nil))) (.cons (.prim (.bop .FloorDiv) (.cons (.prim .ix (.cons (.var 11) (.cons (.int 1) .nil))) (.cons (.int 2) .nil))) .nil))) (.var 11))) <|
  .cons (.set 15 (.meth [(5, 84)] "known" (.var 4) (.cons (.var 14) .nil))) <|
  .cons (.ifs (.and (.cons (.prim (.cmp .IsNot) (.cons (.var 15) (.cons .non .nil))) (.cons (.prim (.cmp .NotEq) (.cons (.comp [7] (.v 7) .seq (.cons (.var 9) .nil) .nil (.meth [(5, 81)] "bounds" (.meth [(5, 82)] "joined" (.var 4) (.cons (.new 5 61 true (.cons (.var 3) (.cons (.dic1 (.var 14) (.var 15)) .nil))) .nil)) (.cons (.var 7) .nil))) (.cons (.var 12) .nil))) .nil))) (.cons (.ret (.bl false)) .nil) .nil) <|
  .nil
def l_law_v7_2 : Ss :=
  .cons (.set 16 (.prim (.call "len") (.cons (.comp [21] (.v 21) .seq (.cons (.meth [(1, 23)] "points" (.var 8) .nil) .nil) (.cons (.meth [(2, 24)] "holds" (.var 7) (.cons (.var 21) .nil)) .nil) (.var 21)) .nil))) <|
  .cons (.ifs (.or (.cons (.prim (.cmp .NotEq) (.cons (.meth [(5, 81)] "bounds" (.var 4) (.cons (.var 7) .nil)) (.cons (.tup (.cons (.var 16) (.cons (.var 16) .nil))) .nil))) (.cons (.meq true [(1, 86)] (.meth [(5, 89)] "some_cloud" (.var 4) (.cons (.var 7) (.cons (.bl true) .nil))) (.var 8)) .nil))) (.cons (.ret (.bl false)) .nil) .nil) <|
  .nil
def l_law_v7_3 : Ss :=
  .cons (.set 3 (.call 6 (.cons (.var 1) (.cons (.int 7) .nil)))) <|
  .cons (.par [8, 9] (.cons (.call 13 (.cons (.var 1) (.cons (.var 3) (.cons (.int 10) .nil)))) (.cons (.comp [6] (.v 6) .rng (.cons (.int 3) .nil) .nil (.call 15 (.cons (.var 1) (.cons (.var 3) .nil)))) .nil))) <|
  .cons (.set 4 (.new 5 61 true (.cons (.var 3) (.cons (.dic0 true) .nil)))) <|
  .cons (.set 5 (.comp [7] (.v 7) .seq (.cons (.var 9) .nil) .nil (.meth [(5, 81)] "bounds" (.var 4) (.cons (.var 7) .nil)))) <|
  .cons (.ifs (.prim (.cmp .NotEq) (.cons (.var 5) (.cons (.comp [7] (.v 7) .seq (.cons (.var 9) .nil) .nil (.tup (.cons (.int 0) (.cons (.meth [(2, 19)] "room" (.var 7) (.cons (.tup (.cons (.int 0) (.cons (.int 0) .nil))) .nil)) .nil)))) .nil))) (.cons (.ret (.bl false)) .nil) .nil) <|
  .cons (.for_ (.v 6) .rng (.cons (.int 4) .nil) l_law_v7_1) <|
  .cons (.set 4 (.meth [(5, 82)] "joined" (.var 4) (.cons (.new 5 61 true (.cons (.var 3) (.cons (.call 83 (.cons (.var 8) (.cons (.tup (.cons (.int 0) (.cons (.int 0) .nil))) (.cons (.fld 0 2 (.var 3)) .nil)))) .nil))) .nil))) <|
  .cons (.for_ (.v 7) .seq (.cons (.var 9) .nil) l_law_v7_2) <|
  .nil
def b_law_v7 : Ss := 
  .cons (.set 1 (.lst (.cons (.var 0) (.cons (.int 0) .nil)))) <|
  .cons (.for_ (.v 2) .rng (.cons (.int 2) .nil) l_law_v7_3) <|
  .cons (.ret (.bl true)) <|
  .nil
/-! 91 choices -/
def n_choices : List Str := ["many", "some", "found", "turn"]
def p_choices : List Str := ["many", "some"]
def f_choices : List Nat := [0, 1]
def l_choices_0 : Ss :=
  .cons (.set 2 (.prim (.bop .FloorDiv) (.cons (.prim (.bop .Mult) (.cons (.var 2) (.cons (.prim (.bop .Sub) (.cons (.var 0) (.cons (.var 3) .nil))) .nil))) (.cons (.prim (.bop .Add) (.cons (.var 3) (.cons (.int 1) .nil))) .nil)))) <|
  .nil
def b_choices : Ss := 
  .cons (.ifs (.not (.chain .LtE .LtE (.int 0) (.var 1) (.var 0))) (.cons (.ret (.int 0)) .nil) .nil) <|
  .cons (.set 2 (.int 1)) <|
  .cons (.for_ (.v 3) .rng (.cons (.prim (.call "min") (.cons (.var 1) (.cons (.prim (.bop .Sub) (.cons (.var 0) (.cons (.var 1) .nil))) .nil))) .nil) l_choices_0) <|
  .cons (.ret (.var 2)) <|
  .nil
/-! 92 bits_for -/
def n_bits_for : List Str := ["many", "found", "room"]
def p_bits_for : List Str := ["many"]
def f_bits_for : List Nat := [0]
def l_bits_for_0 : Ss :=
  .cons (.par [1, 2] (.cons (.prim (.bop .Add) (.cons (.var 1) (.cons (.int 1) .nil))) (.cons (.prim (.bop .Mult) (.cons (.var 2) (.cons (.int 2) .nil))) .nil))) <|
  .nil
def b_bits_for : Ss := 
  .cons (.asg (.t (.cons (.v 1) (.cons (.v 2) .nil))) (.tup (.cons (.int 0) (.cons (.int 1) .nil)))) <|
  .cons (.whl (.prim (.cmp .Lt) (.cons (.var 2) (.cons (.var 0) .nil))) l_bits_for_0) <|
  .cons (.ret (.var 1)) <|
  .nil
/-! 93 bits_of -/
def n_bits_of : List Str := ["number", "many", "found", "turn"]
def p_bits_of : List Str := ["number", "many"]
def f_bits_of : List Nat := [1]
def l_bits_of_0 : Ss :=
  .cons (.expr (.mut .append 2 (.cons (.prim (.bop .Mod) (.cons (.prim (.ty "int") (.cons (.var 0) .nil)) (.cons (.int 2) .nil))) .nil))) <|
  .cons (.set 0 (.prim (.bop .FloorDiv) (.cons (.var 0) (.cons (.int 2) .nil)))) <|
  .nil
def b_bits_of : Ss := 
  .cons (.set 2 (.lst .nil)) <|
  .cons (.for_ (.v 3) .rng (.cons (.var 1) .nil) l_bits_of_0) <|
  .cons (.ret (.prim (.ty "tuple") (.cons (.prim .rev (.cons (.var 2) .nil)) .nil))) <|
  .nil
/-! 94 number_of -/
def n_number_of : List Str := ["bits", "found", "bit"]
def p_number_of : List Str := ["bits"]
def f_number_of : List Nat := [0]
def l_number_of_0 : Ss :=
  .cons (.set 1 (.prim (.bop .Add) (.cons (.prim (.bop .Mult) (.cons (.var 1) (.cons (.int 2) .nil))) (.cons (.var 2) .nil)))) <|
  .nil
def b_number_of : Ss := 
  .cons (.set 1 (.int 0)) <|
  .cons (.for_ (.v 2) .seq (.cons (.var 0) .nil) l_number_of_0) <|
  .cons (.ret (.var 1)) <|
  .nil
/-! 95 law -/
def n_law_v8 : List Str := ["_law_script", "_law_draw", "_law_turn", "_law_many", "_law_some", "_law_number_here", "_law_least", "_law_bits", "_law_one", "_law_other", "_law_bit"]
def p_law_v8 : List Str := ["_law_script"]
def f_law_v8 : List Nat := [0]
def l_law_v8_0 : Ss :=
  .cons (.set 3 (.ite (.prim (.cmp .Lt) (.cons (.var 2) (.cons (.int 5) .nil))) (.call 1 (.cons (.var 1) (.cons (.int 14) .nil))) (.call 1 (.cons (.var 1) (.cons (.int 2000) .nil))))) <|
  .cons (.set 4 (.prim (.bop .Sub) (.cons (.call 1 (.cons (.var 1) (.cons (.int 12) .nil))) (.cons (.int 2) .nil)))) <|
  .cons (.ifs (.and (.cons (.prim (.cmp .Gt) (.cons (.var 3) (.cons (.int 0) .nil))) (.cons (.prim (.cmp .NotEq) (.cons (.call 91 (.cons (.var 3) (.cons (.var 4) .nil))) (.cons (.prim (.bop .Add) (.cons (.call 91 (.cons (.prim (.bop .Sub) (.cons (.var 3) (.cons (.int 1) .nil))) (.cons (.var 4) .nil))) (.cons (.call 91 (.cons (.prim (.bop .Sub) (.cons (.var 3) (.cons (.int 1) .nil))) (.cons (.prim (.bop .Sub) (.cons (.var 4) (.cons (.int 1) .nil))) .nil))) .nil))) .nil))) .nil))) (.cons (.ret (.bl false)) .nil) .nil) <|
  .cons (.ifs (.and (.cons (.prim (.cmp .Lt) (.cons (.var 2) (.cons (.int 5) .nil))) (.cons (.prim (.cmp .NotEq) (.cons (.prim (.call "sum") (.cons (.comp [8] (.v 8) .rng (.cons (.prim (.bop .Add) (.cons (.var 3) (.cons (.int 1) .nil))) .nil) .nil (.call 91 (.cons (.var 3) (.cons (.var 8) .nil)))) .nil)) (.cons (.call 4 (.cons (.var 3) .nil)) .nil))) .nil))) (.cons (.ret (.bl false)) .nil) .nil) <|
  .cons (.ifs (.or (.cons (.prim (.cmp .NotEq) (.cons (.call 91 (.cons (.var 3) (.cons (.var 3) .nil))) (.cons (.int 1) .nil))) (.cons (.prim (.cmp .NotEq) (.cons (.call 91 (.cons (.var 3) (.cons (.int 0) .nil))) (.cons (.int 1) .nil))) (.cons (.prim (.cmp .NotEq) (.cons (.call 91 (.cons (.var 3) (.cons (.prim (.bop .Add) (.cons (.var 3) (.cons (.int 1) .nil))) .nil))) (.cons (.int 0) .nil))) (.cons (.prim (.cmp .NotEq) (.cons (.call 91 (.cons (.var 3) (.cons (.prim .neg (.cons (.int 1) .nil)) .nil))) (.cons (.int 0) .nil))) .nil))))) (.cons (.ret (.bl false)) .nil) .nil) <|
  .cons (.set 5 (.prim (.bop .Add) (.cons (.int 1) (.cons (.call 1 (.cons (.var 1) (.cons (.prim (.bop .Pow) (.cons (.int 10) (.cons (.int 6) .nil))) .nil))) .nil)))) <|
  .cons (.set 6 (.call 92 (.cons (.var 5) .nil))) <|
  .cons (.ifs (.or (.cons (.prim (.cmp .Lt) (.cons (.call 4 (.cons (.var 6) .nil)) (.cons (.var 5) .nil))) (.cons (.and (.cons (.prim (.cmp .Gt) (.cons (.var 6) (.cons (.int 0) .nil))) (.cons (.prim (.cmp .GtE) (.cons (.call 4 (.cons (.prim (.bop .Sub) (.cons (.var 6) (.cons (.int 1) .nil))) .nil)) (.cons (.var 5) .nil))) .nil))) .nil))) (.cons (.ret (.bl false)) .nil) .nil) <|
  .cons (.set 7 (.call 93 (.cons (.prim (.bop .Sub) (.cons (.var 5) (.cons (.int 1) .nil))) (.cons (.var 6) .nil)))) <|
  .cons (.ifs (.or (.cons (.prim (.cmp .NotEq) (.cons (.prim (.call "len") (.cons (.var 7) .nil)) (.cons (.var 6) .nil))) (.cons (.prim (.cmp .NotEq) (.cons (.call 94 (.cons (.var 7) .nil)) (.cons (.prim (.bop .Sub) (.cons (.var 5) (.cons (.int 1) .nil))) .nil))) (.cons (.prim (.call "any") (.cons (.comp [10] (.v 10) .seq (.cons (.var 7) .nil) .nil (.prim (.cmp .NotIn) (.cons (.var 10) (.cons (.tup (.cons (.int 0) (.cons (.int 1) .nil))) .nil)))) .nil)) .nil)))) (.cons (.ret (.bl false)) .nil) .nil) <|
  .cons (.ifs (.or (.cons (.prim (.cmp .NotEq) (.cons (.call 94 (.cons (.prim (.bop .Add) (.cons (.tup (.cons (.int 0) (.cons (.int 0) .nil))) (.cons (.var 7) .nil))) .nil)) (.cons (.prim (.bop .Sub) (.cons (.var 5) (.cons (.int 1) .nil))) .nil))) (.cons (.prim (.cmp .NotEq) (.cons (.call 93 (.cons (.prim (.bop .Sub) (.cons (.var 5) (.cons (.int 1) .nil))) (.cons (.prim (.bop .Add) (.cons (.var 6) (.cons (.int 3) .nil))) .nil))) (.cons (.prim (.bop .Add) (.cons (.tup (.cons (.int 0) (.cons (.int 0) (.cons (.int 0) .nil)))) (.cons (.var 7) .nil))) .nil))) .nil))) (.cons (.ret (.bl false)) .nil) .nil) <|
  .nil
def b_law_v8 : Ss := 
  .cons (.set 1 (.lst (.cons (.var 0) (.cons (.int 0) .nil)))) <|
  .cons (.for_ (.v 2) .rng (.cons (.int 8) .nil) l_law_v8_0) <|
  .cons (.par [8, 9] (.cons (.call 1 (.cons (.var 1) (.cons (.int 60) .nil))) (.cons (.call 1 (.cons (.var 1) (.cons (.int 60) .nil))) .nil))) <|
  .cons (.ifs (.or (.cons (.prim (.cmp .NotEq) (.cons (.call 92 (.cons (.call 4 (.cons (.var 8) .nil)) .nil)) (.cons (.var 8) .nil))) (.cons (.prim (.cmp .NotEq) (.cons (.call 92 (.cons (.prim (.bop .Add) (.cons (.call 4 (.cons (.var 8) .nil)) (.cons (.int 1) .nil))) .nil)) (.cons (.prim (.bop .Add) (.cons (.var 8) (.cons (.int 1) .nil))) .nil))) .nil))) (.cons (.ret (.bl false)) .nil) .nil) <|
  .cons (.ret (.and (.cons (.prim (.cmp .Eq) (.cons (.prim (.bop .Mult) (.cons (.call 4 (.cons (.var 8) .nil)) (.cons (.call 4 (.cons (.var 9) .nil)) .nil))) (.cons (.call 4 (.cons (.prim (.bop .Add) (.cons (.var 8) (.cons (.var 9) .nil))) .nil)) .nil))) (.cons (.prim (.cmp .Eq) (.cons (.call 94 (.cons (.tup .nil) .nil)) (.cons (.int 0) .nil))) (.cons (.prim (.cmp .Eq) (.cons (.call 93 (.cons (.int 0) (.cons (.int 0) .nil))) (.cons (.tup .nil) .nil))) (.cons (.prim (.cmp .Eq) (.cons (.call 4 (.cons (.int 0) .nil)) (.cons (.int 1) .nil))) .nil)))))) <|
  .nil
/-! 96 _law_pieces -/
def n_law_pieces : List Str := ["_law_draw", "_law_cloud_here", "_law_found", "_law_turn", "_law_length", "_law_prefix"]
def p_law_pieces : List Str := ["_law_draw", "_law_cloud_here"]
def f_law_pieces : List Nat := [0, 1]
def l_law_pieces_0 : Ss :=
  .cons (.set 4 (.call 1 (.cons (.var 0) (.cons (.prim (.bop .Add) (.cons (.fld 0 2 (.fld 1 0 (.var 1))) (.cons (.int 1) .nil))) .nil)))) <|
  .cons (.set 5 (.tup (.cons (.var 4) (.cons (.call 1 (.cons (.var 0) (.cons (.call 25 (.cons (.var 4) .nil)) .nil))) .nil)))) <|
  .cons (.expr (.mut .append 2 (.cons (.call 83 (.cons (.var 1) (.cons (.var 5) (.cons (.call 1 (.cons (.var 0) (.cons (.prim (.bop .Add) (.cons (.prim (.bop .Sub) (.cons (.fld 0 2 (.fld 1 0 (.var 1))) (.cons (.var 4) .nil))) (.cons (.int 1) .nil))) .nil))) .nil)))) .nil))) <|
  .nil
def b_law_pieces : Ss := 
  .cons (.set 2 (.lst .nil)) <|
  .cons (.for_ (.v 3) .rng (.cons (.prim (.bop .Add) (.cons (.int 1) (.cons (.call 1 (.cons (.var 0) (.cons (.int 4) .nil))) .nil))) .nil) l_law_pieces_0) <|
  .cons (.ret (.var 2)) <|
  .nil
/-! 97 _law_known -/
def n_law_known : List Str := ["_law_space_here", "_law_pieces_here", "_law_found", "_law_piece"]
def p_law_known : List Str := ["_law_space_here", "_law_pieces_here"]
def f_law_known : List Nat := [0, 1]
def l_law_known_0 : Ss :=
  .cons (.set 2 (.meth [(5, 82)] "joined" (.var 2) (.cons (.new 5 61 true (.cons (.var 0) (.cons (.var 3) .nil))) .nil))) <|
  .nil
def b_law_known : Ss := 
  .cons (.set 2 (.new 5 61 true (.cons (.var 0) (.cons (.dic0 true) .nil)))) <|
  .cons (.for_ (.v 3) .seq (.cons (.var 1) .nil) l_law_known_0) <|
  .cons (.ret (.var 2)) <|
  .nil
/-! 98 Knowledge.__eq__ -/
def n_Knowledge_eq : List Str := ["self", "other"]
def p_Knowledge_eq : List Str := ["self", "other"]
def f_Knowledge_eq : List Nat := [0, 1]
def b_Knowledge_eq : Ss := 
  .cons (.ret (.and (.cons (.isi (.var 1) (.own 5)) (.cons (.meq false [(0, 85)] (.fld 5 0 (.var 0)) (.fld 5 0 (.var 1))) (.cons (.prim (.cmp .Eq) (.cons (.fld 5 1 (.var 0)) (.cons (.fld 5 1 (.var 1)) .nil))) .nil))))) <|
  .nil
/-! 99 _law_fits -/
def n_law_fits : List Str := ["_law_cloud_here", "_law_facts", "_law_prefix", "_law_count"]
def p_law_fits : List Str := ["_law_cloud_here", "_law_facts"]
def f_law_fits : List Nat := [0, 1]
def b_law_fits : Ss := 
  .cons (.ret (.prim (.call "all") (.cons (.comp [2, 3] (.t (.cons (.v 2) (.cons (.v 3) .nil))) .items (.cons (.var 1) .nil) .nil (.prim (.cmp .Eq) (.cons (.meth [(1, 22)] "count" (.var 0) (.cons (.var 2) .nil)) (.cons (.var 3) .nil)))) .nil))) <|
  .nil
/-! 100 _law_all -/
def n_law_all_v3 : List Str := ["_law_space_here", "_law_found", "_law_axis", "_law_late", "_law_point_here", "_law_number_here"]
def p_law_all_v3 : List Str := ["_law_space_here"]
def f_law_all_v3 : List Nat := [0]
def l_law_all_v3_0 : Ss :=
  .cons (.aug 3 .Add (.comp [5] (.v 5) .rng (.cons (.fld 0 3 (.var 0)) .nil) .nil (.prim (.bop .Add) (.cons (.var 4) (.cons (.tup (.cons (.var 5) .nil)) .nil))))) <|
  .nil
def l_law_all_v3_1 : Ss :=
  .cons (.set 3 (.lst .nil)) <|
  .cons (.for_ (.v 4) .seq (.cons (.var 1) .nil) l_law_all_v3_0) <|
  .cons (.set 1 (.var 3)) <|
  .nil
def b_law_all_v3 : Ss := 
  .cons (.set 1 (.lst (.cons (.tup .nil) .nil))) <|
  .cons (.for_ (.v 2) .rng (.cons (.fld 0 0 (.var 0)) .nil) l_law_all_v3_1) <|
  .cons (.ret (.var 1)) <|
  .nil
/-! 101 _law_lots -/
def n_law_lots : List Str := ["_law_space_here", "_law_found", "_law_point_here", "_law_lot"]
def p_law_lots : List Str := ["_law_space_here"]
def f_law_lots : List Nat := [0]
def l_law_lots_0 : Ss :=
  .cons (.aug 1 .Add (.compO [3] (.v 3) 1 .nil (.prim (.bop .Add) (.cons (.var 3) (.cons (.tup (.cons (.var 2) .nil)) .nil))))) <|
  .nil
def b_law_lots : Ss := 
  .cons (.set 1 (.lst (.cons (.tup .nil) .nil))) <|
  .cons (.for_ (.v 2) .seq (.cons (.call 100 (.cons (.var 0) .nil)) .nil) l_law_lots_0) <|
  .cons (.ret (.compO [3] (.v 3) 1 .nil (.new 1 10 true (.cons (.var 0) (.cons (.var 3) .nil))))) <|
  .nil
/-! 102 _law_inside -/
def n_law_inside : List Str := ["_law_cloud_here", "_law_box_here", "_law_point_here"]
def p_law_inside : List Str := ["_law_cloud_here", "_law_box_here"]
def f_law_inside : List Nat := [0, 1]
def b_law_inside : Ss := 
  .cons (.ret (.prim (.call "len") (.cons (.comp [2] (.v 2) .seq (.cons (.meth [(1, 23)] "points" (.var 0) .nil) .nil) (.cons (.meth [(2, 24)] "holds" (.var 1) (.cons (.var 2) .nil)) .nil) (.var 2)) .nil))) <|
  .nil
/-! 103 law -/
def n_law_v9 : List Str := ["_law_script", "_law_draw", "_law_small", "_law_space_here", "_law_cloud_here", "_law_pieces_here", "_law_known_here", "_law_other", "_law_facts", "_law_piece", "_law_clouds", "_law_turn", "_law_length", "_law_prefix", "_law_told", "_law_box_here", "_law_counts", "_law_least", "_law_greatest", "_law_few", "_law_most", "_law_one"]
def p_law_v9 : List Str := ["_law_script"]
def f_law_v9 : List Nat := [0]
def l_law_v9_0 : Ss :=
  .cons (.expr (.mut .dupd 8 (.cons (.var 9) .nil))) <|
  .nil
def l_law_v9_1 : Ss :=
  .cons (.set 15 (.call 15 (.cons (.var 1) (.cons (.var 3) .nil)))) <|
  .cons (.asg (.t (.cons (.v 17) (.cons (.v 18) .nil))) (.meth [(5, 81)] "bounds" (.var 6) (.cons (.var 15) .nil))) <|
  .cons (.ifs (.not (.chain .LtE .LtE (.var 17) (.call 102 (.cons (.var 4) (.cons (.var 15) .nil))) (.var 18))) (.cons (.ret (.bl false)) .nil) .nil) <|
  .cons (.par [19, 20] (.cons (.meth [(5, 89)] "some_cloud" (.var 6) (.cons (.var 15) (.cons (.bl false) .nil))) (.cons (.meth [(5, 89)] "some_cloud" (.var 6) (.cons (.var 15) (.cons (.bl true) .nil))) .nil))) <|
  .cons (.ifs (.or (.cons (.not (.call 99 (.cons (.var 19) (.cons (.var 8) .nil)))) (.cons (.not (.call 99 (.cons (.var 20) (.cons (.var 8) .nil)))) .nil))) (.cons (.ret (.bl false)) .nil) .nil) <|
  .cons (.ifs (.prim (.cmp .NotEq) (.cons (.tup (.cons (.call 102 (.cons (.var 19) (.cons (.var 15) .nil))) (.cons (.call 102 (.cons (.var 20) (.cons (.var 15) .nil))) .nil))) (.cons (.tup (.cons (.var 17) (.cons (.var 18) .nil))) .nil))) (.cons (.ret (.bl false)) .nil) .nil) <|
  .cons (.set 16 (.comp [21] (.v 21) .seq (.cons (.var 10) .nil) .nil (.call 102 (.cons (.var 21) (.cons (.var 15) .nil))))) <|
  .cons (.ifs (.and (.cons (.var 2) (.cons (.prim (.cmp .NotEq) (.cons (.tup (.cons (.prim (.call "min") (.cons (.var 16) .nil)) (.cons (.prim (.call "max") (.cons (.var 16) .nil)) .nil))) (.cons (.tup (.cons (.var 17) (.cons (.var 18) .nil))) .nil))) .nil))) (.cons (.ret (.bl false)) .nil) .nil) <|
  .nil
def b_law_v9 : Ss := 
  .cons (.set 1 (.lst (.cons (.var 0) (.cons (.int 0) .nil)))) <|
  .cons (.set 2 (.prim (.cmp .Eq) (.cons (.call 1 (.cons (.var 1) (.cons (.int 3) .nil))) (.cons (.int 0) .nil)))) <|
  .cons (.set 3 (.ite (.var 2) (.new 0 5 true (.cons (.call 2 (.cons (.var 1) (.cons (.lst (.cons (.int 1) (.cons (.int 3) .nil))) .nil))) (.cons (.int 1) .nil))) (.call 6 (.cons (.var 1) (.cons (.int 7) .nil))))) <|
  .cons (.set 4 (.call 13 (.cons (.var 1) (.cons (.var 3) (.cons (.int 8) .nil))))) <|
  .cons (.set 5 (.call 96 (.cons (.var 1) (.cons (.var 4) .nil)))) <|
  .cons (.set 6 (.call 97 (.cons (.var 3) (.cons (.var 5) .nil)))) <|
  .cons (.set 7 (.call 97 (.cons (.var 3) (.cons (.prim (.bop .Add) (.cons (.prim .rev (.cons (.var 5) .nil)) (.cons (.lst (.cons (.call 2 (.cons (.var 1) (.cons (.var 5) .nil))) .nil)) .nil))) .nil)))) <|
  .cons (.set 8 (.dic0 true)) <|
  .cons (.for_ (.v 9) .seq (.cons (.var 5) .nil) l_law_v9_0) <|
  .cons (.ifs (.or (.cons (.meq true [(5, 98)] (.var 6) (.var 7)) (.cons (.meq true [(5, 98)] (.var 6) (.new 5 61 true (.cons (.var 3) (.cons (.var 8) .nil)))) (.cons (.not (.prim (.call "all") (.cons (.comp [9] (.v 9) .seq (.cons (.var 5) .nil) .nil (.call 99 (.cons (.var 4) (.cons (.var 9) .nil)))) .nil))) .nil)))) (.cons (.ret (.bl false)) .nil) .nil) <|
  .cons (.set 10 (.ite (.var 2) (.comp [21] (.v 21) .seq (.cons (.call 101 (.cons (.var 3) .nil)) .nil) (.cons (.call 99 (.cons (.var 21) (.cons (.var 8) .nil))) .nil) (.var 21)) (.lst .nil))) <|
  .cons (.for_ (.v 11) .rng (.cons (.int 4) .nil) l_law_v9_1) <|
  .cons (.set 12 (.call 1 (.cons (.var 1) (.cons (.prim (.bop .Add) (.cons (.fld 0 2 (.var 3)) (.cons (.int 1) .nil))) .nil)))) <|
  .cons (.set 13 (.tup (.cons (.var 12) (.cons (.call 1 (.cons (.var 1) (.cons (.call 25 (.cons (.var 12) .nil)) .nil))) .nil)))) <|
  .cons (.set 14 (.meth [(5, 84)] "known" (.var 6) (.cons (.var 13) .nil))) <|
  .cons (.ret (.or (.cons (.prim (.cmp .Is) (.cons (.var 14) (.cons .non .nil))) (.cons (.prim (.cmp .Eq) (.cons (.var 14) (.cons (.meth [(1, 22)] "count" (.var 4) (.cons (.var 13) .nil)) .nil))) .nil)))) <|
  .nil
end A
namespace K59
open VE
def bin : Nat → Nat → Nat
  | _, 0 => 1
  | 0, _ + 1 => 0
  | n + 1, k + 1 => bin n k + bin n (k + 1)
theorem bin_zero : ∀ n, bin n 0 = 1
  | 0 => rfl
  | _ + 1 => rfl
theorem bin_gt : ∀ {n k : Nat}, n < k → bin n k = 0
  | _, 0, h => absurd h (by omega)
  | 0, _ + 1, _ => rfl
  | n + 1, k + 1, h => by unfold bin; rw [bin_gt (by omega), bin_gt (by omega)]
theorem bin_self : ∀ n, bin n n = 1
  | 0 => rfl
  | n + 1 => by unfold bin; rw [bin_self n, bin_gt (by omega)]
theorem bin_mul : ∀ {n k : Nat}, k ≤ n → bin n (k + 1) * (k + 1) = bin n k * (n - k)
  | 0, k, h => by
    have : k = 0 := by omega
    subst this; rfl
  | n + 1, 0, _ => by
    have ih := bin_mul (n := n) (k := 0) (by omega)
    show (bin n 0 + bin n (0 + 1)) * (0 + 1) = bin (n + 1) 0 * (n + 1 - 0)
    rw [bin_zero] at ih ⊢
    rw [bin_zero]
    simp at ih ⊢
    omega
  | n + 1, k + 1, h => by
    have i1 := bin_mul (n := n) (k := k) (by omega)
    have e1 : bin (n + 1) (k + 1 + 1) = bin n (k + 1) + bin n (k + 1 + 1) := rfl
    have e2 : bin (n + 1) (k + 1) = bin n k + bin n (k + 1) := rfl
    rw [e1, e2]
    have e3 : n + 1 - (k + 1) = n - k := by omega
    rw [e3, Nat.add_mul, Nat.add_mul, ← i1]
    by_cases hk : k + 1 ≤ n
    · have i2 := bin_mul (n := n) (k := k + 1) hk
      rw [i2]
      have : bin n (k + 1) * (k + 1 + 1) + bin n (k + 1) * (n - (k + 1)) = bin n (k + 1) * (k + 1) + bin n (k + 1) * (n - k) := by
        rw [← Nat.mul_add, ← Nat.mul_add]
        congr 1; omega
      exact this
    · rw [bin_gt (n := n) (k := k + 1) (by omega), bin_gt (n := n) (k := k + 1 + 1) (by omega)]
      simp
theorem bin_symm : ∀ {n k : Nat}, k ≤ n → bin n (n - k) = bin n k
  | 0, k, h => by
    have : k = 0 := by omega
    subst this; rfl
  | n + 1, 0, _ => by rw [Nat.sub_zero, bin_self, bin_zero]
  | n + 1, k + 1, h => by
    by_cases hk : k + 1 ≤ n
    · have e : n + 1 - (k + 1) = (n - (k + 1)) + 1 := by omega
      rw [e]
      show bin n (n - (k + 1)) + bin n (n - (k + 1) + 1) = bin n k + bin n (k + 1)
      rw [bin_symm hk, show n - (k + 1) + 1 = n - k by omega, bin_symm (by omega : k ≤ n)]
      omega
    · have : k = n := by omega
      subst this
      rw [Nat.sub_self, bin_zero, bin_self]
def sumb (n : Nat) : Nat → Nat
  | 0 => 0
  | k + 1 => sumb n k + bin n k
theorem sumb_succ (n : Nat) : ∀ k, sumb (n + 1) (k + 1) = sumb n k + sumb n (k + 1)
  | 0 => by simp [sumb, bin_zero]
  | k + 1 => by
    have ih := sumb_succ n k
    show sumb (n + 1) (k + 1) + bin (n + 1) (k + 1) = sumb n (k + 1) + (sumb n (k + 1) + bin n (k + 1))
    rw [ih]
    show _ + (bin n k + bin n (k + 1)) = _
    have : sumb n (k + 1) = sumb n k + bin n k := rfl
    omega
theorem sumb_all : ∀ n, sumb n (n + 1) = 2 ^ n
  | 0 => rfl
  | n + 1 => by
    rw [sumb_succ, sumb_all n]
    have : sumb n (n + 1 + 1) = sumb n (n + 1) + bin n (n + 1) := rfl
    rw [this, sumb_all n, bin_gt (by omega), Nat.pow_succ]
    omega
/-- the law's value -/
def ch (m s : Int) : Int := if 0 ≤ s ∧ s ≤ m then (bin m.toNat s.toNat : Int) else 0
theorem ch_pascal {m s : Int} (h : 0 < m) : ch m s = ch (m - 1) s + ch (m - 1) (s - 1) := by
  unfold ch
  by_cases h0 : s < 0
  · rw [if_neg (by omega), if_neg (by omega), if_neg (by omega)]; rfl
  by_cases h1 : s = 0
  · subst h1
    rw [if_pos (by omega), if_pos (by omega), if_neg (by omega)]
    simp [bin_zero]
  by_cases h2 : s < m
  · rw [if_pos (by omega), if_pos (by omega), if_pos (by omega)]
    have e1 : m.toNat = (m - 1).toNat + 1 := by omega
    have e2 : s.toNat = (s - 1).toNat + 1 := by omega
    rw [e1, e2]
    show ((bin (m - 1).toNat (s - 1).toNat + bin (m - 1).toNat ((s - 1).toNat + 1) : Nat) : Int) = _
    omega
  by_cases h3 : s = m
  · subst h3
    rw [if_pos (by omega), if_neg (by omega), if_pos (by omega)]
    simp [bin_self]
  · rw [if_neg (by omega), if_neg (by omega), if_neg (by omega)]; rfl
theorem ch_self {m : Int} (h : 0 ≤ m) : ch m m = 1 := by
  unfold ch; rw [if_pos (by omega), bin_self]; rfl
theorem ch_zero {m : Int} (h : 0 ≤ m) : ch m 0 = 1 := by
  unfold ch; rw [if_pos (by omega)]; simp [bin_zero]
theorem ch_out {m s : Int} (h : s < 0 ∨ m < s) : ch m s = 0 := by
  unfold ch; rw [if_neg (by omega)]
/-! bits -/
def bfor (m : Int) : Nat := if m ≤ 1 then 0 else (m - 1).toNat.log2 + 1
theorem bfor_lt {m : Int} {t : Nat} : (2 : Int) ^ t < m ↔ t < bfor m := by
  unfold bfor
  have hp : (0 : Int) < 2 ^ t := Int.pow_pos (by decide)
  by_cases h : m ≤ 1
  · rw [if_pos h]
    constructor
    · intro q; omega
    · intro q; omega
  · rw [if_neg h]
    have e : (m - 1).toNat ≠ 0 := by omega
    have := Nat.le_log2 e (k := t)
    have c : ((2 ^ t : Nat) : Int) = (2 : Int) ^ t := by simp
    constructor
    · intro q
      have : 2 ^ t ≤ (m - 1).toNat := by omega
      have := (Nat.le_log2 e).mpr this
      omega
    · intro q
      have : t ≤ (m - 1).toNat.log2 := by omega
      have := (Nat.le_log2 e).mp this
      omega
def lowbits : Int → Nat → List D
  | _, 0 => []
  | m, t + 1 => .int (m % 2) :: lowbits (m / 2) t
open VE in
def numD (xs : List D) : Int := xs.foldl (fun a x => match x with | .int i => a * 2 + i | _ => a) 0
theorem lowbits_snoc : ∀ (m : Int) (k : Nat), lowbits m (k + 1) = lowbits m k ++ [.int (m / 2 ^ k % 2)]
  | m, 0 => by simp [lowbits]
  | m, k + 1 => by
    rw [lowbits, lowbits_snoc (m / 2) k]
    show _ = (D.int (m % 2) :: lowbits (m / 2) k) ++ _
    rw [List.cons_append]
    congr 3
    rw [Int.ediv_ediv_of_nonneg (by decide : (0 : Int) ≤ 2), Int.pow_succ, Int.mul_comm (2 ^ k) 2]
theorem lowbits_len : ∀ (m : Int) (k : Nat), (lowbits m k).length = k
  | _, 0 => rfl
  | m, k + 1 => by simp [lowbits, lowbits_len]
theorem numD_snoc (xs : List D) (b : Int) : numD (xs ++ [.int b]) = numD xs * 2 + b := by simp [numD]
theorem numD_low : ∀ (t : Nat) (m : Int), 0 ≤ m → m < 2 ^ t → numD (lowbits m t).reverse = m
  | 0, m, h0, h1 => by
    have : m = 0 := by simp at h1; omega
    subst this; rfl
  | t + 1, m, h0, h1 => by
    rw [lowbits, List.reverse_cons, numD_snoc, numD_low t (m / 2) (by omega) (by rw [Int.pow_succ] at h1; omega)]
    omega
theorem pow_lt {a b : Nat} : (2 : Int) ^ a < 2 ^ b ↔ a < b := by
  have c : ∀ n : Nat, ((2 ^ n : Nat) : Int) = (2 : Int) ^ n := fun n => by simp
  rw [← c, ← c, Int.ofNat_lt]
  exact Nat.pow_lt_pow_iff_right (by decide)
theorem low_pad {m : Int} {t : Nat} (h0 : 0 ≤ m) (h1 : m < 2 ^ t) : lowbits m (t + 3) = lowbits m t ++ [.int 0, .int 0, .int 0] := by
  have big : ∀ j, m / 2 ^ (t + j) = 0 := fun j => Int.ediv_eq_zero_of_lt h0 (by
    have : ¬ (2 : Int) ^ (t + j) < 2 ^ t := fun q => by have := pow_lt.mp q; omega
    omega)
  rw [lowbits_snoc, lowbits_snoc, lowbits_snoc, big 2, big 1, show m / 2 ^ t = 0 from big 0]
  simp
theorem low_mem {x : D} : ∀ {t : Nat} {m : Int}, x ∈ lowbits m t → x = .int 0 ∨ x = .int 1
  | 0, _, h => by simp [lowbits] at h
  | t + 1, m, h => by
    rcases List.mem_cons.mp h with h | h
    · subst h
      have : m % 2 = 0 ∨ m % 2 = 1 := by omega
      rcases this with e | e <;> rw [e] <;> simp
    · exact low_mem h
theorem low_int {t : Nat} {m : Int} : (lowbits m t).all isInt = true := by
  rw [List.all_eq_true]
  intro x h
  rcases low_mem h with e | e <;> rw [e] <;> rfl
theorem bfor_ge {m : Int} : m ≤ 2 ^ bfor m := by
  have := mt (bfor_lt (m := m) (t := bfor m)).mp (by omega)
  omega
theorem bfor_pred {m : Int} (h : 0 < bfor m) : (2 : Int) ^ (bfor m - 1) < m := bfor_lt.mpr (by omega)
theorem bfor_le {m : Int} {t : Nat} (h : m ≤ 2 ^ t) : bfor m ≤ t := by
  have := mt (bfor_lt (m := m) (t := t)).mpr (by omega)
  omega
theorem bfor_pow (k : Nat) : bfor (2 ^ k) = k := by
  have h := fun t => (bfor_lt (m := (2 : Int) ^ k) (t := t)).symm.trans (pow_lt (a := t) (b := k))
  have h1 := h k
  have h2 := h (bfor (2 ^ k))
  omega
theorem bfor_pow1 (k : Nat) : bfor (2 ^ k + 1) = k + 1 := by
  have h := fun t => (bfor_lt (m := (2 : Int) ^ k + 1) (t := t)).symm
  have g : ∀ t : Nat, (2 : Int) ^ t < 2 ^ k + 1 ↔ t < k + 1 := fun t => by
    constructor
    · intro q
      by_cases z : t < k + 1
      · exact z
      · have := (pow_lt (a := k) (b := t)).mpr (by omega)
        omega
    · intro q
      have z : ¬ (2 : Int) ^ k < 2 ^ t := fun y => by have := pow_lt.mp y; omega
      omega
  have h1 := (h (k + 1)).trans (g (k + 1))
  have h2 := (h (bfor (2 ^ k + 1))).trans (g _)
  omega
def chD (m : Int) : D → D
  | .int j => .int (ch m j)
  | x => x
theorem sum_ch {m : Int} (h : 0 ≤ m) : ((rngD 0 (m + 1)).map (chD m)).all isInt = true ∧ dsum ((rngD 0 (m + 1)).map (chD m)) = 2 ^ m.toNat := by
  have go : ∀ n : Nat, n ≤ m.toNat + 1 → ((List.range n).map fun (k : Nat) => D.int (ch m (0 + (k : Int)))).all isInt = true ∧ ∀ a, ((List.range n).map fun (k : Nat) => D.int (ch m (0 + (k : Int)))).foldl addI a = a + (sumb m.toNat n : Nat) := by
    intro n
    induction n with
    | zero => intro _; exact ⟨rfl, fun a => by simp [sumb]⟩
    | succ n ih =>
      intro hn
      obtain ⟨i1, i2⟩ := ih (by omega)
      refine ⟨?_, fun a => ?_⟩
      · rw [List.range_succ, List.map_append, List.all_append, i1]; rfl
      · rw [List.range_succ, List.map_append, List.foldl_append, i2]
        show a + _ + ch m (0 + (n : Int)) = _
        have : ch m (0 + (n : Int)) = bin m.toNat n := by
          unfold ch
          rw [if_pos (by omega)]
          congr 2; omega
        rw [this]
        show _ = a + ((sumb m.toNat n + bin m.toNat n : Nat) : Int)
        omega
  have e : (rngD 0 (m + 1)).map (chD m) = (List.range (m.toNat + 1)).map fun (k : Nat) => D.int (ch m (0 + (k : Int))) := by
    unfold rngD
    rw [List.map_map, show (m + 1 - 0).toNat = m.toNat + 1 by omega]
    rfl
  obtain ⟨h1, h2⟩ := go (m.toNat + 1) (by omega)
  rw [e]
  refine ⟨h1, ?_⟩
  unfold dsum
  rw [h2 0, sumb_all]
  simp
end K59
/-! PL59: numbers: what the defs promise over all ints, their walks, the law's walk -/
namespace P
open PySem PySem.Spec PyProof.Rows L2 VE A K59
def fpower : List O → Option O
  | [.d (.int n)] => if 0 ≤ n ∧ n ≤ 2000 then some (.d (.int (2 ^ n.toNat))) else none
  | _ => none
def fnum : List O → Option O
  | [.d (.tup xs)] => if xs.all isInt = true then some (.d (.int (numD xs))) else none
  | _ => none
def fbits : List O → Option O
  | [.d (.int m), .d (.int k)] => if 0 ≤ k ∧ k ≤ 2000 then some (.d (.tup (lowbits m k.toNat).reverse)) else none
  | _ => none
def ffor : List O → Option O
  | [.d (.int m)] => some (.d (.int (bfor m)))
  | _ => none
def fch : List O → Option O
  | [.d (.int m), .d (.int s)] => if m ≤ 1000000 then some (.d (.int (ch m s))) else none
  | _ => none
def sp_law : DSp := fun os Q _ => ∃ ns, os = [.d (.scr ns)] ∧ Q (.d (.bl true)) os
section
variable {Γ : Gam}
section
variable {Q : O → List O → Prop} {E : Ex → List O → Prop} {n m k s i : Int} {xs : List D} {ns : List Int}
theorem fn_if {os : List O} {c : Prop} [Decidable c] {v : O} : (∃ r, (if c then some v else none) = some r ∧ Q r os) = (c ∧ Q v os) := by
  apply propext
  constructor
  · rintro ⟨r, h1, h2⟩
    split at h1
    · cases h1; exact ⟨by assumption, h2⟩
    · cases h1
  · rintro ⟨h1, h2⟩; exact ⟨v, by rw [if_pos h1], h2⟩
@[simp ↓] theorem cl_num : callW (fnSp fnum) [.d (.tup xs)] Q E = (xs.all isInt = true ∧ Q (.d (.int (numD xs))) [.d (.tup xs)]) := callW_fnSp.trans fn_if
@[simp ↓] theorem cl_bits : callW (fnSp fbits) [.d (.int m), .d (.int k)] Q E = ((0 ≤ k ∧ k ≤ 2000) ∧ Q (.d (.tup (lowbits m k.toNat).reverse)) [.d (.int m), .d (.int k)]) := callW_fnSp.trans fn_if
@[simp ↓] theorem cl_power : callW (fnSp fpower) [.d (.int n)] Q E = ((0 ≤ n ∧ n ≤ 2000) ∧ Q (.d (.int (2 ^ n.toNat))) [.d (.int n)]) := callW_fnSp.trans fn_if
@[simp ↓] theorem cl_for : callW (fnSp ffor) [.d (.int m)] Q E = Q (.d (.int (bfor m))) [.d (.int m)] := by
  rw [callW_fnSp]; simp [ffor]
@[simp ↓] theorem cl_take : callW takeSp [.lst [.scr ns, .int i], .d (.int m)] Q E = (0 < m ∧ ∀ r, 0 ≤ r → r < m → Q (.d (.int r)) [.lst [.scr ns, .int (i + 1)], .d (.int m)]) := call_take
@[simp ↓] theorem cl_ch : callW (fnSp fch) [.d (.int m), .d (.int s)] Q E = (m ≤ 1000000 ∧ Q (.d (.int (ch m s))) [.d (.int m), .d (.int s)]) := callW_fnSp.trans fn_if
end
theorem w_power (os : List O) (Q : O → List O → Prop) (E : Ex → List O → Prop) (h : fnSp fpower os Q E) : wpSs Γ f_power b_power (env0 f_power n_power.length os) (postD f_power os Q) := by
  obtain ⟨r, h1, h2⟩ := h
  unfold fpower at h1
  split at h1
  · rename_i n
    split at h1
    · rename_i hn
      cases h1
      simp [b_power, n_power, f_power]
      refine ⟨⟨by omega, by omega⟩, floop_by (fun k e => ∃ t, e = [some (.d (.int n)), some (.d (.int (2 ^ k))), t]) ⟨none, rfl⟩ ?_ ?_⟩
      · rintro k e kk hk ⟨t, rfl⟩ hkk
        simp [forB, l_power_0, VE.MulOk]
        exact hkk _ ⟨_, by rw [Int.pow_succ]⟩
      · rintro e ⟨t, rfl⟩
        rw [rngD_len, Int.sub_zero]
        simpa using h2
    · cases h1
  · cases h1
theorem w_number_of (os : List O) (Q : O → List O → Prop) (E : Ex → List O → Prop) (h : fnSp fnum os Q E) : wpSs Γ f_number_of b_number_of (env0 f_number_of n_number_of.length os) (postD f_number_of os Q) := by
  obtain ⟨r, h1, h2⟩ := h
  unfold fnum at h1
  split at h1
  · rename_i xs
    split at h1
    · rename_i hx
      cases h1
      simp [b_number_of, n_number_of, f_number_of]
      refine floop_by (fun k e => ∃ t, e = [some (.d (.tup xs)), some (.d (.int (numD (xs.take k)))), t]) ⟨none, rfl⟩ ?_ ?_
      · rintro k e kk hk ⟨t, rfl⟩ hkk
        have hi : isInt xs[k] = true := List.all_eq_true.mp hx _ (List.getElem_mem hk)
        obtain ⟨i, ei⟩ : ∃ i, xs[k] = .int i := by
          cases e : xs[k] <;> rw [e] at hi <;> first | exact ⟨_, rfl⟩ | cases hi
        simp [forB, l_power_0, l_number_of_0, VE.MulOk, ei]
        have : numD (xs.take (k + 1)) = numD (xs.take k) * 2 + i := by
          rw [List.take_succ_eq_append_getElem hk, ei]
          simp [numD]
        rw [this] at hkk
        exact hkk _ ⟨_, rfl⟩
      · rintro e ⟨t, rfl⟩
        rw [List.take_length]
        simpa using h2
    · cases h1
  · cases h1
theorem w_bits_of (os : List O) (Q : O → List O → Prop) (E : Ex → List O → Prop) (h : fnSp fbits os Q E) : wpSs Γ f_bits_of b_bits_of (env0 f_bits_of n_bits_of.length os) (postD f_bits_of os Q) := by
  obtain ⟨r, h1, h2⟩ := h
  unfold fbits at h1
  split at h1
  · rename_i m k0
    split at h1
    · rename_i hx
      cases h1
      simp [b_bits_of, n_bits_of, f_bits_of]
      refine ⟨⟨by omega, by omega⟩, floop_by (fun k e => ∃ t, e = [some (.d (.int (m / 2 ^ k))), some (.d (.int k0)), some (.lst (lowbits m k)), t]) ⟨none, by simp [lowbits]⟩ ?_ ?_⟩
      · rintro k e kk hk ⟨t, rfl⟩ hkk
        rw [rngD_len] at hk
        simp [forB, l_bits_of_0, DivOk]
        rw [lowbits_snoc, Int.pow_succ, ← Int.ediv_ediv_of_nonneg (Int.le_of_lt (Int.pow_pos (by decide)))] at hkk
        exact ⟨by rw [lowbits_len]; show k < 2 ^ 24; omega, hkk _ ⟨_, rfl⟩⟩
      · rintro e ⟨t, rfl⟩
        rw [rngD_len, Int.sub_zero]
        simpa using h2
    · cases h1
  · cases h1
theorem w_bits_for (os : List O) (Q : O → List O → Prop) (E : Ex → List O → Prop) (h : fnSp ffor os Q E) : wpSs Γ f_bits_for b_bits_for (env0 f_bits_for n_bits_for.length os) (postD f_bits_for os Q) := by
  obtain ⟨r, h1, h2⟩ := h
  unfold ffor at h1
  split at h1
  · rename_i m
    cases h1
    simp [b_bits_for, n_bits_for, f_bits_for, wpS_whl]
    refine ⟨fun n e => ∃ t : Nat, n = bfor m - t ∧ t ≤ bfor m ∧ e = [some (.d (.int m)), some (.d (.int t)), some (.d (.int (2 ^ t)))], ⟨_, 0, rfl, by omega, rfl⟩, ?_⟩
    rintro n e ⟨t, rfl, ht, rfl⟩
    simp [l_bits_for_0, VE.MulOk]
    by_cases hlt : (2 : Int) ^ t < m
    · rw [if_pos hlt]
      have := bfor_lt.mp hlt
      exact ⟨bfor m - (t + 1), by omega, t + 1, rfl, by omega, by simp, by rw [Int.pow_succ]⟩
    · rw [if_neg hlt]
      have : t = bfor m := by
        have := mt bfor_lt.mpr hlt
        omega
      subst this
      exact h2
  · cases h1
theorem w_choices (os : List O) (Q : O → List O → Prop) (E : Ex → List O → Prop) (h : fnSp fch os Q E) : wpSs Γ f_choices b_choices (env0 f_choices n_choices.length os) (postD f_choices os Q) := by
  obtain ⟨r, h1, h2⟩ := h
  unfold fch at h1
  split at h1
  · rename_i m s
    split at h1
    · rename_i hm
      cases h1
      simp [b_choices, n_choices, f_choices]
      have key : 0 ≤ s → s ≤ m → bin m.toNat (if m - s < s then m - s else s).toNat = bin m.toNat s.toNat := by
        intro h0 h1
        split
        · rw [show (m - s).toNat = m.toNat - s.toNat by omega]; exact bin_symm (by omega)
        · rfl
      by_cases hs : 0 ≤ s ∧ s ≤ m
      · have e1 : decide (0 ≤ s) = true := decide_eq_true hs.1
        simp [hs.1, hs.2]
        rw [if_neg (by omega)]
        refine ⟨by constructor <;> split <;> omega, floop_by (fun k e => ∃ t, e = [some (.d (.int m)), some (.d (.int s)), some (.d (.int (bin m.toNat k))), t]) ⟨none, by simp [bin_zero]⟩ ?_ ?_⟩
        · rintro k e kk hk ⟨t, rfl⟩ hkk
          rw [rngD_len] at hk
          have hk2 : k < m.toNat := by split at hk <;> omega
          have h3 := rngD_get (i := 0) (j := if m - s < s then m - s else s) (k := k) (by rw [rngD_len]; exact hk)
          have h4 : ((bin m.toNat k : Int) * (m - k)) / (k + 1) = bin m.toNat (k + 1) := by
            have h5 := bin_mul (n := m.toNat) (k := k) (by omega)
            have h6 : (m - k : Int) = ((m.toNat - k : Nat) : Int) := by omega
            rw [h6]
            have h7 : ((bin m.toNat k : Int) * ((m.toNat - k : Nat) : Int)) = (bin m.toNat (k + 1) : Int) * ((k : Int) + 1) := by
              have := congrArg (Nat.cast : Nat → Int) h5
              simp only [Int.natCast_mul, Int.natCast_add, Int.natCast_one] at this
              exact this.symm
            rw [h7]
            exact Int.mul_ediv_cancel _ (by omega)
          simp [forB, l_choices_0, h3]
          rw [h4]
          exact ⟨.inr (.inl (by omega)), ⟨by omega, .inl (by omega)⟩, hkk _ ⟨_, rfl⟩⟩
        · rintro e ⟨t, rfl⟩
          rw [rngD_len, Int.sub_zero, key hs.1 hs.2]
          simpa [ch, hs] using h2
      · have hz : ch m s = 0 := by unfold ch; rw [if_neg hs]
        rw [hz] at h2
        split
        · split
          · exact h2
          · exact absurd ⟨by assumption, by omega⟩ hs
        · exact h2
    · cases h1
  · cases h1
theorem turn [Pr Γ 1 takeSp] [Pr Γ 91 (fnSp fch)] [Pr Γ 4 (fnSp fpower)] [Pr Γ 92 (fnSp ffor)] [Pr Γ 93 (fnSp fbits)] [Pr Γ 94 (fnSp fnum)] (ns : List Int) (k : Nat) (hk8 : k < 8) (Q : O → List O → Prop) (P : Post) (kk : Ev → Prop) (hx : P.xc = fun _ _ => False) (i : Int) (t2 t3 t4 t5 t6 t7 t8 t9 t10 : Option O)
    (hkk : ∀ i t3 t4 t5 t6 t7 t8 t9 t10, kk [some (.d (.scr ns)), some (.lst [.scr ns, .int i]), some (.d (.int k)), t3, t4, t5, t6, t7, t8, t9, t10]) : forB Γ f_law_v8 (.v 2) l_law_v8_0 P (.int k) [some (.d (.scr ns)), some (.lst [.scr ns, .int i]), t2, t3, t4, t5, t6, t7, t8, t9, t10] kk := by
  simp [forB, l_law_v8_0, -wpSs_cons, f_law_v8]
  refine step (fun e => ∃ (i : Int) (m : Int) (t4 : Option O) (t5 : Option O) (t6 : Option O) (t7 : Option O) (t8 : Option O) (t9 : Option O) (t10 : Option O), e = [some (.d (.scr ns)), some (.lst [.scr ns, .int i]), some (.d (.int k)), some (.d (.int m)), t4, t5, t6, t7, t8, t9, t10] ∧ 0 ≤ m ∧ m < 2000 ∧ (k < 5 → m < 14)) ?_ fun e he => ?_
  · simp; split <;> exact fun r h0 h1 => ⟨_, _, ⟨rfl, rfl⟩, h0, by omega, by omega⟩
  obtain ⟨i, m, t4, t5, t6, t7, t8, t9, t10, rfl, g0_0, g0_1, g0_2⟩ := he
  refine step (fun e => ∃ (i : Int) (m : Int) (s : Int) (t5 : Option O) (t6 : Option O) (t7 : Option O) (t8 : Option O) (t9 : Option O) (t10 : Option O), e = [some (.d (.scr ns)), some (.lst [.scr ns, .int i]), some (.d (.int k)), some (.d (.int m)), some (.d (.int s)), t5, t6, t7, t8, t9, t10] ∧ 0 ≤ m ∧ m < 2000 ∧ (k < 5 → m < 14)) ?_ fun e he => ?_
  · simp [hx]; exact fun r h0 h1 => ⟨_, _, ⟨rfl, rfl⟩, g0_0, g0_1, g0_2⟩
  obtain ⟨i, m, s, t5, t6, t7, t8, t9, t10, rfl, g1_0, g1_1, g1_2⟩ := he
  refine step (fun e => ∃ (i : Int) (m : Int) (s : Int) (t5 : Option O) (t6 : Option O) (t7 : Option O) (t8 : Option O) (t9 : Option O) (t10 : Option O), e = [some (.d (.scr ns)), some (.lst [.scr ns, .int i]), some (.d (.int k)), some (.d (.int m)), some (.d (.int s)), t5, t6, t7, t8, t9, t10] ∧ 0 ≤ m ∧ m < 2000 ∧ (k < 5 → m < 14)) ?_ fun e he => ?_
  · simp [hx, -callW_fnSp]
    split
    · rename_i h
      exact ⟨by omega, by omega, by rw [if_pos (ch_pascal h)]; exact ⟨_, _, ⟨rfl, rfl⟩, g1_0, g1_1, g1_2⟩⟩
    · exact ⟨_, _, ⟨rfl, rfl⟩, g1_0, g1_1, g1_2⟩
  obtain ⟨i, m, s, t5, t6, t7, t8, t9, t10, rfl, g2_0, g2_1, g2_2⟩ := he
  refine step (fun e => ∃ (i : Int) (m : Int) (s : Int) (t5 : Option O) (t6 : Option O) (t7 : Option O) (t8 : Option O) (t9 : Option O) (t10 : Option O), e = [some (.d (.scr ns)), some (.lst [.scr ns, .int i]), some (.d (.int k)), some (.d (.int m)), some (.d (.int s)), t5, t6, t7, t8, t9, t10] ∧ 0 ≤ m ∧ m < 2000) ?_ fun e he => ?_
  · simp [hx, -callW_fnSp]
    split
    · refine ⟨⟨by omega, by omega⟩, cloop_map (chD m) ?_ ?_ ?_⟩
      · rw [rngD_len]; show _ ≤ 2 ^ 24; omega
      · intro x hx acc kk hacc hkk
        obtain ⟨j, rfl, j0, j1⟩ := mem_rngD.mp hx
        simp [compB]
        exact ⟨by omega, hacc, hkk⟩
      · obtain ⟨s1, s2⟩ := sum_ch g2_0
        generalize (rngD 0 (m + 1)).map (chD m) = ys at s1 s2 ⊢
        simp [s2, -callW_fnSp]
        exact ⟨by simpa using s1, by omega, _, _, ⟨rfl, rfl⟩, g2_0, g2_1⟩
    · exact ⟨_, _, ⟨rfl, rfl⟩, g2_0, g2_1⟩
  obtain ⟨i, m, s, t5, t6, t7, t8, t9, t10, rfl, g3_0, g3_1⟩ := he
  refine step (fun e => ∃ (i : Int) (m : Int) (s : Int) (t5 : Option O) (t6 : Option O) (t7 : Option O) (t8 : Option O) (t9 : Option O) (t10 : Option O), e = [some (.d (.scr ns)), some (.lst [.scr ns, .int i]), some (.d (.int k)), some (.d (.int m)), some (.d (.int s)), t5, t6, t7, t8, t9, t10] ∧ 0 ≤ m ∧ m < 2000) ?_ fun e he => ?_
  · simp [hx, -callW_fnSp]
    exact ⟨by omega, by rw [if_pos (ch_self g3_0)]; exact ⟨by omega, by rw [if_pos (ch_zero g3_0)]; exact ⟨by omega, by rw [if_pos (ch_out (.inr (by omega)))]; exact ⟨by omega, by rw [if_pos (ch_out (.inl (by omega)))]; exact ⟨_, _, ⟨rfl, rfl⟩, g3_0, g3_1⟩⟩⟩⟩⟩
  obtain ⟨i, m, s, t5, t6, t7, t8, t9, t10, rfl, g4_0, g4_1⟩ := he
  refine step (fun e => ∃ (i : Int) (m : Int) (s : Int) (n : Int) (t6 : Option O) (t7 : Option O) (t8 : Option O) (t9 : Option O) (t10 : Option O), e = [some (.d (.scr ns)), some (.lst [.scr ns, .int i]), some (.d (.int k)), some (.d (.int m)), some (.d (.int s)), some (.d (.int n)), t6, t7, t8, t9, t10] ∧ 1 ≤ n ∧ n ≤ 1000000) ?_ fun e he => ?_
  · simp [hx]; exact fun r h0 h1 => ⟨_, _, _, _, ⟨rfl, rfl, rfl, rfl⟩, by omega, by omega⟩
  obtain ⟨i, m, s, n, t6, t7, t8, t9, t10, rfl, g5_0, g5_1⟩ := he
  refine step (fun e => ∃ (i : Int) (m : Int) (s : Int) (n : Int) (t7 : Option O) (t8 : Option O) (t9 : Option O) (t10 : Option O), e = [some (.d (.scr ns)), some (.lst [.scr ns, .int i]), some (.d (.int k)), some (.d (.int m)), some (.d (.int s)), some (.d (.int n)), some (.d (.int (bfor n))), t7, t8, t9, t10] ∧ 1 ≤ n ∧ n ≤ 1000000) ?_ fun e he => ?_
  · simp [hx]; exact ⟨_, _, _, _, ⟨rfl, rfl, rfl, rfl, rfl⟩, g5_0, g5_1⟩
  obtain ⟨i, m, s, n, t7, t8, t9, t10, rfl, g6_0, g6_1⟩ := he
  refine step (fun e => ∃ (i : Int) (m : Int) (s : Int) (n : Int) (t7 : Option O) (t8 : Option O) (t9 : Option O) (t10 : Option O), e = [some (.d (.scr ns)), some (.lst [.scr ns, .int i]), some (.d (.int k)), some (.d (.int m)), some (.d (.int s)), some (.d (.int n)), some (.d (.int (bfor n))), t7, t8, t9, t10] ∧ 1 ≤ n ∧ n ≤ 1000000) ?_ fun e he => ?_
  · simp [hx, -callW_fnSp]
    have hb : bfor n ≤ 20 := bfor_le (by omega)
    refine ⟨by omega, ?_⟩
    rw [if_neg (by have := bfor_ge (m := n); omega)]
    split
    · rename_i hz
      refine ⟨⟨by omega, by omega⟩, ?_⟩
      rw [if_neg (by have := bfor_pred hz; omega)]
      exact ⟨_, _, _, _, ⟨rfl, rfl, rfl, rfl, rfl⟩, g6_0, g6_1⟩
    · exact ⟨_, _, _, _, ⟨rfl, rfl, rfl, rfl, rfl⟩, g6_0, g6_1⟩
  obtain ⟨i, m, s, n, t7, t8, t9, t10, rfl, g7_0, g7_1⟩ := he
  refine step (fun e => ∃ (i : Int) (m : Int) (s : Int) (n : Int) (t8 : Option O) (t9 : Option O) (t10 : Option O), e = [some (.d (.scr ns)), some (.lst [.scr ns, .int i]), some (.d (.int k)), some (.d (.int m)), some (.d (.int s)), some (.d (.int n)), some (.d (.int (bfor n))), some (.d (.tup (lowbits (n - 1) (bfor n)).reverse)), t8, t9, t10] ∧ 1 ≤ n ∧ n ≤ 1000000) ?_ fun e he => ?_
  · simp [hx, -callW_fnSp]
    have hb : bfor n ≤ 20 := bfor_le (by omega)
    exact ⟨by omega, _, _, _, _, ⟨rfl, rfl, rfl, rfl, rfl, rfl⟩, g7_0, g7_1⟩
  obtain ⟨i, m, s, n, t8, t9, t10, rfl, g8_0, g8_1⟩ := he
  refine step (fun e => ∃ (i : Int) (m : Int) (s : Int) (n : Int) (t8 : Option O) (t9 : Option O) (t10 : Option O), e = [some (.d (.scr ns)), some (.lst [.scr ns, .int i]), some (.d (.int k)), some (.d (.int m)), some (.d (.int s)), some (.d (.int n)), some (.d (.int (bfor n))), some (.d (.tup (lowbits (n - 1) (bfor n)).reverse)), t8, t9, t10] ∧ 1 ≤ n ∧ n ≤ 1000000) ?_ fun e he => ?_
  · simp [hx, -callW_fnSp]
    have hb : bfor n ≤ 20 := bfor_le (by omega)
    have hg : n - 1 < 2 ^ bfor n := by have := bfor_ge (m := n); omega
    rw [if_pos (by rw [lowbits_len])]
    refine ⟨fun x hx => by rcases low_mem hx with e | e <;> rw [e] <;> rfl, ?_⟩
    rw [if_pos (numD_low _ _ (by omega) hg)]
    refine cloop_map (fun x => .bl (!decide (x ∈ [D.int 0, D.int 1]))) ?_ ?_ ?_
    · rw [List.length_reverse, lowbits_len]; show _ ≤ 2 ^ 24; omega
    · intro x hx acc kk hacc hkk
      rcases low_mem (List.mem_reverse.mp hx) with e | e <;> subst e <;> simp [compB, D.pur, D.purs, D.dep, D.deps] <;> exact ⟨hacc, by simpa using hkk⟩
    · have ha : ∀ y ∈ (lowbits (n - 1) (bfor n)).reverse.map (fun x => D.bl (!decide (x ∈ [D.int 0, D.int 1]))), y = D.bl false := by
        intro y hy
        obtain ⟨x, hx, rfl⟩ := List.mem_map.mp hy
        rcases low_mem (List.mem_reverse.mp hx) with e | e <;> subst e <;> simp
      generalize (lowbits (n - 1) (bfor n)).reverse.map (fun x => D.bl (!decide (x ∈ [D.int 0, D.int 1]))) = ys at ha ⊢
      simp
      refine ⟨fun x hx => by rw [ha x hx]; rfl, ?_⟩
      rw [if_neg (by rintro ⟨x, hx, hu⟩; rw [ha x hx] at hu; cases hu)]
      exact ⟨_, _, _, _, ⟨rfl, rfl, rfl, rfl, rfl, rfl⟩, g8_0, g8_1⟩
  obtain ⟨i, m, s, n, t8, t9, t10, rfl, g9_0, g9_1⟩ := he
  refine step (fun e => ∃ (i : Int) (m : Int) (s : Int) (n : Int) (t8 : Option O) (t9 : Option O) (t10 : Option O), e = [some (.d (.scr ns)), some (.lst [.scr ns, .int i]), some (.d (.int k)), some (.d (.int m)), some (.d (.int s)), some (.d (.int n)), some (.d (.int (bfor n))), some (.d (.tup (lowbits (n - 1) (bfor n)).reverse)), t8, t9, t10] ∧ 1 ≤ n ∧ n ≤ 1000000) ?_ fun e he => ?_
  · simp [hx, -callW_fnSp]
    have hb : bfor n ≤ 20 := bfor_le (by omega)
    have hg : n - 1 < 2 ^ bfor n := by have := bfor_ge (m := n); omega
    have pad : ∀ xs, numD (D.int 0 :: D.int 0 :: xs) = numD xs := fun xs => by simp [numD]
    refine ⟨by rw [lowbits_len]; show _ ≤ 2 ^ 24; omega, ⟨rfl, fun x hx => by rcases low_mem hx with e | e <;> rw [e] <;> rfl⟩, ?_⟩
    rw [if_pos (by rw [pad]; exact numD_low _ _ (by omega) hg)]
    refine ⟨⟨by omega, by omega⟩, by rw [lowbits_len]; show _ ≤ 2 ^ 24; omega, eqOk_ints (by rw [List.all_reverse]; exact low_int) (by simp only [List.all_cons, List.all_reverse, low_int, VE.isInt, Bool.and_self]), ?_⟩
    rw [if_pos (by rw [show ((bfor n : Int) + 3).toNat = bfor n + 3 by omega]; exact low_pad (by omega) hg)]
    exact ⟨_, _, _, _, ⟨rfl, rfl, rfl, rfl, rfl, rfl⟩, g9_0, g9_1⟩
  obtain ⟨i, m, s, n, t8, t9, t10, rfl, g10_0, g10_1⟩ := he
  simp [hkk]
theorem w_law_v8 [Pr Γ 1 takeSp] [Pr Γ 91 (fnSp fch)] [Pr Γ 4 (fnSp fpower)] [Pr Γ 92 (fnSp ffor)] [Pr Γ 93 (fnSp fbits)] [Pr Γ 94 (fnSp fnum)] (os : List O) (Q : O → List O → Prop) (E : Ex → List O → Prop) (h : sp_law os Q E) : wpSs Γ f_law_v8 b_law_v8 (env0 f_law_v8 n_law_v8.length os) (postD f_law_v8 os Q) := by
  obtain ⟨ns, rfl, h2⟩ := h
  simp [b_law_v8, n_law_v8, f_law_v8]
  refine ⟨⟨by omega, by omega⟩, floop_by (fun k e => ∃ i t2 t3 t4 t5 t6 t7 t8 t9 t10, e = [some (.d (.scr ns)), some (.lst [.scr ns, .int i]), t2, t3, t4, t5, t6, t7, t8, t9, t10]) ⟨0, _, _, _, _, _, _, _, _, _, rfl⟩ ?_ ?_⟩
  · rintro k e kk hk ⟨i, t2, t3, t4, t5, t6, t7, t8, t9, t10, rfl⟩ hkk
    rw [rngD_len] at hk
    have h3 := rngD_get (i := 0) (j := 8) (k := k) (by rw [rngD_len]; exact hk)
    rw [h3, Int.zero_add]
    exact turn ns k (by omega) Q _ kk rfl i t2 t3 t4 t5 t6 t7 t8 t9 t10 fun i t3 t4 t5 t6 t7 t8 t9 t10 => hkk _ ⟨i, _, _, _, _, _, _, _, _, _, rfl⟩
  · rintro e ⟨i, t2, t3, t4, t5, t6, t7, t8, t9, t10, rfl⟩
    simp [VE.MulOk]
    intro r h0 h60 r1 g0 g60
    have p1 : (2 : Int) ^ r.toNat < 2 ^ 60 := pow_lt.mpr (by omega)
    have p2 : (0 : Int) < 2 ^ r.toNat := Int.pow_pos (by decide)
    refine ⟨by omega, ?_⟩
    rw [if_pos (by rw [bfor_pow]; omega)]
    refine ⟨by omega, ?_⟩
    rw [if_pos (by rw [bfor_pow1]; omega)]
    refine ⟨by omega, by omega, .inl (by omega), by omega, ?_⟩
    rw [if_pos (by rw [← Int.pow_add]; congr 1; omega), if_pos (show numD [] = 0 from rfl)]
    exact ⟨by simp [eqOk, D.pur, D.purs, D.dep, D.deps, lowbits], by rw [if_pos (show lowbits 0 0 = [] from rfl)]; exact h2⟩
end
end P
namespace P
open PySem PySem.Spec PyProof.Rows L2 VE A
theorem w_law_number {Γ : Gam} (os : List O) (Q : O → List O → Prop) (E : Ex → List O → Prop) (h : numSp os Q E) : wpSs Γ f_law_number b_law_number (env0 f_law_number n_law_number.length os) (postD f_law_number os Q) := w_num Γ os Q E h
theorem w_law_take {Γ : Gam} [Pr Γ 0 numSp] (os : List O) (Q : O → List O → Prop) (E : Ex → List O → Prop) (h : takeSp os Q E) : wpSs Γ f_law_take b_law_take (env0 f_law_take n_law_take.length os) (postD f_law_take os Q) := w_take Γ (f := 0) Pr.eq os Q E h
end P
namespace T
open PySem PySem.Spec PyProof.Rows L2 VE A
def top (i : Nat) : Stmt := PySem.Challenge.pw_finecloud_k59_whole_numbers.main.body.getD i (.Pass ⟨0, 0, 0, 0⟩)
def sub (i j : Nat) : Stmt := match top i with
  | .ClassDef _ _ _ b _ _ _ _ _ _ _ => b.getD j (.Pass ⟨0, 0, 0, 0⟩)
  | s => s
def ar : Nat → Nat
  | 0 => 2
  | 1 => 2
  | 91 => 2
  | 4 => 1
  | 92 => 1
  | 93 => 2
  | 94 => 1
  | 95 => 1
  | _ => 0
def free : List Str := ["abs", "any", "int", "len", "min", "range", "sum", "tuple"]
def glob : List (Str × Int) := []
abbrev s_law_number : Stmt := top 20
def u_law_number : Uses := { calls := [], cls := [], news := [], meths := [], own := [], eqs := [] }
theorem sc_law_number : FnScope n_law_number p_law_number (defScope s_law_number) := ⟨rfl, rfl, rfl, by decide +kernel, rfl, by decide +kernel, by decide +kernel⟩
theorem k_law_number : chkSs (mkB ar glob free n_law_number u_law_number) f_law_number (defScope s_law_number) b_law_number (defBody s_law_number) = true := by kernel_rfl
abbrev s_law_take : Stmt := top 21
def u_law_take : Uses := { calls := [(0, "_law_number")], cls := [], news := [], meths := [], own := [], eqs := [] }
theorem sc_law_take : FnScope n_law_take p_law_take (defScope s_law_take) := ⟨rfl, rfl, rfl, by decide +kernel, rfl, by decide +kernel, by decide +kernel⟩
theorem k_law_take : chkSs (mkB ar glob free n_law_take u_law_take) f_law_take (defScope s_law_take) b_law_take (defBody s_law_take) = true := by kernel_rfl
abbrev s_choices : Stmt := top 4
def u_choices : Uses := { calls := [], cls := [], news := [], meths := [], own := [], eqs := [] }
theorem sc_choices : FnScope n_choices p_choices (defScope s_choices) := ⟨rfl, rfl, rfl, by decide +kernel, rfl, by decide +kernel, by decide +kernel⟩
theorem k_choices : chkSs (mkB ar glob free n_choices u_choices) f_choices (defScope s_choices) b_choices (defBody s_choices) = true := by kernel_rfl
abbrev s_power : Stmt := top 3
def u_power : Uses := { calls := [], cls := [], news := [], meths := [], own := [], eqs := [] }
theorem sc_power : FnScope n_power p_power (defScope s_power) := ⟨rfl, rfl, rfl, by decide +kernel, rfl, by decide +kernel, by decide +kernel⟩
theorem k_power : chkSs (mkB ar glob free n_power u_power) f_power (defScope s_power) b_power (defBody s_power) = true := by kernel_rfl
abbrev s_bits_for : Stmt := top 5
def u_bits_for : Uses := { calls := [], cls := [], news := [], meths := [], own := [], eqs := [] }
theorem sc_bits_for : FnScope n_bits_for p_bits_for (defScope s_bits_for) := ⟨rfl, rfl, rfl, by decide +kernel, rfl, by decide +kernel, by decide +kernel⟩
theorem k_bits_for : chkSs (mkB ar glob free n_bits_for u_bits_for) f_bits_for (defScope s_bits_for) b_bits_for (defBody s_bits_for) = true := by kernel_rfl
abbrev s_bits_of : Stmt := top 6
def u_bits_of : Uses := { calls := [], cls := [], news := [], meths := [], own := [], eqs := [] }
theorem sc_bits_of : FnScope n_bits_of p_bits_of (defScope s_bits_of) := ⟨rfl, rfl, rfl, by decide +kernel, rfl, by decide +kernel, by decide +kernel⟩
theorem k_bits_of : chkSs (mkB ar glob free n_bits_of u_bits_of) f_bits_of (defScope s_bits_of) b_bits_of (defBody s_bits_of) = true := by kernel_rfl
abbrev s_number_of : Stmt := top 7
def u_number_of : Uses := { calls := [], cls := [], news := [], meths := [], own := [], eqs := [] }
theorem sc_number_of : FnScope n_number_of p_number_of (defScope s_number_of) := ⟨rfl, rfl, rfl, by decide +kernel, rfl, by decide +kernel, by decide +kernel⟩
theorem k_number_of : chkSs (mkB ar glob free n_number_of u_number_of) f_number_of (defScope s_number_of) b_number_of (defBody s_number_of) = true := by kernel_rfl
abbrev s_law_v8 : Stmt := top 31
def u_law_v8 : Uses := { calls := [(1, "_law_take"), (91, "choices"), (4, "power"), (92, "bits_for"), (93, "bits_of"), (94, "number_of")], cls := [], news := [], meths := [], own := [], eqs := [] }
theorem sc_law_v8 : FnScope n_law_v8 p_law_v8 (defScope s_law_v8) := ⟨rfl, rfl, rfl, by decide +kernel, rfl, by decide +kernel, by decide +kernel⟩
theorem k_law_v8 : chkSs (mkB ar glob free n_law_v8 u_law_v8) f_law_v8 (defScope s_law_v8) b_law_v8 (defBody s_law_v8) = true := by kernel_rfl
end T
namespace T
open PySem PySem.Spec PyProof.Rows L2 VE A
/-- what each def promises -/
def Γ : Gam where
  fn := fun n => match n with
    | 0 => numSp
    | 1 => takeSp
    | 91 => (fnSp P.fch)
    | 4 => (fnSp P.fpower)
    | 92 => (fnSp P.ffor)
    | 93 => (fnSp P.fbits)
    | 94 => (fnSp P.fnum)
    | 95 => P.sp_law
    | _ => fun _ _ _ => False
instance : Pr Γ 0 numSp := ⟨rfl⟩
instance : Pr Γ 1 takeSp := ⟨rfl⟩
instance : Pr Γ 91 (fnSp P.fch) := ⟨rfl⟩
instance : Pr Γ 4 (fnSp P.fpower) := ⟨rfl⟩
instance : Pr Γ 92 (fnSp P.ffor) := ⟨rfl⟩
instance : Pr Γ 93 (fnSp P.fbits) := ⟨rfl⟩
instance : Pr Γ 94 (fnSp P.fnum) := ⟨rfl⟩
instance : Pr Γ 95 P.sp_law := ⟨rfl⟩
theorem law_prom : ar 95 = 1 ∧ ∀ ns, callW (Γ.fn 95) [.d (.scr ns)] (fun o _ => o = .d (.bl true)) (fun _ _ => False) := ⟨rfl, fun ns => callW.of ⟨ns, rfl, rfl, rfl⟩⟩
end T
namespace T
open PySem PySem.Spec PyProof.Rows L2 VE A
def dd_law_number : He.DefD := ⟨("_law_number", none), "_law_number", "_law_number", defArgs s_law_number, defBody s_law_number, defScope s_law_number, [], []⟩
def dd_law_take : He.DefD := ⟨("_law_take", none), "_law_take", "_law_take", defArgs s_law_take, defBody s_law_take, defScope s_law_take, [], []⟩
def dd_choices : He.DefD := ⟨("choices", none), "choices", "choices", defArgs s_choices, defBody s_choices, defScope s_choices, [], []⟩
def dd_power : He.DefD := ⟨("power", none), "power", "power", defArgs s_power, defBody s_power, defScope s_power, [], []⟩
def dd_bits_for : He.DefD := ⟨("bits_for", none), "bits_for", "bits_for", defArgs s_bits_for, defBody s_bits_for, defScope s_bits_for, [], []⟩
def dd_bits_of : He.DefD := ⟨("bits_of", none), "bits_of", "bits_of", defArgs s_bits_of, defBody s_bits_of, defScope s_bits_of, [], []⟩
def dd_number_of : He.DefD := ⟨("number_of", none), "number_of", "number_of", defArgs s_number_of, defBody s_number_of, defScope s_number_of, [], []⟩
def dd_law_v8 : He.DefD := ⟨("law", none), "law", "law", defArgs s_law_v8, defBody s_law_v8, defScope s_law_v8, [], []⟩
def fn : List He.DefD := [dd_law_number, dd_law_take, dd_choices, dd_power, dd_bits_for, dd_bits_of, dd_number_of, dd_law_v8]
def fa : List VHK.Fb := [.fa (.glo "_law_number"), .fa (.glo "_law_take"), .fa (.glo "choices"), .fa (.glo "power"), .fa (.glo "bits_for"), .fa (.glo "bits_of"), .fa (.glo "number_of"), .fa (.glo "law"), .fa (.free "abs"), .fa (.free "any"), .fa (.free "int"), .fa (.free "len"), .fa (.free "min"), .fa (.free "range"), .fa (.free "sum"), .fa (.free "tuple")]
def CTb (K : PySem.W.Frag) : CT := ⟨fun c => match c with
  | _ => 0, fun c => match c with
  | _ => []⟩
abbrev R0 : PySem.W.OpenRow := PySem.W.OpenLaw.row PySem.Challenge.rw_finecloud_k59_whole_numbers
abbrev hk : PySem.W.Hook := VHK.hookF 4 fa fn
def ob (s : PySem.W.SharedT) : He.AlD := VHK.obsFG 4 fa fn (HandSHeadRun.getT s)
theorem ob_eq (s : PySem.W.SharedT) : ob s = hk.obs s.abs := VHK.obsFG_eq (HandSHeadRun.getT_eq s)
def loose : List PySem.Str := [("_wall" : PySem.Str), ("__name__" : PySem.Str), ("is_whole" : PySem.Str), ("power" : PySem.Str), ("choices" : PySem.Str), ("bits_for" : PySem.Str), ("bits_of" : PySem.Str), ("number_of" : PySem.Str), ("CloudError" : PySem.Str), ("BadSpace" : PySem.Str), ("BadPoint" : PySem.Str), ("Cloud" : PySem.Str), ("MOST_DIMENSIONS" : PySem.Str), ("MOST_BITS" : PySem.Str), ("Space" : PySem.Str), ("Box" : PySem.Str), ("_law_number" : PySem.Str), ("_law_take" : PySem.Str), ("_law_pick" : PySem.Str), ("_law_unlike" : PySem.Str), ("_law_power" : PySem.Str), ("_law_space" : PySem.Str), ("_law_point" : PySem.Str), ("_law_points" : PySem.Str), ("_law_cloud" : PySem.Str), ("_law_box" : PySem.Str), ("_law_all" : PySem.Str)]
theorem run (w : World) : HandSHeadRun.RunEq R0 (PySem.W.view R0.prog [31]) hk ob 20000 loose w := by
  intro os
  kernel_rfl
section
variable {P : Program} {w : World} {K : PySem.W.Frag} {mg : Str → Option Value} {base : Heap}
theorem fo_law_number {f : Addr} {fd : FuncData} (F : FunD K "_law_number" "_law_number" (defArgs s_law_number) (defBody s_law_number) (defScope s_law_number) [] [] f fd) (hfree : ∀ y ∈ free, mg y = none) (hglob : ∀ p ∈ glob, ∃ t, mg p.1 = some (.int p.2 t))  : FnOk P w K mg base CX0 1 f fd p_law_number (spOf (CTb K) K (ar 0) (Γ.fn 0)) :=
  body_ok (n := 0) (k := 0) F sc_law_number rfl k_law_number (List.forall_mem_nil _) (List.forall_mem_nil _) (List.forall_mem_nil _) (List.forall_mem_nil _) (List.forall_mem_nil _) (List.forall_mem_nil _) hfree hglob fun os Q E hl h => _root_.P.w_law_number os Q E h
theorem fo_law_take {f : Addr} {fd : FuncData} (F : FunD K "_law_take" "_law_take" (defArgs s_law_take) (defBody s_law_take) (defScope s_law_take) [] [] f fd) (hfree : ∀ y ∈ free, mg y = none) (hglob : ∀ p ∈ glob, ∃ t, mg p.1 = some (.int p.2 t)) (h0 : FA (CTb K) Γ ar P w K mg base 1 0 "_law_number") : FnOk P w K mg base CX0 2 f fd p_law_take (spOf (CTb K) K (ar 1) (Γ.fn 1)) :=
  body_ok (n := 0) (k := 1) F sc_law_take rfl k_law_take (List.forall_mem_cons.mpr ⟨h0, List.forall_mem_nil _⟩) (List.forall_mem_nil _) (List.forall_mem_nil _) (List.forall_mem_nil _) (List.forall_mem_nil _) (List.forall_mem_nil _) hfree hglob fun os Q E hl h => _root_.P.w_law_take os Q E h
theorem fo_choices {f : Addr} {fd : FuncData} (F : FunD K "choices" "choices" (defArgs s_choices) (defBody s_choices) (defScope s_choices) [] [] f fd) (hfree : ∀ y ∈ free, mg y = none) (hglob : ∀ p ∈ glob, ∃ t, mg p.1 = some (.int p.2 t))  : FnOk P w K mg base CX0 1 f fd p_choices (spOf (CTb K) K (ar 91) (Γ.fn 91)) :=
  body_ok (n := 0) (k := 0) F sc_choices rfl k_choices (List.forall_mem_nil _) (List.forall_mem_nil _) (List.forall_mem_nil _) (List.forall_mem_nil _) (List.forall_mem_nil _) (List.forall_mem_nil _) hfree hglob fun os Q E hl h => _root_.P.w_choices os Q E h
theorem fo_power {f : Addr} {fd : FuncData} (F : FunD K "power" "power" (defArgs s_power) (defBody s_power) (defScope s_power) [] [] f fd) (hfree : ∀ y ∈ free, mg y = none) (hglob : ∀ p ∈ glob, ∃ t, mg p.1 = some (.int p.2 t))  : FnOk P w K mg base CX0 1 f fd p_power (spOf (CTb K) K (ar 4) (Γ.fn 4)) :=
  body_ok (n := 0) (k := 0) F sc_power rfl k_power (List.forall_mem_nil _) (List.forall_mem_nil _) (List.forall_mem_nil _) (List.forall_mem_nil _) (List.forall_mem_nil _) (List.forall_mem_nil _) hfree hglob fun os Q E hl h => _root_.P.w_power os Q E h
theorem fo_bits_for {f : Addr} {fd : FuncData} (F : FunD K "bits_for" "bits_for" (defArgs s_bits_for) (defBody s_bits_for) (defScope s_bits_for) [] [] f fd) (hfree : ∀ y ∈ free, mg y = none) (hglob : ∀ p ∈ glob, ∃ t, mg p.1 = some (.int p.2 t))  : FnOk P w K mg base CX0 1 f fd p_bits_for (spOf (CTb K) K (ar 92) (Γ.fn 92)) :=
  body_ok (n := 0) (k := 0) F sc_bits_for rfl k_bits_for (List.forall_mem_nil _) (List.forall_mem_nil _) (List.forall_mem_nil _) (List.forall_mem_nil _) (List.forall_mem_nil _) (List.forall_mem_nil _) hfree hglob fun os Q E hl h => _root_.P.w_bits_for os Q E h
theorem fo_bits_of {f : Addr} {fd : FuncData} (F : FunD K "bits_of" "bits_of" (defArgs s_bits_of) (defBody s_bits_of) (defScope s_bits_of) [] [] f fd) (hfree : ∀ y ∈ free, mg y = none) (hglob : ∀ p ∈ glob, ∃ t, mg p.1 = some (.int p.2 t))  : FnOk P w K mg base CX0 1 f fd p_bits_of (spOf (CTb K) K (ar 93) (Γ.fn 93)) :=
  body_ok (n := 0) (k := 0) F sc_bits_of rfl k_bits_of (List.forall_mem_nil _) (List.forall_mem_nil _) (List.forall_mem_nil _) (List.forall_mem_nil _) (List.forall_mem_nil _) (List.forall_mem_nil _) hfree hglob fun os Q E hl h => _root_.P.w_bits_of os Q E h
theorem fo_number_of {f : Addr} {fd : FuncData} (F : FunD K "number_of" "number_of" (defArgs s_number_of) (defBody s_number_of) (defScope s_number_of) [] [] f fd) (hfree : ∀ y ∈ free, mg y = none) (hglob : ∀ p ∈ glob, ∃ t, mg p.1 = some (.int p.2 t))  : FnOk P w K mg base CX0 1 f fd p_number_of (spOf (CTb K) K (ar 94) (Γ.fn 94)) :=
  body_ok (n := 0) (k := 0) F sc_number_of rfl k_number_of (List.forall_mem_nil _) (List.forall_mem_nil _) (List.forall_mem_nil _) (List.forall_mem_nil _) (List.forall_mem_nil _) (List.forall_mem_nil _) hfree hglob fun os Q E hl h => _root_.P.w_number_of os Q E h
theorem fo_law_v8 {f : Addr} {fd : FuncData} (F : FunD K "law" "law" (defArgs s_law_v8) (defBody s_law_v8) (defScope s_law_v8) [] [] f fd) (hfree : ∀ y ∈ free, mg y = none) (hglob : ∀ p ∈ glob, ∃ t, mg p.1 = some (.int p.2 t)) (h1 : FA (CTb K) Γ ar P w K mg base 2 1 "_law_take") (h91 : FA (CTb K) Γ ar P w K mg base 2 91 "choices") (h4 : FA (CTb K) Γ ar P w K mg base 2 4 "power") (h92 : FA (CTb K) Γ ar P w K mg base 2 92 "bits_for") (h93 : FA (CTb K) Γ ar P w K mg base 2 93 "bits_of") (h94 : FA (CTb K) Γ ar P w K mg base 2 94 "number_of") : FnOk P w K mg base CX0 3 f fd p_law_v8 (spOf (CTb K) K (ar 95) (Γ.fn 95)) :=
  body_ok (n := 0) (k := 2) F sc_law_v8 rfl k_law_v8 (List.forall_mem_cons.mpr ⟨h1, List.forall_mem_cons.mpr ⟨h91, List.forall_mem_cons.mpr ⟨h4, List.forall_mem_cons.mpr ⟨h92, List.forall_mem_cons.mpr ⟨h93, List.forall_mem_cons.mpr ⟨h94, List.forall_mem_nil _⟩⟩⟩⟩⟩⟩) (List.forall_mem_nil _) (List.forall_mem_nil _) (List.forall_mem_nil _) (List.forall_mem_nil _) (List.forall_mem_nil _) hfree hglob fun os Q E hl h => _root_.P.w_law_v8 os Q E h
end
theorem facts {P : Program} {w : World} {K : PySem.W.Frag} {h : Heap} {mg : Str → Option Value} {f : Addr} (X : K.In h) (G : h.Ns mainGlobals mg) (hfa : mg ("law" : Str) = some (.ref f)) (c : VHK.SaysF fa fn K) :
    ∃ fd : FuncData, (∀ (s : Shared) (v : Value), BindsTo s fd ⟨[v], []⟩ [("_law_script", v)]) ∧ ∀ base : Heap, K.In base → base.Ns mainGlobals mg → FnOk P w K mg base CX0 3 f fd p_law_v8 (spOf (CTb K) K (ar 95) (Γ.fn 95)) := by
  obtain ⟨fd0, F0⟩ := c.def_ 0 (d := dd_law_number) rfl
  obtain ⟨fd1, F1⟩ := c.def_ 1 (d := dd_law_take) rfl
  obtain ⟨fd2, F2⟩ := c.def_ 2 (d := dd_choices) rfl
  obtain ⟨fd3, F3⟩ := c.def_ 3 (d := dd_power) rfl
  obtain ⟨fd4, F4⟩ := c.def_ 4 (d := dd_bits_for) rfl
  obtain ⟨fd5, F5⟩ := c.def_ 5 (d := dd_bits_of) rfl
  obtain ⟨fd6, F6⟩ := c.def_ 6 (d := dd_number_of) rfl
  obtain ⟨fd7, F7⟩ := c.def_ 7 (d := dd_law_v8) rfl
  have e := hfa.symm.trans (He.glo_ok X G (c.fact 7 (f := .fa (.glo "law")) rfl))
  cases e
  have b := FunD.bindsA (ps := p_law_v8) F7 fun _ _ _ _ _ _ us hl => match us, hl with | [_], _ => rfl
  have hfree : ∀ y ∈ free, mg y = none := List.forall_mem_cons.mpr ⟨He.free_ok X G (c.fact 8 (f := .fa (.free "abs")) rfl), List.forall_mem_cons.mpr ⟨He.free_ok X G (c.fact 9 (f := .fa (.free "any")) rfl), List.forall_mem_cons.mpr ⟨He.free_ok X G (c.fact 10 (f := .fa (.free "int")) rfl), List.forall_mem_cons.mpr ⟨He.free_ok X G (c.fact 11 (f := .fa (.free "len")) rfl), List.forall_mem_cons.mpr ⟨He.free_ok X G (c.fact 12 (f := .fa (.free "min")) rfl), List.forall_mem_cons.mpr ⟨He.free_ok X G (c.fact 13 (f := .fa (.free "range")) rfl), List.forall_mem_cons.mpr ⟨He.free_ok X G (c.fact 14 (f := .fa (.free "sum")) rfl), List.forall_mem_cons.mpr ⟨He.free_ok X G (c.fact 15 (f := .fa (.free "tuple")) rfl), List.forall_mem_nil _⟩⟩⟩⟩⟩⟩⟩⟩
  have hglob : ∀ p ∈ glob, ∃ t, mg p.1 = some (.int p.2 t) := List.forall_mem_nil _
  refine ⟨fd7, fun s v => b s [v] rfl, fun base _ _ => ?_⟩
  have A0 : FA (CTb K) Γ ar P w K mg base 1 0 "_law_number" := ⟨_, fd0, p_law_number, fo_law_number F0 hfree hglob , He.glo_ok X G (c.fact 0 (f := .fa (.glo "_law_number")) rfl), F0.kp, F0.bindsN fun _ _ _ _ _ _ us hl => match us, hl with | [_, _], _ => rfl⟩
  have A1 : FA (CTb K) Γ ar P w K mg base 2 1 "_law_take" := ⟨_, fd1, p_law_take, fo_law_take F1 hfree hglob (A0.mono (by decide)), He.glo_ok X G (c.fact 1 (f := .fa (.glo "_law_take")) rfl), F1.kp, F1.bindsN fun _ _ _ _ _ _ us hl => match us, hl with | [_, _], _ => rfl⟩
  have A91 : FA (CTb K) Γ ar P w K mg base 1 91 "choices" := ⟨_, fd2, p_choices, fo_choices F2 hfree hglob , He.glo_ok X G (c.fact 2 (f := .fa (.glo "choices")) rfl), F2.kp, F2.bindsN fun _ _ _ _ _ _ us hl => match us, hl with | [_, _], _ => rfl⟩
  have A4 : FA (CTb K) Γ ar P w K mg base 1 4 "power" := ⟨_, fd3, p_power, fo_power F3 hfree hglob , He.glo_ok X G (c.fact 3 (f := .fa (.glo "power")) rfl), F3.kp, F3.bindsN fun _ _ _ _ _ _ us hl => match us, hl with | [_], _ => rfl⟩
  have A92 : FA (CTb K) Γ ar P w K mg base 1 92 "bits_for" := ⟨_, fd4, p_bits_for, fo_bits_for F4 hfree hglob , He.glo_ok X G (c.fact 4 (f := .fa (.glo "bits_for")) rfl), F4.kp, F4.bindsN fun _ _ _ _ _ _ us hl => match us, hl with | [_], _ => rfl⟩
  have A93 : FA (CTb K) Γ ar P w K mg base 1 93 "bits_of" := ⟨_, fd5, p_bits_of, fo_bits_of F5 hfree hglob , He.glo_ok X G (c.fact 5 (f := .fa (.glo "bits_of")) rfl), F5.kp, F5.bindsN fun _ _ _ _ _ _ us hl => match us, hl with | [_, _], _ => rfl⟩
  have A94 : FA (CTb K) Γ ar P w K mg base 1 94 "number_of" := ⟨_, fd6, p_number_of, fo_number_of F6 hfree hglob , He.glo_ok X G (c.fact 6 (f := .fa (.glo "number_of")) rfl), F6.kp, F6.bindsN fun _ _ _ _ _ _ us hl => match us, hl with | [_], _ => rfl⟩
  exact fo_law_v8 F7 hfree hglob (A1.mono (by decide)) (A91.mono (by decide)) (A4.mono (by decide)) (A92.mono (by decide)) (A93.mono (by decide)) (A94.mono (by decide))
end T
open PySem PySem.W PySem.Calls PyProof.Rows
theorem PySem.Challenge.cw_finecloud_k59_whole_numbers_holds : PySem.Challenge.rw_finecloud_k59_whole_numbers.Holds := by
  w_on; o_law
  refine HandSHeadRun.head_any (r := OpenLaw.row PySem.Challenge.rw_finecloud_k59_whole_numbers) (q := view (OpenLaw.row PySem.Challenge.rw_finecloud_k59_whole_numbers).prog [31]) (H := T.hk) (ob := T.ob) (M := 20000) (loose := T.loose) (d := HandSHeadRun.topDef (OpenLaw.row PySem.Challenge.rw_finecloud_k59_whole_numbers).prog 31) (kwd := []) T.ob_eq
    (by kernel_rfl) (fun s => by kernel_rfl) T.run (by kernel_rfl) (by kernel_rfl) (by kernel_rfl) (by rfl) (by first | assumption | decide +kernel) (by decide +kernel) ⟨rfl, rfl, rfl, rfl, rfl, by decide +kernel⟩ ?hw ?hc
  case hw => w_witness2
  case hc =>
    refine L2.walk_ofE (l := PySem.Challenge.rw_finecloud_k59_whole_numbers) (n := 63) (k := 3) (x := "_law_script") (CX := L2.CX0) rfl (by decide) (by kernel_rfl) ⟨rfl, by decide, by decide⟩ ?F (fun _ _ _ _ z => z)
    intro w mg fa h Y G hmg0
    obtain ⟨K, KX, c⟩ := Y
    have hmg : mg ("law" : PySem.Str) = some (.ref fa) := by
      have e : (HandSHeadRun.topDef (OpenLaw.row PySem.Challenge.rw_finecloud_k59_whole_numbers).prog 31).name = ("law" : PySem.Str) := by kernel_rfl
      rw [← e]
      exact hmg0
    obtain ⟨fd, hb, hF⟩ := T.facts (P := (PySem.Challenge.rw_finecloud_k59_whole_numbers).prog) (w := w) KX G hmg c
    exact ⟨K, fd, _, KX, hb, fun H a ns hl hO hS => VE.law_sp hO hS T.law_prom, hF⟩
