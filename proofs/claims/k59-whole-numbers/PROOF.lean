import PyProof.Rows.All
import Wide.All
import OpenK.AllK
import Wide.FinOn
import HandS.ForMost
import HandS.Wide
import HandS.TupAny
import HandS.TupMul
import HandS.Style
import HandS.Deep
import KE.DataCmp
import KE.SortData
import KE.DataMinMax
import HandS.Defaults
import HandS.Codes
import PySem.Challenge.RW_finecloud_k59_whole_numbers
import HandS.Ends
import HandS.More
import HandS.Words
import HandS.WordsExc
import HandS.Head0
import HandS.Head1
import HandS.Head2
import HandS.HeadEnd
import HandS.HeadHook1
import HandS.HeadHook2
import KE.KStateDown
import Lean
set_option Elab.async false
set_option linter.all false
set_option maxRecDepth 100000
set_option maxHeartbeats 0
/-! VE1: data, owned objects, the relation between an abstract state and the layer's heap -/
namespace VE
open PySem L2

/-! ### data -/
inductive D where
  | non | bl (b : Bool) | int (i : Int) | str (s : Str)
  | tup (xs : List D) | lst (xs : List D) | scr (ns : List Int)
  | dic (t : Bool) (ks : List D) (vs : List D)
  | ins (c : Nat) (fs : List D)

mutual
def D.beq : D → D → Bool
  | .non, .non => true
  | .bl a, .bl b => a == b
  | .int a, .int b => decide (a = b)
  | .str a, .str b => decide (a = b)
  | .tup a, .tup b => D.beqs a b
  | .lst a, .lst b => D.beqs a b
  | .scr a, .scr b => decide (a = b)
  | .dic t a x, .dic u b y => t == u && (D.beqs a b && D.beqs x y)
  | .ins c a, .ins e b => c == e && D.beqs a b
  | _, _ => false
def D.beqs : List D → List D → Bool
  | [], [] => true
  | x :: xs, y :: ys => D.beq x y && D.beqs xs ys
  | _, _ => false
end
mutual
theorem D.beq_iff : ∀ a b : D, D.beq a b = true ↔ a = b
  | .non, b => by cases b <;> simp [D.beq]
  | .bl a, b => by cases b <;> simp [D.beq]
  | .int a, b => by cases b <;> simp [D.beq]
  | .str a, b => by cases b <;> simp [D.beq]
  | .tup a, b => by cases b <;> simp [D.beq, D.beqs_iff]
  | .lst a, b => by cases b <;> simp [D.beq, D.beqs_iff]
  | .scr a, b => by cases b <;> simp [D.beq]
  | .dic t a x, b => by cases b <;> simp [D.beq, D.beqs_iff]
  | .ins c a, b => by cases b <;> simp [D.beq, D.beqs_iff]
theorem D.beqs_iff : ∀ a b : List D, D.beqs a b = true ↔ a = b
  | [], b => by cases b <;> simp [D.beqs]
  | x :: xs, b => by cases b <;> simp [D.beqs, D.beq_iff, D.beqs_iff]
end
instance : DecidableEq D := fun a b => decidable_of_iff _ (D.beq_iff a b)

/-- owned objects: a tree; .d: data that stand still -/
inductive O where
  | d (x : D) | lst (xs : List D) | dic (t : Bool) (ks : List D) (vs : List D) | ins (c : Nat) (fs : List O)

mutual
def O.toD : O → D
  | .d x => x
  | .lst xs => .lst xs
  | .dic t ks vs => .dic t ks vs
  | .ins c fs => .ins c (O.toDs fs)
def O.toDs : List O → List D
  | [] => []
  | o :: os => o.toD :: O.toDs os
end
theorem O.toDs_map : ∀ os : List O, O.toDs os = os.map O.toD
  | [] => rfl
  | o :: os => by rw [O.toDs, O.toDs_map os]; rfl

/-- the classes: where they stand, their attributes by place -/
structure CT where
  addr : Nat → Addr
  names : Nat → List Str

/-! ### keys -/
def toKey : D → Key
  | .int i => .inl i
  | .str s => .inr s
  | _ => .inl 0
def isKey : D → Bool
  | .int _ => true
  | .str _ => true
  | _ => false
def toKeyT : D → List Key
  | .tup xs => xs.map toKey
  | _ => []
def isKeyT : D → Bool
  | .tup xs => xs.all isKey
  | _ => false
def keysOk (t : Bool) (ks : List D) : Bool := if t then ks.all isKeyT else ks.all isKey
def dHO (t : Bool) (ks : List D) (vs : List V) : HO := if t then .dT ((ks.map toKeyT).zip vs) else .dK ((ks.map toKey).zip vs)

/-! ### data in the heap -/
mutual
def Rep (C : CT) (K : PySem.W.Frag) (G : Hp) : D → V → Prop
  | .non, v => v = .non
  | .bl b, v => v = .bl b
  | .int i, v => v = .int i
  | .str s, v => v = .str s
  | .tup xs, v => ∃ p vs, v = .ref p ∧ G p = some (.tup vs) ∧ Reps C K G xs vs
  | .lst xs, v => ∃ p vs, v = .ref p ∧ G p = some (.lst vs) ∧ Reps C K G xs vs
  | .scr ns, v => ∃ p, v = .ref p ∧ SqL K G p (ns.map V.int)
  | .dic t ks xs, v => ∃ p vs, v = .ref p ∧ G p = some (dHO t ks vs) ∧ (keysOk t ks = true ∧ ks.length = xs.length) ∧ Reps C K G xs vs
  | .ins c fs, v => ∃ p dx vs, v = .ref p ∧ G p = some (.ins (C.addr c) dx ((C.names c).zip vs)) ∧ fs.length ≤ (C.names c).length ∧ Reps C K G fs vs
def Reps (C : CT) (K : PySem.W.Frag) (G : Hp) : List D → List V → Prop
  | [], vs => vs = []
  | x :: xs, vs => ∃ v r, vs = v :: r ∧ Rep C K G x v ∧ Reps C K G xs r
end

section
variable {C : CT} {K : PySem.W.Frag} {G G' H H' : Hp}
mutual
theorem Rep.mono (e : Same G G') : ∀ (x : D) (v : V), Rep C K G x v → Rep C K G' x v
  | .non, _, h => h
  | .bl _, _, h => h
  | .int _, _, h => h
  | .str _, _, h => h
  | .tup xs, _, ⟨p, vs, e1, h1, h2⟩ => ⟨p, vs, e1, e _ _ h1, Reps.mono e xs vs h2⟩
  | .lst xs, _, ⟨p, vs, e1, h1, h2⟩ => ⟨p, vs, e1, e _ _ h1, Reps.mono e xs vs h2⟩
  | .scr ns, _, ⟨p, e1, h1⟩ => ⟨p, e1, e.seq h1⟩
  | .dic t ks xs, _, ⟨p, vs, e1, h1, h3, h2⟩ => ⟨p, vs, e1, e _ _ h1, h3, Reps.mono e xs vs h2⟩
  | .ins c fs, _, ⟨p, dx, vs, e1, h1, h3, h2⟩ => ⟨p, dx, vs, e1, e _ _ h1, h3, Reps.mono e fs vs h2⟩
theorem Reps.mono (e : Same G G') : ∀ (xs : List D) (vs : List V), Reps C K G xs vs → Reps C K G' xs vs
  | [], _, h => h
  | x :: xs, _, ⟨v, r, e1, h1, h2⟩ => ⟨v, r, e1, Rep.mono e x v h1, Reps.mono e xs r h2⟩
end
theorem Reps.length : ∀ {xs : List D} {vs : List V}, Reps C K G xs vs → xs.length = vs.length
  | [], _, h => by cases h; rfl
  | _ :: _, _, ⟨_, _, e, _, h⟩ => by subst e; simp [Reps.length h]
theorem Reps.get : ∀ {xs : List D} {vs : List V} {i : Nat} {x : D}, Reps C K G xs vs → xs[i]? = some x → ∃ v, vs[i]? = some v ∧ Rep C K G x v
  | [], _, _, _, _, e => by simp at e
  | _ :: _, _, 0, _, ⟨v, r, e1, h1, _⟩, e => by subst e1; simp at e; subst e; exact ⟨v, rfl, h1⟩
  | _ :: xs, _, i + 1, x, ⟨v, r, e1, _, h2⟩, e => by
    subst e1
    obtain ⟨w, h3, h4⟩ := Reps.get (i := i) (x := x) h2 (by simpa using e)
    exact ⟨w, by simpa using h3, h4⟩
theorem Reps.get' : ∀ {xs : List D} {vs : List V} {i : Nat} {v : V}, Reps C K G xs vs → vs[i]? = some v → ∃ x, xs[i]? = some x ∧ Rep C K G x v
  | [], _, _, _, h, e => by cases h; simp at e
  | _ :: _, _, 0, _, ⟨w, r, e1, h1, _⟩, e => by subst e1; simp at e; subst e; exact ⟨_, rfl, h1⟩
  | _ :: xs, _, i + 1, v, ⟨w, r, e1, _, h2⟩, e => by
    subst e1
    obtain ⟨x, h3, h4⟩ := Reps.get' (i := i) (v := v) h2 (by simpa using e)
    exact ⟨x, by simpa using h3, h4⟩
theorem Reps.append : ∀ {xs ys : List D} {vs ws : List V}, Reps C K G xs vs → Reps C K G ys ws → Reps C K G (xs ++ ys) (vs ++ ws)
  | [], _, _, _, h, k => by cases h; exact k
  | _ :: _, _, _, _, ⟨v, r, e, h1, h2⟩, k => by subst e; exact ⟨v, _, rfl, h1, Reps.append h2 k⟩
theorem Reps.take : ∀ {xs : List D} {vs : List V} (n : Nat), Reps C K G xs vs → Reps C K G (xs.take n) (vs.take n)
  | _, _, 0, _ => rfl
  | [], _, _ + 1, h => by cases h; rfl
  | _ :: _, _, n + 1, ⟨v, r, e, h1, h2⟩ => by subst e; exact ⟨v, _, rfl, h1, Reps.take n h2⟩
theorem Reps.drop : ∀ {xs : List D} {vs : List V} (n : Nat), Reps C K G xs vs → Reps C K G (xs.drop n) (vs.drop n)
  | _, _, 0, h => h
  | [], _, _ + 1, h => by cases h; rfl
  | _ :: _, _, n + 1, ⟨v, r, e, h1, h2⟩ => by subst e; exact Reps.drop n h2
theorem Reps.set : ∀ {xs : List D} {vs : List V} (n : Nat) {x : D} {v : V}, Reps C K G xs vs → Rep C K G x v → Reps C K G (xs.set n x) (vs.set n v)
  | [], _, _, _, _, h, _ => by cases h; rfl
  | _ :: _, _, 0, _, _, ⟨w, r, e, h1, h2⟩, k => by subst e; exact ⟨_, _, rfl, k, h2⟩
  | _ :: _, _, n + 1, _, _, ⟨w, r, e, h1, h2⟩, k => by subst e; exact ⟨_, _, rfl, h1, Reps.set n h2 k⟩
theorem Reps.reverse : ∀ {xs : List D} {vs : List V}, Reps C K G xs vs → Reps C K G xs.reverse vs.reverse
  | [], _, h => by cases h; rfl
  | _ :: _, _, ⟨v, r, e, h1, h2⟩ => by
    subst e
    rw [List.reverse_cons, List.reverse_cons]
    exact Reps.append (Reps.reverse h2) ⟨v, [], rfl, h1, rfl⟩
theorem Reps.one {x : D} {v : V} (h : Rep C K G x v) : Reps C K G [x] [v] := ⟨v, [], rfl, h, rfl⟩
theorem Reps.eraseIdx : ∀ {xs : List D} {vs : List V} (n : Nat), Reps C K G xs vs → Reps C K G (xs.eraseIdx n) (vs.eraseIdx n)
  | [], _, _, h => by cases h; rfl
  | _ :: _, _, 0, ⟨v, r, e, h1, h2⟩ => by subst e; exact h2
  | _ :: _, _, n + 1, ⟨v, r, e, h1, h2⟩ => by subst e; exact ⟨_, _, rfl, h1, Reps.eraseIdx n h2⟩
theorem Reps.dropLast {xs : List D} {vs : List V} (h : Reps C K G xs vs) : Reps C K G xs.dropLast vs.dropLast := by
  rw [List.dropLast_eq_take, List.dropLast_eq_take, h.length]
  exact h.take _
theorem Reps.ints : ∀ {ns : List Int} {vs : List V}, Reps C K G (ns.map D.int) vs → vs = ns.map V.int
  | [], _, h => h
  | n :: ns, _, ⟨v, r, e, h1, h2⟩ => by subst e; cases h1; rw [Reps.ints h2]; rfl
theorem Reps.of_ints : ∀ {ns : List Int}, Reps C K G (ns.map D.int) (ns.map V.int)
  | [] => rfl
  | n :: ns => ⟨_, _, rfl, rfl, Reps.of_ints⟩
theorem Reps.bls : ∀ {bs : List Bool} {vs : List V}, Reps C K G (bs.map D.bl) vs → vs = bs.map V.bl
  | [], _, h => h
  | n :: ns, _, ⟨v, r, e, h1, h2⟩ => by subst e; cases h1; rw [Reps.bls h2]; rfl
end

/-! ### owned objects -/
mutual
/-- o stands at v: what it owns stands at S, its data stand in G -/
def own (C : CT) (K : PySem.W.Frag) (H G : Hp) : O → V → List Addr → Prop
  | .d x, v, S => S = [] ∧ Rep C K G x v
  | .lst xs, v, S => ∃ p vs, v = .ref p ∧ S = [p] ∧ H p = some (.lst vs) ∧ Reps C K G xs vs
  | .dic t ks xs, v, S => ∃ p vs, v = .ref p ∧ S = [p] ∧ H p = some (dHO t ks vs) ∧ (keysOk t ks = true ∧ ks.length = xs.length) ∧ Reps C K G xs vs
  | .ins c fs, v, S => ∃ p dx vs S', v = .ref p ∧ S = p :: S' ∧ H p = some (.ins (C.addr c) dx ((C.names c).zip vs)) ∧ fs.length ≤ (C.names c).length ∧ owns C K H G fs vs S'
def owns (C : CT) (K : PySem.W.Frag) (H G : Hp) : List O → List V → List Addr → Prop
  | [], vs, S => vs = [] ∧ S = []
  | o :: os, vs, S => ∃ v r S1 S2, vs = v :: r ∧ S = S1 ++ S2 ∧ own C K H G o v S1 ∧ owns C K H G os r S2
end

abbrev Prs := List (V × O)
def ownL (C : CT) (K : PySem.W.Frag) (H G : Hp) : Prs → List Addr → Prop
  | [], S => S = []
  | (v, o) :: r, S => ∃ S1 S2, S = S1 ++ S2 ∧ own C K H G o v S1 ∧ ownL C K H G r S2

section
variable {C : CT} {K : PySem.W.Frag} {G G' H H' : Hp}
mutual
/-- what is owned stays as it is, the data grow -/
theorem own.keep : ∀ (o : O) (v : V) (S : List Addr), own C K H G o v S → (∀ p ∈ S, H' p = H p) → Same G G' → own C K H' G' o v S
  | .d x, _, _, ⟨e, h⟩, _, g => ⟨e, Rep.mono g x _ h⟩
  | .lst xs, _, _, ⟨p, vs, e1, e2, h1, h2⟩, k, g => ⟨p, vs, e1, e2, by rw [k p (by simp [e2])]; exact h1, Reps.mono g xs vs h2⟩
  | .dic t ks xs, _, _, ⟨p, vs, e1, e2, h1, h3, h2⟩, k, g => ⟨p, vs, e1, e2, by rw [k p (by simp [e2])]; exact h1, h3, Reps.mono g xs vs h2⟩
  | .ins c fs, _, _, ⟨p, dx, vs, S', e1, e2, h1, h3, h2⟩, k, g => ⟨p, dx, vs, S', e1, e2, by rw [k p (by simp [e2])]; exact h1, h3, owns.keep fs vs S' h2 (fun q hq => k q (by rw [e2]; exact List.mem_cons_of_mem _ hq)) g⟩
theorem owns.keep : ∀ (os : List O) (vs : List V) (S : List Addr), owns C K H G os vs S → (∀ p ∈ S, H' p = H p) → Same G G' → owns C K H' G' os vs S
  | [], _, _, h, _, _ => h
  | o :: os, _, _, ⟨v, r, S1, S2, e1, e2, h1, h2⟩, k, g => ⟨v, r, S1, S2, e1, e2, own.keep o v S1 h1 (fun p hp => k p (by rw [e2]; exact List.mem_append_left _ hp)) g,
      owns.keep os r S2 h2 (fun p hp => k p (by rw [e2]; exact List.mem_append_right _ hp)) g⟩
end
theorem ownL.keep : ∀ (L : Prs) (S : List Addr), ownL C K H G L S → (∀ p ∈ S, H' p = H p) → Same G G' → ownL C K H' G' L S
  | [], _, h, _, _ => h
  | (v, o) :: r, _, ⟨S1, S2, e2, h1, h2⟩, k, g => ⟨S1, S2, e2, own.keep o v S1 h1 (fun p hp => k p (by rw [e2]; exact List.mem_append_left _ hp)) g,
      ownL.keep r S2 h2 (fun p hp => k p (by rw [e2]; exact List.mem_append_right _ hp)) g⟩
mutual
/-- what is owned stands there -/
theorem own.there : ∀ (o : O) (v : V) (S : List Addr), own C K H G o v S → ∀ p ∈ S, ∃ u, H p = some u
  | .d x, _, _, ⟨e, h⟩, p, hp => by rw [e] at hp; cases hp
  | .lst xs, _, _, ⟨q, vs, e1, e2, h1, h2⟩, p, hp => by rw [e2] at hp; cases List.mem_singleton.mp hp; exact ⟨_, h1⟩
  | .dic t ks xs, _, _, ⟨q, vs, e1, e2, h1, h3, h2⟩, p, hp => by rw [e2] at hp; cases List.mem_singleton.mp hp; exact ⟨_, h1⟩
  | .ins c fs, _, _, ⟨q, dx, vs, S', e1, e2, h1, h3, h2⟩, p, hp => by
    rw [e2] at hp
    rcases List.mem_cons.mp hp with rfl | hp
    · exact ⟨_, h1⟩
    · exact owns.there fs vs S' h2 p hp
theorem owns.there : ∀ (os : List O) (vs : List V) (S : List Addr), owns C K H G os vs S → ∀ p ∈ S, ∃ u, H p = some u
  | [], _, _, ⟨_, e⟩, p, hp => by rw [e] at hp; cases hp
  | o :: os, _, _, ⟨v, r, S1, S2, e1, e2, h1, h2⟩, p, hp => by
    rw [e2] at hp
    rcases List.mem_append.mp hp with hp | hp
    · exact own.there o v S1 h1 p hp
    · exact owns.there os r S2 h2 p hp
end
theorem ownL.there : ∀ (L : Prs) (S : List Addr), ownL C K H G L S → ∀ p ∈ S, ∃ u, H p = some u
  | [], _, e, p, hp => by rw [show _ = [] from e] at hp; cases hp
  | (v, o) :: r, _, ⟨S1, S2, e2, h1, h2⟩, p, hp => by
    rw [e2] at hp
    rcases List.mem_append.mp hp with hp | hp
    · exact own.there o v S1 h1 p hp
    · exact ownL.there r S2 h2 p hp
theorem ownL.append : ∀ {L M : Prs} {S T : List Addr}, ownL C K H G L S → ownL C K H G M T → ownL C K H G (L ++ M) (S ++ T)
  | [], _, _, _, h, k => by rw [show _ = [] from h]; exact k
  | (v, o) :: r, _, _, T, ⟨S1, S2, e2, h1, h2⟩, k => ⟨S1, S2 ++ T, by rw [e2, List.append_assoc], h1, ownL.append h2 k⟩
theorem ownL.split : ∀ {L M : Prs} {S : List Addr}, ownL C K H G (L ++ M) S → ∃ S1 S2, S = S1 ++ S2 ∧ ownL C K H G L S1 ∧ ownL C K H G M S2
  | [], _, S, h => ⟨[], S, rfl, rfl, h⟩
  | (v, o) :: r, _, _, ⟨S1, S2, e2, h1, h2⟩ => by
    obtain ⟨T1, T2, e3, h3, h4⟩ := ownL.split h2
    exact ⟨S1 ++ T1, T2, by rw [e2, e3, List.append_assoc], ⟨S1, T1, rfl, h1, h3⟩, h4⟩
theorem ownL.perm {L M : Prs} (h : L.Perm M) : ∀ {S : List Addr}, ownL C K H G L S → ∃ T, S.Perm T ∧ ownL C K H G M T := by
  induction h with
  | nil => intro S h; exact ⟨S, .refl _, h⟩
  | cons a _ ih =>
    rintro S ⟨S1, S2, e2, h1, h2⟩
    obtain ⟨T, p, k⟩ := ih h2
    exact ⟨S1 ++ T, by rw [e2]; exact p.append_left S1, S1, T, rfl, h1, k⟩
  | swap a b l =>
    rintro S ⟨S1, S2, e2, h1, S3, S4, e4, h3, h4⟩
    refine ⟨S3 ++ (S1 ++ S4), ?_, S3, S1 ++ S4, rfl, h3, S1, S4, rfl, h1, h4⟩
    rw [e2, e4, ← List.append_assoc, ← List.append_assoc]
    exact List.Perm.append_right S4 List.perm_append_comm
  | trans _ _ ih1 ih2 =>
    intro S h
    obtain ⟨T, p, k⟩ := ih1 h
    obtain ⟨U, q, m⟩ := ih2 k
    exact ⟨U, p.trans q, m⟩
end

/-- THE RELATION: L's objects stand in H, apart from each other and from the data -/
def Rel (C : CT) (K : PySem.W.Frag) (H : Hp) (L : Prs) : Prop := ∃ (G : Hp) (S : List Addr), Same G H ∧ ownL C K H G L S ∧ S.Nodup ∧ ∀ p ∈ S, G p = none

section
variable {C : CT} {K : PySem.W.Frag} {G H H' : Hp} {L M : Prs} {v : V} {o : O} {x : D}
theorem Rel.perm (h : Rel C K H L) (p : L.Perm M) : Rel C K H M := by
  obtain ⟨G, S, e, k, nd, no⟩ := h
  obtain ⟨T, q, m⟩ := ownL.perm p k
  exact ⟨G, T, e, m, q.nodup_iff.mp nd, fun p hp => no p (q.mem_iff.mpr hp)⟩
theorem Rel.drop (h : Rel C K H ((v, o) :: L)) : Rel C K H L := by
  obtain ⟨G, S, e, ⟨S1, S2, e2, h1, h2⟩, nd, no⟩ := h
  subst e2
  exact ⟨G, S2, e, h2, (List.nodup_append.mp nd).2.1, fun p hp => no p (List.mem_append_right _ hp)⟩
theorem Rel.dropL : ∀ {L : Prs}, Rel C K H (L ++ M) → Rel C K H M
  | [], h => h
  | _ :: _, h => Rel.dropL (Rel.drop h)
theorem Rel.dup (h : Rel C K H ((v, .d x) :: L)) : Rel C K H ((v, .d x) :: (v, .d x) :: L) := by
  obtain ⟨G, S, e, ⟨S1, S2, e2, ⟨e3, h1⟩, h2⟩, nd, no⟩ := h
  subst e3
  exact ⟨G, S, e, ⟨[], S, rfl, ⟨rfl, h1⟩, [], S2, e2, ⟨rfl, h1⟩, h2⟩, nd, no⟩
mutual
/-- an owned object, seen as data in a heap that has both -/
theorem own.rep : ∀ (o : O) (v : V) (S : List Addr), own C K H G o v S → Same G H → Rep C K H o.toD v
  | .d x, _, _, ⟨e, h⟩, g => Rep.mono g x _ h
  | .lst xs, _, _, ⟨p, vs, e1, e2, h1, h2⟩, g => ⟨p, vs, e1, h1, Reps.mono g xs vs h2⟩
  | .dic t ks xs, _, _, ⟨p, vs, e1, e2, h1, h3, h2⟩, g => ⟨p, vs, e1, h1, h3, Reps.mono g xs vs h2⟩
  | .ins c fs, _, _, ⟨p, dx, vs, S', e1, e2, h1, h3, h2⟩, g => ⟨p, dx, vs, e1, h1, by rw [O.toDs_map, List.length_map]; exact h3, owns.rep fs vs S' h2 g⟩
theorem owns.rep : ∀ (os : List O) (vs : List V) (S : List Addr), owns C K H G os vs S → Same G H → Reps C K H (O.toDs os) vs
  | [], _, _, ⟨e, _⟩, _ => e
  | o :: os, _, _, ⟨v, r, S1, S2, e1, e2, h1, h2⟩, g => ⟨v, r, e1, own.rep o v S1 h1 g, owns.rep os r S2 h2 g⟩
end
theorem Rel.rep (h : Rel C K H ((v, o) :: L)) : Rep C K H o.toD v := by
  obtain ⟨G, S, e, ⟨S1, S2, e2, h1, h2⟩, nd, no⟩ := h
  exact own.rep o v S1 h1 e
/-- G with the objects at S of H -/
def addS (G H : Hp) (S : List Addr) : Hp := fun p => if p ∈ S then H p else G p
theorem addS_same (no : ∀ p ∈ S, G p = none) : Same G (addS G H S) := fun p u e => by
  unfold addS
  by_cases hp : p ∈ S
  · rw [no p hp] at e; cases e
  · rw [if_neg hp]; exact e
theorem addS_of (e : Same G H) : Same (addS G H S) H := fun p u q => by
  unfold addS at q
  by_cases hp : p ∈ S
  · rw [if_pos hp] at q; exact q
  · rw [if_neg hp] at q; exact e _ _ q
theorem addS_at {S : List Addr} {p : Addr} (h : p ∈ S) : addS G H S p = H p := by unfold addS; rw [if_pos h]
mutual
theorem own.frozen : ∀ (o : O) (v : V) (S : List Addr), own C K H G o v S → ∀ (T : List Addr), (∀ p ∈ S, p ∈ T) → Same G (addS G H T) → Rep C K (addS G H T) o.toD v
  | .d x, _, _, ⟨e, h⟩, T, _, g => Rep.mono g x _ h
  | .lst xs, _, _, ⟨p, vs, e1, e2, h1, h2⟩, T, m, g => ⟨p, vs, e1, by rw [addS_at (m p (by simp [e2]))]; exact h1, Reps.mono g xs vs h2⟩
  | .dic t ks xs, _, _, ⟨p, vs, e1, e2, h1, h3, h2⟩, T, m, g => ⟨p, vs, e1, by rw [addS_at (m p (by simp [e2]))]; exact h1, h3, Reps.mono g xs vs h2⟩
  | .ins c fs, _, _, ⟨p, dx, vs, S', e1, e2, h1, h3, h2⟩, T, m, g => ⟨p, dx, vs, e1, by rw [addS_at (m p (by simp [e2]))]; exact h1, by rw [O.toDs_map, List.length_map]; exact h3,
      owns.frozen fs vs S' h2 T (fun q hq => m q (by rw [e2]; exact List.mem_cons_of_mem _ hq)) g⟩
theorem owns.frozen : ∀ (os : List O) (vs : List V) (S : List Addr), owns C K H G os vs S → ∀ (T : List Addr), (∀ p ∈ S, p ∈ T) → Same G (addS G H T) → Reps C K (addS G H T) (O.toDs os) vs
  | [], _, _, ⟨e, _⟩, _, _, _ => e
  | o :: os, _, _, ⟨v, r, S1, S2, e1, e2, h1, h2⟩, T, m, g => ⟨v, r, e1, own.frozen o v S1 h1 T (fun p hp => m p (by rw [e2]; exact List.mem_append_left _ hp)) g,
      owns.frozen os r S2 h2 T (fun p hp => m p (by rw [e2]; exact List.mem_append_right _ hp)) g⟩
end
/-- what is owned becomes data -/
theorem Rel.freeze (h : Rel C K H ((v, o) :: L)) : Rel C K H ((v, .d o.toD) :: L) := by
  obtain ⟨G, S, e, ⟨S1, S2, e2, h1, h2⟩, nd, no⟩ := h
  subst e2
  have no1 : ∀ p ∈ S1, G p = none := fun p hp => no p (List.mem_append_left _ hp)
  have g := addS_same (H := H) no1
  refine ⟨addS G H S1, S2, addS_of e, ⟨[], S2, rfl, ⟨rfl, own.frozen o v S1 h1 S1 (fun _ h => h) g⟩, ownL.keep L S2 h2 (fun _ _ => rfl) g⟩, (List.nodup_append.mp nd).2.1, fun p hp => ?_⟩
  unfold addS
  rw [if_neg fun q => (List.nodup_append.mp nd).2.2 p q p hp rfl]
  exact no p (List.mem_append_right _ hp)
end
end VE
/-! VE2: the small syntax, its weakest preconditions over data -/
namespace VE
open PySem L2

/-! ### order, likeness -/
mutual
def D.lt : D → D → Bool
  | .int a, .int b => decide (a < b)
  | .str a, .str b => decide (a.cps.toList < b.cps.toList)
  | .bl a, .bl b => !a && b
  | .tup a, .tup b => D.lts a b
  | .lst a, .lst b => D.lts a b
  | _, _ => false
def D.lts : List D → List D → Bool
  | [], [] => false
  | [], _ :: _ => true
  | _ :: _, [] => false
  | x :: xs, y :: ys => if x = y then D.lts xs ys else D.lt x y
end
mutual
/-- the two can be compared, place by place -/
def D.like : D → D → Bool
  | .int _, .int _ => true
  | .str _, .str _ => true
  | .bl _, .bl _ => true
  | .tup a, .tup b => D.likes a b
  | .lst a, .lst b => D.likes a b
  | _, _ => false
def D.likes : List D → List D → Bool
  | x :: xs, y :: ys => D.like x y && D.likes xs ys
  | _, _ => true
end
mutual
/-- plain data: no truth values, no objects; not deep -/
def D.pur : D → Bool
  | .non => true
  | .int _ => true
  | .str s => PySem.PyData.strOk s
  | .tup xs => D.purs xs
  | .lst xs => D.purs xs
  | _ => false
def D.purs : List D → Bool
  | [] => true
  | x :: xs => D.pur x && D.purs xs
end
mutual
/-- data that hold no dicts, no objects -/
def D.pyb : D → Bool
  | .non => true
  | .bl _ => true
  | .int _ => true
  | .str _ => true
  | .tup xs => D.pybs xs
  | .lst xs => D.pybs xs
  | _ => false
def D.pybs : List D → Bool
  | [] => true
  | x :: xs => D.pyb x && D.pybs xs
end
mutual
def D.dep : D → Nat
  | .tup xs => D.deps xs + 1
  | .lst xs => D.deps xs + 1
  | _ => 0
def D.deps : List D → Nat
  | [] => 0
  | x :: xs => max (D.dep x) (D.deps xs)
end
def D.flat : D → Bool
  | .non => true
  | .int _ => true
  | .str _ => true
  | _ => false
/-- sorted: stable, by lt -/
def dsort (xs : List D) : List D := xs.mergeSort fun a b => !D.lt b a
def dmin (x : D) (xs : List D) : D := xs.foldl (fun a y => if D.lt y a then y else a) x
def dmax (x : D) (xs : List D) : D := xs.foldl (fun a y => if D.lt a y then y else a) x
def addI (a : Int) : D → Int
  | .int i => a + i
  | _ => a
def dsum (xs : List D) : Int := xs.foldl addI 0
def isInt : D → Bool
  | .int _ => true
  | _ => false
def isBl : D → Bool
  | .bl _ => true
  | _ => false
def isStr : D → Bool
  | .str _ => true
  | _ => false
def unB : D → Bool
  | .bl b => b
  | _ => false
/-- a dict: the value at a key, a key put, dropped -/
def dget : List D → List D → D → Option D
  | k :: ks, v :: vs, q => if k = q then some v else dget ks vs q
  | _, _, _ => none
def dput : List D → List D → D → D → List D × List D
  | k :: ks, v :: vs, q, z => if k = q then (k :: ks, z :: vs) else (k :: (dput ks vs q z).1, v :: (dput ks vs q z).2)
  | _, _, q, z => ([q], [z])
def ddrop : List D → List D → D → List D × List D
  | k :: ks, v :: vs, q => if k = q then (ks, vs) else (k :: (ddrop ks vs q).1, v :: (ddrop ks vs q).2)
  | ks, vs, _ => (ks, vs)
def kOk (t : Bool) (k : D) : Bool := if t then isKeyT k else isKey k

/-! ### primitives -/
inductive Prim where
  | bop (o : Operator) | cmp (o : CmpOp) | neg | ix | sl (lo hi : Bool) | rev | call (n : String) | ty (n : String) | meth (t n : String)
  deriving DecidableEq
abbrev WO := (O → Prop) → Prop
def rI (i : Int) : O := .d (.int i)
def rB (b : Bool) : O := .d (.bl b)
def MulOk (i j : Int) : Prop := (-(2 ^ 64) < i ∧ i < 2 ^ 64) ∨ (-(2 ^ 64) < j ∧ j < 2 ^ 64) ∨ CMulW i j
def DivOk (j : Int) : Prop := 0 < j ∧ (j < 2 ^ 64 ∨ j.natAbs.log2 < 9000)
def cutD (xs : List D) (lo hi : Option Int) : List D := (xs.drop (HT.sIx xs.length 0 lo)).take (HT.sIx xs.length xs.length hi - HT.sIx xs.length 0 lo)
def wBop : Operator → List D → WO
  | .Add, [.int i, .int j], Q => Q (rI (i + j))
  | .Add, [.int i, .bl b], Q => Q (rI (i + PyProof.Rows.b2i b))
  | .Add, [.tup x, .tup y], Q => x.length + y.length ≤ sizeLine ∧ Q (.d (.tup (x ++ y)))
  | .Add, [.lst x, .lst y], Q => x.length + y.length ≤ sizeLine ∧ Q (.lst (x ++ y))
  | .Add, [.str x, .str y], Q => x.length + y.length ≤ sizeLine ∧ Q (.d (.str (x ++ y)))
  | .Sub, [.int i, .int j], Q => Q (rI (i - j))
  | .Mult, [.int i, .int j], Q => MulOk i j ∧ Q (rI (i * j))
  | .Mult, [.lst x, .int j], Q => (-(2 ^ 63) ≤ j ∧ j < 2 ^ 63 ∧ x.length * j.toNat ≤ sizeLine) ∧ Q (.lst (List.replicate j.toNat x).flatten)

  | .FloorDiv, [.int i, .int j], Q => DivOk j ∧ Q (rI (i / j))
  | .Mod, [.int i, .int j], Q => 0 < j ∧ Q (rI (i % j))
  | .Pow, [.int i, .int j], Q => (0 ≤ j ∧ j ≤ 1000000 ∧ i.natAbs < 2 ^ 64) ∧ Q (rI (i ^ j.toNat))
  | .LShift, [.int i, .int j], Q => (0 ≤ j ∧ j ≤ 1000000 ∧ i.natAbs < 2 ^ 64) ∧ Q (rI (i * 2 ^ j.toNat))
  | _, _, _ => False
def eqOk (x y : D) : Bool := (x.pur && y.pur && decide (x.dep ≤ 60) && decide (y.dep ≤ 60)) || (isBl x && isBl y) || (isStr x && isStr y)
def ltOk (x y : D) : Bool := D.like x y && (x.pyb && y.pyb) && decide (x.dep ≤ 60) && decide (y.dep ≤ 60)
def wIn : D → D → (Bool → Prop) → Prop
  | x, .lst ys, Q => (x.pur && D.purs ys && decide (x.dep ≤ 60) && decide (D.deps ys ≤ 60)) = true ∧ Q (decide (x ∈ ys))
  | x, .tup ys, Q => (x.pur && D.purs ys && decide (x.dep ≤ 60) && decide (D.deps ys ≤ 60)) = true ∧ Q (decide (x ∈ ys))
  | .str x, .str y, Q => Q (!(Builtin.Str.occurrences y x 0 y.length 1).isEmpty)
  | _, _, _ => False
def wEq (x y : D) (Q : O → Prop) : Prop := match x with
  | .scr ns => y = .lst [] ∧ Q (rB ns.isEmpty)
  | x => eqOk x y = true ∧ Q (rB (decide (x = y)))
def wCmp : CmpOp → List D → WO
  | .Eq, [x, y], Q => wEq x y Q
  | .NotEq, [x, y], Q => eqOk x y = true ∧ Q (rB (!decide (x = y)))
  | .Lt, [x, y], Q => ltOk x y = true ∧ Q (rB (D.lt x y))
  | .LtE, [x, y], Q => ltOk x y = true ∧ Q (rB (!D.lt y x))
  | .Gt, [x, y], Q => ltOk x y = true ∧ Q (rB (D.lt y x))
  | .GtE, [x, y], Q => ltOk x y = true ∧ Q (rB (!D.lt x y))
  | .In, [x, y], Q => wIn x y fun b => Q (rB b)
  | .NotIn, [x, y], Q => wIn x y fun b => Q (rB (!b))
  | .Is, [x, .non], Q => Q (rB (decide (x = .non)))
  | .IsNot, [x, .non], Q => Q (rB (!decide (x = .non)))
  | _, _, _ => False
def wIx : List D → WO
  | [.lst xs, .int i], Q => ∃ x, atI xs i = some x ∧ Q (.d x)
  | [.tup xs, .int i], Q => ∃ x, atI xs i = some x ∧ Q (.d x)
  | [.scr ns, .int i], Q => ∃ n, atI ns i = some n ∧ Q (rI n)
  | _, _ => False
def wSl (lo hi : Option Int) : D → WO
  | .lst xs, Q => Q (.lst (cutD xs lo hi))
  | .tup xs, Q => Q (.d (.tup (cutD xs lo hi)))
  | _, _ => False
def wSlice : Bool → Bool → List D → WO
  | false, false, [x], Q => wSl none none x Q
  | true, false, [x, .int i], Q => wSl (some i) none x Q
  | false, true, [x, .int j], Q => wSl none (some j) x Q
  | true, true, [x, .int i, .int j], Q => wSl (some i) (some j) x Q
  | _, _, _, _ => False
def dlen : D → Option Int
  | .lst xs => some xs.length
  | .tup xs => some xs.length
  | .scr ns => some ns.length
  | .str s => some s.length
  | _ => none
def items : D → Option (List D)
  | .lst xs => some xs
  | .tup xs => some xs
  | _ => none
def wCall : String → List D → WO
  | "len", [x], Q => (match x with | .str s => s.length ≤ sizeLine | _ => True) ∧ ∃ n, dlen x = some n ∧ Q (rI n)
  | "abs", [.int i], Q => Q (rI (if i < 0 then -i else i))
  | "max", [.int i, .int j], Q => Q (rI (if j > i then j else i))
  | "min", [.int i, .int j], Q => Q (rI (if j < i then j else i))
  | "sum", [.lst xs], Q => xs.all isInt = true ∧ Q (rI (dsum xs))
  | "any", [.lst xs], Q => xs.all isBl = true ∧ Q (rB (xs.any unB))
  | "all", [.lst xs], Q => xs.all isBl = true ∧ Q (rB (xs.all unB))
  | "max", [.lst (x :: xs)], Q => (∀ a ∈ x :: xs, ∀ b ∈ x :: xs, ltOk a b = true) ∧ Q (.d (dmax x xs))
  | "min", [.lst (x :: xs)], Q => (∀ a ∈ x :: xs, ∀ b ∈ x :: xs, ltOk a b = true) ∧ Q (.d (dmin x xs))
  | "min", [.tup (x :: xs)], Q => (∀ a ∈ x :: xs, ∀ b ∈ x :: xs, ltOk a b = true) ∧ Q (.d (dmin x xs))
  | "max", [.tup (x :: xs)], Q => (∀ a ∈ x :: xs, ∀ b ∈ x :: xs, ltOk a b = true) ∧ Q (.d (dmax x xs))
  | "sorted", [.lst xs], Q => (∀ a ∈ xs, ∀ b ∈ xs, ltOk a b = true) ∧ (∀ a ∈ xs, a ≠ .tup []) ∧ Q (.lst (dsort xs))
  | _, _, _ => False
def wTy : String → List D → WO
  | "int", [.int i], Q => Q (rI i)
  | "int", [.bl b], Q => Q (rI (if b then 1 else 0))
  | "tuple", [.lst xs], Q => Q (.d (.tup xs))
  | "tuple", [.tup xs], Q => Q (.d (.tup xs))
  | "list", [.lst xs], Q => Q (.lst xs)
  | "list", [.tup xs], Q => Q (.lst xs)
  | _, _, _ => False
def wMeth : String → String → List D → WO
  | _, _, _, _ => False
def pw : Prim → List D → WO
  | .bop o, ds, Q => wBop o ds Q
  | .cmp o, ds, Q => wCmp o ds Q
  | .neg, [.int i], Q => Q (rI (-i))
  | .ix, ds, Q => wIx ds Q
  | .sl lo hi, ds, Q => wSlice lo hi ds Q
  | .rev, [.lst xs], Q => Q (.lst xs.reverse)
  | .call n, ds, Q => wCall n ds Q
  | .ty n, ds, Q => wTy n ds Q
  | .meth t n, ds, Q => wMeth t n ds Q
  | _, _, _ => False

/-! ### in place -/
inductive Mu where
  | append | extend | pop | popAt | dpop1 | dpop2
  deriving DecidableEq
def mw : Mu → O → List D → (O → D → Prop) → Prop
  | .append, .lst xs, [x], Q => xs.length < sizeLine ∧ Q (.lst (xs ++ [x])) .non
  | .extend, .lst xs, [.lst ys], Q => xs.length + ys.length ≤ sizeLine ∧ Q (.lst (xs ++ ys)) .non
  | .pop, .lst xs, [], Q => ∃ x, xs[xs.length - 1]? = some x ∧ Q (.lst xs.dropLast) x
  | .popAt, .lst xs, [.int i], Q => (0 ≤ i ∧ i < xs.length ∧ i < 2 ^ 63) ∧ ∃ x, xs[i.toNat]? = some x ∧ Q (.lst (xs.eraseIdx i.toNat)) x
  | _, _, _, _ => False
/-- o[k] = x -/
def sw : O → D → D → (O → Prop) → Prop
  | .lst xs, .int i, x, Q => ∃ j, ixN xs.length i = some j ∧ Q (.lst (xs.set j x))
  | _, _, _, _ => False
/-- x op= y -/
def iw : Operator → O → D → (O → Prop) → Prop
  | .Add, .d (.int i), .int j, Q => Q (rI (i + j))
  | .Sub, .d (.int i), .int j, Q => Q (rI (i - j))
  | .Add, .d (.str i), .str j, Q => i.length + j.length ≤ sizeLine ∧ Q (.d (.str (i ++ j)))
  | .Add, .lst xs, .lst ys, Q => xs.length + ys.length ≤ sizeLine ∧ Q (.lst (xs ++ ys))
  | _, _, _, _ => False

/-! ### the syntax -/
inductive ItK where
  | seq | rng | enum | zip | keys | items | vals
  deriving DecidableEq
mutual
inductive Pat where
  | v (i : Nat)
  | t (ps : Pats)
inductive Pats where
  | nil
  | cons (p : Pat) (ps : Pats)
end
/-- for isinstance -/
inductive Cl where
  | b (n : String)
  | own (c : Nat)
  deriving DecidableEq
mutual
inductive T where
  | var (i : Nat)
  | int (i : Int) | bl (b : Bool) | non | str (s : Str)
  | glob (x : Str) (i : Int)
  | tup (as : Ts) | lst (as : Ts) | dic0 (t : Bool)
  | prim (u : Prim) (as : Ts)
  | chain (o1 o2 : CmpOp) (a b c : T)
  | and (as : Ts) | or (as : Ts) | not (a : T)
  | ite (c a b : T)
  | call (f : Nat) (as : Ts)
  | new (c : Nat) (as : Ts)
  | meth (m : Nat) (r : T) (as : Ts)
  | fld (c j : Nat) (e : T)
  | isi (e : T) (k : Cl)
  | comp (own : List Nat) (p : Pat) (k : ItK) (as : Ts) (ifs : Ts) (e : T)
  | comp2 (own : List Nat) (p : Pat) (k : ItK) (as : Ts) (own2 : List Nat) (p2 : Pat) (k2 : ItK) (as2 : Ts) (ifs : Ts) (e : T)
  | mut (u : Mu) (i : Nat) (as : Ts)
inductive Ts where
  | nil
  | cons (a : T) (as : Ts)
end
mutual
inductive S where
  | set (i : Nat) (e : T)
  | asg (p : Pat) (e : T)
  | par (is : List Nat) (as : Ts)
  | setIx (i : Nat) (a e : T)
  | aug (i : Nat) (o : Operator) (e : T)
  | augIx (i : Nat) (a : T) (o : Operator) (e : T)
  | setF (c i j : Nat) (e : T)
  | expr (e : T)
  | ret (e : T) | retN | pass | brk | cont
  | ifs (c : T) (a b : Ss)
  | whl (c : T) (b : Ss)
  | for_ (p : Pat) (k : ItK) (as : Ts) (b : Ss)
  | never
inductive Ss where
  | nil
  | cons (a : S) (as : Ss)
end

/-! ### states -/
abbrev Ev := List (Option O)
/-- what an expression gives: a value of its own, or what stands in a slot (in a field of a slot's object) -/
inductive R where
  | obj (x : O) | path (i : Nat)
def slot (env : Ev) (i : Nat) : Option O := match env[i]? with
  | some (some o) => some o
  | _ => none
def getR (env : Ev) : R → Option O
  | .obj x => some x
  | .path i => slot env i
def putR (env : Ev) (o : O) : R → Ev
  | .obj _ => env
  | .path i => env.set i (some o)
def R.nrm : R → R
  | .obj x => .obj (.d x.toD)
  | r => r
/-- frozen -/
def R.val (r : R) (env : Ev) (k : D → Ev → Prop) : Prop := match getR env r with
  | some o => k o.toD (putR env (.d o.toD) r)
  | none => False
/-- a value of its own stays what it is, else frozen -/
def R.get (r : R) (env : Ev) (k : O → Ev → Prop) : Prop := match r with
  | .obj x => k x env
  | r => r.val env fun x e => k (.d x) e
def vals : List R → Ev → (List D → Ev → Prop) → Prop
  | [], env, k => k [] env
  | r :: rs, env, k => r.val env fun x e => vals rs e fun xs e2 => k (x :: xs) e2
def opsO (env : Ev) : List R → Option (List O)
  | [] => some []
  | r :: rs => match getR env r, opsO env rs with
    | some o, some os => some (o :: os)
    | _, _ => none
def puts : Ev → List R → List O → Ev
  | env, r :: rs, o :: os => puts (putR env o r) rs os
  | env, _, _ => env
/-- the slots that are handed on are unlike, no fields among them -/
def apart : List R → List Nat → Bool
  | [], _ => true
  | .obj _ :: rs, is => apart rs is
  | .path i :: rs, is => !is.contains i && apart rs (i :: is)
mutual
def asgP : Pat → D → Ev → (Ev → Prop) → Prop
  | .v i, x, env, k => k (env.set i (some (.d x)))
  | .t ps, .tup xs, env, k => asgPs ps xs env k
  | .t _, _, _, _ => False
def asgPs : Pats → List D → Ev → (Ev → Prop) → Prop
  | .nil, [], env, k => k env
  | .cons p ps, x :: xs, env, k => asgP p x env fun e => asgPs ps xs e k
  | _, _, _, _ => False
end
def wipeE (env : Ev) : List Nat → Ev
  | [] => env
  | i :: is => (wipeE env is).set i none
/-- behind a comprehension: its own names are what they were, if data -/
def backE (e0 env : Ev) : List Nat → Ev
  | [] => env
  | i :: is => (backE e0 env is).set i (match slot e0 i with
    | some (.d x) => some (.d x)
    | _ => none)
/-- own exceptions: the class, its attributes -/
structure Ex where
  cls : Nat
  fs : List D
abbrev DSp := List O → (O → List O → Prop) → (Ex → List O → Prop) → Prop
structure Gam where
  fn : Nat → DSp
  init : Nat → DSp
  meth : Nat → Nat → DSp
/-- a call by what is promised -/
def callW (sp : DSp) (os : List O) (Q : O → List O → Prop) (E : Ex → List O → Prop) : Prop :=
  ∃ Q0 E0, sp os Q0 E0 ∧ (∀ o os', Q0 o os' → os'.length = os.length ∧ Q o os') ∧ ∀ x os', E0 x os' → os'.length = os.length ∧ E x os'
theorem callW.of {sp : DSp} {os : List O} {Q : O → List O → Prop} {E : Ex → List O → Prop} (h : sp os (fun o os' => os'.length = os.length ∧ Q o os') (fun x os' => os'.length = os.length ∧ E x os')) : callW sp os Q E :=
  ⟨_, _, h, fun _ _ h => h, fun _ _ h => h⟩
theorem callW.mono {sp : DSp} {os : List O} {Q Q' : O → List O → Prop} {E E' : Ex → List O → Prop} (h : callW sp os Q E) (q : ∀ o os', os'.length = os.length → Q o os' → Q' o os') (e : ∀ x os', E x os' → E' x os') : callW sp os Q' E' := by
  obtain ⟨Q0, E0, h1, h2, h3⟩ := h
  exact ⟨Q0, E0, h1, fun o os' z => ⟨(h2 o os' z).1, q o os' (h2 o os' z).1 (h2 o os' z).2⟩, fun x os' z => ⟨(h3 x os' z).1, e x os' (h3 x os' z).2⟩⟩

/-! ### walks -/
def rngD (i j : Int) : List D := (List.range (j - i).toNat).map fun (k : Nat) => D.int (i + k)
def rngC (i c : Int) (n : Nat) : List D := (List.range n).map fun (k : Nat) => D.int (i + k * c)
def enumD : Nat → List D → List D
  | _, [] => []
  | i, x :: xs => .tup [.int i, x] :: enumD (i + 1) xs
def zip2 : List D → List D → List D
  | x :: xs, y :: ys => .tup [x, y] :: zip2 xs ys
  | _, _ => []
def zip3 : List D → List D → List D → List D
  | x :: xs, y :: ys, z :: zs => .tup [x, y, z] :: zip3 xs ys zs
  | _, _, _ => []
def zip4 : List D → List D → List D → List D → List D
  | x :: xs, y :: ys, z :: zs, u :: us => .tup [x, y, z, u] :: zip4 xs ys zs us
  | _, _, _, _ => []
def b62 (i : Int) : Prop := -(2 ^ 62) ≤ i ∧ i < 2 ^ 62
def itW : ItK → List D → (List D → Prop) → Prop
  | .seq, [.lst xs], Q => Q xs
  | .seq, [.tup xs], Q => Q xs
  | .rng, [.int j], Q => b62 j ∧ Q (rngD 0 j)
  | .rng, [.int i, .int j], Q => (b62 i ∧ b62 j) ∧ Q (rngD i j)
  | .rng, [.int i, .int j, .int c], Q => (b62 i ∧ b62 j ∧ c = -1) ∧ Q (rngC i (-1) (i - j).toNat)
  | .enum, [.lst xs], Q => Q (enumD 0 xs)
  | .enum, [.tup xs], Q => Q (enumD 0 xs)
  | .zip, [.lst xs, .lst ys], Q => Q (zip2 xs ys)
  | .zip, [.tup xs, .tup ys], Q => Q (zip2 xs ys)
  | .zip, [.tup xs, .tup ys, .tup zs], Q => Q (zip3 xs ys zs)
  | .zip, [.tup xs, .tup ys, .tup zs, .tup us], Q => Q (zip4 xs ys zs us)
  | _, _, _ => False
def cloop (body : D → List D → Ev → (List D → Ev → Prop) → Prop) : List D → List D → Ev → (List D → Ev → Prop) → Prop
  | [], acc, env, Q => Q acc env
  | x :: xs, acc, env, Q => body x acc env fun acc' e => cloop body xs acc' e Q
def floop (body : D → Ev → (Ev → Prop) → Prop) : List D → Ev → (Ev → Prop) → Prop
  | [], env, Q => Q env
  | x :: xs, env, Q => body x env fun e => floop body xs e Q
/-- a list stands in the slot -/
def lstAt (env : Ev) (i : Nat) : Prop := match slot env i with
  | some (.lst _) => True
  | _ => False
def tst (r : R) (k : Bool → Prop) : Prop := match r with
  | .obj (.d (.bl b)) => k b
  | _ => False
def vR (i : Nat) : O → R
  | .d x => .obj (.d x)
  | _ => .path i
/-- an attribute -/
def fldW (c j : Nat) (r : R) (e : Ev) (k : R → Prop) : Prop := match r with
  | .obj o => match o.toD with
    | .ins c' fs => c' = c ∧ ∃ x, fs[j]? = some x ∧ k (.obj (.d x))
    | _ => False
  | .path i => match slot e i with
    | some (.ins c' fs) => c' = c ∧ ∃ x, fs[j]? = some (.d x) ∧ k (.obj (.d x))
    | _ => False
def addA (acc : List D) (y : D) (k : List D → Prop) : Prop := acc.length < sizeLine ∧ k (acc ++ [y])
def E0x : Ex → Ev → Prop := fun _ _ => False

/-! ### weakest preconditions of expressions -/
section
variable (Γ : Gam)
mutual
def ev : T → Ev → (Ex → Ev → Prop) → (R → Ev → Prop) → Prop
  | .var i, env, _, k => match slot env i with
    | some o => k (vR i o) env
    | none => False
  | .int i, env, _, k => k (.obj (rI i)) env
  | .bl b, env, _, k => k (.obj (rB b)) env
  | .non, env, _, k => k (.obj (.d .non)) env
  | .str s, env, _, k => k (.obj (.d (.str s))) env
  | .glob _ i, env, _, k => k (.obj (rI i)) env
  | .tup as, env, E, k => evs as env E fun rs e => vals rs e fun xs e2 => k (.obj (.d (.tup xs))) e2
  | .lst as, env, E, k => evs as env E fun rs e => vals rs e fun xs e2 => k (.obj (.lst xs)) e2
  | .dic0 t, env, _, k => k (.obj (.dic t [] [])) env
  | .prim u as, env, E, k => evs as env E fun rs e => match opsO e rs with
    | some os => pw u (os.map O.toD) fun o => k (.obj o) e
    | none => False
  | .chain o1 o2 a b c, env, E, k => ev a env E fun ra e1 => ev b e1 E fun rb e2 => match opsO e2 [ra.nrm, rb.nrm] with
    | some os => pw (.cmp o1) (os.map O.toD) fun o => match o with
      | .d (.bl true) => ev c e2 E fun rc e3 => match opsO e3 [rb.nrm, rc.nrm] with
        | some os2 => pw (.cmp o2) (os2.map O.toD) fun o2 => k (.obj o2) e3
        | none => False
      | .d (.bl false) => k (.obj (rB false)) e2
      | _ => False
    | none => False
  | .and as, env, E, k => evAnd as env E fun b e => k (.obj (rB b)) e
  | .or as, env, E, k => evOr as env E fun b e => k (.obj (rB b)) e
  | .not a, env, E, k => ev a env E fun r e => tst r fun b => k (.obj (rB (!b))) e
  | .ite c a b, env, E, k => ev c env E fun r e => tst r fun t => if t = true then ev a e E k else ev b e E k
  | .call f as, env, E, k => evs as env E fun rs e => match opsO e rs with
    | some os => apart rs [] = true ∧ callW (Γ.fn f) os (fun o os' => k (.obj o) (puts e rs os')) (fun x os' => E x (puts e rs os'))
    | none => False
  | .new c as, env, E, k => evs as env E fun rs e => match opsO e rs with
    | some os => apart rs [] = true ∧ callW (Γ.init c) (.ins c [] :: os) (fun o os' => o = .d .non ∧ match os' with
      | self :: r => k (.obj self) (puts e rs r)
      | [] => False) (fun x os' => match os' with
      | _ :: r => E x (puts e rs r)
      | [] => False)
    | none => False
  | .meth m r as, env, E, k => ev r env E fun r0 e0 => evs as e0 E fun rs e => match opsO e (r0.nrm :: rs) with
    | some os => apart (r0.nrm :: rs) [] = true ∧ match os with
      | .ins c fs :: os => callW (Γ.meth m c) (.ins c fs :: os) (fun o os' => k (.obj o) (puts e (r0.nrm :: rs) os')) (fun x os' => E x (puts e (r0.nrm :: rs) os'))
      | .d (.ins c fs) :: os => callW (Γ.meth m c) (.d (.ins c fs) :: os) (fun o os' => k (.obj o) (puts e (r0.nrm :: rs) os')) (fun x os' => E x (puts e (r0.nrm :: rs) os'))
      | _ => False
    | none => False
  | .fld c j a, env, E, k => ev a env E fun r e => fldW c j r e fun r2 => k r2 e
  | .isi a q, env, E, k => ev a env E fun r e => match getR e r with
    | some o => match q, o.toD with
      | .b "int", .int _ => k (.obj (rB true)) e
      | .b "bool", .int _ => k (.obj (rB false)) e
      | .b "tuple", .tup _ => k (.obj (rB true)) e
      | .own c, .ins c' _ => k (.obj (rB (c == c'))) e
      | _, _ => False
    | none => False
  | .comp ow p kd as ifs a, env, E, k => evs as env E fun rs e => vals rs e fun ds e' => itW kd ds fun xs => cloop (fun x acc e1 kk => asgP p x e1 fun e2 => evIfs ifs e2 E0x fun b e3 =>
        if b = true then ev a e3 E0x fun r e4 => r.val e4 fun y e5 => addA acc y fun acc' => kk acc' (wipeE e5 ow) else kk acc (wipeE e3 ow))
      xs [] (wipeE e' ow) fun ys e6 => k (.obj (.lst ys)) (backE e' e6 ow)
  | .comp2 ow p kd as ow2 p2 kd2 as2 ifs a, env, E, k => evs as env E fun rs e => vals rs e fun ds e' => itW kd ds fun xs => cloop (fun x acc e1 kk => asgP p x e1 fun e2 => evs as2 e2 E0x fun rs2 e3 => vals rs2 e3 fun ds2 e3' =>
        itW kd2 ds2 fun xs2 => cloop (fun x2 acc2 e4 kk2 => asgP p2 x2 e4 fun e5 => evIfs ifs e5 E0x fun b e6 =>
            if b = true then ev a e6 E0x fun r e7 => r.val e7 fun y e8 => addA acc2 y fun acc' => kk2 acc' (wipeE e8 ow2) else kk2 acc2 (wipeE e6 ow2))
          xs2 acc (wipeE e3' ow2) fun acc3 e9 => kk acc3 (wipeE e9 ow))
      xs [] (wipeE e' ow) fun ys e6 => k (.obj (.lst ys)) (backE e' e6 ow)
  | .mut u i as, env, E, k => lstAt env i ∧ evs as env E fun rs e => vals rs e fun xs e2 => match slot e2 i with
    | some o => mw u o xs fun o' x => k (.obj (.d x)) (e2.set i (some o'))
    | none => False
def evs : Ts → Ev → (Ex → Ev → Prop) → (List R → Ev → Prop) → Prop
  | .nil, env, _, k => k [] env
  | .cons a as, env, E, k => ev a env E fun r e => evs as e E fun rs e2 => k (r.nrm :: rs) e2
def evAnd : Ts → Ev → (Ex → Ev → Prop) → (Bool → Ev → Prop) → Prop
  | .nil, env, _, k => k true env
  | .cons a as, env, E, k => ev a env E fun r e => tst r fun b => if b = true then evAnd as e E k else k false e
def evOr : Ts → Ev → (Ex → Ev → Prop) → (Bool → Ev → Prop) → Prop
  | .nil, env, _, k => k false env
  | .cons a as, env, E, k => ev a env E fun r e => tst r fun b => if b = true then k true e else evOr as e E k
def evIfs : Ts → Ev → (Ex → Ev → Prop) → (Bool → Ev → Prop) → Prop
  | .nil, env, _, k => k true env
  | .cons a as, env, E, k => ev a env E fun r e => tst r fun b => if b = true then evIfs as e E k else k false e
end
def evsO : Ts → Ev → (Ex → Ev → Prop) → (List O → Ev → Prop) → Prop
  | .nil, env, _, k => k [] env
  | .cons a as, env, E, k => ev Γ a env E fun r e => r.get e fun o e1 => evsO as e1 E fun os e2 => k (o :: os) e2
def setAll : Ev → List Nat → List O → Ev
  | env, i :: is, o :: os => setAll (env.set i (some o)) is os
  | env, _, _ => env

/-! ### .. of statements -/
structure Post where
  nx : Ev → Prop
  rt : O → Ev → Prop
  bk : Ev → Prop
  ct : Ev → Prop
  xc : Ex → Ev → Prop
variable (F : List Nat)
mutual
def wpS : S → Ev → Post → Prop
  | .set i e, env, P => ev Γ e env P.xc fun r e1 => r.get e1 fun o e2 => P.nx (e2.set i (some o))
  | .asg p e, env, P => ev Γ e env P.xc fun r e1 => r.val e1 fun x e2 => asgP p x e2 P.nx
  | .par is as, env, P => evsO Γ as env P.xc fun os e => P.nx (setAll e is os)
  | .setIx i a e, env, P => ev Γ e env P.xc fun r e1 => r.val e1 fun x e2 => lstAt e2 i ∧ ev Γ a e2 P.xc fun ra e3 => ra.val e3 fun q e4 => match slot e4 i with
    | some o => sw o q x fun o' => P.nx (e4.set i (some o'))
    | none => False
  | .aug i op e, env, P => (slot env i).isSome = true ∧ ev Γ e env P.xc fun r e1 => r.val e1 fun y e2 => match slot e2 i with
    | some o => iw op o y fun o' => P.nx (e2.set i (some o'))
    | none => False
  | .augIx i a op e, env, P => lstAt env i ∧ ev Γ a env P.xc fun ra e1 => ra.val e1 fun q e2 => match slot e2 i with
    | some (.lst xs) => ∃ k v, q = .int k ∧ atI xs k = some v ∧ ev Γ e e2 P.xc fun r e3 => r.val e3 fun y e4 => iw op (.d v) y fun z => match slot e4 i with
      | some o2 => sw o2 q z.toD fun o3 => P.nx (e4.set i (some o3))
      | none => False
    | _ => False
  | .setF c i j e, env, P => ev Γ e env P.xc fun r e1 => r.get e1 fun o e2 => match slot e2 i with
    | some (.ins c' fs) => c' = c ∧ j ≤ fs.length ∧ P.nx (e2.set i (some (.ins c (if j = fs.length then fs ++ [o] else fs.set j o))))
    | _ => False
  | .expr e, env, P => ev Γ e env P.xc fun _ e1 => P.nx e1
  | .ret e, env, P => ev Γ e env P.xc fun r e1 => match r with
    | .path j => if F.contains j then r.val e1 fun x e2 => P.rt (.d x) e2 else match slot e1 j with
      | some o => P.rt o (e1.set j none)
      | none => False
    | r => r.get e1 P.rt
  | .retN, env, P => P.rt (.d .non) env
  | .pass, env, P => P.nx env
  | .brk, env, P => P.bk env
  | .cont, env, P => P.ct env
  | .ifs c a b, env, P => ev Γ c env P.xc fun r e => tst r fun t => if t = true then wpSs a e P else wpSs b e P
  | .whl c b, env, P => ∃ I : Nat → Ev → Prop, (∃ m, I m env) ∧ ∀ m e, I m e → ev Γ c e P.xc fun r e1 => tst r fun t =>
      if t = true then wpSs b e1 { P with nx := fun e2 => ∃ m', m' < m ∧ I m' e2, ct := fun e2 => ∃ m', m' < m ∧ I m' e2, bk := P.nx } else P.nx e1
  | .for_ p kd as b, env, P => evs Γ as env P.xc fun rs e => vals rs e fun ds e' => itW kd ds fun xs => floop (fun x e1 kk => asgP p x e1 fun e2 => wpSs b e2 { P with nx := kk, ct := kk, bk := P.nx }) xs e' P.nx
  | .never, _, _ => False
def wpSs : Ss → Ev → Post → Prop
  | .nil, env, P => P.nx env
  | .cons s ss, env, P => wpS s env { P with nx := fun e => wpSs ss e P }
end
end
end VE
/-! VE3: monotony -/
namespace VE
open PySem L2
section
variable {Q Q' : O → Prop} (q : ∀ o, Q o → Q' o)
include q
theorem wBop_mono {o : Operator} {ds : List D} (h : wBop o ds Q) : wBop o ds Q' := by
  unfold wBop at h
  split at h <;> first | exact q _ h | exact ⟨h.1, q _ h.2⟩ | exact h.elim
omit q in
theorem wIn_mono {x y : D} {Q Q' : Bool → Prop} (q : ∀ o, Q o → Q' o) (h : wIn x y Q) : wIn x y Q' := by
  unfold wIn at h
  split at h <;> first | exact ⟨h.1, q _ h.2⟩ | exact q _ h | exact h.elim
theorem wEq_mono {x y : D} (h : wEq x y Q) : wEq x y Q' := by
  cases x <;> exact ⟨h.1, q _ h.2⟩
theorem wCmp_mono {o : CmpOp} {ds : List D} (h : wCmp o ds Q) : wCmp o ds Q' := by
  unfold wCmp at h
  split at h <;> first | exact wEq_mono q h | exact wIn_mono (fun b => q _) h | exact q _ h | exact ⟨h.1, q _ h.2⟩ | exact h.elim
theorem wIx_mono {ds : List D} (h : wIx ds Q) : wIx ds Q' := by
  unfold wIx at h
  split at h <;> first | exact ⟨_, h.choose_spec.1, q _ h.choose_spec.2⟩ | exact ⟨h.1, _, h.2.choose_spec.1, q _ h.2.choose_spec.2⟩ | exact h.elim
theorem wSl_mono {lo hi : Option Int} {d : D} (h : wSl lo hi d Q) : wSl lo hi d Q' := by
  unfold wSl at h
  split at h <;> first | exact q _ h | exact h.elim
theorem wSlice_mono {lo hi : Bool} {ds : List D} (h : wSlice lo hi ds Q) : wSlice lo hi ds Q' := by
  unfold wSlice at h
  split at h <;> first | exact wSl_mono q h | exact h.elim
theorem wCall_mono {n : String} {ds : List D} (h : wCall n ds Q) : wCall n ds Q' := by
  unfold wCall at h
  split at h <;> first | exact q _ h | exact ⟨h.1, q _ h.2⟩ | exact ⟨h.1, h.2.1, q _ h.2.2⟩ | exact ⟨h.1, _, h.2.choose_spec.1, q _ h.2.choose_spec.2⟩ | exact h.elim
theorem wTy_mono {n : String} {ds : List D} (h : wTy n ds Q) : wTy n ds Q' := by
  unfold wTy at h
  split at h <;> first | exact q _ h | exact h.elim
theorem wMeth_mono {t n : String} {ds : List D} (h : wMeth t n ds Q) : wMeth t n ds Q' := by
  unfold wMeth at h
  exact h.elim
theorem pw_mono {u : Prim} {ds : List D} (h : pw u ds Q) : pw u ds Q' := by
  unfold pw at h
  split at h <;> first | exact wBop_mono q h | exact wCmp_mono q h | exact wIx_mono q h | exact wSlice_mono q h | exact wCall_mono q h | exact wTy_mono q h | exact wMeth_mono q h | exact q _ h | exact ⟨h.1, q _ h.2⟩ | exact h.elim
end
theorem mw_mono {u : Mu} {o : O} {ds : List D} {Q Q' : O → D → Prop} (q : ∀ o x, Q o x → Q' o x) (h : mw u o ds Q) : mw u o ds Q' := by
  unfold mw at h
  split at h <;> first | exact ⟨h.1, q _ _ h.2⟩ | exact ⟨_, h.choose_spec.1, q _ _ h.choose_spec.2⟩ | exact ⟨h.1, _, h.2.choose_spec.1, q _ _ h.2.choose_spec.2⟩ | exact h.elim
theorem sw_mono {o : O} {k x : D} {Q Q' : O → Prop} (q : ∀ o, Q o → Q' o) (h : sw o k x Q) : sw o k x Q' := by
  unfold sw at h
  split at h <;> first | exact ⟨_, h.choose_spec.1, q _ h.choose_spec.2⟩ | exact ⟨h.1, h.2.1, q _ h.2.2⟩ | exact h.elim
theorem iw_mono {u : Operator} {o : O} {x : D} {Q Q' : O → Prop} (q : ∀ o, Q o → Q' o) (h : iw u o x Q) : iw u o x Q' := by
  unfold iw at h
  split at h <;> first | exact q _ h | exact ⟨h.1, q _ h.2⟩ | exact h.elim
theorem val_mono {r : R} {env : Ev} {k k' : D → Ev → Prop} (q : ∀ x e, k x e → k' x e) (h : r.val env k) : r.val env k' := by
  unfold R.val at h ⊢
  split at h
  · exact q _ _ h
  · exact h.elim
theorem get_mono {r : R} {env : Ev} {k k' : O → Ev → Prop} (q : ∀ x e, k x e → k' x e) (h : r.get env k) : r.get env k' := by
  cases r with
  | obj x => exact q _ _ h
  | path i => exact val_mono (k := fun x e => k (.d x) e) (k' := fun x e => k' (.d x) e) (fun x e => q _ _) h
theorem vals_mono : ∀ {rs : List R} {env : Ev} {k k' : List D → Ev → Prop}, (∀ x e, k x e → k' x e) → vals rs env k → vals rs env k'
  | [], _, _, _, q, h => q _ _ h
  | r :: rs, _, _, _, q, h => val_mono (fun x e => vals_mono fun xs e => q _ _) h
mutual
theorem asgP_mono : ∀ (p : Pat) {x : D} {env : Ev} {k k' : Ev → Prop}, (∀ e, k e → k' e) → asgP p x env k → asgP p x env k'
  | .v i, x, env, k, k', q, h => by unfold asgP at h ⊢; exact q _ h
  | .t ps, x, env, k, k', q, h => by
    cases x <;> unfold asgP at h ⊢ <;> first | exact asgPs_mono ps q h | exact h.elim
theorem asgPs_mono : ∀ (ps : Pats) {xs : List D} {env : Ev} {k k' : Ev → Prop}, (∀ e, k e → k' e) → asgPs ps xs env k → asgPs ps xs env k'
  | .nil, xs, env, k, k', q, h => by
    cases xs <;> unfold asgPs at h ⊢ <;> first | exact q _ h | exact h.elim
  | .cons p ps, xs, env, k, k', q, h => by
    cases xs <;> unfold asgPs at h ⊢ <;> first | exact asgP_mono p (fun e => asgPs_mono ps q) h | exact h.elim
end
theorem itW_mono {k : ItK} {ds : List D} {Q Q' : List D → Prop} (q : ∀ o, Q o → Q' o) (h : itW k ds Q) : itW k ds Q' := by
  unfold itW at h
  split at h <;> first | exact q _ h | exact ⟨h.1, q _ h.2⟩ | exact h.elim
theorem tst_mono {r : R} {k k' : Bool → Prop} (q : ∀ b, k b → k' b) (h : tst r k) : tst r k' := by
  unfold tst at h ⊢
  split at h
  · exact q _ h
  · exact h.elim
theorem cloop_mono {body body' : D → List D → Ev → (List D → Ev → Prop) → Prop} (hb : ∀ x acc e kk kk', (∀ a e, kk a e → kk' a e) → body x acc e kk → body' x acc e kk') :
    ∀ {xs : List D} {acc : List D} {env : Ev} {Q Q' : List D → Ev → Prop}, (∀ a e, Q a e → Q' a e) → cloop body xs acc env Q → cloop body' xs acc env Q'
  | [], _, _, _, _, q, h => q _ _ h
  | x :: xs, _, _, _, _, q, h => hb _ _ _ _ _ (fun a e => cloop_mono hb q) h
theorem floop_mono {body body' : D → Ev → (Ev → Prop) → Prop} (hb : ∀ x e kk kk', (∀ e, kk e → kk' e) → body x e kk → body' x e kk') :
    ∀ {xs : List D} {env : Ev} {Q Q' : Ev → Prop}, (∀ e, Q e → Q' e) → floop body xs env Q → floop body' xs env Q'
  | [], _, _, _, q, h => q _ h
  | x :: xs, _, _, _, q, h => hb _ _ _ _ (fun e => floop_mono hb q) h
theorem ite_mono {b : Bool} {A A' B B' : Prop} (h1 : A → A') (h2 : B → B') (h : if b = true then A else B) : if b = true then A' else B' := by
  cases b
  · exact h2 h
  · exact h1 h
theorem fldW_mono {c j : Nat} {r : R} {e : Ev} {k k' : R → Prop} (q : ∀ r, k r → k' r) (h : fldW c j r e k) : fldW c j r e k' := by
  unfold fldW at h ⊢
  split at h
  · split at h
    · obtain ⟨h1, x, h2, h3⟩ := h
      exact ⟨h1, x, h2, q _ h3⟩
    · exact h.elim
  · split at h
    · obtain ⟨h1, x, h2, h3⟩ := h
      exact ⟨h1, x, h2, q _ h3⟩
    · exact h.elim
variable {Γ : Gam}
mutual
theorem ev_mono : ∀ (a : T) {env : Ev} {E E' : Ex → Ev → Prop} {k k' : R → Ev → Prop}, (∀ x e, E x e → E' x e) → (∀ r e, k r e → k' r e) → ev Γ a env E k → ev Γ a env E' k'
  | .var i, env, E, E', k, k', e, q, h => by
    unfold ev at h ⊢
    split at h
    · exact q _ _ h
    · exact h.elim
  | .int i, _, _, _, _, _, e, q, h => by unfold ev at h ⊢; exact q _ _ h
  | .bl i, _, _, _, _, _, e, q, h => by unfold ev at h ⊢; exact q _ _ h
  | .non, _, _, _, _, _, e, q, h => by unfold ev at h ⊢; exact q _ _ h
  | .str i, _, _, _, _, _, e, q, h => by unfold ev at h ⊢; exact q _ _ h
  | .glob _ i, _, _, _, _, _, e, q, h => by unfold ev at h ⊢; exact q _ _ h
  | .dic0 i, _, _, _, _, _, e, q, h => by unfold ev at h ⊢; exact q _ _ h
  | .tup as, _, _, _, _, _, e, q, h => by
    unfold ev at h ⊢
    exact evs_mono as e (fun rs e => vals_mono fun xs e2 => q _ _) h
  | .lst as, _, _, _, _, _, e, q, h => by
    unfold ev at h ⊢
    exact evs_mono as e (fun rs e => vals_mono fun xs e2 => q _ _) h
  | .prim u as, _, _, _, _, _, e, q, h => by
    unfold ev at h ⊢
    refine evs_mono as e (fun rs e h => ?_) h
    split at h
    · exact pw_mono (fun o => q _ _) h
    · exact h.elim
  | .chain o1 o2 a b c, _, _, _, _, _, e, q, h => by
    unfold ev at h ⊢
    refine ev_mono a e (fun ra e1 h => ev_mono b e (fun rb e2 h => ?_) h) h
    split at h
    · refine pw_mono (fun o h => ?_) h
      split at h
      · refine ev_mono c e (fun rc e3 h => ?_) h
        split at h
        · exact pw_mono (fun o => q _ _) h
        · exact h.elim
      · exact q _ _ h
      · exact h.elim
    · exact h.elim
  | .and as, _, _, _, _, _, e, q, h => by unfold ev at h ⊢; exact evAnd_mono as e (fun b e => q _ _) h
  | .or as, _, _, _, _, _, e, q, h => by unfold ev at h ⊢; exact evOr_mono as e (fun b e => q _ _) h
  | .not a, _, _, _, _, _, e, q, h => by unfold ev at h ⊢; exact ev_mono a e (fun r e => tst_mono fun b => q _ _) h
  | .ite c a b, _, _, _, _, _, e, q, h => by
    unfold ev at h ⊢
    exact ev_mono c e (fun r e1 => tst_mono fun t => ite_mono (ev_mono a e q) (ev_mono b e q)) h
  | .call f as, _, _, _, _, _, e, q, h => by
    unfold ev at h ⊢
    refine evs_mono as e (fun rs e1 h => ?_) h
    split at h
    · exact ⟨h.1, h.2.mono (fun o os' _ => q _ _) fun x os' => e _ _⟩
    · exact h.elim
  | .new c as, _, _, _, _, _, e, q, h => by
    unfold ev at h ⊢
    refine evs_mono as e (fun rs e1 h => ?_) h
    split at h
    · refine ⟨h.1, h.2.mono (fun o os' _ h => ⟨h.1, ?_⟩) fun x os' h => ?_⟩
      · cases os' with
        | nil => exact h.2
        | cons a r => exact q _ _ h.2
      · cases os' with
        | nil => exact h
        | cons a r => exact e _ _ h
    · exact h.elim
  | .meth m r as, _, _, _, _, _, e, q, h => by
    unfold ev at h ⊢
    refine ev_mono r e (fun r0 e0 h => evs_mono as e (fun rs e1 h => ?_) h) h
    split at h
    · refine ⟨h.1, ?_⟩
      have h2 := h.2
      split at h2
      · exact h2.mono (fun o os' _ => q _ _) fun x os' => e _ _
      · exact h2.mono (fun o os' _ => q _ _) fun x os' => e _ _
      · exact h2.elim
    · exact h.elim
  | .fld c j a, _, _, _, _, _, e, q, h => by
    unfold ev at h ⊢
    exact ev_mono a e (fun r e1 => fldW_mono fun r2 => q _ _) h
  | .isi a q', _, _, _, _, _, e, q, h => by
    unfold ev at h ⊢
    refine ev_mono a e (fun r e1 h => ?_) h
    split at h
    · split at h <;> first | exact q _ _ h | exact h.elim
    · exact h.elim
  | .comp ow p kd as ifs a, _, _, _, _, _, e, q, h => by
    unfold ev at h ⊢
    refine evs_mono as e (fun rs e1 h => vals_mono (fun ds e1' h => ?_) h) h
    refine itW_mono (fun xs h => cloop_mono (fun x acc e2 kk kk' qk h => ?_) (fun ys e6 => q _ _) h) h
    refine asgP_mono p (fun e3 h => evIfs_mono ifs (fun _ _ h => h) (fun b e4 => ite_mono (fun h => ?_) (qk _ _)) h) h
    exact ev_mono a (fun _ _ h => h) (fun r e5 => val_mono fun y e6 h => ⟨h.1, qk _ _ h.2⟩) h
  | .comp2 ow p kd as ow2 p2 kd2 as2 ifs a, _, _, _, _, _, e, q, h => by
    unfold ev at h ⊢
    refine evs_mono as e (fun rs e1 h => vals_mono (fun ds e1' h => ?_) h) h
    refine itW_mono (fun xs h => cloop_mono (fun x acc e2 kk kk' qk h => ?_) (fun ys e6 => q _ _) h) h
    refine asgP_mono p (fun e3 h => evs_mono as2 (fun _ _ h => h) (fun rs2 e4 h => vals_mono (fun ds2 e4' h => ?_) h) h) h
    refine itW_mono (fun xs2 h => cloop_mono (fun x acc e2 kk kk' qk h => ?_) (fun ys e6 => qk _ _) h) h
    refine asgP_mono p2 (fun e3 h => evIfs_mono ifs (fun _ _ h => h) (fun b e4 => ite_mono (fun h => ?_) (qk _ _)) h) h
    exact ev_mono a (fun _ _ h => h) (fun r e5 => val_mono fun y e6 h => ⟨h.1, qk _ _ h.2⟩) h
  | .mut u i as, _, _, _, _, _, e, q, h => by
    unfold ev at h ⊢
    refine ⟨h.1, evs_mono as e (fun rs e1 => vals_mono fun xs e2 h => ?_) h.2⟩
    split at h
    · exact mw_mono (fun o x => q _ _) h
    · exact h.elim
theorem evs_mono : ∀ (as : Ts) {env : Ev} {E E' : Ex → Ev → Prop} {k k' : List R → Ev → Prop}, (∀ x e, E x e → E' x e) → (∀ r e, k r e → k' r e) → evs Γ as env E k → evs Γ as env E' k'
  | .nil, _, _, _, _, _, e, q, h => by unfold evs at h ⊢; exact q _ _ h
  | .cons a as, _, _, _, _, _, e, q, h => by
    unfold evs at h ⊢
    exact ev_mono a e (fun r e1 => evs_mono as e fun rs e2 => q _ _) h
theorem evAnd_mono : ∀ (as : Ts) {env : Ev} {E E' : Ex → Ev → Prop} {k k' : Bool → Ev → Prop}, (∀ x e, E x e → E' x e) → (∀ r e, k r e → k' r e) → evAnd Γ as env E k → evAnd Γ as env E' k'
  | .nil, _, _, _, _, _, e, q, h => by unfold evAnd at h ⊢; exact q _ _ h
  | .cons a as, _, _, _, _, _, e, q, h => by
    unfold evAnd at h ⊢
    exact ev_mono a e (fun r e1 => tst_mono fun b => ite_mono (evAnd_mono as e q) (q _ _)) h
theorem evOr_mono : ∀ (as : Ts) {env : Ev} {E E' : Ex → Ev → Prop} {k k' : Bool → Ev → Prop}, (∀ x e, E x e → E' x e) → (∀ r e, k r e → k' r e) → evOr Γ as env E k → evOr Γ as env E' k'
  | .nil, _, _, _, _, _, e, q, h => by unfold evOr at h ⊢; exact q _ _ h
  | .cons a as, _, _, _, _, _, e, q, h => by
    unfold evOr at h ⊢
    exact ev_mono a e (fun r e1 => tst_mono fun b => ite_mono (q _ _) (evOr_mono as e q)) h
theorem evIfs_mono : ∀ (as : Ts) {env : Ev} {E E' : Ex → Ev → Prop} {k k' : Bool → Ev → Prop}, (∀ x e, E x e → E' x e) → (∀ r e, k r e → k' r e) → evIfs Γ as env E k → evIfs Γ as env E' k'
  | .nil, _, _, _, _, _, e, q, h => by unfold evIfs at h ⊢; exact q _ _ h
  | .cons a as, _, _, _, _, _, e, q, h => by
    unfold evIfs at h ⊢
    exact ev_mono a e (fun r e1 => tst_mono fun b => ite_mono (evIfs_mono as e q) (q _ _)) h
end
theorem evsO_mono : ∀ (as : Ts) {env : Ev} {E E' : Ex → Ev → Prop} {k k' : List O → Ev → Prop}, (∀ x e, E x e → E' x e) → (∀ r e, k r e → k' r e) → evsO Γ as env E k → evsO Γ as env E' k'
  | .nil, _, _, _, _, _, e, q, h => by unfold evsO at h ⊢; exact q _ _ h
  | .cons a as, _, _, _, _, _, e, q, h => by
    unfold evsO at h ⊢
    exact ev_mono a e (fun r e1 => get_mono fun o e2 => evsO_mono as e fun rs e2 => q _ _) h
/-- a weaker end -/
structure Post.Le (P P' : Post) : Prop where
  nx : ∀ e, P.nx e → P'.nx e
  rt : ∀ o e, P.rt o e → P'.rt o e
  bk : ∀ e, P.bk e → P'.bk e
  ct : ∀ e, P.ct e → P'.ct e
  xc : ∀ x e, P.xc x e → P'.xc x e
variable {F : List Nat}
mutual
theorem wpS_mono : ∀ (s : S) {env : Ev} {P P' : Post}, P.Le P' → wpS Γ F s env P → wpS Γ F s env P'
  | .set i e, _, _, _, q, h => by unfold wpS at h ⊢; exact ev_mono e q.xc (fun r e1 => get_mono fun o e2 => q.nx _) h
  | .asg p e, _, _, _, q, h => by unfold wpS at h ⊢; exact ev_mono e q.xc (fun r e1 => val_mono fun o e2 => asgP_mono p q.nx) h
  | .par is as, _, _, _, q, h => by unfold wpS at h ⊢; exact evsO_mono as q.xc (fun os e => q.nx _) h
  | .setIx i a e, _, _, _, q, h => by
    unfold wpS at h ⊢
    refine ev_mono e q.xc (fun r e1 => val_mono fun x e2 ⟨h1, h2⟩ => ⟨h1, ev_mono a q.xc (fun ra e3 => val_mono fun k e4 h => ?_) h2⟩) h
    split at h
    · exact sw_mono (fun o' => q.nx _) h
    · exact h.elim
  | .aug i op e, _, _, _, q, h => by
    unfold wpS at h ⊢
    refine ⟨h.1, ev_mono e q.xc (fun r e1 => val_mono fun x e2 h => ?_) h.2⟩
    split at h
    · exact iw_mono (fun o' => q.nx _) h
    · exact h.elim
  | .augIx i a op e, _, _, _, q, h => by
    unfold wpS at h ⊢
    refine ⟨h.1, ev_mono a q.xc (fun ra e1 => val_mono fun k e2 h => ?_) h.2⟩
    split at h
    · obtain ⟨k, v, h1, h2, h⟩ := h
      refine ⟨k, v, h1, h2, ev_mono e q.xc (fun r e3 => val_mono fun y e4 => iw_mono fun z' h => ?_) h⟩
      split at h
      · exact sw_mono (fun o' => q.nx _) h
      · exact h.elim
    · exact h.elim
  | .setF c i j e, _, _, _, q, h => by
    unfold wpS at h ⊢
    refine ev_mono e q.xc (fun r e1 => get_mono fun o e2 h => ?_) h
    split at h
    · exact ⟨h.1, h.2.1, q.nx _ h.2.2⟩
    · exact h.elim
  | .expr e, _, _, _, q, h => by unfold wpS at h ⊢; exact ev_mono e q.xc (fun r e1 => q.nx _) h
  | .ret e, _, _, _, q, h => by
    unfold wpS at h ⊢
    refine ev_mono e q.xc (fun r e1 h => ?_) h
    cases r with
    | obj o => exact q.rt _ _ h
    | path j =>
      dsimp only at h ⊢
      refine ite_mono (val_mono fun x e2 => q.rt _ _) (fun h => ?_) h
      split at h
      · exact q.rt _ _ h
      · exact h.elim
  | .retN, _, _, _, q, h => by unfold wpS at h ⊢; exact q.rt _ _ h
  | .pass, _, _, _, q, h => by unfold wpS at h ⊢; exact q.nx _ h
  | .brk, _, _, _, q, h => by unfold wpS at h ⊢; exact q.bk _ h
  | .cont, _, _, _, q, h => by unfold wpS at h ⊢; exact q.ct _ h
  | .ifs c a b, _, _, _, q, h => by
    unfold wpS at h ⊢
    exact ev_mono c q.xc (fun r e1 => tst_mono fun t => ite_mono (wpSs_mono a q) (wpSs_mono b q)) h
  | .whl c b, _, _, _, q, h => by
    unfold wpS at h ⊢
    obtain ⟨I, hi, ht⟩ := h
    refine ⟨I, hi, fun m e hm => ev_mono c q.xc (fun r e1 => tst_mono fun t => ite_mono (wpSs_mono b (by exact ⟨fun _ h => h, q.rt, q.nx, fun _ h => h, q.xc⟩)) (q.nx _)) (ht m e hm)⟩
  | .for_ p kd as b, _, P, P', q, h => by
    unfold wpS at h ⊢
    refine evs_mono as q.xc (fun rs e h => vals_mono (fun ds e' h => ?_) h) h
    refine itW_mono (fun xs h => ?_) h
    refine floop_mono (fun x e1 kk kk' qk h => ?_) q.nx h
    refine asgP_mono p (fun e2 h => ?_) h
    exact wpSs_mono b (P := { P with nx := kk, ct := kk, bk := P.nx }) (P' := { P' with nx := kk', ct := kk', bk := P'.nx }) ⟨qk, q.rt, q.nx, qk, q.xc⟩ h
  | .never, _, _, _, _, h => by unfold wpS at h; exact h.elim
theorem wpSs_mono : ∀ (ss : Ss) {env : Ev} {P P' : Post}, P.Le P' → wpSs Γ F ss env P → wpSs Γ F ss env P'
  | .nil, _, _, _, q, h => by unfold wpSs at h ⊢; exact q.nx _ h
  | .cons s ss, _, _, _, q, h => by
    unfold wpSs at h ⊢
    refine wpS_mono s (?_ : Post.Le _ _) h
    exact ⟨fun e => wpSs_mono ss q, q.rt, q.bk, q.ct, q.xc⟩
end
end VE
/-! VE4: the primitives keep what pw says -/
namespace VE
open PySem PySem.Spec PyProof.Rows L2

/-- what an operand is: data, or an owned object's top -/
def Top (C : CT) (K : PySem.W.Frag) (H G : Hp) (d : D) (v : V) : Prop := match d with
  | .lst xs => ∃ p vs, v = .ref p ∧ H p = some (.lst vs) ∧ Reps C K G xs vs
  | .dic t ks xs => ∃ p vs, v = .ref p ∧ H p = some (dHO t ks vs) ∧ (keysOk t ks = true ∧ ks.length = xs.length) ∧ Reps C K G xs vs
  | .ins c fs => ∃ p dx vs, v = .ref p ∧ H p = some (.ins (C.addr c) dx ((C.names c).zip vs)) ∧ fs.length ≤ (C.names c).length ∧ fs.length = vs.length
  | d => Rep C K G d v
/-- what a primitive gives: data that stand, or one new object -/
inductive Res (C : CT) (K : PySem.W.Frag) (G H : Hp) : O → V → Hp → Prop
  | std {x : D} {v : V} (h : Rep C K G x v) : Res C K G H (.d x) v H
  | lst {p : Addr} {xs : List D} {vs : List V} (hp : H p = none) (h : Reps C K G xs vs) : Res C K G H (.lst xs) (.ref p) (upd H p (.lst vs))
  | tup {p : Addr} {xs : List D} {vs : List V} (hp : H p = none) (h : Reps C K G xs vs) : Res C K G H (.d (.tup xs)) (.ref p) (upd H p (.tup vs))
  | dic {p : Addr} {t : Bool} {ks xs : List D} {vs : List V} (hp : H p = none) (hk : keysOk t ks = true ∧ ks.length = xs.length) (h : Reps C K G xs vs) : Res C K G H (.dic t ks xs) (.ref p) (upd H p (dHO t ks vs))
section
variable {C : CT} {K : PySem.W.Frag} {G H H' : Hp} {v : V} {o : O} {L : Prs} {S : List Addr} {d : D}
theorem own.top : ∀ {o : O} {v : V} {S : List Addr}, own C K H G o v S → Same G H → Top C K H G o.toD v
  | .d x, v, S, ⟨e, h⟩, g => by
    cases x with
    | lst xs => obtain ⟨p, vs, e1, h1, h2⟩ := h; exact ⟨p, vs, e1, g _ _ h1, h2⟩
    | dic t ks xs => obtain ⟨p, vs, e1, h1, h3, h2⟩ := h; exact ⟨p, vs, e1, g _ _ h1, h3, h2⟩
    | ins c fs => obtain ⟨p, dx, vs, e1, h1, h3, h2⟩ := h; exact ⟨p, dx, vs, e1, g _ _ h1, h3, h2.length⟩
    | _ => exact h
  | .lst xs, _, _, ⟨p, vs, e1, e2, h1, h2⟩, g => ⟨p, vs, e1, h1, h2⟩
  | .dic t ks xs, _, _, ⟨p, vs, e1, e2, h1, h3, h2⟩, g => ⟨p, vs, e1, h1, h3, h2⟩
  | .ins c fs, _, _, ⟨p, dx, vs, S', e1, e2, h1, h3, h2⟩, g => by
    refine ⟨p, dx, vs, e1, h1, by rw [O.toDs_map, List.length_map]; exact h3, ?_⟩
    exact (owns.rep fs vs S' h2 g).length
theorem own_there (g : Same G H) (k : ownL C K H G L S) {p : Addr} (hp : H p = none) : p ∉ S ∧ G p = none := by
  refine ⟨fun q => ?_, g.free hp⟩
  obtain ⟨u, e⟩ := ownL.there L S k p q
  rw [hp] at e; cases e
/-- a result on top -/
theorem rel_res (g : Same G H) (k : ownL C K H G L S) (nd : S.Nodup) (no : ∀ p ∈ S, G p = none) (r : Res C K G H o v H') : Rel C K H' ((v, o) :: L) := by
  cases r with
  | std h => exact ⟨G, S, g, ⟨[], S, rfl, ⟨rfl, h⟩, k⟩, nd, no⟩
  | @lst p xs vs hp h =>
    obtain ⟨n1, n2⟩ := own_there g k hp
    refine ⟨G, p :: S, fun q u e => ?_, ⟨[p], S, rfl, ⟨p, vs, rfl, rfl, upd_same, h⟩, ownL.keep L S k (fun q hq => upd_ne fun e => n1 (e ▸ hq)) (Same.refl G)⟩, List.nodup_cons.mpr ⟨n1, nd⟩, fun q hq => ?_⟩
    · rw [upd_ne (fun z => by rw [z, n2] at e; cases e)]; exact g _ _ e
    · rcases List.mem_cons.mp hq with rfl | hq
      · exact n2
      · exact no q hq
  | @dic p t ks xs vs hp hk h =>
    obtain ⟨n1, n2⟩ := own_there g k hp
    refine ⟨G, p :: S, fun q u e => ?_, ⟨[p], S, rfl, ⟨p, vs, rfl, rfl, upd_same, hk, h⟩, ownL.keep L S k (fun q hq => upd_ne fun e => n1 (e ▸ hq)) (Same.refl G)⟩, List.nodup_cons.mpr ⟨n1, nd⟩, fun q hq => ?_⟩
    · rw [upd_ne (fun z => by rw [z, n2] at e; cases e)]; exact g _ _ e
    · rcases List.mem_cons.mp hq with rfl | hq
      · exact n2
      · exact no q hq
  | @tup p xs vs hp h =>
    obtain ⟨n1, n2⟩ := own_there g k hp
    have gg : Same G (upd G p (.tup vs)) := fun q u e => by
      rw [upd_ne (fun z => by rw [z, n2] at e; cases e)]; exact e
    refine ⟨upd G p (.tup vs), S, fun q u e => ?_, ⟨[], S, rfl, ⟨rfl, p, vs, rfl, upd_same, Reps.mono gg _ _ h⟩, ownL.keep L S k (fun q hq => upd_ne fun e => n1 (e ▸ hq)) gg⟩, nd, fun q hq => ?_⟩
    · by_cases z : q = p
      · subst z; rw [upd_same] at e ⊢; exact e
      · rw [upd_ne z] at e ⊢; exact g _ _ e
    · rw [upd_ne (fun z : q = p => n1 (by rw [← z]; exact hq))]; exact no q hq
end

/-! ### two-place operators -/
/-- the answer of a primitive, wished for -/
def Wish (C : CT) (K : PySem.W.Frag) (G H : Hp) (w : WO) (Q : VK) : Prop := ∃ P : O → Prop, w P ∧ ∀ o v H', P o → Res C K G H o v H' → Q v H'
def rW2 (C : CT) (K : PySem.W.Frag) (w : List D → WO) : R2 := fun x y H Q => ∃ G a b, Same G H ∧ Top C K H G a x ∧ Top C K H G b y ∧ Wish C K G H (w [a, b]) Q
theorem log2_lt {j : Int} (h0 : 0 < j) (h : j < 2 ^ 64 ∨ j.natAbs.log2 < 9000) : CDivW 0 j := by
  refine ⟨h0, ?_⟩
  rcases h with h | h
  · have : j.natAbs.log2 < 64 := by
      rw [Nat.log2_lt (by omega)]; omega
    omega
  · exact h
theorem tupS {C : CT} {K : PySem.W.Frag} {H G : Hp} {xs : List D} {v : V} (g : Same G H) (h : Rep C K G (.tup xs) v) : ∃ p vs, v = .ref p ∧ SqT K H p vs ∧ H p = some (.tup vs) ∧ Reps C K G xs vs := by
  obtain ⟨p, vs, e, h1, h2⟩ := h
  exact ⟨p, vs, e, .of (g _ _ h1), g _ _ h1, h2⟩
section
variable {X : Cx} {C : CT}
theorem opW {op : Operator} : OpR X (binaryOp op) (rW2 C X.K (wBop op)) := by
  intro pins s σ H x y v u Q I rx ry h
  obtain ⟨G, a, b, g, ha, hb, P, hw, hq⟩ := h
  unfold wBop at hw
  split at hw
  · rename_i e; cases e; cases ha; cases hb
    exact op_add pins s σ H _ _ v u Q I rx ry ⟨_, _, rfl, rfl, hq _ _ _ hw (.std rfl)⟩
  · rename_i e; cases e; cases ha; cases hb
    exact op_add_ib pins s σ H _ _ v u Q I rx ry ⟨_, _, rfl, rfl, hq _ _ _ hw (.std rfl)⟩
  · rename_i e; cases e
    obtain ⟨p, vs, rfl, h1, h2, h3⟩ := tupS g ha
    obtain ⟨q, ws, rfl, k1, k2, k3⟩ := tupS g hb
    refine op_catA pins s σ H _ _ v u Q I rx ry ⟨p, q, vs, ws, rfl, rfl, h1, k1, by rw [← h3.length, ← k3.length]; exact hw.1, fun e => ?_, fun _ e => ?_, fun _ _ r hr => ?_⟩
    · subst e
      have := h3.length
      have e2 := List.eq_nil_of_length_eq_zero this
      subst e2
      exact hq _ _ _ hw.2 (.std hb)
    · subst e
      have := k3.length
      have e2 := List.eq_nil_of_length_eq_zero this
      subst e2
      rw [List.append_nil] at hw
      exact hq _ _ _ hw.2 (.std ha)
    · exact hq _ _ _ hw.2 (.tup hr (h3.append k3))
  · rename_i e; cases e
    obtain ⟨p, vs, rfl, h2, h3⟩ := ha
    obtain ⟨q, ws, rfl, k2, k3⟩ := hb
    exact op_cat pins s σ H _ _ v u Q I rx ry ⟨p, q, vs, ws, rfl, rfl, h2, k2, by rw [← h3.length, ← k3.length]; exact hw.1, fun r hr => hq _ _ _ hw.2 (.lst hr (h3.append k3))⟩
  · rename_i e; cases e; cases ha; cases hb
    exact op_add_str pins s σ H _ _ v u Q I rx ry ⟨_, _, rfl, rfl, hw.1, hq _ _ _ hw.2 (.std rfl)⟩
  · rename_i e; cases e; cases ha; cases hb
    exact op_sub pins s σ H _ _ v u Q I rx ry ⟨_, _, rfl, rfl, hq _ _ _ hw (.std rfl)⟩
  · rename_i e; cases e; cases ha; cases hb
    rcases hw.1 with h | h | h
    · exact op_mul pins s σ H _ _ v u Q I rx ry ⟨_, _, rfl, rfl, .inl h, hq _ _ _ hw.2 (.std rfl)⟩
    · exact op_mul pins s σ H _ _ v u Q I rx ry ⟨_, _, rfl, rfl, .inr h, hq _ _ _ hw.2 (.std rfl)⟩
    · exact op_mulW pins s σ H _ _ v u Q I rx ry ⟨_, _, rfl, rfl, h, hq _ _ _ hw.2 (.std rfl)⟩
  · rename_i e; cases e
    obtain ⟨p, vs, rfl, h2, h3⟩ := ha
    cases hb
    refine op_rep pins s σ H _ _ v u Q I rx ry ⟨p, _, vs, rfl, rfl, h2, hw.1.1, hw.1.2.1, by rw [← h3.length]; exact hw.1.2.2, fun r hr => hq _ _ _ hw.2 (.lst hr ?_)⟩
    generalize Int.toNat _ = n
    induction n with
    | zero => rfl
    | succ n ih => rw [List.replicate_succ, List.replicate_succ, List.flatten_cons, List.flatten_cons]; exact h3.append ih
  · rename_i e; cases e; cases ha; cases hb
    exact op_fdivW pins s σ H _ _ v u Q I rx ry ⟨_, _, rfl, rfl, log2_lt hw.1.1 hw.1.2, hq _ _ _ hw.2 (.std rfl)⟩
  · rename_i e; cases e; cases ha; cases hb
    exact op_mod pins s σ H _ _ v u Q I rx ry ⟨_, _, rfl, rfl, hw.1, hq _ _ _ hw.2 (.std rfl)⟩
  · rename_i e; cases e; cases ha; cases hb
    exact op_pow pins s σ H _ _ v u Q I rx ry ⟨_, _, rfl, rfl, hw.1, hq _ _ _ hw.2 (.std rfl)⟩
  · rename_i e; cases e; cases ha; cases hb
    exact op_shl pins s σ H _ _ v u Q I rx ry ⟨_, _, rfl, rfl, hw.1, hq _ _ _ hw.2 (.std rfl)⟩
  · exact hw.elim
end
end VE
/-! VE5: comparisons -/
namespace VE
open PySem PySem.Spec PyProof.Rows L2

mutual
def D.py : D → PyData
  | .non => .none
  | .bl b => .bool b
  | .int i => .int i
  | .str s => .str s
  | .tup xs => .tuple (D.pys xs)
  | .lst xs => .list (D.pys xs)
  | _ => .none
def D.pys : List D → List PyData
  | [] => []
  | x :: xs => D.py x :: D.pys xs
end
mutual
theorem D.py_dep : ∀ x : D, x.py.depth = x.dep
  | .non => rfl
  | .bl _ => rfl
  | .int _ => rfl
  | .str _ => rfl
  | .tup xs => by show PyData.depthAll (D.pys xs) + 1 = D.deps xs + 1; rw [D.pys_dep xs]
  | .lst xs => by show PyData.depthAll (D.pys xs) + 1 = D.deps xs + 1; rw [D.pys_dep xs]
  | .scr _ => rfl
  | .dic _ _ _ => rfl
  | .ins _ _ => rfl
theorem D.pys_dep : ∀ xs : List D, PyData.depthAll (D.pys xs) = D.deps xs
  | [] => rfl
  | x :: xs => by show max x.py.depth (PyData.depthAll (D.pys xs)) = max x.dep (D.deps xs); rw [D.py_dep x, D.pys_dep xs]
end
mutual
theorem D.pur_pyb : ∀ x : D, x.pur = true → x.pyb = true
  | .non, _ => rfl
  | .bl _, _ => rfl
  | .int _, _ => rfl
  | .str _, _ => rfl
  | .tup xs, h => D.purs_pyb xs h
  | .lst xs, h => D.purs_pyb xs h
  | .scr _, h => by cases h
  | .dic _ _ _, h => by cases h
  | .ins _ _, h => by cases h
theorem D.purs_pyb : ∀ xs : List D, D.purs xs = true → D.pybs xs = true
  | [], _ => rfl
  | x :: xs, h => by
    have h' : (x.pur && D.purs xs) = true := h
    rw [Bool.and_eq_true] at h'
    show (x.pyb && D.pybs xs) = true
    rw [D.pur_pyb x h'.1, D.purs_pyb xs h'.2]; rfl
end
mutual
theorem D.pur_lay : ∀ x : D, x.pur = true → x.py.canLay0 = true
  | .non, _ => rfl
  | .bl _, _ => rfl
  | .int _, _ => rfl
  | .str s, h => h
  | .tup xs, h => D.purs_lay xs h
  | .lst xs, h => D.purs_lay xs h
  | .scr _, h => by cases h
  | .dic _ _ _, h => by cases h
  | .ins _ _, h => by cases h
theorem D.purs_lay : ∀ xs : List D, D.purs xs = true → PyData.canLayAll0 (D.pys xs) = true
  | [], _ => rfl
  | x :: xs, h => by
    have h' : (x.pur && D.purs xs) = true := h
    rw [Bool.and_eq_true] at h'
    show (x.py.canLay0 && PyData.canLayAll0 (D.pys xs)) = true
    rw [D.pur_lay x h'.1, D.purs_lay xs h'.2]; rfl
end
mutual
theorem D.pur_eqv : ∀ x y : D, x.pur = true → y.pur = true → PyData.eqv x.py y.py = decide (x = y)
  | .non, y, _, h => by cases y <;> simp [D.pur] at h <;> simp [D.py, PyData.eqv]
  | .bl _, y, h, _ => by simp [D.pur] at h
  | .int i, y, _, h => by cases y <;> simp [D.pur] at h <;> simp [D.py, PyData.eqv] <;> rfl
  | .str s, y, _, h => by cases y <;> simp [D.pur] at h <;> simp [D.py, PyData.eqv] <;> rfl
  | .tup xs, y, k, h => by
    cases y <;> simp [D.pur] at h k <;> simp [D.py, PyData.eqv]
    rw [D.purs_eqv xs _ k h]
  | .lst xs, y, k, h => by
    cases y <;> simp [D.pur] at h k <;> simp [D.py, PyData.eqv]
    rw [D.purs_eqv xs _ k h]
  | .scr _, y, h, _ => by simp [D.pur] at h
  | .dic _ _ _, y, h, _ => by simp [D.pur] at h
  | .ins _ _, y, h, _ => by simp [D.pur] at h
theorem D.purs_eqv : ∀ xs ys : List D, D.purs xs = true → D.purs ys = true → PyData.eqvAll (D.pys xs) (D.pys ys) = decide (xs = ys)
  | [], [], _, _ => by simp [D.pys, PyData.eqvAll]
  | [], _ :: _, _, _ => by simp [D.pys, PyData.eqvAll]
  | _ :: _, [], _, _ => by simp [D.pys, PyData.eqvAll]
  | x :: xs, y :: ys, h, k => by
    simp [D.purs] at h k
    simp only [D.pys, PyData.eqvAll]
    rw [D.pur_eqv x y h.1 k.1, D.purs_eqv xs ys h.2 k.2]
    simp
end
mutual
theorem D.like_alike : ∀ x y : D, D.like x y = true → PySem.W.alike x.py y.py = true
  | .int _, y, h => by cases y <;> first | rfl | simp [D.like] at h
  | .str _, y, h => by cases y <;> first | rfl | simp [D.like] at h
  | .bl _, y, h => by cases y <;> first | rfl | simp [D.like] at h
  | .tup xs, y, h => by
    cases y <;> first | simp [D.like] at h | skip
    simp only [D.py, PySem.W.alike]
    exact D.likes_alike xs _ (by simpa [D.like] using h)
  | .lst xs, y, h => by
    cases y <;> first | simp [D.like] at h | skip
    simp only [D.py, PySem.W.alike]
    exact D.likes_alike xs _ (by simpa [D.like] using h)
  | .non, y, h => by simp [D.like] at h
  | .scr _, y, h => by simp [D.like] at h
  | .dic _ _ _, y, h => by simp [D.like] at h
  | .ins _ _, y, h => by simp [D.like] at h
theorem D.likes_alike : ∀ xs ys : List D, D.likes xs ys = true → PySem.W.alikeAll (D.pys xs) (D.pys ys) = true
  | [], ys, _ => by cases ys <;> simp [D.pys, PySem.W.alikeAll]
  | x :: xs, [], _ => by simp [D.pys, PySem.W.alikeAll]
  | x :: xs, y :: ys, h => by
    have h' : (D.like x y && D.likes xs ys) = true := by simpa [D.likes] using h
    rw [Bool.and_eq_true] at h'
    simp only [D.pys, PySem.W.alikeAll]
    rw [D.like_alike x y h'.1, D.likes_alike xs ys h'.2]; rfl
end
mutual
theorem D.like_eqv : ∀ x y : D, D.like x y = true → PyData.eqv x.py y.py = decide (x = y)
  | .int i, y, h => by cases y <;> simp [D.like] at h <;> simp [D.py, PyData.eqv] <;> rfl
  | .str i, y, h => by cases y <;> simp [D.like] at h <;> simp [D.py, PyData.eqv] <;> rfl
  | .bl i, y, h => by cases y <;> simp [D.like] at h <;> simp [D.py, PyData.eqv] <;> rfl
  | .tup xs, y, h => by
    cases y <;> simp [D.like] at h <;> simp [D.py, PyData.eqv]
    rw [D.likes_eqv xs _ h]
  | .lst xs, y, h => by
    cases y <;> simp [D.like] at h <;> simp [D.py, PyData.eqv]
    rw [D.likes_eqv xs _ h]
  | .non, y, h => by simp [D.like] at h
  | .scr _, y, h => by simp [D.like] at h
  | .dic _ _ _, y, h => by simp [D.like] at h
  | .ins _ _, y, h => by simp [D.like] at h
theorem D.likes_eqv : ∀ xs ys : List D, D.likes xs ys = true → PyData.eqvAll (D.pys xs) (D.pys ys) = decide (xs = ys)
  | [], [], _ => by simp [D.pys, PyData.eqvAll]
  | [], _ :: _, _ => by simp [D.pys, PyData.eqvAll]
  | _ :: _, [], _ => by simp [D.pys, PyData.eqvAll]
  | x :: xs, y :: ys, h => by
    have h' : (D.like x y && D.likes xs ys) = true := by simpa [D.likes] using h
    rw [Bool.and_eq_true] at h'
    simp only [D.pys, PyData.eqvAll]
    rw [D.like_eqv x y h'.1, D.likes_eqv xs ys h'.2]
    simp
end
mutual
theorem likeSymm : ∀ {x y : D}, D.like x y = true → D.like y x = true
  | .int i, y, h => by cases y <;> first | rfl | simp [D.like] at h
  | .str i, y, h => by cases y <;> first | rfl | simp [D.like] at h
  | .bl i, y, h => by cases y <;> first | rfl | simp [D.like] at h
  | .tup xs, y, h => by
    cases y <;> first | simp [D.like] at h | skip
    simp only [D.like] at h ⊢
    exact likesSymm h
  | .lst xs, y, h => by
    cases y <;> first | simp [D.like] at h | skip
    simp only [D.like] at h ⊢
    exact likesSymm h
  | .non, y, h => by simp [D.like] at h
  | .scr _, y, h => by simp [D.like] at h
  | .dic _ _ _, y, h => by simp [D.like] at h
  | .ins _ _, y, h => by simp [D.like] at h
theorem likesSymm : ∀ {xs ys : List D}, D.likes xs ys = true → D.likes ys xs = true
  | [], ys, _ => by cases ys <;> rfl
  | x :: xs, [], _ => rfl
  | x :: xs, y :: ys, h => by
    have h' : (D.like x y && D.likes xs ys) = true := by simpa [D.likes] using h
    rw [Bool.and_eq_true] at h'
    show (D.like y x && D.likes ys xs) = true
    rw [likeSymm h'.1, likesSymm h'.2]; rfl
end
theorem lexk_nil (y : PyData) (ys : List PyData) : PyProof.Rows.lexLt PyProof.Rows.itemOrd (PySem.W.keyToksAll []) (PySem.W.keyToksAll (y :: ys)) = true := by
  simp only [PySem.W.keyToksAll]
  rw [PyProof.Rows.lex_diff (by intro h; cases h)]
  rfl
theorem lexk_nil' (x : PyData) (xs : List PyData) : PyProof.Rows.lexLt PyProof.Rows.itemOrd (PySem.W.keyToksAll (x :: xs)) (PySem.W.keyToksAll []) = false := by
  simp only [PySem.W.keyToksAll]
  rw [PyProof.Rows.lex_diff (by intro h; cases h)]
  rfl
mutual
theorem D.like_lt : ∀ x y : D, D.like x y = true → PySem.W.dataLt x.py y.py = D.lt x y
  | .int i, y, h => by cases y <;> simp [D.like] at h <;> simp only [D.py, D.lt] <;> exact PySem.W.dataLt_int _ _
  | .str i, y, h => by cases y <;> simp [D.like] at h <;> simp only [D.py, D.lt] <;> exact PySem.W.dataLt_str _ _
  | .bl i, y, h => by
    cases y <;> simp [D.like] at h <;> simp only [D.py, D.lt]
    rw [PySem.W.dataLt_bool]
    rename_i b
    cases i <;> cases b <;> decide
  | .tup xs, y, h => by
    cases y <;> simp [D.like] at h <;> simp only [D.py, D.lt]
    rw [PySem.W.dataLt_tuple]
    exact D.likes_lt xs _ h
  | .lst xs, y, h => by
    cases y <;> simp [D.like] at h <;> simp only [D.py, D.lt]
    rw [PySem.W.dataLt_list]
    exact D.likes_lt xs _ h
  | .non, y, h => by simp [D.like] at h
  | .scr _, y, h => by simp [D.like] at h
  | .dic _ _ _, y, h => by simp [D.like] at h
  | .ins _ _, y, h => by simp [D.like] at h
theorem D.likes_lt : ∀ xs ys : List D, D.likes xs ys = true → PyProof.Rows.lexLt PyProof.Rows.itemOrd (PySem.W.keyToksAll (D.pys xs)) (PySem.W.keyToksAll (D.pys ys)) = D.lts xs ys
  | [], [], _ => by simp only [D.pys, D.lts]; exact PyProof.Rows.lex_irrefl _
  | [], y :: ys, _ => by simp only [D.pys, D.lts]; exact lexk_nil _ _
  | x :: xs, [], _ => by simp only [D.pys, D.lts]; exact lexk_nil' _ _
  | x :: xs, y :: ys, h => by
    have h' : (D.like x y && D.likes xs ys) = true := by simpa [D.likes] using h
    rw [Bool.and_eq_true] at h'
    simp only [D.pys, D.lts]
    by_cases e : x = y
    · rw [if_pos e, PySem.W.dataLt_all_yes (D.like_alike x y h'.1) (by rw [D.like_eqv x y h'.1]; exact decide_eq_true e)]
      exact D.likes_lt xs ys h'.2
    · rw [if_neg e, PySem.W.dataLt_all_no (D.like_alike x y h'.1) (by rw [D.like_eqv x y h'.1]; exact decide_eq_false e)]
      exact D.like_lt x y h'.1
end
mutual
theorem Rep.dp {C : CT} {K : PySem.W.Frag} {H : Hp} : ∀ (x : D) (v : V), x.pyb = true → Rep C K H x v → Dp K H v x.py
  | .non, _, _, h => by cases h; exact .non
  | .bl b, _, _, h => by cases h; exact .bl b
  | .int b, _, _, h => by cases h; exact .int b
  | .str b, _, _, h => by cases h; exact .str b
  | .tup xs, _, p, ⟨a, vs, e, h1, h2⟩ => by subst e; exact .tup (.of h1) (Reps.dp xs vs p h2)
  | .lst xs, _, p, ⟨a, vs, e, h1, h2⟩ => by subst e; exact .lst (.of h1) (Reps.dp xs vs p h2)
  | .scr _, _, p, _ => by cases p
  | .dic _ _ _, _, p, _ => by cases p
  | .ins _ _, _, p, _ => by cases p
theorem Reps.dp {C : CT} {K : PySem.W.Frag} {H : Hp} : ∀ (xs : List D) (vs : List V), D.pybs xs = true → Reps C K H xs vs → DpAll K H vs (D.pys xs)
  | [], _, _, h => by cases h; exact .nil
  | x :: xs, _, p, ⟨v, r, e, h1, h2⟩ => by
    subst e
    have p' : (x.pyb && D.pybs xs) = true := p
    rw [Bool.and_eq_true] at p'
    exact .cons (Rep.dp x v p'.1 h1) (Reps.dp xs r p'.2 h2)
end
theorem Top.rep {C : CT} {K : PySem.W.Frag} {H G : Hp} {x : D} {v : V} (g : Same G H) (p : x.pyb = true) (h : Top C K H G x v) : Rep C K H x v := by
  cases x with
  | lst xs => obtain ⟨q, vs, e, h1, h2⟩ := h; exact ⟨q, vs, e, h1, Reps.mono g _ _ h2⟩
  | dic _ _ _ => cases p
  | ins _ _ => cases p
  | _ => exact Rep.mono g _ _ h
theorem Top.dp {C : CT} {K : PySem.W.Frag} {H G : Hp} {x : D} {v : V} (g : Same G H) (p : x.pyb = true) (h : Top C K H G x v) : Dp K H v x.py := Rep.dp x v p (h.rep g p)

/-! ### comparisons -/
section
variable {X : Cx} {C : CT}
/-- how much of the stack is left -/
abbrev Stk (X : Cx) : Prop := X.A.units + 70 < cLine
theorem cmp_lt (hu : Stk X) {op : CmpOp} {x y : V} {a b : D} {G H : Hp} {v u : Value} {pins : List (Addr × Obj)} {s : Shared} {σ : L2.St} {Q : VK} (g : Same G H) (ha : Top C X.K H G a x) (hb : Top C X.K H G b y) (hl : ltOk a b = true)
    (I : Inv X pins σ H s) (rx : RelV x v) (ry : RelV y u) (q : Q (.bl (match op with | .Lt => D.lt a b | .LtE => !D.lt b a | .Gt => D.lt b a | _ => !D.lt a b)) H) (ho : op = .Lt ∨ op = .LtE ∨ op = .Gt ∨ op = .GtE) :
    wpAny (model X.prog X.w) X.A (compareOp op v u) (EP X pins σ Q) X.xe s := by
  unfold ltOk at hl
  simp only [Bool.and_eq_true, decide_eq_true_eq] at hl
  obtain ⟨⟨⟨h1, h2, h3⟩, h4⟩, h5⟩ := hl
  obtain ⟨as, r1⟩ := Dp.reads I _ _ _ (ha.dp g h2) rx
  obtain ⟨bs, r2⟩ := Dp.reads I _ _ _ (hb.dp g h3) ry
  have al := D.like_alike a b h1
  have la : D.like b a = true := likeSymm h1
  have nn : a.py ≠ .none := by
    intro e
    cases a <;> simp [D.py, D.like] at e h1
  have hm : X.A.units + min a.py.depth b.py.depth < cLine := by
    rw [D.py_dep, D.py_dep]
    have := Nat.min_le_left a.dep b.dep
    omega
  rcases ho with rfl | rfl | rfl | rfl
  · exact PySem.W.lt_data r1 r2 al nn hm ⟨.bl _, H, I, rfl, by rw [D.like_lt a b h1]; exact q⟩
  · exact PySem.W.le_data r1 r2 al nn hm ⟨.bl _, H, I, rfl, by rw [D.like_lt b a la]; exact q⟩
  · exact PySem.W.gt_data r1 r2 al nn hm ⟨.bl _, H, I, rfl, by rw [D.like_lt b a la]; exact q⟩
  · exact PySem.W.ge_data r1 r2 al nn hm ⟨.bl _, H, I, rfl, by rw [D.like_lt a b h1]; exact q⟩
end
end VE
/-! VE6: comparisons, subscripts, calls of built-ins -/
namespace VE
open PySem PySem.Spec PyProof.Rows L2
theorem shaped_of {x : D} (h : x.pur = true) (hd : x.dep ≤ 60) : SeqAt.shaped x.py = true := by
  unfold SeqAt.shaped
  rw [D.pur_lay x h, D.py_dep]
  simp; omega
theorem ints_lay : ∀ ns : List Int, PyData.canLayAll0 (ns.map PyData.int) = true ∧ PyData.depthAll (ns.map PyData.int) = 0
  | [] => ⟨rfl, rfl⟩
  | n :: ns => ⟨by show (true && _) = true; rw [(ints_lay ns).1]; rfl, by show max 0 (PyData.depthAll (ns.map PyData.int)) = 0; rw [(ints_lay ns).2]; rfl⟩
theorem ints_dp {K : PySem.W.Frag} {H : Hp} : ∀ ns : List Int, DpAll K H (ns.map V.int) (ns.map PyData.int)
  | [] => .nil
  | n :: ns => .cons (.int n) (ints_dp ns)
theorem any_eqv {x : D} (hx : x.pur = true) : ∀ {ys : List D}, D.purs ys = true → ((D.pys ys).any fun z => PyData.eqv z x.py) = decide (x ∈ ys)
  | [], _ => by simp [D.pys]
  | y :: ys, h => by
    have h' : (y.pur && D.purs ys) = true := h
    rw [Bool.and_eq_true] at h'
    simp only [D.pys, List.any_cons]
    rw [D.pur_eqv y x h'.1 hx, any_eqv hx h'.2]
    by_cases e : x = y
    · simp [e]
    · have : ¬ y = x := fun q => e q.symm
      simp [e, this]
theorem topNon {C : CT} {K : PySem.W.Frag} {H G : Hp} {a : D} {x : V} (h : Top C K H G a x) : decide (x = .non) = decide (a = .non) := by
  cases a with
  | non => cases h; rfl
  | bl b => cases h; rfl
  | int b => cases h; rfl
  | str b => cases h; rfl
  | tup xs => obtain ⟨p, vs, e, _⟩ := h; subst e; rfl
  | lst xs => obtain ⟨p, vs, e, _⟩ := h; subst e; rfl
  | scr xs => obtain ⟨p, e, _⟩ := h; subst e; rfl
  | dic t ks xs => obtain ⟨p, vs, e, _⟩ := h; subst e; rfl
  | ins t xs => obtain ⟨p, dx, vs, e, _⟩ := h; subst e; rfl
section
variable {X : Cx} {C : CT}
theorem cmpW (hu : Stk X) {op : CmpOp} : OpR X (compareOp op) (rW2 C X.K (wCmp op)) := by
  intro pins s σ H x y v u Q I rx ry h
  obtain ⟨G, a, b, g, ha, hb, P, hw, hq⟩ := h
  have eqs : ∀ {a b : D}, Top C X.K H G a x → Top C X.K H G b y → eqOk a b = true → ∀ neg : Bool, P (rB (if neg then !decide (a = b) else decide (a = b))) →
      wpAny (model X.prog X.w) X.A (compareOp (if neg then .NotEq else .Eq) v u) (EP X pins σ Q) X.xe s := by
    intro a b ha hb hok neg hp
    unfold eqOk at hok
    simp only [Bool.or_eq_true, Bool.and_eq_true, decide_eq_true_eq] at hok
    rcases hok with (⟨⟨⟨h1, h2⟩, h3⟩, h4⟩ | ⟨h1, h2⟩) | ⟨h1, h2⟩
    · have da := ha.dp g (D.pur_pyb a h1)
      have db := hb.dp g (D.pur_pyb b h2)
      have e : PyData.eqv a.py b.py = decide (a = b) := D.pur_eqv a b h1 h2
      cases neg
      · exact op_eqD (by omega) pins s σ H x y v u Q I rx ry ⟨_, _, da, db, shaped_of h1 h3, shaped_of h2 h4, by rw [e]; exact hq _ _ _ hp (.std rfl)⟩
      · exact op_neD (by omega) pins s σ H x y v u Q I rx ry ⟨_, _, da, db, shaped_of h1 h3, shaped_of h2 h4, by rw [e]; exact hq _ _ _ hp (.std rfl)⟩
    · cases a <;> first | (cases h1; done) | skip
      cases b <;> first | (cases h2; done) | skip
      cases ha; cases hb
      rename_i p q
      have e : decide (V.bl p = V.bl q) = decide (D.bl p = D.bl q) := by cases p <;> cases q <;> decide
      cases neg
      · exact op_eq pins s σ H _ _ v u Q I rx ry ⟨rfl, by rw [e]; exact hq _ _ _ hp (.std rfl)⟩
      · exact op_ne pins s σ H _ _ v u Q I rx ry ⟨rfl, by rw [e]; exact hq _ _ _ hp (.std rfl)⟩
    · cases a <;> first | (cases h1; done) | skip
      cases b <;> first | (cases h2; done) | skip
      cases ha; cases hb
      rename_i p q
      have e : decide (V.str p = V.str q) = decide (D.str p = D.str q) := by
        by_cases z : p = q <;> simp [z]
      cases neg
      · exact op_eq pins s σ H _ _ v u Q I rx ry ⟨rfl, by rw [e]; exact hq _ _ _ hp (.std rfl)⟩
      · exact op_ne pins s σ H _ _ v u Q I rx ry ⟨rfl, by rw [e]; exact hq _ _ _ hp (.std rfl)⟩
  have ins : ∀ {a b : D} {R : Bool → Prop}, Top C X.K H G a x → Top C X.K H G b y → wIn a b R → ∀ neg : Bool, (∀ k, R k → P (rB (if neg then !k else k))) →
      wpAny (model X.prog X.w) X.A (compareOp (if neg then .NotIn else .In) v u) (EP X pins σ Q) X.xe s := by
    intro a b R ha hb hw neg hp
    unfold wIn at hw
    split at hw
    · rename_i ys
      simp only [Bool.and_eq_true, decide_eq_true_eq] at hw
      obtain ⟨⟨⟨⟨h1, h2⟩, h3⟩, h4⟩, hr⟩ := hw
      obtain ⟨as, r1⟩ := Dp.reads I _ _ _ (ha.dp g (D.pur_pyb _ h1)) rx
      obtain ⟨bs, r2⟩ := Dp.reads I _ _ _ (hb.dp (x := .lst ys) g (D.purs_pyb ys h2)) ry
      have m : X.A.units + 1 + min (PyData.depthAll (D.pys ys)) a.py.depth < cLine := by
        rw [D.py_dep]
        have := Nat.min_le_right (PyData.depthAll (D.pys ys)) a.dep
        omega
      have e := any_eqv h1 h2
      have f := hq _ _ _ (hp _ hr) (.std rfl)
      cases neg
      · exact SeqAt.in_list_reads r2 r1 (D.purs_lay ys h2) (D.pur_lay _ h1) m ⟨.bl _, H, I, rfl, by rw [e]; exact f⟩
      · exact SeqAt.notIn_list_reads r2 r1 (D.purs_lay ys h2) (D.pur_lay _ h1) m ⟨.bl _, H, I, rfl, by rw [e]; exact f⟩
    · rename_i ys
      simp only [Bool.and_eq_true, decide_eq_true_eq] at hw
      obtain ⟨⟨⟨⟨h1, h2⟩, h3⟩, h4⟩, hr⟩ := hw
      obtain ⟨as, r1⟩ := Dp.reads I _ _ _ (ha.dp g (D.pur_pyb _ h1)) rx
      obtain ⟨bs, r2⟩ := Dp.reads I _ _ _ (hb.dp (x := .tup ys) g (D.purs_pyb ys h2)) ry
      have m : X.A.units + 1 + min (PyData.depthAll (D.pys ys)) a.py.depth < cLine := by
        rw [D.py_dep]
        have := Nat.min_le_right (PyData.depthAll (D.pys ys)) a.dep
        omega
      have e := any_eqv h1 h2
      have f := hq _ _ _ (hp _ hr) (.std rfl)
      cases neg
      · exact SeqAt.in_tuple_reads r2 r1 (D.purs_lay ys h2) (D.pur_lay _ h1) m ⟨.bl _, H, I, rfl, by rw [e]; exact f⟩
      · exact SeqAt.notIn_tuple_reads r2 r1 (D.purs_lay ys h2) (D.pur_lay _ h1) m ⟨.bl _, H, I, rfl, by rw [e]; exact f⟩
    · cases ha; cases hb
      have f := hq _ _ _ (hp _ hw) (.std rfl)
      cases neg
      · exact op_in_str pins s σ H _ _ v u Q I rx ry ⟨_, _, rfl, rfl, f⟩
      · exact op_notin_str pins s σ H _ _ v u Q I rx ry ⟨_, _, rfl, rfl, f⟩
    · exact hw.elim
  unfold wCmp at hw
  split at hw
  · rename_i e; cases e
    unfold wEq at hw
    split at hw
    · obtain ⟨rfl, hw⟩ := hw
      rename_i ns
      obtain ⟨p, rfl, h1⟩ := ha
      obtain ⟨q, vs, rfl, h2, h3⟩ := hb
      cases h3
      have d1 : Dp X.K H (.ref p) (.list (ns.map PyData.int)) := .lst (g.seq h1) (ints_dp ns)
      have d2 : Dp X.K H (.ref q) (.list []) := .lst (.of h2) .nil
      have e : PyData.eqv (.list (ns.map PyData.int)) (.list []) = ns.isEmpty := by cases ns <;> simp [PyData.eqv, PyData.eqvAll]
      have s1 : SeqAt.shaped (.list (ns.map PyData.int)) = true := by
        unfold SeqAt.shaped
        rw [show (PyData.list (ns.map PyData.int)).canLay0 = PyData.canLayAll0 (ns.map PyData.int) from rfl, (ints_lay ns).1]
        rw [show (PyData.list (ns.map PyData.int)).depth = PyData.depthAll (ns.map PyData.int) + 1 from rfl, (ints_lay ns).2]
        rfl
      exact op_eqD (by omega) pins s σ H _ _ v u Q I rx ry ⟨_, _, d1, d2, s1, rfl, by rw [e]; exact hq _ _ _ hw (.std rfl)⟩
    · exact eqs ha hb hw.1 false hw.2
  · rename_i e; cases e; exact eqs ha hb hw.1 true hw.2
  · rename_i e; cases e; exact cmp_lt hu g ha hb hw.1 I rx ry (hq _ _ _ hw.2 (.std rfl)) (.inl rfl)
  · rename_i e; cases e; exact cmp_lt hu g ha hb hw.1 I rx ry (hq _ _ _ hw.2 (.std rfl)) (.inr (.inl rfl))
  · rename_i e; cases e; exact cmp_lt hu g ha hb hw.1 I rx ry (hq _ _ _ hw.2 (.std rfl)) (.inr (.inr (.inl rfl)))
  · rename_i e; cases e; exact cmp_lt hu g ha hb hw.1 I rx ry (hq _ _ _ hw.2 (.std rfl)) (.inr (.inr (.inr rfl)))
  · rename_i e; cases e; exact ins ha hb hw false (fun k h => h)
  · rename_i e; cases e; exact ins ha hb hw true (fun k h => h)
  · rename_i e; cases e; cases hb
    have e : decide (x = .non) = decide (a = .non) := topNon ha
    exact op_isN pins s σ H _ _ v u Q I rx ry ⟨rfl, by rw [e]; exact hq _ _ _ hw (.std rfl)⟩
  · rename_i e; cases e; cases hb
    have e : decide (x = .non) = decide (a = .non) := topNon ha
    exact op_notN pins s σ H _ _ v u Q I rx ry ⟨rfl, by rw [e]; exact hq _ _ _ hw (.std rfl)⟩
  · exact hw.elim
end
end VE
/-! VE7: subscripts, slices, calls of built-ins, stores in place -/
namespace VE
open PySem PySem.Spec PyProof.Rows L2

def Tops (C : CT) (K : PySem.W.Frag) (H G : Hp) : List D → List V → Prop
  | [], vs => vs = []
  | d :: ds, vs => ∃ v r, vs = v :: r ∧ Top C K H G d v ∧ Tops C K H G ds r
def rWC (C : CT) (K : PySem.W.Frag) (w : List D → WO) : List V → Hp → VK → Prop := fun xs H Q => ∃ G as, Same G H ∧ Tops C K H G as xs ∧ Wish C K G H (w as) Q
section
variable {C : CT} {K : PySem.W.Frag} {H G : Hp}
theorem Tops.one {d : D} {vs : List V} (h : Tops C K H G [d] vs) : ∃ v, vs = [v] ∧ Top C K H G d v := by
  obtain ⟨v, r, e, h1, h2⟩ := h
  cases h2
  exact ⟨v, e, h1⟩
theorem Tops.two {d e : D} {vs : List V} (h : Tops C K H G [d, e] vs) : ∃ v w, vs = [v, w] ∧ Top C K H G d v ∧ Top C K H G e w := by
  obtain ⟨v, r, q, h1, h2⟩ := h
  obtain ⟨w, q2, h3⟩ := Tops.one h2
  subst q2
  exact ⟨v, w, q, h1, h3⟩
theorem dsum_go : ∀ (xs : List D) (a : Int), xs.all isInt = true → ∃ ns : List Int, xs = ns.map D.int ∧ xs.foldl addI a = a + ns.sum
  | [], a, _ => ⟨[], rfl, by simp⟩
  | x :: xs, a, h => by
    rw [List.all_cons, Bool.and_eq_true] at h
    cases x with
    | int i =>
      obtain ⟨ns, e, q⟩ := dsum_go xs (a + i) h.2
      exact ⟨i :: ns, by rw [e]; rfl, by rw [List.foldl_cons, show addI a (.int i) = a + i from rfl, q, List.sum_cons, Int.add_assoc]⟩
    | _ => cases h.1
theorem dsum_eq {xs : List D} (h : xs.all isInt = true) : ∃ ns : List Int, xs = ns.map D.int ∧ dsum xs = ns.sum := by
  obtain ⟨ns, e, q⟩ := dsum_go xs 0 h
  exact ⟨ns, e, by unfold dsum; rw [q, Int.zero_add]⟩
theorem bls_of : ∀ {xs : List D}, xs.all isBl = true → ∃ bs : List Bool, xs = bs.map D.bl ∧ xs.any unB = bs.any id ∧ xs.all unB = bs.all id
  | [], _ => ⟨[], rfl, rfl, rfl⟩
  | x :: xs, h => by
    rw [List.all_cons, Bool.and_eq_true] at h
    cases x with
    | bl b =>
      obtain ⟨bs, e, q1, q2⟩ := bls_of h.2
      exact ⟨b :: bs, by rw [e]; rfl, by rw [List.any_cons, List.any_cons, q1]; rfl, by rw [List.all_cons, List.all_cons, q2]; rfl⟩
    | _ => cases h.1
theorem pys_map : ∀ xs : List D, D.pys xs = xs.map D.py
  | [] => rfl
  | x :: xs => by show x.py :: D.pys xs = _; rw [pys_map xs]; rfl
theorem deps_le {n : Nat} : ∀ {xs : List D}, (∀ x ∈ xs, x.dep ≤ n) → D.deps xs ≤ n
  | [], _ => Nat.zero_le _
  | x :: xs, h => by
    show max x.dep (D.deps xs) ≤ n
    have := h x (by simp)
    have := deps_le (xs := xs) fun y hy => h y (by simp [hy])
    omega
theorem pybs_of : ∀ {xs : List D}, (∀ x ∈ xs, x.pyb = true) → D.pybs xs = true
  | [], _ => rfl
  | x :: xs, h => by
    show (x.pyb && D.pybs xs) = true
    rw [h x (by simp), pybs_of fun y hy => h y (by simp [hy])]; rfl
theorem ltOk_of {a b : D} (h : ltOk a b = true) : D.like a b = true ∧ a.pyb = true ∧ b.pyb = true ∧ a.dep ≤ 60 ∧ b.dep ≤ 60 := by
  unfold ltOk at h
  simp only [Bool.and_eq_true, decide_eq_true_eq] at h
  exact ⟨h.1.1.1, h.1.1.2.1, h.1.1.2.2, h.1.2, h.2⟩
theorem like_ne {a b : D} (h : D.like a b = true) : a.py ≠ .none := by
  intro e
  cases a <;> simp [D.py, D.like] at e h
theorem minD_py : ∀ (xs : List D) (x : D), (∀ a ∈ x :: xs, ∀ b ∈ x :: xs, ltOk a b = true) → PySem.W.minD x.py (D.pys xs) = (dmin x xs).py ∧ dmin x xs ∈ x :: xs := by
  intro xs
  unfold PySem.W.minD dmin
  induction xs with
  | nil => intro x h; exact ⟨rfl, by simp⟩
  | cons y ys ih =>
    intro x h
    show List.foldl _ (if PySem.W.dataLt y.py x.py then y.py else x.py) (D.pys ys) = (List.foldl _ (if D.lt y x then y else x) ys).py ∧ _
    rw [D.like_lt y x (ltOk_of (h y (by simp) x (by simp))).1]
    have k : ∀ z, (z = x ∨ z = y) → ∀ a ∈ z :: ys, ∀ b ∈ z :: ys, ltOk a b = true := by
      intro z hz a ha b hb
      refine h a ?_ b ?_
      · rcases List.mem_cons.mp ha with rfl | ha
        · rcases hz with rfl | rfl <;> simp
        · simp [ha]
      · rcases List.mem_cons.mp hb with rfl | hb
        · rcases hz with rfl | rfl <;> simp
        · simp [hb]
    by_cases e : D.lt y x = true
    · rw [if_pos e, if_pos e, List.foldl_cons, if_pos e]
      obtain ⟨i1, i2⟩ := ih y (k y (.inr rfl))
      refine ⟨i1, ?_⟩
      rcases List.mem_cons.mp i2 with i2 | i2
      · rw [i2]; simp
      · simp [i2]
    · rw [if_neg e, if_neg e, List.foldl_cons, if_neg e]
      obtain ⟨i1, i2⟩ := ih x (k x (.inl rfl))
      refine ⟨i1, ?_⟩
      rcases List.mem_cons.mp i2 with i2 | i2
      · rw [i2]; simp
      · simp [i2]
theorem maxD_py : ∀ (xs : List D) (x : D), (∀ a ∈ x :: xs, ∀ b ∈ x :: xs, ltOk a b = true) → PySem.W.maxD x.py (D.pys xs) = (dmax x xs).py ∧ dmax x xs ∈ x :: xs := by
  intro xs
  unfold PySem.W.maxD dmax
  induction xs with
  | nil => intro x h; exact ⟨rfl, by simp⟩
  | cons y ys ih =>
    intro x h
    show List.foldl _ (if PySem.W.dataLt x.py y.py then y.py else x.py) (D.pys ys) = (List.foldl _ (if D.lt x y then y else x) ys).py ∧ _
    rw [D.like_lt x y (ltOk_of (h x (by simp) y (by simp))).1]
    have k : ∀ z, (z = x ∨ z = y) → ∀ a ∈ z :: ys, ∀ b ∈ z :: ys, ltOk a b = true := by
      intro z hz a ha b hb
      refine h a ?_ b ?_
      · rcases List.mem_cons.mp ha with rfl | ha
        · rcases hz with rfl | rfl <;> simp
        · simp [ha]
      · rcases List.mem_cons.mp hb with rfl | hb
        · rcases hz with rfl | rfl <;> simp
        · simp [hb]
    by_cases e : D.lt x y = true
    · rw [if_pos e, if_pos e, List.foldl_cons, if_pos e]
      obtain ⟨i1, i2⟩ := ih y (k y (.inr rfl))
      refine ⟨i1, ?_⟩
      rcases List.mem_cons.mp i2 with i2 | i2
      · rw [i2]; simp
      · simp [i2]
    · rw [if_neg e, if_neg e, List.foldl_cons, if_neg e]
      obtain ⟨i1, i2⟩ := ih x (k x (.inl rfl))
      refine ⟨i1, ?_⟩
      rcases List.mem_cons.mp i2 with i2 | i2
      · rw [i2]; simp
      · simp [i2]
theorem alikeAll_of {xs : List D} (h : ∀ a ∈ xs, ∀ b ∈ xs, ltOk a b = true) : PySem.W.AlikeAll (D.pys xs) := by
  rw [pys_map]
  refine ⟨fun a ha b hb => ?_, fun a ha => ?_⟩
  · obtain ⟨x, hx, rfl⟩ := List.mem_map.mp ha
    obtain ⟨y, hy, rfl⟩ := List.mem_map.mp hb
    exact D.like_alike x y (ltOk_of (h x hx y hy)).1
  · obtain ⟨x, hx, rfl⟩ := List.mem_map.mp ha
    exact like_ne (ltOk_of (h x hx x hx)).1
theorem allLike {xs : List D} (h : ∀ a ∈ xs, ∀ b ∈ xs, ltOk a b = true) : (∀ x ∈ xs, x.pyb = true) ∧ ∀ x ∈ xs, x.dep ≤ 60 :=
  ⟨fun x hx => (ltOk_of (h x hx x hx)).2.1, fun x hx => (ltOk_of (h x hx x hx)).2.2.2.1⟩
/-- the items of a list, a tuple, read as data -/
theorem tops_items {xs : List D} {v : V} (g : Same G H) (h : Top C K H G (.lst xs) v ∨ Top C K H G (.tup xs) v) : ∃ p vs, v = .ref p ∧ Reps C K G xs vs ∧ (SqL K H p vs ∨ SqT K H p vs) := by
  rcases h with ⟨p, vs, e, h1, h2⟩ | ⟨p, vs, e, h1, h2⟩
  · exact ⟨p, vs, e, h2, .inl (.of h1)⟩
  · exact ⟨p, vs, e, h2, .inr (.of (g _ _ h1))⟩
end
section
variable {X : Cx} {C : CT}
theorem ixW : IxR X (rW2 C X.K fun ds => wIx ds) := by
  intro value slice pins s σ H x y v u Q I rx ry h hs
  obtain ⟨G, a, b, g, ha, hb, P, hw, hq⟩ := h
  unfold wIx at hw
  split at hw
  · rename_i xs i e
    cases e
    obtain ⟨p, vs, rfl, h1, h2⟩ := ha
    cases hb
    obtain ⟨x, hx, hp⟩ := hw
    have : ∃ w, atI vs i = some w ∧ Rep C X.K G x w := by
      unfold atI at hx ⊢
      rw [← h2.length]
      cases e : ixN xs.length i with
      | none => rw [e] at hx; cases hx
      | some j => rw [e] at hx; exact h2.get hx
    obtain ⟨w, hw, hr⟩ := this
    exact ix_list value slice pins s σ H _ _ v u Q I rx ry ⟨p, vs, i, w, rfl, rfl, .of h1, hw, hq _ _ _ hp (.std hr)⟩ hs
  · rename_i xs i e
    cases e
    obtain ⟨p, vs, rfl, h1, h2⟩ := ha
    cases hb
    obtain ⟨x, hx, hp⟩ := hw
    have : ∃ w, atI vs i = some w ∧ Rep C X.K G x w := by
      unfold atI at hx ⊢
      rw [← h2.length]
      cases e : ixN xs.length i with
      | none => rw [e] at hx; cases hx
      | some j => rw [e] at hx; exact h2.get hx
    obtain ⟨w, hw, hr⟩ := this
    exact ix_tup value slice pins s σ H _ _ v u Q I rx ry ⟨p, vs, i, w, rfl, rfl, .of (g _ _ h1), hw, hq _ _ _ hp (.std hr)⟩ hs
  · rename_i ns i e
    cases e
    obtain ⟨p, rfl, h1⟩ := ha
    cases hb
    obtain ⟨n, hx, hp⟩ := hw
    have : atI (ns.map V.int) i = some (V.int n) := by
      unfold atI at hx ⊢
      rw [List.length_map]
      cases e : ixN ns.length i with
      | none => rw [e] at hx; cases hx
      | some j =>
        rw [e] at hx
        have hx' : ns[j]? = some n := hx
        show (ns.map V.int)[j]? = _
        rw [List.getElem?_map, hx']; rfl
    exact ix_list value slice pins s σ H _ _ v u Q I rx ry ⟨p, _, i, _, rfl, rfl, g.seq h1, this, hq _ _ _ hp (.std rfl)⟩ hs
  · exact hw.elim
def rSlW (C : CT) (K : PySem.W.Frag) : V → Option Int → Option Int → Hp → VK → Prop := fun x lo hi H Q => ∃ G a, Same G H ∧ Top C K H G a x ∧ Wish C K G H (wSl lo hi a) Q
theorem cut_reps {K : PySem.W.Frag} {G : Hp} {xs : List D} {vs : List V} {lo hi : Option Int} (h : Reps C K G xs vs) : Reps C K G (cutD xs lo hi) (cutV vs lo hi) := by
  unfold cutD cutV
  rw [h.length]
  exact (h.drop _).take _
theorem slW : SlR X (rSlW C X.K) := by
  intro pins s σ H x v vl vu lo hi sl Q I rx hs pl pu h
  obtain ⟨G, a, g, ha, P, hw, hq⟩ := h
  unfold wSl at hw
  split at hw
  · obtain ⟨p, vs, rfl, h1, h2⟩ := ha
    exact sl_list pins s σ H _ v vl vu lo hi sl Q I rx hs pl pu ⟨p, vs, rfl, .of h1, fun q hn => hq _ _ _ hw (.lst hn (cut_reps h2))⟩
  · rename_i xs
    obtain ⟨p, vs, rfl, h1, h2⟩ := id ha
    refine sl_tupA pins s σ H _ v vl vu lo hi sl Q I rx hs pl pu ⟨p, vs, rfl, .of (g _ _ h1), fun e => ?_, fun _ q hn => hq _ _ _ hw (.tup hn (cut_reps h2))⟩
    have e2 : cutD xs lo hi = xs := by
      unfold cutD
      rw [h2.length, e.1, e.2, List.drop_zero, Nat.sub_zero, ← h2.length, List.take_length]
    rw [e2] at hw
    exact hq _ _ _ hw (.std ha)
  · exact hw.elim
theorem negW : UnR X (unaryOp .USub) (fun x H Q => ∃ i, x = .int i ∧ Q (.int (-i)) H) := un_neg
theorem callTy {n : String} : CallR X (.type n) (rWC C X.K (wTy n)) := by
  intro pins s σ H xs us Q I r h
  obtain ⟨G, as, g, ha, P, hw, hq⟩ := h
  unfold wTy at hw
  split at hw
  · obtain ⟨v, rfl, h⟩ := ha.one
    cases h
    exact call_int1 pins s σ H _ us Q I r (.inl ⟨_, rfl, hq _ _ _ hw (.std rfl)⟩)
  · obtain ⟨v, rfl, h⟩ := ha.one
    cases h
    exact call_int1 pins s σ H _ us Q I r (.inr ⟨_, rfl, hq _ _ _ hw (.std rfl)⟩)
  · obtain ⟨v, rfl, h⟩ := ha.one
    obtain ⟨p, vs, rfl, h1, h2⟩ := h
    exact call_tuple_of pins s σ H _ us Q I r ⟨p, vs, rfl, .inl ⟨.of h1, fun l hn => hq _ _ _ hw (.tup hn h2)⟩⟩
  · obtain ⟨v, rfl, h⟩ := ha.one
    obtain ⟨p, vs, rfl, h1, h2⟩ := id h
    exact call_tuple_of pins s σ H _ us Q I r ⟨p, vs, rfl, .inr ⟨.of (g _ _ h1), hq _ _ _ hw (.std h)⟩⟩
  · obtain ⟨v, rfl, h⟩ := ha.one
    obtain ⟨p, vs, rfl, h1, h2⟩ := h
    exact call_list_of pins s σ H _ us Q I r ⟨p, vs, rfl, .inl (.of h1), fun l hn => hq _ _ _ hw (.lst hn h2)⟩
  · obtain ⟨v, rfl, h⟩ := ha.one
    obtain ⟨p, vs, rfl, h1, h2⟩ := h
    exact call_list_of pins s σ H _ us Q I r ⟨p, vs, rfl, .inr (.of (g _ _ h1)), fun l hn => hq _ _ _ hw (.lst hn h2)⟩
  · exact hw.elim
/-- an item of the walked things, by its place, from what min and max give -/
theorem pick_item {pins : List (Addr × Obj)} {σ : L2.St} {H G : Hp} {s : Shared} {xs : List D} {vs : List V} {its : List Value} {i : Nat} {v : Value} {h' : Heap} {m : D} {bs : List Addr} (I : Inv X pins σ H s) (g : Same G H)
    (hr : Reps C X.K G xs vs) (rv : Vals vs its) (al : ∀ a ∈ xs, ∀ b ∈ xs, ltOk a b = true) (hm : m ∈ xs) (hi : its[i]? = some v) (rd : Reads h' v m.py bs) (hk : ∀ b o, s.heap.get? b = some o → h'.get? b = some o) :
    ∃ w, RelV w v ∧ Rep C X.K G m w := by
  obtain ⟨w, hw, rw'⟩ : ∃ w, vs[i]? = some w ∧ RelV w v := by
    have hlt : i < its.length := (List.getElem?_eq_some_iff.mp hi).1
    cases e : vs[i]? with
    | none => rw [rv.none_of e] at hi; cases hi
    | some w =>
      obtain ⟨u, h1, h2⟩ := rv.get e
      rw [hi] at h1; cases h1
      exact ⟨w, rfl, h2⟩
  obtain ⟨x, hx, rx⟩ := hr.get' hw
  have hmem := List.mem_of_getElem? hx
  have lk := ltOk_of (al x hmem m hm)
  obtain ⟨as, r1⟩ := Dp.reads I _ _ _ (Rep.dp x w lk.2.1 (Rep.mono g x w rx)) rw'
  have r2 := PyProof.Rows.Reads.keeps hk r1
  have e := PySem.W.alike_unique _ _ _ _ _ (D.like_alike x m lk.1) r2 rd
  have e2 : x = m := by
    have := D.like_eqv x m lk.1
    rw [e, PySem.W.eqv_refl_alike _ (by rw [← e]; exact D.like_alike x x (ltOk_of (al x hmem x hmem)).1)] at this
    exact of_decide_eq_true this.symm
  subst e2
  exact ⟨w, rw', rx⟩
theorem items_reads {pins : List (Addr × Obj)} {σ : L2.St} {H G : Hp} {s : Shared} {xs : List D} {vs : List V} {its : List Value} (I : Inv X pins σ H s) (g : Same G H) (hr : Reps C X.K G xs vs) (rv : Vals vs its) (al : ∀ a ∈ xs, ∀ b ∈ xs, ltOk a b = true) :
    ∃ as, ReadsAll s.heap its (D.pys xs) as := Dp.readsAll I _ _ _ (Reps.dp xs vs (pybs_of (allLike al).1) (Reps.mono g _ _ hr)) rv
theorem call_minmax (hc : X.calm = true) (hu : Stk X) {isMax : Bool} {pins : List (Addr × Obj)} {s : Shared} {σ : L2.St} {H G : Hp} {x : D} {xs : List D} {w : V} {us : List Value} {Q : VK} (I : Inv X pins σ H s) (g : Same G H) (r : Vals [w] us)
    (h : Top C X.K H G (.lst (x :: xs)) w ∨ Top C X.K H G (.tup (x :: xs)) w) (al : ∀ a ∈ x :: xs, ∀ b ∈ x :: xs, ltOk a b = true) (hq : ∀ v, Rep C X.K G (if isMax then dmax x xs else dmin x xs) v → Q v H) :
    wpAny (model X.prog X.w) X.A (call (.builtin (if isMax then "max" else "min")) us) (EP X pins σ Q) X.xe s := by
  have hh := I.ok.hd hc
  have dp : PyData.depthAll (D.pys (x :: xs)) ≤ 60 := by rw [D.pys_dep]; exact deps_le (allLike al).2
  rcases h with ⟨p, vs, rfl, h1, h2⟩ | ⟨p, vs, rfl, h1, h2⟩
  · obtain ⟨its, rv, pl, _⟩ := I.list (SqL.of h1)
    obtain ⟨as, rd⟩ := items_reads I g h2 rv al
    rw [Vals.ref1 r]
    cases isMax
    · refine PySem.W.min_list_data hh pl.isList (vs := its.toArray) (x := x.py) (xs := D.pys xs) (as := as) (by rw [show its.toArray.toList = its by simp]; exact rd) (alikeAll_of al) (by show X.A.units + 1 + PyData.depthAll (D.pys (x :: xs)) < cLine; omega) fun i v h' tk bs hi rm hk => ?_
      obtain ⟨e1, e2⟩ := minD_py xs x al
      rw [e1] at rm
      obtain ⟨w, r1, r2⟩ := pick_item I g h2 rv al e2 (by simpa using hi) rm hk
      exact ⟨w, H, I.kept (t' := tk) hk, r1, hq w r2⟩
    · refine PySem.W.max_list_data hh pl.isList (vs := its.toArray) (x := x.py) (xs := D.pys xs) (as := as) (by rw [show its.toArray.toList = its by simp]; exact rd) (alikeAll_of al) (by show X.A.units + 1 + PyData.depthAll (D.pys (x :: xs)) < cLine; omega) fun i v h' tk bs hi rm hk => ?_
      obtain ⟨e1, e2⟩ := maxD_py xs x al
      rw [e1] at rm
      obtain ⟨w, r1, r2⟩ := pick_item I g h2 rv al e2 (by simpa using hi) rm hk
      exact ⟨w, H, I.kept (t' := tk) hk, r1, hq w r2⟩
  · obtain ⟨its, rv, pl, _⟩ := I.tuple (SqT.of (g _ _ h1))
    obtain ⟨as, rd⟩ := items_reads I g h2 rv al
    rw [Vals.ref1 r]
    cases isMax
    · refine PySem.W.min_tuple_data hh (show s.heap.IsTuple p its.toArray from pl) (vs := its.toArray) (x := x.py) (xs := D.pys xs) (as := as) (by rw [show its.toArray.toList = its by simp]; exact rd) (alikeAll_of al) (by show X.A.units + 1 + PyData.depthAll (D.pys (x :: xs)) < cLine; omega) fun i v h' tk bs hi rm hk => ?_
      obtain ⟨e1, e2⟩ := minD_py xs x al
      rw [e1] at rm
      obtain ⟨w, r1, r2⟩ := pick_item I g h2 rv al e2 (by simpa using hi) rm hk
      exact ⟨w, H, I.kept (t' := tk) hk, r1, hq w r2⟩
    · refine PySem.W.max_tuple_data hh (show s.heap.IsTuple p its.toArray from pl) (vs := its.toArray) (x := x.py) (xs := D.pys xs) (as := as) (by rw [show its.toArray.toList = its by simp]; exact rd) (alikeAll_of al) (by show X.A.units + 1 + PyData.depthAll (D.pys (x :: xs)) < cLine; omega) fun i v h' tk bs hi rm hk => ?_
      obtain ⟨e1, e2⟩ := maxD_py xs x al
      rw [e1] at rm
      obtain ⟨w, r1, r2⟩ := pick_item I g h2 rv al e2 (by simpa using hi) rm hk
      exact ⟨w, H, I.kept (t' := tk) hk, r1, hq w r2⟩
theorem zip_each {K : PySem.W.Frag} {G : Hp} : ∀ {xs : List D} {vs : List V} {its : List Value}, Reps C K G xs vs → Vals vs its → PySem.W.EachIs (fun (u : Value) (b : V × D) => RelV b.1 u ∧ Rep C K G b.2 b.1) its (vs.zip xs)
  | [], _, _, h, r => by cases h; cases r; exact .nil
  | x :: xs, _, _, ⟨v, q, e, h1, h2⟩, r => by
    subst e
    cases r with
    | cons r1 r2 => exact .cons ⟨r1, h1⟩ (zip_each h2 r2)
theorem each_out {K : PySem.W.Frag} {G : Hp} : ∀ {out : List Value} {bs : List (V × D)}, PySem.W.EachIs (fun (u : Value) (b : V × D) => RelV b.1 u ∧ Rep C K G b.2 b.1) out bs → Vals (bs.map (·.1)) out ∧ Reps C K G (bs.map (·.2)) (bs.map (·.1))
  | _, _, .nil => ⟨.nil, rfl⟩
  | _, _, .cons h t => ⟨.cons h.1 (each_out t).1, _, _, rfl, h.2, (each_out t).2⟩
theorem each_mono {α β : Type} {R R' : α → β → Prop} : ∀ {as : List α} {bs : List β}, (∀ a b, b ∈ bs → R a b → R' a b) → PySem.W.EachIs R as bs → PySem.W.EachIs R' as bs
  | _, _, _, .nil => .nil
  | _, _, f, .cons h t => .cons (f _ _ (by simp) h) (each_mono (fun a b hb => f a b (by simp [hb])) t)
theorem zip_snd : ∀ {xs : List D} {vs : List V}, xs.length = vs.length → (vs.zip xs).map (·.2) = xs
  | [], [], _ => rfl
  | x :: xs, v :: vs, h => by rw [List.zip_cons_cons, List.map_cons, zip_snd (by simpa using h)]
  | [], _ :: _, h => by simp at h
  | _ :: _, [], h => by simp at h
theorem call_sorted (hu : Stk X) {pins : List (Addr × Obj)} {s : Shared} {σ : L2.St} {H G : Hp} {xs : List D} {w : V} {us : List Value} {Q : VK} (I : Inv X pins σ H s) (g : Same G H) (r : Vals [w] us)
    (h : Top C X.K H G (.lst xs) w) (al : ∀ a ∈ xs, ∀ b ∈ xs, ltOk a b = true) (ne : ∀ a ∈ xs, a ≠ .tup []) (hq : ∀ p vs, H p = none → Reps C X.K G (dsort xs) vs → Q (.ref p) (upd H p (.lst vs))) :
    wpAny (model X.prog X.w) X.A (call (.builtin "sorted") us) (EP X pins σ Q) X.xe s := by
  obtain ⟨p, vs, rfl, h1, h2⟩ := h
  obtain ⟨its, rv, pl, hz⟩ := I.list (SqL.of h1)
  rw [Vals.ref1 r]
  have hlen := h2.length
  have mem : ∀ b ∈ vs.zip xs, b.2 ∈ xs := fun b hb => (List.of_mem_zip (a := b.1) (b := b.2) hb).2
  have zl : (vs.zip xs).length = vs.length := by rw [List.length_zip, hlen]; omega
  refine PySem.W.sorted_data (vs := its) (bs := vs.zip xs) (enc := fun b => b.2.py) (R := fun (u : Value) (b : V × D) => RelV b.1 u ∧ Rep C X.K G b.2 b.1) pl.isList (zip_each h2 rv)
    (each_mono (fun u b hb hr => Dp.reads I _ _ _ (Rep.dp b.2 b.1 ((allLike al).1 _ (mem b hb)) (Rep.mono g _ _ hr.2)) hr.1) (zip_each h2 rv)) ?_ ?_ (by rw [zl]; exact hz) (fun b hb => ?_) fun out ho eo => ?_
  · intro d hd d' hd'
    obtain ⟨b, hb, rfl⟩ := List.mem_map.mp hd
    obtain ⟨b', hb', rfl⟩ := List.mem_map.mp hd'
    exact D.like_alike _ _ (ltOk_of (al _ (mem b hb) _ (mem b' hb'))).1
  · -- all are tuples, or none is
    by_cases t : ∃ a ∈ xs, ∃ ys, a = .tup ys
    · obtain ⟨a, ha, ys, rfl⟩ := t
      refine .inl fun d hd => ?_
      obtain ⟨b, hb, rfl⟩ := List.mem_map.mp hd
      have lk := (ltOk_of (al _ ha _ (mem b hb))).1
      have hne := ne _ (mem b hb)
      cases e : b.2 with
      | tup zs =>
        rw [e] at hne
        cases zs with
        | nil => exact absurd rfl hne
        | cons z zs => exact ⟨z.py, D.pys zs, rfl⟩
      | _ => rw [e] at lk; cases lk
    · refine .inr fun d hd => ?_
      obtain ⟨b, hb, rfl⟩ := List.mem_map.mp hd
      have lk := (ltOk_of (al _ (mem b hb) _ (mem b hb))).1
      refine ⟨like_ne lk, fun zs e => t ⟨b.2, mem b hb, ?_⟩⟩
      have e' : (b.2).py = .tuple zs := e
      cases e2 : b.2 with
      | tup ys => exact ⟨ys, rfl⟩
      | _ => rw [e2] at e'; cases e'
  · show X.A.units + 2 + (b.2).py.depth < cLine
    rw [D.py_dep]
    have := (allLike al).2 _ (mem b hb)
    omega
  · have e2 : ((vs.zip xs).mergeSort (PySem.W.dataLe false fun b => b.2.py)).map (·.2) = dsort xs := by
      unfold dsort
      rw [List.map_mergeSort (s := fun a b => !D.lt b a) (fun a ha b hb => ?_), zip_snd hlen]
      rw [PySem.W.dataLe_eq]
      show (!PySem.W.dataLt (b.2).py (a.2).py) = !D.lt b.2 a.2
      rw [D.like_lt _ _ (ltOk_of (al _ (mem b hb) _ (mem a ha))).1]
    obtain ⟨k1, k2⟩ := each_out eo
    rw [e2] at k2
    obtain ⟨ep, he'⟩ := PyProof.Rows.sortedAll_at s.heap its out.toArray
    have hl2 : (((vs.zip xs).mergeSort (PySem.W.dataLe false fun b => b.2.py)).map (·.1)).length ≤ sizeLine := by
      rw [List.length_map, List.length_mergeSort, zl]; exact hz
    exact ⟨.ref _, upd H (s.heap.objs.size + 1) (.lst _), I.laid (t' := s.toks) (fun _ _ => PyProof.Rows.sortedAll_old) (Nat.le_succ _) ⟨hl2, out, ep, k1, he'⟩, rfl, hq _ _ (I.hok.fresh (Nat.le_succ _)) k2⟩
theorem callB (hc : X.calm = true) (hu : Stk X) {n : String} : CallR X (.builtin n) (rWC C X.K (wCall n)) := by
  intro pins s σ H xs us Q I r h
  obtain ⟨G, as, g, ha, P, hw, hq⟩ := h
  unfold wCall at hw
  split at hw
  · rename_i x
    obtain ⟨v, rfl, h⟩ := ha.one
    obtain ⟨hz, n, hn, hp⟩ := hw
    refine call_len pins s σ H _ us Q I r ?_
    unfold dlen at hn
    split at hn
    · rename_i ys
      obtain ⟨p, vs, rfl, h1, h2⟩ := h
      cases hn
      exact ⟨_, _, rfl, .inl ⟨vs, .of h1, h2.length⟩, hq _ _ _ hp (.std rfl)⟩
    · rename_i ys
      obtain ⟨p, vs, rfl, h1, h2⟩ := h
      cases hn
      exact ⟨_, _, rfl, .inr ⟨vs, .of (g _ _ h1), h2.length⟩, hq _ _ _ hp (.std rfl)⟩
    · rename_i ns
      obtain ⟨p, rfl, h1⟩ := h
      cases hn
      exact ⟨_, _, rfl, .inl ⟨_, g.seq h1, by rw [List.length_map]⟩, hq _ _ _ hp (.std rfl)⟩
    · cases h
      cases hn
      exact ⟨_, _, rfl, ⟨hz, rfl⟩, hq _ _ _ hp (.std rfl)⟩
    · cases hn
  · obtain ⟨v, rfl, h⟩ := ha.one
    cases h
    exact call_abs pins s σ H _ us Q I r ⟨_, rfl, hq _ _ _ hw (.std rfl)⟩
  · obtain ⟨v, w, rfl, h, h2⟩ := ha.two
    cases h; cases h2
    exact call_max2 hc pins s σ H _ us Q I r ⟨_, _, rfl, hq _ _ _ hw (.std rfl)⟩
  · obtain ⟨v, w, rfl, h, h2⟩ := ha.two
    cases h; cases h2
    exact call_min2 hc pins s σ H _ us Q I r ⟨_, _, rfl, hq _ _ _ hw (.std rfl)⟩
  · obtain ⟨v, rfl, h⟩ := ha.one
    obtain ⟨p, vs, rfl, h1, h2⟩ := h
    obtain ⟨ns, e, q⟩ := dsum_eq hw.1
    subst e
    rw [q] at hw
    have e2 := Reps.ints h2
    subst e2
    exact cr_sum hc pins s σ H _ us Q I r ⟨p, ns, rfl, .of h1, hq _ _ _ hw.2 (.std rfl)⟩
  · obtain ⟨v, rfl, h⟩ := ha.one
    obtain ⟨p, vs, rfl, h1, h2⟩ := h
    obtain ⟨bs, e, q1, q2⟩ := bls_of hw.1
    rw [q1] at hw
    subst e
    have e2 := Reps.bls h2
    subst e2
    exact cr_any hc pins s σ H _ us Q I r ⟨p, bs, rfl, .of h1, hq _ _ _ hw.2 (.std rfl)⟩
  · obtain ⟨v, rfl, h⟩ := ha.one
    obtain ⟨p, vs, rfl, h1, h2⟩ := h
    obtain ⟨bs, e, q1, q2⟩ := bls_of hw.1
    rw [q2] at hw
    subst e
    have e2 := Reps.bls h2
    subst e2
    exact cr_all hc pins s σ H _ us Q I r ⟨p, bs, rfl, .of h1, hq _ _ _ hw.2 (.std rfl)⟩
  · obtain ⟨v, rfl, h⟩ := ha.one
    exact call_minmax hc hu (isMax := true) I g r (.inl h) hw.1 fun v hv => hq _ _ _ hw.2 (.std hv)
  · obtain ⟨v, rfl, h⟩ := ha.one
    exact call_minmax hc hu (isMax := false) I g r (.inl h) hw.1 fun v hv => hq _ _ _ hw.2 (.std hv)
  · obtain ⟨v, rfl, h⟩ := ha.one
    exact call_minmax hc hu (isMax := false) I g r (.inr h) hw.1 fun v hv => hq _ _ _ hw.2 (.std hv)
  · obtain ⟨v, rfl, h⟩ := ha.one
    exact call_minmax hc hu (isMax := true) I g r (.inr h) hw.1 fun v hv => hq _ _ _ hw.2 (.std hv)
  · obtain ⟨v, rfl, h⟩ := ha.one
    exact call_sorted hu I g r h hw.1 hw.2.1 fun p vs hp hr => hq _ _ _ hw.2.2 (.lst hp hr)
  · exact hw.elim
end
end VE
/-! VE8: the relation of slots and pending values -/
namespace VE
open PySem PySem.Spec PyProof.Rows L2
abbrev Sg := L2.St
def pr : Ev → Sg → Prs
  | some o :: env, some v :: σ => (v, o) :: pr env σ
  | _ :: env, _ :: σ => pr env σ
  | _, _ => []
structure RelX (C : CT) (K : PySem.W.Frag) (H : Hp) (env : Ev) (σ : Sg) (fr : Prs) : Prop where
  len : env.length = σ.length
  has : ∀ i o, slot env i = some o → ∃ v, σ[i]? = some (some v)
  rel : Rel C K H (pr env σ ++ fr)
theorem slot_some {env : Ev} {i : Nat} {o : O} : slot env i = some o ↔ env[i]? = some (some o) := by
  unfold slot
  constructor
  · intro h
    split at h
    · rename_i e; cases h; exact e
    · cases h
  · intro h; rw [h]
theorem slot_set_self {env : Ev} {i : Nat} {o : Option O} (h : i < env.length) : slot (env.set i o) i = o := by
  unfold slot
  rw [List.getElem?_set_self h]
  cases o <;> rfl
theorem slot_set_ne {env : Ev} {i j : Nat} {o : Option O} (h : i ≠ j) : slot (env.set i o) j = slot env j := by
  unfold slot
  rw [List.getElem?_set_ne h]
theorem slot_lt {env : Ev} {i : Nat} {o : O} (h : slot env i = some o) : i < env.length := (List.getElem?_eq_some_iff.mp (slot_some.mp h)).1
section
variable {C : CT} {K : PySem.W.Frag} {H H' : Hp} {env : Ev} {σ : Sg} {fr fr' : Prs} {v : V} {o : O} {i : Nat} {x : D}
theorem pr_take : ∀ {env : Ev} {σ : Sg} {i : Nat} {o : O} {v : V}, slot env i = some o → σ[i]? = some (some v) → (pr env σ).Perm ((v, o) :: pr (env.set i none) σ)
  | [], _, _, _, _, h, _ => by cases h
  | _ :: _, [], _, _, _, _, e => by simp at e
  | e :: env, s :: σ, 0, o, v, h, q => by
    have h' : e = some o := by have := slot_some.mp h; simpa using this
    have q' : s = some v := by simpa using q
    subst h' q'
    exact .refl _
  | e :: env, s :: σ, i + 1, o, v, h, q => by
    have h' : slot env i = some o := slot_some.mpr (by simpa using slot_some.mp h)
    have q' : σ[i]? = some (some v) := by simpa using q
    have ih := pr_take h' q'
    cases e with
    | none => exact ih
    | some a =>
      cases s with
      | none => exact ih
      | some b => exact (ih.cons _).trans (.swap _ _ _)
theorem pr_put : ∀ {env : Ev} {σ : Sg} {i : Nat} {o : O} {v : V}, i < env.length → i < σ.length → (pr (env.set i (some o)) (σ.set i (some v))).Perm ((v, o) :: pr (env.set i none) σ)
  | [], _, _, _, _, h, _ => by simp at h
  | _ :: _, [], _, _, _, _, h => by simp at h
  | e :: env, s :: σ, 0, o, v, h, q => .refl _
  | e :: env, s :: σ, i + 1, o, v, h, q => by
    have ih := pr_put (o := o) (v := v) (i := i) (Nat.lt_of_succ_lt_succ h) (Nat.lt_of_succ_lt_succ q)
    cases e with
    | none => exact ih
    | some a =>
      cases s with
      | none => exact ih
      | some b => exact (ih.cons _).trans (.swap _ _ _)
theorem pr_nil : ∀ {env : Ev} {σ : Sg} {i : Nat}, (slot env i = none ∨ ∃ v, σ[i]? = some (some v)) → (pr (env.set i none) σ).Sublist (pr env σ)
  | [], _, _, _ => .refl _
  | _ :: _, [], 0, _ => by simp [pr]
  | _ :: _, [], _ + 1, _ => by simp [pr]
  | e :: env, s :: σ, 0, _ => by
    cases e with
    | none => exact .refl _
    | some a =>
      cases s with
      | none => exact .refl _
      | some b => exact (List.Sublist.refl _).cons _
  | e :: env, s :: σ, i + 1, h => by
    have ih := pr_nil (env := env) (σ := σ) (i := i) (by
      rcases h with h | ⟨v, h⟩
      · exact .inl (by unfold slot at h ⊢; simpa using h)
      · exact .inr ⟨v, by simpa using h⟩)
    cases e with
    | none => exact ih
    | some a =>
      cases s with
      | none => exact ih
      | some b => exact ih.cons_cons _
theorem sub_perm {α : Type} {L M : List α} (s : M.Sublist L) : ∃ l, L.Perm (l ++ M) := by
  induction s with
  | slnil => exact ⟨[], .refl _⟩
  | cons a _ ih => obtain ⟨l, p⟩ := ih; exact ⟨a :: l, p.cons a⟩
  | cons_cons a _ ih => obtain ⟨l, p⟩ := ih; exact ⟨l, (p.cons a).trans List.perm_middle.symm⟩
theorem Rel.sub {L M : Prs} (s : M.Sublist L) (h : Rel C K H L) : Rel C K H M := by
  obtain ⟨l, p⟩ := sub_perm s
  exact Rel.dropL (h.perm p)
theorem RelX.push (R : RelX C K H env σ fr) (h : Rel C K H' ((v, o) :: (pr env σ ++ fr))) : RelX C K H' env σ ((v, o) :: fr) := ⟨R.len, R.has, h.perm List.perm_middle.symm⟩
theorem RelX.top (R : RelX C K H env σ ((v, o) :: fr)) : Rel C K H ((v, o) :: (pr env σ ++ fr)) := R.rel.perm List.perm_middle
theorem RelX.pop (R : RelX C K H env σ ((v, o) :: fr)) : RelX C K H env σ fr := ⟨R.len, R.has, R.top.drop⟩
theorem RelX.perm (R : RelX C K H env σ fr) (p : fr.Perm fr') : RelX C K H env σ fr' := ⟨R.len, R.has, R.rel.perm (p.append_left _)⟩
theorem RelX.sub (R : RelX C K H env σ fr) (p : fr'.Sublist fr) : RelX C K H env σ fr' := ⟨R.len, R.has, Rel.sub ((List.Sublist.refl _).append p) R.rel⟩
theorem RelX.freeze (R : RelX C K H env σ ((v, o) :: fr)) : RelX C K H env σ ((v, .d o.toD) :: fr) := ⟨R.len, R.has, (R.top.freeze).perm List.perm_middle.symm⟩
theorem RelX.swap {a b : V × O} (R : RelX C K H env σ (a :: b :: fr)) : RelX C K H env σ (b :: a :: fr) := R.perm (.swap _ _ _)
theorem RelX.std (R : RelX C K H env σ fr) (h : ∀ G, Rep C K G x v) : RelX C K H env σ ((v, .d x) :: fr) := by
  obtain ⟨G, S, g, k, nd, no⟩ := R.rel
  exact R.push ⟨G, S, g, ⟨[], S, rfl, ⟨rfl, h G⟩, k⟩, nd, no⟩
/-- a slot's object goes to the pending ones -/
theorem RelX.take (R : RelX C K H env σ fr) (h : slot env i = some o) (q : σ[i]? = some (some v)) : RelX C K H (env.set i none) σ ((v, o) :: fr) := by
  refine ⟨by rw [List.length_set]; exact R.len, fun j o' e => ?_, (R.rel.perm ((pr_take h q).append_right fr)).perm List.perm_middle.symm⟩
  by_cases z : i = j
  · subst z; rw [slot_set_self (slot_lt h)] at e; cases e
  · rw [slot_set_ne z] at e; exact R.has j o' e
/-- .. and back: a pending value goes to slot i -/
theorem RelX.put (R : RelX C K H env σ ((v, o) :: fr)) (h : i < env.length) : RelX C K H (env.set i (some o)) (σ.set i (some v)) fr := by
  have h2 : i < σ.length := by rw [← R.len]; exact h
  refine ⟨by rw [List.length_set, List.length_set]; exact R.len, fun j o' e => ?_, ?_⟩
  · by_cases z : i = j
    · subst z; exact ⟨v, List.getElem?_set_self h2⟩
    · rw [slot_set_ne z] at e; rw [List.getElem?_set_ne z]; exact R.has j o' e
  · have R2 : Rel C K H ((v, o) :: (pr (env.set i none) σ ++ fr)) := by
      refine Rel.sub ?_ R.top
      refine List.Sublist.cons_cons _ (List.Sublist.append (pr_nil ?_) (.refl _))
      cases e : slot env i with
      | none => exact .inl rfl
      | some o' => exact .inr (R.has i o' e)
    exact R2.perm ((pr_put h h2).append_right fr).symm
theorem set_same {σ : Sg} {i : Nat} {v : V} (q : σ[i]? = some (some v)) : σ.set i (some v) = σ := by
  apply List.ext_getElem?
  intro j
  by_cases z : i = j
  · subst z; rw [List.getElem?_set_self (List.getElem?_eq_some_iff.mp q).1, q]
  · rw [List.getElem?_set_ne z]
/-- a slot's object is another one at the same place -/
theorem RelX.back (R : RelX C K H env σ ((v, o) :: fr)) (q : σ[i]? = some (some v)) : RelX C K H (env.set i (some o)) σ fr := by
  have h : i < env.length := by rw [R.len]; exact (List.getElem?_eq_some_iff.mp q).1
  have := R.put h
  rwa [set_same q] at this
theorem RelX.back' {a : Option O} (R : RelX C K H (env.set i a) σ ((v, o) :: fr)) (q : σ[i]? = some (some v)) : RelX C K H (env.set i (some o)) σ fr := by
  have := R.back q
  rwa [List.set_set] at this
/-- a slot is forgotten -/
theorem RelX.clear (R : RelX C K H env σ fr) (i : Nat) : RelX C K H (env.set i none) σ fr := by
  cases e : slot env i with
  | none =>
    refine ⟨by rw [List.length_set]; exact R.len, fun j o' q => ?_, Rel.sub ((pr_nil (.inl e)).append (.refl _)) R.rel⟩
    by_cases z : i = j
    · subst z
      unfold slot at q
      by_cases hl : i < env.length
      · rw [List.getElem?_set_self hl] at q; cases q
      · rw [List.getElem?_eq_none (by rw [List.length_set]; omega)] at q; cases q
    · rw [slot_set_ne z] at q; exact R.has j o' q
  | some o =>
    obtain ⟨v, q⟩ := R.has i o e
    exact (R.take e q).pop
/-- what stands in slot i, frozen: a copy among the pending -/
theorem RelX.val (R : RelX C K H env σ fr) (h : slot env i = some o) (q : σ[i]? = some (some v)) : RelX C K H (env.set i (some (.d o.toD))) σ ((v, .d o.toD) :: fr) := by
  have R1 := (R.take h q).freeze
  have R2 : RelX C K H (env.set i none) σ ((v, .d o.toD) :: (v, .d o.toD) :: fr) := ⟨R1.len, R1.has, (R1.top.dup).perm (by
    refine (List.Perm.trans ?_ List.perm_middle.symm)
    exact (List.perm_middle.symm).cons _)⟩
  exact R2.back' q
end

/-! ### results -/
def RelR (C : CT) (K : PySem.W.Frag) (H : Hp) (env : Ev) (σ : Sg) (fr : Prs) (v : V) : R → Prop
  | .obj o => RelX C K H env σ ((v, o) :: fr)
  | .path i => RelX C K H env σ fr ∧ σ[i]? = some (some v) ∧ ∃ o, slot env i = some o
def pend : List V → List R → Prs
  | v :: vs, .obj o :: rs => (v, o) :: pend vs rs
  | _ :: vs, .path _ :: rs => pend vs rs
  | _, _ => []
def Paths (σ : Sg) : List V → List R → Prop
  | [], [] => True
  | v :: vs, .obj _ :: rs => Paths σ vs rs
  | v :: vs, .path i :: rs => σ[i]? = some (some v) ∧ Paths σ vs rs
  | _, _ => False
structure RelRs (C : CT) (K : PySem.W.Frag) (H : Hp) (env : Ev) (σ : Sg) (fr : Prs) (vs : List V) (rs : List R) : Prop where
  rel : RelX C K H env σ (pend vs rs ++ fr)
  paths : Paths σ vs rs
section
variable {C : CT} {K : PySem.W.Frag} {H H' : Hp} {env env' : Ev} {σ : Sg} {fr fr' : Prs} {v : V} {o : O} {i : Nat} {x : D} {r : R}
theorem RelR.nrm (h : RelR C K H env σ fr v r) : RelR C K H env σ fr v r.nrm := by
  cases r with
  | obj o => exact RelX.freeze h
  | path i => exact h
theorem RelR.base (h : RelR C K H env σ fr v r) : RelX C K H env σ fr := by
  cases r with
  | obj o => exact RelX.pop h
  | path i => exact h.1
/-- the pending ones behind an operand -/
def frm (v : V) (r : R) (fr : Prs) : Prs := match r with
  | .obj o => (v, o) :: fr
  | .path _ => fr
theorem RelR.frm (h : RelR C K H env σ fr v r) : RelX C K H env σ (frm v r fr) := by
  cases r with
  | obj o => exact h
  | path i => exact h.1
theorem RelR.path {i : Nat} (h : RelR C K H env σ fr v (.path i)) : σ[i]? = some (some v) := h.2.1
/-- one more operand -/
theorem RelRs.cons {vs : List V} {rs : List R} (h : RelR C K H env σ fr v r) (k : RelRs C K H' env' σ (frm v r fr) vs rs) : RelRs C K H' env' σ fr (v :: vs) (r :: rs) := by
  cases r with
  | obj o =>
    refine ⟨k.rel.perm ?_, k.paths⟩
    exact List.perm_middle
  | path i => exact ⟨k.rel, h.2.1, k.paths⟩
theorem RelR.val {k : D → Ev → Prop} (h : RelR C K H env σ fr v r) (q : r.val env k) : ∃ x env', k x env' ∧ RelX C K H env' σ ((v, .d x) :: fr) := by
  unfold R.val at q
  cases r with
  | obj o => exact ⟨_, _, q, RelX.freeze h⟩
  | path i =>
    obtain ⟨h1, h2, o, h3⟩ := h
    have e : getR env (.path i) = some o := h3
    rw [e] at q
    exact ⟨_, _, q, h1.val h3 h2⟩
theorem RelR.get {k : O → Ev → Prop} (h : RelR C K H env σ fr v r) (q : r.get env k) : ∃ o env', k o env' ∧ RelX C K H env' σ ((v, o) :: fr) := by
  cases r with
  | obj o => exact ⟨_, _, q, h⟩
  | path i =>
    obtain ⟨x, env', h1, h2⟩ := RelR.val (k := fun x e => k (.d x) e) (r := .path i) h q
    exact ⟨_, _, h1, h2⟩
/-- the operands' tops -/
theorem pend_top {G : Hp} {vs : List V} {rs : List R} {os : List O} {S : List Addr} (hp : Paths σ vs rs) (he : opsO env rs = some os) (g : Same G H) (hl : env.length = σ.length) (k : ownL C K H G (pr env σ ++ (pend vs rs ++ fr)) S) : Tops C K H G (os.map O.toD) vs := by
  have one : ∀ {L : Prs} {S : List Addr} {v : V} {o : O}, ownL C K H G L S → (v, o) ∈ L → Top C K H G o.toD v := by
    intro L
    induction L with
    | nil => intro S v o _ hm; cases hm
    | cons a L ih =>
      intro S v o k hm
      obtain ⟨w, u⟩ := a
      obtain ⟨S1, S2, _, k1, k2⟩ := k
      rcases List.mem_cons.mp hm with e | hm
      · cases e; exact own.top k1 g
      · exact ih k2 hm
  have mem : ∀ i o v, slot env i = some o → σ[i]? = some (some v) → (v, o) ∈ pr env σ := fun i o v h q => (pr_take h q).mem_iff.mpr (by simp)
  have all : ∀ (rs : List R) (vs : List V) (os : List O), Paths σ vs rs → opsO env rs = some os → (∀ p ∈ pend vs rs, p ∈ pr env σ ++ (pend vs rs ++ fr) → Top C K H G p.2.toD p.1) → Tops C K H G (os.map O.toD) vs := by
    intro rs
    induction rs with
    | nil =>
      intro vs os hp he _
      cases vs with
      | nil => simp [opsO] at he; subst he; rfl
      | cons _ _ => exact hp.elim
    | cons r rs ih =>
      intro vs os hp he ht
      cases vs with
      | nil => cases r <;> exact hp.elim
      | cons v vs =>
        unfold opsO at he
        cases r with
        | obj o =>
          cases e2 : opsO env rs with
          | none => rw [e2] at he; cases he
          | some os' =>
            rw [e2] at he
            have he' : some (o :: os') = some os := he
            cases he'
            refine ⟨v, vs, rfl, ht (v, o) (by simp [pend]) (by simp [pend]), ih vs os' hp e2 fun p hp' _ => ht p (by simp [pend, hp']) (by simp [pend, hp'])⟩
        | path i =>
          cases e1 : slot env i with
          | none =>
            have : getR env (.path i) = none := e1
            rw [this] at he; cases he
          | some o =>
            have e1' : getR env (.path i) = some o := e1
            rw [e1'] at he
            cases e2 : opsO env rs with
            | none => rw [e2] at he; cases he
            | some os' =>
              rw [e2] at he
              have he' : some (o :: os') = some os := he
              cases he'
              exact ⟨v, vs, rfl, one k (List.mem_append_left _ (mem i o v e1 hp.1)), ih vs os' hp.2 e2 ht⟩
  exact all rs vs os hp he fun p hp' _ => one k (List.mem_append_right _ (List.mem_append_left _ hp'))
/-- a primitive's answer; the operands are still there -/
theorem RelRs.wishK {vs : List V} {rs : List R} {os : List O} {w : List D → WO} {P : O → Prop} (h : RelRs C K H env σ fr vs rs) (he : opsO env rs = some os) (hw : w (os.map O.toD) P) :
    ∃ G, Same G H ∧ Tops C K H G (os.map O.toD) vs ∧ ∀ Q : VK, (∀ o v H', P o → RelX C K H' env σ ((v, o) :: (pend vs rs ++ fr)) → Q v H') → Wish C K G H (w (os.map O.toD)) Q := by
  obtain ⟨G, S, g, k, nd, no⟩ := h.rel.rel
  exact ⟨G, g, pend_top h.paths he g h.rel.len k, fun Q hq => ⟨P, hw, fun o v H' hp hr => hq o v H' hp (h.rel.push (rel_res g k nd no hr))⟩⟩
theorem RelRs.wish {vs : List V} {rs : List R} {os : List O} {w : List D → WO} {P : O → Prop} (h : RelRs C K H env σ fr vs rs) (he : opsO env rs = some os) (hw : w (os.map O.toD) P) :
    ∃ G, Same G H ∧ Tops C K H G (os.map O.toD) vs ∧ ∀ Q : VK, (∀ o v H', P o → RelX C K H' env σ ((v, o) :: fr) → Q v H') → Wish C K G H (w (os.map O.toD)) Q := by
  obtain ⟨G, g, t, hq⟩ := h.wishK he hw
  exact ⟨G, g, t, fun Q q => hq Q fun o v H' hp R => q o v H' hp (R.sub (List.Sublist.cons_cons _ (List.sublist_append_right _ _)))⟩
end
end VE
/-! VE9: the check, and the soundness of expressions -/
namespace VE
open PySem PySem.Spec PyProof.Rows L2
structure Tb where
  N : List Str
  fn : Nat → Option Str
  ar : Nat → Nat
  glob : List (Str × Int)
  free : List Str
def visB (sc : Scope) (x : Str) : Bool := match sc.names.lookup x with
  | some .local => true
  | some .cell => true
  | some .free => true
  | _ => false
def glB (sc : Scope) (x : Str) : Bool := decide (sc.names.lookup x = some .globalImplicit)
def noStar : Expr → Bool
  | .Starred _ _ => false
  | _ => true
def nmOk (x : Str) : Bool := !(x == ("__debug__" : Str)) && !(x == ("__classdict__" : Str))
def gnOk (B : Tb) (sc : Scope) (x : Str) : Bool := glB sc x && decide (x ∈ B.free) && decide (x ≠ "__name__") && !(x == ("__debug__" : Str))
def plainIx : Expr → Bool
  | .Slice _ _ _ _ => false
  | _ => true
/-- the target's names: stored in the frame (ow: the innermost comprehension's own scope) -/
def tgOk (B : Tb) (sc : Scope) (ow : Option Scope) (i : Nat) (x : Str) : Bool :=
  decide (B.N[i]? = some x) && (decide (sc.names.lookup x = some .local) || decide (sc.names.lookup x = some .cell)) && (match ow with
    | none => true
    | some s => decide (s.names.lookup x = some .cell) || decide (sc.names.lookup x = some .local))
mutual
def chkP (B : Tb) (sc : Scope) (ow : Option Scope) : Pat → Expr → Bool
  | .v i, .Name x _ => tgOk B sc ow i x
  | .t ps, .Tuple es _ _ => chkPs B sc ow ps es
  | _, _ => false
def chkPs (B : Tb) (sc : Scope) (ow : Option Scope) : Pats → List Expr → Bool
  | .nil, [] => true
  | .cons p ps, e :: es => noStar e && chkP B sc ow p e && chkPs B sc ow ps es
  | _, _ => false
end
def Pats.len : Pats → Nat
  | .nil => 0
  | .cons _ ps => ps.len + 1
mutual
/-- the slots that a target stores -/
def Pat.vs : Pat → List Nat
  | .v i => [i]
  | .t ps => Pats.vs ps
def Pats.vs : Pats → List Nat
  | .nil => []
  | .cons p ps => p.vs ++ ps.vs
end
def ownN (N : List Str) (ow : List Nat) : List (Str × Nat) := ow.filterMap fun i => (N[i]?).map fun x => (x, i)
def bltOk (x : Str) (v : Value) : Bool := decide (bootBuiltins x = some v)
def mname : Mu → Option Str
  | .append => some "append"
  | .extend => some "extend"
  | .pop => some "pop"
  | .popAt => some "pop"
  | _ => none
mutual
def chkE (B : Tb) : T → Scope → Option Scope → Expr → Bool
  | .var i, sc, _, .Name x _ => decide (B.N[i]? = some x) && visB sc x && nmOk x
  | .int i, _, _, .Constant (.int j) _ _ => decide (i = j)
  | .bl b, _, _, .Constant (.bool c) _ _ => b == c
  | .non, _, _, .Constant .none _ _ => true
  | .str s, _, _, .Constant (.str t) _ _ => decide (s = t)
  | .glob x i, sc, _, .Name y _ => decide (x = y) && glB sc x && decide ((x, i) ∈ B.glob) && !(x == ("__debug__" : Str))
  | .tup as, sc, ow, .Tuple es _ _ => chkEs B as sc ow es && decide (es.length ≤ 1000)
  | .lst as, sc, ow, .List es _ => chkEs B as sc ow es && decide (es.length ≤ 1000)
  | .prim (.bop o) (.cons a (.cons b .nil)), sc, ow, .BinOp l p r _ => decide (o = p) && chkE B a sc ow l && chkE B b sc ow r
  | .prim (.cmp o) (.cons a (.cons b .nil)), sc, ow, .Compare l [p] [r] _ => decide (o = p) && chkE B a sc ow l && chkE B b sc ow r && !behindInMarks p r
  | .prim .neg (.cons a .nil), sc, ow, .UnaryOp .USub e _ => chkE B a sc ow e
  | .prim .ix (.cons a (.cons b .nil)), sc, ow, .Subscript l r _ => chkE B a sc ow l && chkE B b sc ow r && plainIx r
  | .prim (.sl false false) (.cons a .nil), sc, ow, .Subscript l (.Slice none none none _) _ => chkE B a sc ow l
  | .prim (.sl true false) (.cons a (.cons b .nil)), sc, ow, .Subscript l (.Slice (some x) none none _) _ => chkE B a sc ow l && chkE B b sc ow x
  | .prim (.sl false true) (.cons a (.cons b .nil)), sc, ow, .Subscript l (.Slice none (some x) none _) _ => chkE B a sc ow l && chkE B b sc ow x
  | .prim (.sl true true) (.cons a (.cons b (.cons c .nil))), sc, ow, .Subscript l (.Slice (some x) (some y) none _) _ => chkE B a sc ow l && chkE B b sc ow x && chkE B c sc ow y
  | .prim .rev (.cons a .nil), sc, ow, .Subscript l (.Slice none none (some (.UnaryOp .USub (.Constant (.int i) _ _) _)) _) _ => decide (i = 1) && chkE B a sc ow l
  | .prim (.call n) (.cons a as), sc, ow, .Call (.Name x _) (e :: es) [] _ => decide (x = Str.ofString n) && gnOk B sc x && bltOk x (.builtin n) && (noStar e && chkE B a sc ow e && chkEs B as sc ow es)
  | .prim (.ty n) (.cons a as), sc, ow, .Call (.Name x _) (e :: es) [] _ => decide (x = Str.ofString n) && gnOk B sc x && bltOk x (.type n) && (noStar e && chkE B a sc ow e && chkEs B as sc ow es)
  | .chain o1 o2 a b c, sc, ow, .Compare l [p, q] [m, r] _ => decide (o1 = p) && decide (o2 = q) && chkE B a sc ow l && chkE B b sc ow m && chkE B c sc ow r && !lastMarks [p, q] [m, r]
  | .and as, sc, ow, .BoolOp .And es _ => !es.isEmpty && chkEs B as sc ow es
  | .or as, sc, ow, .BoolOp .Or es _ => !es.isEmpty && chkEs B as sc ow es
  | .not a, sc, ow, .UnaryOp .Not e _ => chkE B a sc ow e
  | .ite c a b, sc, ow, .IfExp t x y _ => chkE B c sc ow t && chkE B a sc ow x && chkE B b sc ow y
  | .call f (.cons a as), sc, ow, .Call (.Name x _) (e :: es) [] _ => decide (B.fn f = some x) && glB sc x && !(x == ("__debug__" : Str)) && decide (B.ar f = es.length + 1) && (noStar e && chkE B a sc ow e && chkEs B as sc ow es)
  | .mut u i as, sc, ow, .Call (.Attribute (.Name x _) nm apos) es [] pos => decide (mname u = some nm) && decide (B.N[i]? = some x) && visB sc x && nmOk x && decide (es.length ≤ 1) && chkEs B as sc ow es && (apos.endLine == pos.line)
  | .comp own p kd as ifs a, sc, ow, .ListComp elt [⟨tg, iter, cs, z⟩] scope _ =>
    decide (z = 0) && blkC B.N sc scope (ownN B.N own) && decide ((ownN B.N own).map (·.2) = own) && (p.vs.all fun i => own.contains i) && chkP B (relS scope sc) (some scope) p tg && chkI B kd as sc ow tg iter && chkC B ifs (relS scope sc) (some scope) cs && chkE B a (relS scope sc) (some scope) elt
  | _, _, _, _ => false
def chkEs (B : Tb) : Ts → Scope → Option Scope → List Expr → Bool
  | .nil, _, _, [] => true
  | .cons a as, sc, ow, e :: es => noStar e && chkE B a sc ow e && chkEs B as sc ow es
  | _, _, _, _ => false
/-- a clause's tests: none or one -/
def chkC (B : Tb) : Ts → Scope → Option Scope → List Expr → Bool
  | .nil, _, _, [] => true
  | .cons a .nil, sc, ow, [e] => chkE B a sc ow e
  | _, _, _, _ => false
/-- what is walked -/
def chkI (B : Tb) : ItK → Ts → Scope → Option Scope → Expr → Expr → Bool
  | .seq, .cons a .nil, sc, ow, _, e => chkE B a sc ow e && (match e with | .Set _ _ _ => false | _ => true)
  | .rng, .cons a as, sc, ow, _, .Call (.Name x _) (e :: es) [] _ => decide (x = "range") && gnOk B sc x && (noStar e && chkE B a sc ow e && chkEs B as sc ow es) && decide (es.length ≤ 1)
  | _, _, _, _, _, _ => false
end
end VE
/-! VE10: the soundness of expressions -/
namespace VE
open PySem PySem.Spec PyProof.Rows L2

/-- a def's promise for the layer -/
def spOf (C : CT) (K : PySem.W.Frag) (n : Nat) (Φ : DSp) : Sp := fun vs H Q _ => vs.length = n ∧ ∃ (L : Prs) (os : List O), os.length = n ∧ Rel C K H (vs.zip os ++ L) ∧
  callW Φ os (fun o os' => ∀ v H', Rel C K H' ((v, o) :: (vs.zip os' ++ L)) → Q v H') (fun _ _ => False)
/-- what a context must have -/
structure Sup (B : Tb) (C : CT) (Γ : Gam) (sc : Scope) (ow : Option Scope) (X : Cx) : Prop where
  calm : X.calm = true
  stk : Stk X
  hu1 : X.A.units + 1 < cLine
  hN : X.N = B.N
  nd : B.N.Nodup
  hsc : X.env.scope = sc
  tg : ∀ i x, tgOk B sc ow i x = true → X.fn x = true ∨ sc.names.lookup x = some .local
  blt : ∀ x ∈ B.free, X.mg x = none
  glob : ∀ x i, (x, i) ∈ B.glob → ∃ t, X.mg x = some (.int i t)
  fn : ∀ f x, B.fn f = some x → ∃ k a fd ps, FnOk X.prog X.w X.K X.mg X.base CX0 k a fd ps (spOf C X.K (B.ar f) (Γ.fn f)) ∧ Room k X.A ∧ X.mg x = some (.ref a) ∧ PySem.W.keepIn X.K (.ref a) = true ∧ Binds X.K fd ps []

/-! ### readings -/
def tE (C : CT) (K : PySem.W.Frag) (Γ : Gam) (a : T) : TE := fun σ H Q => ∃ env fr, RelX C K H env σ fr ∧ ev Γ a env E0x fun r e => ∀ v H', RelR C K H' e σ fr v r → Q v H'
def tA (C : CT) (K : PySem.W.Frag) (Γ : Gam) (as : Ts) : TA := fun σ H Q => ∃ env fr, RelX C K H env σ fr ∧ evs Γ as env E0x fun rs e => ∀ vs H', RelRs C K H' e σ fr vs rs → Q vs H'
def tT (C : CT) (K : PySem.W.Frag) (Γ : Gam) (a : T) : TT := fun σ H Q => ∃ env fr, RelX C K H env σ fr ∧ ev Γ a env E0x fun r e => tst r fun b => ∀ H', RelX C K H' e σ fr → Q b H'
section
variable {X : Cx} {e : Expr} {es : List Expr}
theorem PE.weak {t t' : TE} (h : PE X e t) (w : ∀ σ H Q, t' σ H Q → t σ H Q) : PE X e t' := ⟨fun pins s σ H Q I q => h.run pins s σ H Q I (w σ H Q q)⟩
theorem PT.weak {t t' : TT} (h : PT X e t) (w : ∀ σ H Q, t' σ H Q → t σ H Q) : PT X e t' := ⟨fun pins s σ H Q I q => h.run pins s σ H Q I (w σ H Q q)⟩
theorem PW.weak {t t' : TT} (h : PW X e t) (w : ∀ σ H Q, t' σ H Q → t σ H Q) : PW X e t' := ⟨fun wh pins s σ H Q I q => h.run wh pins s σ H Q I (w σ H Q q)⟩
theorem PA.weak {t t' : TA} (h : PA X es t) (w : ∀ σ H Q, t' σ H Q → t σ H Q) : PA X es t' := ⟨fun pos pins s σ H Q I q => h.run pos pins s σ H Q I (w σ H Q q)⟩
theorem star_cons {env : Env} (h : noStar e = true) : starEach (e :: es) env = (false, eval e env) :: starEach es env := by
  cases e <;> first | rfl | cases h
end
section
variable {C : CT} {K : PySem.W.Frag} {Γ : Gam} {H : Hp} {env : Ev} {σ : Sg} {fr : Prs}
theorem e0 : ∀ (x : Ex) (e : Ev), E0x x e → E0x x e := fun _ _ h => h
theorem tE_of {a : T} {Q : VK} {k : R → Ev → Prop} (R0 : RelX C K H env σ fr) (h : ev Γ a env E0x k) (w : ∀ r e v H', k r e → RelR C K H' e σ fr v r → Q v H') : tE C K Γ a σ H Q :=
  ⟨env, fr, R0, ev_mono a e0 (fun r e q v H' R1 => w r e v H' q R1) h⟩
theorem tA_of {as : Ts} {Q : List V → Hp → Prop} {k : List R → Ev → Prop} (R0 : RelX C K H env σ fr) (h : evs Γ as env E0x k) (w : ∀ rs e vs H', k rs e → RelRs C K H' e σ fr vs rs → Q vs H') : tA C K Γ as σ H Q :=
  ⟨env, fr, R0, evs_mono as e0 (fun r e q v H' R1 => w r e v H' q R1) h⟩
theorem relRs_nil (R0 : RelX C K H env σ fr) : RelRs C K H env σ fr [] [] := ⟨R0, trivial⟩
/-- one operand -/
theorem tE_one {a : T} {Q : VK} {k : List R → Ev → Prop} (R0 : RelX C K H env σ fr) (h : evs Γ (.cons a .nil) env E0x k) (w : ∀ rs e v H', k rs e → RelRs C K H' e σ fr [v] rs → Q v H') : tE C K Γ a σ H Q := by
  unfold evs at h
  refine tE_of R0 h fun r e v H' q R1 => ?_
  unfold evs at q
  exact w _ _ _ _ q (RelRs.cons R1.nrm (relRs_nil R1.nrm.frm))
/-- two -/
theorem tE_two {a b : T} {Q : V → V → Hp → Prop} {k : List R → Ev → Prop} (R0 : RelX C K H env σ fr) (h : evs Γ (.cons a (.cons b .nil)) env E0x k)
    (w : ∀ rs e v u H', k rs e → RelRs C K H' e σ fr [v, u] rs → Q v u H') : tE C K Γ a σ H fun v H1 => tE C K Γ b σ H1 fun u H2 => Q v u H2 := by
  unfold evs at h
  refine tE_of R0 h fun r e v H' q R1 => ?_
  exact tE_one R1.nrm.frm q fun rs e' u H2 q2 R2 => w _ _ _ _ _ q2 (RelRs.cons R1.nrm R2)
theorem tE_three {a b c : T} {Q : V → V → V → Hp → Prop} {k : List R → Ev → Prop} (R0 : RelX C K H env σ fr) (h : evs Γ (.cons a (.cons b (.cons c .nil))) env E0x k)
    (w : ∀ rs e v u z H', k rs e → RelRs C K H' e σ fr [v, u, z] rs → Q v u z H') : tE C K Γ a σ H fun v H1 => tE C K Γ b σ H1 fun u H2 => tE C K Γ c σ H2 fun z H3 => Q v u z H3 := by
  unfold evs at h
  refine tE_of R0 h fun r e v H' q R1 => ?_
  exact tE_two R1.nrm.frm q fun rs e' u z H2 q2 R2 => w _ _ _ _ _ _ q2 (RelRs.cons R1.nrm R2)
/-- a frozen pile of operands -/
theorem vals_snd : ∀ {rs : List R} {vs : List V} {env : Ev} {k : List D → Ev → Prop} {fr : Prs}, RelRs C K H env σ fr vs rs → vals rs env k → ∃ xs env', k xs env' ∧ xs.length = vs.length ∧ RelX C K H env' σ (vs.zip (xs.map O.d) ++ fr)
  | [], [], _, _, _, R0, h => ⟨[], _, h, rfl, R0.rel⟩
  | [], _ :: _, _, _, _, R0, _ => R0.paths.elim
  | r :: rs, [], _, _, _, R0, _ => by cases r <;> exact R0.paths.elim
  | .obj o :: rs, v :: vs, env, k, fr, R0, h => by
    have h' : vals rs env (fun xs e2 => k (o.toD :: xs) e2) := h
    have R1 : RelRs C K H env σ ((v, .d o.toD) :: fr) vs rs := ⟨(R0.rel.freeze (v := v) (o := o) (fr := pend vs rs ++ fr)).perm List.perm_middle.symm, R0.paths⟩
    obtain ⟨xs, env', h1, h2, h3⟩ := vals_snd R1 h'
    exact ⟨o.toD :: xs, env', h1, by simp [h2], h3.perm List.perm_middle⟩
  | .path i :: rs, v :: vs, env, k, fr, R0, h => by
    have h0 : R.val (.path i) env (fun x e => vals rs e fun xs e2 => k (x :: xs) e2) := h
    unfold R.val at h0
    cases e1 : slot env i with
    | none =>
      have : getR env (.path i) = none := e1
      rw [this] at h0; exact h0.elim
    | some o =>
      have : getR env (.path i) = some o := e1
      rw [this] at h0
      have R1 : RelRs C K H (env.set i (some (.d o.toD))) σ ((v, .d o.toD) :: fr) vs rs := ⟨(R0.rel.val e1 R0.paths.1).perm List.perm_middle.symm, R0.paths.2⟩
      obtain ⟨xs, env', h1, h2, h3⟩ := vals_snd R1 h0
      exact ⟨o.toD :: xs, env', h1, by simp [h2], h3.perm List.perm_middle⟩
theorem own_d {G : Hp} : ∀ {xs : List D} {vs : List V} {L : Prs} {S : List Addr}, xs.length = vs.length → ownL C K H G (vs.zip (xs.map O.d) ++ L) S → Reps C K G xs vs ∧ ownL C K H G L S
  | [], [], _, _, _, h => ⟨rfl, h⟩
  | [], _ :: _, _, _, e, _ => by simp at e
  | _ :: _, [], _, _, e, _ => by simp at e
  | x :: xs, v :: vs, L, S, e, ⟨S1, S2, e2, ⟨e3, h1⟩, h2⟩ => by
    subst e3
    have e2' : S = S2 := e2
    subst e2'
    obtain ⟨k1, k2⟩ := own_d (by simpa using e) h2
    exact ⟨⟨v, vs, rfl, h1, k1⟩, k2⟩
/-- a new object made of frozen operands -/
theorem RelX.made {xs : List D} {vs : List V} {o : O} {v : V} {H' : Hp} (R0 : RelX C K H env σ (vs.zip (xs.map O.d) ++ fr)) (e : xs.length = vs.length) (w : ∀ G, Reps C K G xs vs → Res C K G H o v H') : RelX C K H' env σ ((v, o) :: fr) := by
  have R1 : Rel C K H (vs.zip (xs.map O.d) ++ (pr env σ ++ fr)) := R0.rel.perm (by
    rw [← List.append_assoc, ← List.append_assoc]
    exact List.Perm.append_right fr List.perm_append_comm)
  obtain ⟨G, S, g, k, nd, no⟩ := R1
  obtain ⟨k1, k2⟩ := own_d e k
  exact ⟨R0.len, R0.has, (rel_res g k2 nd no (w G k1)).perm List.perm_middle.symm⟩
end

/-! ### targets -/
def gP (C : CT) (K : PySem.W.Frag) (p : Pat) : TG := fun v σ H Q => ∃ env fr x, RelX C K H env σ ((v, .d x) :: fr) ∧ asgP p x env fun e => ∀ σ', (∀ i, i ∉ p.vs → σ'[i]? = σ[i]?) → RelX C K H e σ' fr → Q σ' H
def gPs (C : CT) (K : PySem.W.Frag) (ps : Pats) : TGs := fun vs σ H Q => ∃ env fr xs, xs.length = vs.length ∧ RelX C K H env σ (vs.zip (xs.map O.d) ++ fr) ∧ asgPs ps xs env fun e => ∀ σ', (∀ i, i ∉ ps.vs → σ'[i]? = σ[i]?) → RelX C K H e σ' fr → Q σ' H
section
variable {B : Tb} {C : CT} {Γ : Gam} {sc : Scope} {ow : Option Scope} {X : Cx}
theorem PG.weak {e : Expr} {t t' : TG} (h : PG X e t) (w : ∀ v σ H Q, t' v σ H Q → t v σ H Q) : PG X e t' := ⟨fun pins s σ H v u Q I r q => h.run pins s σ H v u Q I r (w v σ H Q q)⟩
theorem PGs.weak {e : List Expr} {t t' : TGs} (h : PGs X e t) (w : ∀ v σ H Q, t' v σ H Q → t v σ H Q) : PGs X e t' := ⟨fun pins s σ H v u Q I r q => h.run pins s σ H v u Q I r (w v σ H Q q)⟩
theorem assign_cons {e : Expr} {es : List Expr} {env : Env} (h : noStar e = true) : (assignEach (e :: es) env).map (·.2) = assign e env :: (assignEach es env).map (·.2) := by
  cases e <;> first | rfl | cases h
theorem assign_len {env : Env} : ∀ {es : List Expr} {ps : Pats} {B : Tb} {sc : Scope} {ow : Option Scope}, chkPs B sc ow ps es = true → (assignEach es env).length = ps.len ∧ (assignEach es env).findIdx? (·.1) = none
  | [], .nil, _, _, _, _ => ⟨rfl, rfl⟩
  | [], .cons _ _, _, _, _, h => by simp [chkPs] at h
  | _ :: _, .nil, _, _, _, h => by simp [chkPs] at h
  | e :: es, .cons p ps, B, sc, ow, h => by
    simp only [chkPs, Bool.and_eq_true] at h
    obtain ⟨h1, h2⟩ := assign_len (env := env) h.2
    have : assignEach (e :: es) env = (false, assign e env) :: assignEach es env := by
      have := h.1.1
      cases e <;> first | rfl | cases this
    rw [this]
    refine ⟨by simp [Pats.len, h1], ?_⟩
    rw [List.findIdx?_cons]
    simp [h2]
mutual
theorem asgP_ex : ∀ (p : Pat) {x : D} {env : Ev} {k : Ev → Prop}, asgP p x env k → ∃ e, k e
  | .v i, x, env, k, h => by unfold asgP at h; exact ⟨_, h⟩
  | .t ps, x, env, k, h => by
    cases x <;> unfold asgP at h <;> first | exact asgPs_ex ps h | exact h.elim
theorem asgPs_ex : ∀ (ps : Pats) {xs : List D} {env : Ev} {k : Ev → Prop}, asgPs ps xs env k → ∃ e, k e
  | .nil, xs, env, k, h => by
    cases xs <;> unfold asgPs at h <;> first | exact ⟨_, h⟩ | exact h.elim
  | .cons p ps, xs, env, k, h => by
    cases xs <;> unfold asgPs at h
    · exact h.elim
    · obtain ⟨e, he⟩ := asgP_ex p h
      exact asgPs_ex ps he
end
theorem asgPs_len : ∀ {ps : Pats} {xs : List D} {env : Ev} {k : Ev → Prop}, asgPs ps xs env k → xs.length = ps.len
  | .nil, [], _, _, _ => rfl
  | .nil, _ :: _, _, _, h => by simp [asgPs] at h
  | .cons _ _, [], _, _, h => by simp [asgPs] at h
  | .cons p ps, x :: xs, env, k, h => by
    simp only [asgPs] at h
    obtain ⟨e, he⟩ := asgP_ex p h
    simp [Pats.len, asgPs_len he]
end
end VE
/-! VE11: the soundness of expressions, case by case -/
namespace VE
open PySem PySem.Spec PyProof.Rows L2
section
variable {C : CT} {K : PySem.W.Frag} {Γ : Gam} {H : Hp} {env : Ev} {σ : Sg} {fr : Prs} {v : V}
theorem zip_perm {xs : List D} {vs : List V} {p : Addr} (R : RelX C K H env σ ((V.ref p, .d (.tup xs)) :: fr)) : ∃ ws, H p = some (.tup ws) ∧ xs.length = ws.length ∧ RelX C K H env σ (ws.zip (xs.map O.d) ++ fr) := by
  obtain ⟨G, S, g, ⟨S1, S2, e2, ⟨e3, h1⟩, h2⟩, nd, no⟩ := R.top
  obtain ⟨q, ws, e, hq, hr⟩ := h1
  cases e
  subst e3
  have e2' : S = S2 := e2
  subst e2'
  refine ⟨ws, g _ _ hq, hr.length, R.len, R.has, ?_⟩
  have all : ∀ {xs : List D} {ws : List V} {L : Prs} {S : List Addr}, Reps C K G xs ws → ownL C K H G L S → ownL C K H G (ws.zip (xs.map O.d) ++ L) S := by
    intro xs
    induction xs with
    | nil => intro ws L S h k; cases h; exact k
    | cons x xs ih =>
      rintro ws L S ⟨v, r, e, h1, h2⟩ k
      subst e
      exact ⟨[], S, rfl, ⟨rfl, h1⟩, ih h2 k⟩
  have R1 : Rel C K H (ws.zip (xs.map O.d) ++ (pr env σ ++ fr)) := ⟨G, S, g, all hr h2, nd, no⟩
  refine R1.perm ?_
  rw [← List.append_assoc, ← List.append_assoc]
  exact List.Perm.append_right fr List.perm_append_comm
theorem rep_bl {b : Bool} (R : RelX C K H env σ ((v, .d (.bl b)) :: fr)) : v = .bl b := R.top.rep
end
section
variable {B : Tb} {C : CT} {Γ : Gam} {sc : Scope} {ow : Option Scope} {X : Cx}
mutual
theorem sndP (S : Sup B C Γ sc ow X) : ∀ (p : Pat) (e : Expr), chkP B sc ow p e = true → PG X e (gP C X.K p)
  | .v i, e, h => by
    cases e with
    | Name x pos =>
      simp only [chkP] at h
      have h0 := h
      unfold tgOk at h
      simp only [Bool.and_eq_true, Bool.or_eq_true, decide_eq_true_eq] at h
      obtain ⟨⟨h1, h2⟩, h3⟩ := h
      have loc : L2.Loc X.env.scope x := by rw [S.hsc]; exact h2
      have hi : X.N[i]? = some x := by rw [S.hN]; exact h1
      have g := pg_name (X := X) (pos := pos) (by rw [S.hN]; exact S.nd) hi loc (by
        rcases S.tg i x h0 with z | z
        · exact .inl z
        · exact .inr (by rw [S.hsc]; exact z))
      refine ⟨fun pins s σ H v u Q I r q => g.run pins s σ H v u Q I r ?_⟩
      obtain ⟨env, fr, d, R, q⟩ := q
      unfold asgP at q
      have hl : i < env.length := by rw [R.len, I.len]; exact (List.getElem?_eq_some_iff.mp hi).1
      exact q _ (fun j hj => List.getElem?_set_ne (fun z => hj (by simp [Pat.vs, z]))) (R.put hl)
    | _ => simp [chkP] at h
  | .t ps, e, h => by
    cases e with
    | Tuple es k pos =>
      simp only [chkP] at h
      obtain ⟨l1, l2⟩ := assign_len (env := X.env) h
      refine PG.weak (pg_tup S.calm (sndPs S ps es h) l1 l2) fun v σ H Q q => ?_
      obtain ⟨env, fr, x, R, q⟩ := q
      cases x with
      | tup xs =>
        obtain ⟨p, ws, e, _, _⟩ : ∃ p ws, v = .ref p ∧ H p = some (.tup ws) ∧ True := by
          obtain ⟨p, ws, e, h1, _⟩ := R.top.rep
          exact ⟨p, ws, e, h1, trivial⟩
        subst e
        obtain ⟨ws, hp, hl, R2⟩ := zip_perm (vs := []) R
        have q' := q
        unfold asgP at q'
        exact ⟨p, ws, rfl, .of hp, by rw [← hl]; exact asgPs_len q', env, fr, xs, hl, R2, q'⟩
      | _ => unfold asgP at q; exact q.elim
    | _ => simp [chkP] at h
theorem sndPs (S : Sup B C Γ sc ow X) : ∀ (ps : Pats) (es : List Expr), chkPs B sc ow ps es = true → PGs X es (gPs C X.K ps)
  | .nil, es, h => by
    cases es with
    | cons _ _ => simp [chkPs] at h
    | nil =>
      refine PGs.weak pgs_nil fun vs σ H Q q => ?_
      obtain ⟨env, fr, xs, hl, R, q⟩ := q
      cases xs with
      | cons _ _ => unfold asgPs at q; exact q.elim
      | nil =>
        unfold asgPs at q
        cases vs with
        | cons _ _ => simp at hl
        | nil => exact ⟨rfl, q σ (fun _ _ => rfl) R⟩
  | .cons p ps, es, h => by
    cases es with
    | nil => simp [chkPs] at h
    | cons e es =>
      simp only [chkPs, Bool.and_eq_true] at h
      refine PGs.weak (pgs_cons (sndP S p e h.1.2) (sndPs S ps es h.2) (assign_cons h.1.1)) fun vs σ H Q q => ?_
      obtain ⟨env, fr, xs, hl, R, q⟩ := q
      cases xs with
      | nil => unfold asgPs at q; exact q.elim
      | cons x xs =>
        cases vs with
        | nil => simp at hl
        | cons v vs =>
          unfold asgPs at q
          refine ⟨v, vs, rfl, env, vs.zip (xs.map O.d) ++ fr, x, R, asgP_mono p (fun e1 h1 σ' ag R' => ?_) q⟩
          refine ⟨e1, fr, xs, by simpa using hl, R', asgPs_mono ps (fun e2 h2 σ'' ag2 R'' => ?_) h1⟩
          refine h2 σ'' (fun i hi => ?_) R''
          simp only [Pats.vs, List.mem_append, not_or] at hi
          rw [ag2 i hi.2, ag i hi.1]
end

/-- an expression is sound, as a value and as a test -/
def Snd (B : Tb) (C : CT) (Γ : Gam) (a : T) : Prop := ∀ {X : Cx} {sc : Scope} {ow : Option Scope} (S : Sup B C Γ sc ow X) (e : Expr), chkE B a sc ow e = true → PE X e (tE C X.K Γ a) ∧ PT X e (tT C X.K Γ a)
def AllS (B : Tb) (C : CT) (Γ : Gam) : Ts → Prop
  | .nil => True
  | .cons a as => Snd B C Γ a ∧ AllS B C Γ as
theorem sndA (S : Sup B C Γ sc ow X) : ∀ (as : Ts) (es : List Expr), AllS B C Γ as → chkEs B as sc ow es = true → PA X es (tA C X.K Γ as)
  | .nil, es, _, h => by
    cases es with
    | cons _ _ => simp [chkEs] at h
    | nil =>
      refine PA.weak pa_nil fun σ H Q q => ?_
      obtain ⟨env, fr, R, q⟩ := q
      unfold evs at q
      exact q _ _ (relRs_nil R)
  | .cons a as, es, ih, h => by
    cases es with
    | nil => simp [chkEs] at h
    | cons e es =>
      simp only [chkEs, Bool.and_eq_true] at h
      refine PA.weak (pa_cons (ih.1 S e h.1.2).1 (sndA S as es ih.2 h.2) (star_cons h.1.1)) fun σ H Q q => ?_
      obtain ⟨env, fr, R, q⟩ := q
      unfold evs at q
      refine tE_of R q fun r e1 v H' q1 R1 => ?_
      exact tA_of R1.nrm.frm q1 fun rs e2 vs H2 q2 R2 => q2 _ _ (RelRs.cons R1.nrm R2)
theorem star_any {pos : Pos} {env : Env} : ∀ {as : Ts} {es : List Expr}, chkEs B as sc ow es = true → (backTo pos (starEach es env)).any (·.1) = false
  | .nil, [], _ => rfl
  | .nil, _ :: _, h => by simp [chkEs] at h
  | .cons _ _, [], h => by simp [chkEs] at h
  | .cons a as, e :: es, h => by
    simp only [chkEs, Bool.and_eq_true] at h
    rw [star_cons h.1.1]
    show (false || (backTo pos (starEach es env)).any (·.1)) = false
    rw [star_any h.2]; rfl
def plainT : Expr → Bool
  | .UnaryOp .Not _ _ => false
  | .BoolOp _ _ _ => false
  | .IfExp _ _ _ _ => false
  | .Compare _ _ _ _ => false
  | _ => true
theorem plain_is {e : Expr} {env : Env} (h : plainT e = true) (whole : Sem Value) : isTrue e env whole = (do let v ← whole; standAt e.pos; holding [v] (truthy v)) := by
  cases e with
  | UnaryOp op x pos => cases op <;> first | rfl | cases h
  | BoolOp _ _ _ => cases h
  | IfExp _ _ _ _ => cases h
  | Compare _ _ _ _ => cases h
  | _ => rfl
/-- a value's test -/
theorem test_weak {K : PySem.W.Frag} {a : T} {σ : Sg} {H : Hp} {Q : Bool → Hp → Prop} (h : tT C K Γ a σ H Q) : tE C K Γ a σ H fun x H1 => ∃ c, x = .bl c ∧ Q c H1 := by
  obtain ⟨env, fr, R, h⟩ := h
  refine tE_of R h fun r e v H' q R1 => ?_
  unfold tst at q
  split at q
  · exact ⟨_, rep_bl R1, q H' (RelX.pop R1)⟩
  · exact q.elim
theorem pt_plain {a : T} {e : Expr} (h : PE X e (tE C X.K Γ a)) (p : plainT e = true) : PE X e (tE C X.K Γ a) ∧ PT X e (tT C X.K Γ a) :=
  ⟨h, PT.weak (pt_val h (plain_is p)) fun σ H Q q => test_weak q⟩
theorem gl_of (S : Sup B C Γ sc ow X) {x : Str} (h : glB sc x = true) : Gl X x := by
  show X.env.scope.names.lookup x = _
  rw [S.hsc]
  exact of_decide_eq_true h
theorem opsO_len {env : Ev} : ∀ {rs : List R} {os : List O}, opsO env rs = some os → os.length = rs.length
  | [], os, h => by simp [opsO] at h; subst h; rfl
  | r :: rs, os, h => by
    unfold opsO at h
    split at h
    · rename_i o os' e1 e2
      cases h
      simp [opsO_len e2]
    · cases h
/-- the answer of a two-place primitive -/
theorem two_ansK {K : PySem.W.Frag} {u : Prim} {w : List D → WO} {env : Ev} {σ : Sg} {H : Hp} {fr : Prs} {v z : V} {rs : List R} {Q : VK} {k : R → Ev → Prop} (hw : ∀ ds Q, pw u ds Q → w ds Q) (q : match opsO env rs with | some os => pw u (os.map O.toD) fun o => k (.obj o) env | none => False)
    (R : RelRs C K H env σ fr [v, z] rs) (hk : ∀ o w H', k (.obj o) env → RelX C K H' env σ ((w, o) :: (pend [v, z] rs ++ fr)) → Q w H') : rW2 C K w v z H Q := by
  split at q
  · rename_i os e
    obtain ⟨G, g, tops, hq⟩ := R.wishK (P := fun o => k (.obj o) env) e (hw _ _ q)
    obtain ⟨a, b, ea, ha, hb⟩ : ∃ a b, os.map O.toD = [a, b] ∧ Top C K H G a v ∧ Top C K H G b z := by
      cases hm : os.map O.toD with
      | nil => rw [hm] at tops; cases tops
      | cons a l =>
        cases l with
        | nil => rw [hm] at tops; obtain ⟨v', r, e1, _, e2⟩ := tops; cases e1; cases e2
        | cons b l =>
          cases l with
          | nil =>
            rw [hm] at tops
            obtain ⟨v', u', e1, t1, t2⟩ := tops.two
            cases e1
            exact ⟨a, b, rfl, t1, t2⟩
          | cons c l =>
            rw [hm] at tops
            obtain ⟨_, _, e1, _, _, _, e2, _, _, _, e3, _⟩ := tops
            cases e1; cases e2; cases e3
    refine ⟨G, a, b, g, ha, hb, ?_⟩
    have := hq Q fun o v H' p r => hk o v H' p r
    rwa [ea] at this
  · exact q.elim
theorem two_ans {K : PySem.W.Frag} {u : Prim} {w : List D → WO} {env : Ev} {σ : Sg} {H : Hp} {fr : Prs} {v z : V} {rs : List R} {Q : VK} {k : R → Ev → Prop} (hw : ∀ ds Q, pw u ds Q → w ds Q) (q : match opsO env rs with | some os => pw u (os.map O.toD) fun o => k (.obj o) env | none => False)
    (R : RelRs C K H env σ fr [v, z] rs) (hk : ∀ o w H', k (.obj o) env → RelX C K H' env σ ((w, o) :: fr) → Q w H') : rW2 C K w v z H Q :=
  two_ansK hw q R fun o w H' p r => hk o w H' p (r.sub (List.Sublist.cons_cons _ (List.sublist_append_right _ _)))
/-- the cases -/
theorem snd_const {a : T} {v : V} {x : D} {e : Expr} (hp : PE X e (tC v)) (pl : plainT e = true) (hr : ∀ G : Hp, Rep C X.K G x v) (hev : ∀ (env : Ev) (k : R → Ev → Prop), ev Γ a env E0x k → k (.obj (.d x)) env) : PE X e (tE C X.K Γ a) ∧ PT X e (tT C X.K Γ a) :=
  pt_plain (PE.weak hp fun σ H Q q => by
    obtain ⟨env, fr, R, q⟩ := q
    exact hev _ _ q v H (R.std hr)) pl
theorem plain_ix {b : Expr} (h : plainIx b = true) : PlainIx b := by
  intro o i
  cases b <;> first | rfl | cases h
end
end VE
/-! VE12: the soundness of expressions, joined -/
namespace VE
open PySem PySem.Spec PyProof.Rows L2
section
variable {B : Tb} {C : CT} {Γ : Gam}
theorem snd_var (i : Nat) : Snd B C Γ (.var i) := by
  intro X sc ow S e h
  cases e with
  | Name x pos =>
    simp only [chkE, Bool.and_eq_true, decide_eq_true_eq] at h
    obtain ⟨⟨h1, h2⟩, h3⟩ := h
    unfold nmOk at h3
    simp only [Bool.and_eq_true, Bool.not_eq_true'] at h3
    have vis : Vis X.env.scope x := by
      rw [S.hsc]
      unfold visB at h2
      split at h2
      · rename_i e; exact .inl e
      · rename_i e; exact .inr (.inl e)
      · rename_i e; exact .inr (.inr e)
      · cases h2
    refine pt_plain (PE.weak (pe_var (i := i) (by rw [S.hN]; exact h1) vis h3.1 h3.2) fun σ H Q q => ?_) rfl
    obtain ⟨env, fr, R, q⟩ := q
    unfold ev at q
    split at q
    · rename_i o e1
      obtain ⟨v, hv⟩ := R.has i o e1
      refine ⟨v, hv, q v H ?_⟩
      cases o with
      | d x =>
        have R1 := (R.take e1 hv)
        have R2 := (R1.top.dup)
        have R3 : RelX C X.K H (env.set i none) σ ((v, .d x) :: (v, .d x) :: fr) := ⟨R1.len, R1.has, R2.perm (by
          refine (List.Perm.trans ?_ List.perm_middle.symm)
          exact (List.perm_middle.symm).cons _)⟩
        have R4 := R3.back' hv
        have e2 : env.set i (some (.d x)) = env := by
          apply List.ext_getElem?
          intro j
          by_cases z : i = j
          · subst z; rw [List.getElem?_set_self (slot_lt e1), slot_some.mp e1]
          · rw [List.getElem?_set_ne z]
        rw [e2] at R4
        exact R4
      | lst xs => exact ⟨R, hv, _, e1⟩
      | dic t ks vs => exact ⟨R, hv, _, e1⟩
      | ins c fs => exact ⟨R, hv, _, e1⟩
    · exact q.elim
  | _ => simp [chkE] at h
theorem snd_int (i : Int) : Snd B C Γ (.int i) := by
  intro X sc ow S e h
  cases e with
  | Constant c k pos =>
    cases c with
    | int j =>
      simp only [chkE, decide_eq_true_eq] at h
      subst h
      exact snd_const pe_int rfl (x := .int i) (fun _ => rfl) fun env k q => by unfold ev at q; exact q
    | _ => simp [chkE] at h
  | _ => simp [chkE] at h
theorem snd_bl (b : Bool) : Snd B C Γ (.bl b) := by
  intro X sc ow S e h
  cases e with
  | Constant c k pos =>
    cases c with
    | bool j =>
      simp only [chkE, beq_iff_eq] at h
      subst h
      exact snd_const pe_bl rfl (x := .bl b) (fun _ => rfl) fun env k q => by unfold ev at q; exact q
    | _ => simp [chkE] at h
  | _ => simp [chkE] at h
theorem snd_non : Snd B C Γ .non := by
  intro X sc ow S e h
  cases e with
  | Constant c k pos =>
    cases c with
    | none => exact snd_const pe_non rfl (x := .non) (fun _ => rfl) fun env k q => by unfold ev at q; exact q
    | _ => simp [chkE] at h
  | _ => simp [chkE] at h
theorem snd_str (s : Str) : Snd B C Γ (.str s) := by
  intro X sc ow S e h
  cases e with
  | Constant c k pos =>
    cases c with
    | str j =>
      simp only [chkE, decide_eq_true_eq] at h
      subst h
      exact snd_const pe_str rfl (x := .str s) (fun _ => rfl) fun env k q => by unfold ev at q; exact q
    | _ => simp [chkE] at h
  | _ => simp [chkE] at h
theorem snd_glob (x : Str) (i : Int) : Snd B C Γ (.glob x i) := by
  intro X sc ow S e h
  cases e with
  | Name y pos =>
    simp only [chkE, Bool.and_eq_true, decide_eq_true_eq, Bool.not_eq_true'] at h
    obtain ⟨⟨⟨h1, h2⟩, h3⟩, h4⟩ := h
    subst h1
    obtain ⟨t, ht⟩ := S.glob x i h3
    exact snd_const (v := .int i) (pe_glob (gl_of S h2) ht (show ∃ t', Value.int i t = Value.int i t' from ⟨t, rfl⟩) h4) rfl (x := .int i) (fun _ => rfl) fun env k q => by unfold ev at q; exact q
  | _ => simp [chkE] at h
theorem small_len {n : Nat} (h : n ≤ 1000) : n ≤ sizeLine := Nat.le_of_lt (small1000 h)
def Ts.len : Ts → Nat
  | .nil => 0
  | .cons _ as => as.len + 1
theorem evs_len : ∀ (as : Ts) {env : Ev} {E : Ex → Ev → Prop} {k : List R → Ev → Prop}, evs Γ as env E k → evs Γ as env E fun rs e => rs.length = as.len ∧ k rs e
  | .nil, _, _, _, h => by unfold evs at h ⊢; exact ⟨rfl, h⟩
  | .cons a as, _, _, _, h => by
    unfold evs at h ⊢
    exact ev_mono a (fun _ _ h => h) (fun r e h => evs_mono as (fun _ _ h => h) (fun rs e2 ⟨h1, h2⟩ => ⟨by simp [Ts.len, h1], h2⟩) (evs_len as h)) h
theorem chk_len {sc : Scope} {ow : Option Scope} : ∀ {as : Ts} {es : List Expr}, chkEs B as sc ow es = true → as.len = es.length
  | .nil, [], _ => rfl
  | .nil, _ :: _, h => by simp [chkEs] at h
  | .cons _ _, [], h => by simp [chkEs] at h
  | .cons a as, e :: es, h => by
    simp only [chkEs, Bool.and_eq_true] at h
    simp [Ts.len, chk_len h.2]
theorem paths_len {σ : Sg} : ∀ {rs : List R} {vs : List V}, Paths σ vs rs → vs.length = rs.length
  | [], [], _ => rfl
  | [], _ :: _, p => p.elim
  | .obj _ :: _, [], p => p.elim
  | .path _ :: _, [], p => p.elim
  | .obj _ :: rs, v :: vs, p => by simp [paths_len (show Paths σ vs rs from p)]
  | .path _ :: rs, v :: vs, p => by simp [paths_len p.2]
/-- displays -/
theorem snd_tup {as : Ts} (ih : AllS B C Γ as) : Snd B C Γ (.tup as) := by
  intro X sc ow S e h
  cases e with
  | Tuple es k pos =>
    simp only [chkE, Bool.and_eq_true, decide_eq_true_eq] at h
    refine pt_plain (PE.weak (pe_tup (sndA S as es ih h.1)) fun σ H Q q => ?_) rfl
    obtain ⟨env, fr, R, q⟩ := q
    unfold ev at q
    refine tA_of R (evs_len as q) fun rs e1 vs H' ⟨hl, q1⟩ R1 => ?_
    obtain ⟨xs, e2, q2, hx, R2⟩ := vals_snd R1 q1
    refine ⟨by rw [paths_len R1.paths, hl, chk_len h.1]; exact small_len h.2, fun p hp => q2 _ _ (R2.made hx fun G hr => .tup hp hr)⟩
  | _ => simp [chkE] at h
theorem snd_lst {as : Ts} (ih : AllS B C Γ as) : Snd B C Γ (.lst as) := by
  intro X sc ow S e h
  cases e with
  | List es pos =>
    simp only [chkE, Bool.and_eq_true, decide_eq_true_eq] at h
    refine pt_plain (PE.weak (pe_lst (sndA S as es ih h.1)) fun σ H Q q => ?_) rfl
    obtain ⟨env, fr, R, q⟩ := q
    unfold ev at q
    refine tA_of R (evs_len as q) fun rs e1 vs H' ⟨hl, q1⟩ R1 => ?_
    obtain ⟨xs, e2, q2, hx, R2⟩ := vals_snd R1 q1
    refine ⟨by rw [paths_len R1.paths, hl, chk_len h.1]; exact small_len h.2, fun p hp => q2 _ _ (R2.made hx fun G hr => .lst hp hr)⟩
  | _ => simp [chkE] at h
/-- a primitive of several operands, called -/
theorem call_ans {K : PySem.W.Frag} {u : Prim} {w : List D → WO} {env : Ev} {σ : Sg} {H : Hp} {fr : Prs} {vs : List V} {rs : List R} {Q : VK} {k : R → Ev → Prop} (hw : ∀ ds Q, pw u ds Q → w ds Q) (q : match opsO env rs with | some os => pw u (os.map O.toD) fun o => k (.obj o) env | none => False)
    (R : RelRs C K H env σ fr vs rs) (hk : ∀ o v H', k (.obj o) env → RelX C K H' env σ ((v, o) :: fr) → Q v H') : rWC C K w vs H Q := by
  split at q
  · rename_i os e
    obtain ⟨G, g, tops, hq⟩ := R.wish (P := fun o => k (.obj o) env) e (hw _ _ q)
    exact ⟨G, os.map O.toD, g, tops, hq Q fun o v H' p r => hk o v H' p r⟩
  · exact q.elim
/-! ### slices -/
inductive PartV : Option V → Option Int → Prop
  | none : PartV none none
  | int (i : Int) : PartV (some (.int i)) (some i)
def PVal : Option V → Value → Prop
  | none, u => u = Value.none
  | some x, u => RelV x u
theorem PartV.is {o : Option V} {l : Option Int} {u : Value} (h : PartV o l) (r : PVal o u) : IsPart u l := by
  cases h with
  | none => cases r; exact .none
  | int i => obtain ⟨t, rfl⟩ := (show ∃ t, u = Value.int i t from r); exact .int i t
abbrev TO2 := L2.St → Hp → (Option V → Hp → Prop) → Prop
structure PO2 (X : Cx) (e : Option Expr) (t : TO2) : Prop where
  run : ∀ (pins : List (Addr × Obj)) (s : Shared) (σ : L2.St) (H : Hp) (Q : Option V → Hp → Prop), Inv X pins σ H s → t σ H Q →
    wpAny (model X.prog X.w) X.A (evalPart e X.env) (fun u s' => ∃ o H', Inv X pins σ H' s' ∧ PVal o u ∧ Q o H') X.xe s
theorem po2_none {X : Cx} : PO2 X none (fun _ H Q => Q none H) := by
  refine ⟨fun pins s σ H Q I h => ?_⟩
  rw [evalPart_none]
  exact wpAny_pure ⟨none, H, I, rfl, h⟩
theorem po2_some {X : Cx} {e : Expr} {te : TE} (h : PE X e te) : PO2 X (some e) (fun σ H Q => te σ H fun x H1 => Q (some x) H1) := by
  refine ⟨fun pins s σ H Q I hw => ?_⟩
  rw [evalPart_some]
  exact thn (h.run pins s σ H _ I hw) fun u s1 ⟨x, H1, I1, r1, q1⟩ => ⟨some x, H1, I1, r1, q1⟩
theorem pe_slice2 {X : Cx} {e : Expr} {te : TE} {lo hi : Option Expr} {tl th : TO2} {pos p2 : Pos} {r : V → Option Int → Option Int → Hp → VK → Prop} (hr : SlR X r) (he : PE X e te) (hl : PO2 X lo tl) (hu : PO2 X hi th) :
    PE X (.Subscript e (.Slice lo hi none p2) pos) (fun σ H Q => te σ H fun x H1 => tl σ H1 fun l H2 => th σ H2 fun u H3 => ∃ i j, PartV l i ∧ PartV u j ∧ r x i j H3 Q) := by
  refine ⟨fun pins s σ H Q I h => ?_⟩
  refine Subscript_ (thn (he.run pins s σ H _ I h) fun v s1 ⟨x, H1, I1, r1, q1⟩ => ?_)
  refine wpAny_Slice (thn (hl.run pins s1 σ H1 _ I1 q1) fun vl s2 ⟨l, H2, I2, pl, q2⟩ => thn (hu.run pins s2 σ H2 _ I2 q2) fun vu s3 ⟨u, H3, I3, pu, i, j, v1, v2, q3⟩ => ?_)
  rw [evalPart_none]
  refine wpAny_pure ?_
  have I4 : Inv X pins σ H3 { s3 with heap := s3.heap.push { cls := .type "slice", data := .fields #[vl, vu, .none] } } := I3.kept (t' := s3.toks) fun b ob q => Heap.get?_push_of_some _ q
  obtain ⟨T, id, hT, ht, hg⟩ := hr pins { s3 with heap := s3.heap.push { cls := .type "slice", data := .fields #[vl, vu, .none] } } σ H3 x v vl vu i j s3.heap.objs.size Q I4 r1 (Heap.IsSliceOf.new ..) (v1.is pl) (v2.is pu) q3
  show wpAny (model X.prog X.w) X.A (subscriptTail e (.Slice lo hi none p2) v (.ref s3.heap.objs.size)) (EP X pins σ Q) X.xe { s3 with heap := s3.heap.push { cls := .type "slice", data := .fields #[vl, vu, .none] } }
  exact tail_any (ops := [.ref s3.heap.objs.size, v]) ht hT hg (by with_unfolding_all rfl)
theorem wSlice_inv {lo hi : Bool} {ds : List D} {P : O → Prop} (h : wSlice lo hi ds P) : (lo = false ∧ hi = false ∧ ∃ x, ds = [x] ∧ wSl none none x P) ∨ (lo = true ∧ hi = false ∧ ∃ x i, ds = [x, .int i] ∧ wSl (some i) none x P) ∨
    (lo = false ∧ hi = true ∧ ∃ x i, ds = [x, .int i] ∧ wSl none (some i) x P) ∨ (lo = true ∧ hi = true ∧ ∃ x i j, ds = [x, .int i, .int j] ∧ wSl (some i) (some j) x P) := by
  unfold wSlice at h
  split at h
  · exact .inl ⟨rfl, rfl, _, rfl, h⟩
  · exact .inr (.inl ⟨rfl, rfl, _, _, rfl, h⟩)
  · exact .inr (.inr (.inl ⟨rfl, rfl, _, _, rfl, h⟩))
  · exact .inr (.inr (.inr ⟨rfl, rfl, _, _, _, rfl, h⟩))
  · exact h.elim
theorem topInt {C : CT} {K : PySem.W.Frag} {H G : Hp} {i : Int} {v : V} (h : Top C K H G (.int i) v) : v = .int i := h
theorem chk_rev {a : T} {sc : Scope} {ow : Option Scope} {e : Expr} (h : chkE B (.prim .rev (.cons a .nil)) sc ow e = true) :
    ∃ l k p1 p2 p3 pos, e = .Subscript l (.Slice none none (some (.UnaryOp .USub (.Constant (.int 1) k p1) p2)) p3) pos ∧ chkE B a sc ow l = true := by
  cases e with
  | Subscript l r pos =>
    cases r with
    | Slice x y z p3 =>
      cases x with
      | some _ => simp [chkE] at h
      | none =>
        cases y with
        | some _ => simp [chkE] at h
        | none =>
          cases z with
          | none => simp [chkE] at h
          | some z =>
            cases z with
            | UnaryOp op q p2 =>
              cases op with
              | USub =>
                cases q with
                | Constant c k p1 =>
                  cases c with
                  | int i =>
                    simp only [chkE, Bool.and_eq_true, decide_eq_true_eq] at h
                    obtain ⟨e, h⟩ := h
                    subst e
                    exact ⟨l, k, p1, p2, p3, pos, rfl, h⟩
                  | _ => simp [chkE] at h
                | _ => simp [chkE] at h
              | _ => simp [chkE] at h
            | _ => simp [chkE] at h
    | _ => simp [chkE] at h
  | _ => simp [chkE] at h
theorem snd_prim {u : Prim} {as : Ts} (ih : AllS B C Γ as) : Snd B C Γ (.prim u as) := by
  intro X sc ow S e h
  have two : ∀ {a b : T} {w : List D → WO} {σ : L2.St} {H : Hp} {Q : VK}, as = .cons a (.cons b .nil) → (∀ ds Q, pw u ds Q → w ds Q) → tE C X.K Γ (.prim u as) σ H Q → tE C X.K Γ a σ H fun v H1 => tE C X.K Γ b σ H1 fun z H2 => rW2 C X.K w v z H2 Q := by
    intro a b w σ H Q ea hw q
    subst ea
    obtain ⟨env, fr, R, q⟩ := q
    unfold ev at q
    exact tE_two R q fun rs e v z H' q1 R1 => two_ans (Q := Q) (k := fun r e => ∀ v H', RelR C X.K H' e σ fr v r → Q v H') hw q1 R1 fun o v H' k r => k v H' r
  have many : ∀ {w : List D → WO} {σ : L2.St} {H : Hp} {Q : VK}, (∀ ds Q, pw u ds Q → w ds Q) → tE C X.K Γ (.prim u as) σ H Q → tA C X.K Γ as σ H fun vs H1 => rWC C X.K w vs H1 Q := by
    intro w σ H Q hw q
    obtain ⟨env, fr, R, q⟩ := q
    unfold ev at q
    exact tA_of R q fun rs e vs H' q1 R1 => call_ans (Q := Q) (k := fun r e => ∀ v H', RelR C X.K H' e σ fr v r → Q v H') hw q1 R1 fun o v H' k r => k v H' r
  cases u with
  | bop o =>
    cases as with
    | nil => cases e <;> simp [chkE] at h
    | cons a as =>
      cases as with
      | nil => cases e <;> simp [chkE] at h
      | cons b as =>
        cases as with
        | cons _ _ => cases e <;> simp [chkE] at h
        | nil =>
          cases e with
          | BinOp l p r pos =>
            simp only [chkE, Bool.and_eq_true, decide_eq_true_eq] at h
            obtain ⟨⟨h1, h2⟩, h3⟩ := h
            subst h1
            exact pt_plain (PE.weak (pe_op opW (ih.1 S l h2).1 (ih.2.1 S r h3).1) fun σ H Q q => two rfl (fun ds Q h => h) q) rfl
          | _ => simp [chkE] at h
  | cmp o =>
    cases as with
    | nil => cases e <;> simp [chkE] at h
    | cons a as =>
      cases as with
      | nil => cases e <;> simp [chkE] at h
      | cons b as =>
        cases as with
        | cons _ _ => cases e <;> simp [chkE] at h
        | nil =>
          cases e with
          | Compare l ps rs pos =>
            cases ps with
            | nil => simp [chkE] at h
            | cons p ps =>
              cases ps with
              | cons _ _ => cases rs <;> simp [chkE] at h
              | nil =>
                cases rs with
                | nil => simp [chkE] at h
                | cons r rs =>
                  cases rs with
                  | cons _ _ => simp [chkE] at h
                  | nil =>
                    simp only [chkE, Bool.and_eq_true, decide_eq_true_eq, Bool.not_eq_true'] at h
                    obtain ⟨⟨⟨h1, h2⟩, h3⟩, h4⟩ := h
                    subst h1
                    refine ⟨PE.weak (pe_cmpR (cmpW (C := C) S.stk) (ih.1 S l h2).1 (ih.2.1 S r h3).1 h4) fun σ H Q q => two rfl (fun ds Q h => h) q, PT.weak (pt_cmpR (cmpW (C := C) S.stk) (ih.1 S l h2).1 (ih.2.1 S r h3).1 h4) fun σ H Q q => ?_⟩
                    have q' := test_weak q
                    exact two rfl (fun ds Q h => h) q'
          | _ => simp [chkE] at h
  | neg =>
    cases as with
    | nil => cases e <;> simp [chkE] at h
    | cons a as =>
      cases as with
      | cons _ _ => cases e <;> simp [chkE] at h
      | nil =>
        cases e with
        | UnaryOp op x pos =>
          cases op with
          | USub =>
            simp only [chkE] at h
            refine pt_plain (PE.weak (pe_un un_neg (ih.1 S x h).1) fun σ H Q q => ?_) rfl
            obtain ⟨env, fr, R, q⟩ := q
            unfold ev at q
            refine tE_one R q fun rs e v H' q1 R1 => ?_
            have w := call_ans (Q := Q) (w := fun ds Q => pw .neg ds Q) (k := fun r e => ∀ v H', RelR C X.K H' e σ fr v r → Q v H') (fun ds Q h => h) q1 R1 fun o v H' k r => k v H' r
            obtain ⟨G, as, g, tops, P, hw, hq⟩ := w
            unfold pw at hw
            split at hw
            all_goals first | (rename_i e1 _; cases e1; done) | (rename_i e1; cases e1; done) | skip
            · obtain ⟨v', e2, t⟩ := tops.one
              cases e2; cases t
              exact ⟨_, rfl, hq _ _ _ hw (.std rfl)⟩
            · exact hw.elim
          | _ => simp [chkE] at h
        | _ => simp [chkE] at h
  | ix =>
    cases as with
    | nil => cases e <;> simp [chkE] at h
    | cons a as =>
      cases as with
      | nil => cases e <;> simp [chkE] at h
      | cons b as =>
        cases as with
        | cons _ _ => cases e <;> simp [chkE] at h
        | nil =>
          cases e with
          | Subscript l r pos =>
            simp only [chkE, Bool.and_eq_true] at h
            exact pt_plain (PE.weak (pe_ix ixW (ih.1 S l h.1.1).1 (ih.2.1 S r h.1.2).1 (plain_ix h.2)) fun σ H Q q => two rfl (fun ds Q h => h) q) rfl
          | _ => simp [chkE] at h
  | sl lo hi =>
    cases e with
    | Subscript l r pos =>
      cases r with
      | Slice x y z p2 =>
        cases z with
        | some z => 
          cases lo <;> cases hi <;> cases as <;> simp [chkE] at h
        | none =>
          have fin : ∀ {σ : L2.St} {H : Hp} {Q : VK} {vs : List V}, rWC C X.K (fun ds Q => wSlice lo hi ds Q) vs H Q → (lo = false ∧ hi = false ∧ ∃ x, vs = [x] ∧ rSlW C X.K x none none H Q) ∨ (lo = true ∧ hi = false ∧ ∃ x i, vs = [x, .int i] ∧ rSlW C X.K x (some i) none H Q) ∨
              (lo = false ∧ hi = true ∧ ∃ x i, vs = [x, .int i] ∧ rSlW C X.K x none (some i) H Q) ∨ (lo = true ∧ hi = true ∧ ∃ x i j, vs = [x, .int i, .int j] ∧ rSlW C X.K x (some i) (some j) H Q) := by
            intro σ H Q vs w
            obtain ⟨G, as, g, tops, P, hw, hq⟩ := w
            rcases wSlice_inv hw with ⟨e1, e2, x, rfl, q⟩ | ⟨e1, e2, x, i, rfl, q⟩ | ⟨e1, e2, x, i, rfl, q⟩ | ⟨e1, e2, x, i, j, rfl, q⟩
            · obtain ⟨v, rfl, t⟩ := tops.one
              exact .inl ⟨e1, e2, v, rfl, G, x, g, t, P, q, hq⟩
            · obtain ⟨v, u, rfl, t, t2⟩ := tops.two
              cases t2
              exact .inr (.inl ⟨e1, e2, v, i, rfl, G, x, g, t, P, q, hq⟩)
            · obtain ⟨v, u, rfl, t, t2⟩ := tops.two
              cases t2
              exact .inr (.inr (.inl ⟨e1, e2, v, i, rfl, G, x, g, t, P, q, hq⟩))
            · obtain ⟨v, r, rfl, t, tops2⟩ := tops
              obtain ⟨u, z, rfl, t2, t3⟩ := tops2.two
              cases t2; cases t3
              exact .inr (.inr (.inr ⟨e1, e2, v, i, j, rfl, G, x, g, t, P, q, hq⟩))
          cases lo <;> cases hi
          · cases as with
            | nil => simp [chkE] at h
            | cons a as =>
              cases as with
              | cons _ _ => simp [chkE] at h
              | nil =>
                cases x with
                | some _ => simp [chkE] at h
                | none =>
                  cases y with
                  | some _ => simp [chkE] at h
                  | none =>
                    simp only [chkE] at h
                    refine pt_plain (PE.weak (pe_slice2 (slW (C := C)) (ih.1 S l h).1 po2_none po2_none) fun σ H Q q => ?_) rfl
                    obtain ⟨env, fr, R, q⟩ := q
                    unfold ev at q
                    refine tE_one R q fun rs e v H' q1 R1 => ?_
                    have w := call_ans (Q := Q) (w := fun ds Q => wSlice false false ds Q) (k := fun r e => ∀ v H', RelR C X.K H' e σ fr v r → Q v H') (fun ds Q h => by unfold pw at h; exact h) q1 R1 fun o v H' k r => k v H' r
                    rcases fin (σ := σ) w with ⟨_, _, x, e, q⟩ | ⟨e1, _⟩ | ⟨_, e1, _⟩ | ⟨e1, _⟩
                    · cases e; exact ⟨_, _, .none, .none, q⟩
                    all_goals cases e1
          · cases as with
            | nil => simp [chkE] at h
            | cons a as =>
              cases as with
              | nil => simp [chkE] at h
              | cons b as =>
                cases as with
                | cons _ _ => simp [chkE] at h
                | nil =>
                  cases x with
                  | some _ => simp [chkE] at h
                  | none =>
                    cases y with
                    | none => simp [chkE] at h
                    | some y =>
                      simp only [chkE, Bool.and_eq_true] at h
                      refine pt_plain (PE.weak (pe_slice2 (slW (C := C)) (ih.1 S l h.1).1 po2_none (po2_some (ih.2.1 S y h.2).1)) fun σ H Q q => ?_) rfl
                      obtain ⟨env, fr, R, q⟩ := q
                      unfold ev at q
                      refine tE_two R q fun rs e v z H' q1 R1 => ?_
                      have w := call_ans (Q := Q) (w := fun ds Q => wSlice false true ds Q) (k := fun r e => ∀ v H', RelR C X.K H' e σ fr v r → Q v H') (fun ds Q h => by unfold pw at h; exact h) q1 R1 fun o v H' k r => k v H' r
                      rcases fin (σ := σ) w with ⟨_, e1, _⟩ | ⟨e1, _⟩ | ⟨_, _, x, i, e, q⟩ | ⟨e1, _⟩
                      · cases e1
                      · cases e1
                      · cases e; exact ⟨_, _, .none, .int _, q⟩
                      · cases e1
          · cases as with
            | nil => simp [chkE] at h
            | cons a as =>
              cases as with
              | nil => simp [chkE] at h
              | cons b as =>
                cases as with
                | cons _ _ => simp [chkE] at h
                | nil =>
                  cases x with
                  | none => simp [chkE] at h
                  | some x =>
                    cases y with
                    | some y => simp [chkE] at h
                    | none =>
                      simp only [chkE, Bool.and_eq_true] at h
                      refine pt_plain (PE.weak (pe_slice2 (slW (C := C)) (ih.1 S l h.1).1 (po2_some (ih.2.1 S x h.2).1) po2_none) fun σ H Q q => ?_) rfl
                      obtain ⟨env, fr, R, q⟩ := q
                      unfold ev at q
                      refine tE_two R q fun rs e v z H' q1 R1 => ?_
                      have w := call_ans (Q := Q) (w := fun ds Q => wSlice true false ds Q) (k := fun r e => ∀ v H', RelR C X.K H' e σ fr v r → Q v H') (fun ds Q h => by unfold pw at h; exact h) q1 R1 fun o v H' k r => k v H' r
                      rcases fin (σ := σ) w with ⟨e1, _⟩ | ⟨_, _, x, i, e, q⟩ | ⟨e1, _⟩ | ⟨_, e1, _⟩
                      · cases e1
                      · cases e; exact ⟨_, _, .int _, .none, q⟩
                      · cases e1
                      · cases e1
          · cases as with
            | nil => simp [chkE] at h
            | cons a as =>
              cases as with
              | nil => simp [chkE] at h
              | cons b as =>
                cases as with
                | nil => simp [chkE] at h
                | cons c as =>
                  cases as with
                  | cons _ _ => simp [chkE] at h
                  | nil =>
                    cases x with
                    | none => simp [chkE] at h
                    | some x =>
                      cases y with
                      | none => simp [chkE] at h
                      | some y =>
                        simp only [chkE, Bool.and_eq_true] at h
                        refine pt_plain (PE.weak (pe_slice2 (slW (C := C)) (ih.1 S l h.1.1).1 (po2_some (ih.2.1 S x h.1.2).1) (po2_some (ih.2.2.1 S y h.2).1)) fun σ H Q q => ?_) rfl
                        obtain ⟨env, fr, R, q⟩ := q
                        unfold ev at q
                        refine tE_three R q fun rs e v z u H' q1 R1 => ?_
                        have w := call_ans (Q := Q) (w := fun ds Q => wSlice true true ds Q) (k := fun r e => ∀ v H', RelR C X.K H' e σ fr v r → Q v H') (fun ds Q h => by unfold pw at h; exact h) q1 R1 fun o v H' k r => k v H' r
                        rcases fin (σ := σ) w with ⟨e1, _⟩ | ⟨_, e1, _⟩ | ⟨e1, _⟩ | ⟨_, _, x, i, j, e, q⟩
                        · cases e1
                        · cases e1
                        · cases e1
                        · cases e; exact ⟨_, _, .int _, .int _, q⟩
      | _ => cases lo <;> cases hi <;> cases as <;> simp [chkE] at h
    | _ => cases lo <;> cases hi <;> cases as <;> simp [chkE] at h
  | rev =>
    cases as with
    | nil => cases e <;> simp [chkE] at h
    | cons a as =>
      cases as with
      | cons _ _ => cases e <;> simp [chkE] at h
      | nil =>
        obtain ⟨l, k, p1, p2, p3, pos, e1, h⟩ := chk_rev h
        subst e1
        refine pt_plain (PE.weak (pe_revL (ih.1 S l h).1) fun σ H Q q => ?_) rfl
        obtain ⟨env, fr, R, q⟩ := q
        unfold ev at q
        refine tE_one R q fun rs e v H' q1 R1 => ?_
        have w := call_ans (Q := Q) (w := fun ds Q => pw .rev ds Q) (k := fun r e => ∀ v H', RelR C X.K H' e σ fr v r → Q v H') (fun ds Q h => h) q1 R1 fun o v H' k r => k v H' r
        obtain ⟨G, as, g, tops, P, hw, hq⟩ := w
        unfold pw at hw
        split at hw
        all_goals first | (rename_i e1 _; cases e1; done) | (rename_i e1; cases e1; done) | skip
        · obtain ⟨v', e2, p, vs, e3, h1, h2⟩ := tops.one
          cases e2; subst e3
          exact ⟨p, vs, rfl, .of h1, fun q hn => hq _ _ _ hw (.lst hn h2.reverse)⟩
        · exact hw.elim
  | call n =>
    cases as with
    | nil => cases e <;> simp [chkE] at h
    | cons a as =>
      cases e with
      | Call f es ks pos =>
        cases f with
        | Name x p =>
          cases es with
          | nil => simp [chkE] at h
          | cons e es =>
            cases ks with
            | cons _ _ => simp [chkE] at h
            | nil =>
              simp only [chkE, Bool.and_eq_true, decide_eq_true_eq] at h
              obtain ⟨⟨⟨h1, h2⟩, h3⟩, ⟨h4, h5⟩, h6⟩ := h
              unfold gnOk at h2
              simp only [Bool.and_eq_true, decide_eq_true_eq, Bool.not_eq_true'] at h2
              obtain ⟨⟨⟨g1, g2⟩, g3⟩, g4⟩ := h2
              have hes : chkEs B (.cons a as) sc ow (e :: es) = true := by simp only [chkEs, Bool.and_eq_true]; exact ⟨⟨h4, h5⟩, h6⟩
              exact pt_plain (PE.weak (pe_callB (callB S.calm S.stk) (gl_of S g1) (S.blt x g2) (of_decide_eq_true h3) (sndA S _ _ ih hes) g3 g4 (star_cons h4) (star_any h6)) fun σ H Q q => many (fun ds Q h => h) q) rfl
        | _ => simp [chkE] at h
      | _ => simp [chkE] at h
  | ty n =>
    cases as with
    | nil => cases e <;> simp [chkE] at h
    | cons a as =>
      cases e with
      | Call f es ks pos =>
        cases f with
        | Name x p =>
          cases es with
          | nil => simp [chkE] at h
          | cons e es =>
            cases ks with
            | cons _ _ => simp [chkE] at h
            | nil =>
              simp only [chkE, Bool.and_eq_true, decide_eq_true_eq] at h
              obtain ⟨⟨⟨h1, h2⟩, h3⟩, ⟨h4, h5⟩, h6⟩ := h
              unfold gnOk at h2
              simp only [Bool.and_eq_true, decide_eq_true_eq, Bool.not_eq_true'] at h2
              obtain ⟨⟨⟨g1, g2⟩, g3⟩, g4⟩ := h2
              have hes : chkEs B (.cons a as) sc ow (e :: es) = true := by simp only [chkEs, Bool.and_eq_true]; exact ⟨⟨h4, h5⟩, h6⟩
              exact pt_plain (PE.weak (pe_callTy callTy (gl_of S g1) (S.blt x g2) (of_decide_eq_true h3) (sndA S _ _ ih hes) g3 g4 (star_cons h4) (star_any h6)) fun σ H Q q => many (fun ds Q h => h) q) rfl
        | _ => simp [chkE] at h
      | _ => simp [chkE] at h
  | meth t n => cases as <;> cases e <;> simp [chkE] at h
end
end VE
/-! VE13: more expressions: chains, and, or, not, if, calls -/
namespace VE
open PySem PySem.Spec PyProof.Rows L2
section
variable {B : Tb} {C : CT} {Γ : Gam}
section
variable {K : PySem.W.Frag} {H H' : Hp} {env env' : Ev} {σ : Sg} {fr fr' : Prs} {v z : V} {o : O} {i : Nat} {x : D} {r : R}
theorem RelR.sub (h : RelR C K H env σ fr v r) (s : fr'.Sublist fr) : RelR C K H env σ fr' v r := by
  cases r with
  | obj o => exact RelX.sub h (List.Sublist.cons_cons _ s)
  | path i => exact ⟨h.1.sub s, h.2⟩
theorem two_ansP {u : Prim} {w : List D → WO} {rs : List R} {Q : VK} {P : O → Prop} (hw : ∀ ds Q, pw u ds Q → w ds Q) (q : match opsO env rs with | some os => pw u (os.map O.toD) P | none => False)
    (R : RelRs C K H env σ fr [v, z] rs) (hk : ∀ o w H', P o → RelX C K H' env σ ((w, o) :: (pend [v, z] rs ++ fr)) → Q w H') : rW2 C K w v z H Q := by
  split at q
  · rename_i os e
    obtain ⟨G, g, tops, hq⟩ := R.wishK (P := P) e (hw _ _ q)
    obtain ⟨a, b, ea, ha, hb⟩ : ∃ a b, os.map O.toD = [a, b] ∧ Top C K H G a v ∧ Top C K H G b z := by
      cases hm : os.map O.toD with
      | nil => rw [hm] at tops; cases tops
      | cons a l =>
        cases l with
        | nil => rw [hm] at tops; obtain ⟨v', r, e1, _, e2⟩ := tops; cases e1; cases e2
        | cons b l =>
          cases l with
          | nil =>
            rw [hm] at tops
            obtain ⟨v', u', e1, t1, t2⟩ := tops.two
            cases e1
            exact ⟨a, b, rfl, t1, t2⟩
          | cons c l =>
            rw [hm] at tops
            obtain ⟨_, _, e1, _, _, _, e2, _, _, _, e3, _⟩ := tops
            cases e1; cases e2; cases e3
    refine ⟨G, a, b, g, ha, hb, ?_⟩
    have := hq Q hk
    rwa [ea] at this
  · exact q.elim
theorem frm_sub {u : V} {ra rb : R} : (frm z rb fr).Sublist (pend [u, z] [ra, rb] ++ fr) := by
  cases ra with
  | obj a =>
    cases rb with
    | obj b => exact (List.Sublist.refl _).cons _
    | path j => exact (List.Sublist.refl _).cons _
  | path i =>
    cases rb with
    | obj b => exact .refl _
    | path j => exact .refl _
theorem frm_sup : fr.Sublist (frm v r fr) := by
  cases r with
  | obj o => exact (List.Sublist.refl _).cons _
  | path i => exact .refl _
end
theorem snd_chain {o1 o2 : CmpOp} {a b c : T} (ha : Snd B C Γ a) (hb : Snd B C Γ b) (hc : Snd B C Γ c) : Snd B C Γ (.chain o1 o2 a b c) := by
  intro X sc ow S e h
  cases e with
  | Compare l ps rs pos =>
    cases ps with
    | nil => simp [chkE] at h
    | cons p ps =>
      cases ps with
      | nil => simp [chkE] at h
      | cons q ps =>
        cases ps with
        | cons _ _ => simp [chkE] at h
        | nil =>
          cases rs with
          | nil => simp [chkE] at h
          | cons m rs =>
            cases rs with
            | nil => simp [chkE] at h
            | cons r rs =>
              cases rs with
              | cons _ _ => simp [chkE] at h
              | nil =>
                simp only [chkE, Bool.and_eq_true, decide_eq_true_eq, Bool.not_eq_true'] at h
                obtain ⟨⟨⟨⟨⟨h1, h2⟩, h3⟩, h4⟩, h5⟩, h6⟩ := h
                subst h1 h2
                have go : ∀ {σ : L2.St} {H : Hp} {Q : VK}, tE C X.K Γ (.chain o1 o2 a b c) σ H Q → tChain (rW2 C X.K (wCmp o1)) (rW2 C X.K (wCmp o2)) (tE C X.K Γ a) (tE C X.K Γ b) (tE C X.K Γ c) σ H Q := by
                  intro σ H Q q
                  obtain ⟨env, fr, R, q⟩ := q
                  unfold ev at q
                  refine tE_of R q fun ra e1 x H1 q1 R1 => ?_
                  refine tE_of R1.nrm.frm q1 fun rb e2 y H2 q2 R2 => ?_
                  refine two_ansP (u := .cmp o1) (fun ds Q h => h) q2 (RelRs.cons R1.nrm (RelRs.cons R2.nrm (relRs_nil R2.nrm.frm))) fun o w H3 p3 R3 => ?_
                  split at p3
                  · have ew := rep_bl R3
                    refine ⟨true, ew, ?_⟩
                    rw [if_pos rfl]
                    refine tE_of (R3.pop.sub (frm_sub (rb := rb.nrm))) p3 fun rc e3 w' H4 q4 R4 => ?_
                    refine two_ansP (u := .cmp o2) (fun ds Q h => h) q4 (RelRs.cons (R2.nrm.sub frm_sup) (RelRs.cons R4.nrm (relRs_nil R4.nrm.frm))) fun o w5 H5 p5 R5 => ?_
                    exact p5 w5 H5 (R5.sub (List.Sublist.cons_cons _ (List.sublist_append_right _ _)))
                  · have ew := rep_bl R3
                    refine ⟨false, ew, ?_⟩
                    rw [if_neg (by decide)]
                    exact p3 (.bl false) H3 ((R3.pop.sub (List.sublist_append_right _ _)).std fun G => rfl)
                  · exact p3.elim
                refine ⟨PE.weak (pe_chain (cmpW (C := C) S.stk) (cmpW (C := C) S.stk) (ha S l h3).1 (hb S m h4).1 (hc S r h5).1 h6) fun σ H Q q => go q, PT.weak (pt_chain (cmpW (C := C) S.stk) (cmpW (C := C) S.stk) (ha S l h3).1 (hb S m h4).1 (hc S r h5).1 h6) fun σ H Q q => go (test_weak q)⟩
  | _ => simp [chkE] at h

/-! ### not, if -/
theorem tst_is {r : R} {k : Bool → Prop} (h : tst r k) : ∃ b, r = .obj (.d (.bl b)) ∧ k b := by
  unfold tst at h
  split at h
  · exact ⟨_, rfl, h⟩
  · exact h.elim
theorem snd_not {a : T} (ha : Snd B C Γ a) : Snd B C Γ (.not a) := by
  intro X sc ow S e h
  cases e with
  | UnaryOp op x pos =>
    cases op with
    | Not =>
      simp only [chkE] at h
      refine ⟨PE.weak (pe_not (ha S x h).1) fun σ H Q q => ?_, PT.weak (pt_not (ha S x h).2) fun σ H Q q => ?_⟩
      · obtain ⟨env, fr, R, q⟩ := q
        unfold ev at q
        refine tE_of R q fun r e v H' q R1 => ?_
        obtain ⟨b, e1, q⟩ := tst_is q
        subst e1
        exact ⟨b, rep_bl R1, q _ _ ((RelX.pop R1).std fun G => rfl)⟩
      · obtain ⟨env, fr, R, q⟩ := q
        unfold ev at q
        refine ⟨env, fr, R, ev_mono a e0 (fun r e q => ?_) q⟩
        refine tst_mono (fun b q H' R' => ?_) q
        exact q H' R'
    | _ => simp [chkE] at h
  | _ => simp [chkE] at h
theorem snd_ite {c a b : T} (hc : Snd B C Γ c) (ha : Snd B C Γ a) (hb : Snd B C Γ b) : Snd B C Γ (.ite c a b) := by
  intro X sc ow S e h
  cases e with
  | IfExp t x y pos =>
    simp only [chkE, Bool.and_eq_true] at h
    obtain ⟨⟨h1, h2⟩, h3⟩ := h
    constructor
    · refine PE.weak (pe_ifExp (hc S t h1).2 (ha S x h2).1 (hb S y h3).1) fun σ H Q q => ?_
      obtain ⟨env, fr, R, q⟩ := q
      unfold ev at q
      refine ⟨env, fr, R, ev_mono c e0 (fun r e q => tst_mono (fun b q H' R' => ?_) q) q⟩
      split at q
      · rename_i hb; rw [if_pos hb]; exact ⟨e, fr, R', q⟩
      · rename_i hb; rw [if_neg hb]; exact ⟨e, fr, R', q⟩
    · refine ⟨fun pins s σ H Q I q => ?_⟩
      obtain ⟨env, fr, R, q⟩ := q
      unfold ev at q
      refine isTrue_IfExp (thn ((hc S t h1).2.run pins s σ H (fun d H1 => if d = true then tT C X.K Γ a σ H1 Q else tT C X.K Γ b σ H1 Q) I ⟨env, fr, R, ev_mono c e0 (fun r e q => tst_mono (fun b q H' R' => ?_) q) q⟩) fun d s1 ⟨H1, I1, q1⟩ => ?_)
      · split at q
        · rename_i hb; rw [if_pos hb]; exact ⟨e, fr, R', q⟩
        · rename_i hb; rw [if_neg hb]; exact ⟨e, fr, R', q⟩
      · cases d with
        | true => exact (ha S x h2).2.run pins s1 σ H1 Q I1 q1
        | false => exact (hb S y h3).2.run pins s1 σ H1 Q I1 q1
  | _ => simp [chkE] at h

/-! ### and, or -/
def tAs (C : CT) (K : PySem.W.Frag) (Γ : Gam) (f : Ts → Ev → (Ex → Ev → Prop) → (Bool → Ev → Prop) → Prop) (as : Ts) : TT := fun σ H Q => ∃ env fr, RelX C K H env σ fr ∧ f as env E0x fun b e => ∀ H', RelX C K H' e σ fr → Q b H'
def vB (t : TT) : TE := fun σ H Q => t σ H fun b H' => Q (.bl b) H'
theorem tE_mono_q {K : PySem.W.Frag} {a : T} {σ : Sg} {H : Hp} {Q : VK} (h : tE C K Γ a σ H fun x H1 => ∃ c, x = .bl c ∧ Q (.bl c) H1) : tE C K Γ a σ H Q := by
  obtain ⟨env, fr, R, h⟩ := h
  exact ⟨env, fr, R, ev_mono a e0 (fun r e q v H' R1 => by obtain ⟨c, e1, q⟩ := q v H' R1; subst e1; exact q) h⟩
theorem pv_of {X : Cx} {a : T} {e : Expr} (h : PE X e (tE C X.K Γ a)) : PE X e (vB (tT C X.K Γ a)) := PE.weak h fun σ H Q q => tE_mono_q (test_weak q)
theorem and_snd {X : Cx} {sc : Scope} {ow : Option Scope} (S : Sup B C Γ sc ow X) {pos : Pos} : ∀ (as : Ts) (es : List Expr), AllS B C Γ as → es ≠ [] → chkEs B as sc ow es = true →
    PE X (.BoolOp .And es pos) (vB (tAs C X.K Γ (evAnd Γ) as)) ∧ PW X (.BoolOp .And es pos) (tAs C X.K Γ (evAnd Γ) as)
  | .nil, [], _, ne, _ => absurd rfl ne
  | .nil, _ :: _, _, _, h => by simp [chkEs] at h
  | .cons _ _, [], _, ne, _ => absurd rfl ne
  | .cons a as, [e], ih, _, h => by
    simp only [chkEs, Bool.and_eq_true] at h
    cases as with
    | cons _ _ => simp [chkEs] at h
    | nil =>
      obtain ⟨h1, h2⟩ := ih.1 S e h.1.2
      have w : ∀ {σ : Sg} {H : Hp} {Q : Bool → Hp → Prop}, tAs C X.K Γ (evAnd Γ) (.cons a .nil) σ H Q → tT C X.K Γ a σ H Q := by
        intro σ H Q q
        obtain ⟨env, fr, R, q⟩ := q
        unfold evAnd at q
        refine ⟨env, fr, R, ev_mono a e0 (fun r e q => tst_mono (fun b q H' R' => ?_) q) q⟩
        cases b with
        | true => rw [if_pos rfl] at q; unfold evAnd at q; exact q H' R'
        | false => rw [if_neg (by decide)] at q; exact q H' R'
      exact ⟨PE.weak (pe_one (pv_of h1)) fun σ H Q q => w q, PW.weak (pw_and1 h2) fun σ H Q q => w q⟩
  | .cons a as, e :: e2 :: es, ih, _, h => by
    have h' := h
    simp only [chkEs, Bool.and_eq_true] at h'
    obtain ⟨h1, h2⟩ := ih.1 S e h'.1.2
    obtain ⟨h3, h4⟩ := and_snd S (pos := pos) as (e2 :: es) ih.2 (by simp) h'.2
    constructor
    · refine PE.weak (pe_and (pv_of h1) h3) fun σ H Q q => ?_
      obtain ⟨env, fr, R, q⟩ := q
      unfold evAnd at q
      refine ⟨env, fr, R, ev_mono a e0 (fun r e q => tst_mono (fun b q H' R' => ⟨b, rfl, ?_⟩) q) q⟩
      split at q
      · rename_i hb; rw [if_pos hb]; exact ⟨e, fr, R', q⟩
      · rename_i hb; rw [if_neg hb]; exact q H' R'
    · refine PW.weak (pw_and h2 h4) fun σ H Q q => ?_
      obtain ⟨env, fr, R, q⟩ := q
      unfold evAnd at q
      refine ⟨env, fr, R, ev_mono a e0 (fun r e q => tst_mono (fun b q H' R' => ?_) q) q⟩
      split at q
      · rename_i hb; rw [if_pos hb]; exact ⟨e, fr, R', q⟩
      · rename_i hb; rw [if_neg hb]; exact q H' R'
theorem or_snd {X : Cx} {sc : Scope} {ow : Option Scope} (S : Sup B C Γ sc ow X) {pos : Pos} : ∀ (as : Ts) (es : List Expr), AllS B C Γ as → es ≠ [] → chkEs B as sc ow es = true →
    PE X (.BoolOp .Or es pos) (vB (tAs C X.K Γ (evOr Γ) as)) ∧ PW X (.BoolOp .Or es pos) (tAs C X.K Γ (evOr Γ) as)
  | .nil, [], _, ne, _ => absurd rfl ne
  | .nil, _ :: _, _, _, h => by simp [chkEs] at h
  | .cons _ _, [], _, ne, _ => absurd rfl ne
  | .cons a as, [e], ih, _, h => by
    simp only [chkEs, Bool.and_eq_true] at h
    cases as with
    | cons _ _ => simp [chkEs] at h
    | nil =>
      obtain ⟨h1, h2⟩ := ih.1 S e h.1.2
      have w : ∀ {σ : Sg} {H : Hp} {Q : Bool → Hp → Prop}, tAs C X.K Γ (evOr Γ) (.cons a .nil) σ H Q → tT C X.K Γ a σ H Q := by
        intro σ H Q q
        obtain ⟨env, fr, R, q⟩ := q
        unfold evOr at q
        refine ⟨env, fr, R, ev_mono a e0 (fun r e q => tst_mono (fun b q H' R' => ?_) q) q⟩
        cases b with
        | true => rw [if_pos rfl] at q; exact q H' R'
        | false => rw [if_neg (by decide)] at q; unfold evOr at q; exact q H' R'
      exact ⟨PE.weak (pe_one (pv_of h1)) fun σ H Q q => w q, PW.weak (pw_or1 h2) fun σ H Q q => w q⟩
  | .cons a as, e :: e2 :: es, ih, _, h => by
    have h' := h
    simp only [chkEs, Bool.and_eq_true] at h'
    obtain ⟨h1, h2⟩ := ih.1 S e h'.1.2
    obtain ⟨h3, h4⟩ := or_snd S (pos := pos) as (e2 :: es) ih.2 (by simp) h'.2
    constructor
    · refine PE.weak (pe_or (pv_of h1) h3) fun σ H Q q => ?_
      obtain ⟨env, fr, R, q⟩ := q
      unfold evOr at q
      refine ⟨env, fr, R, ev_mono a e0 (fun r e q => tst_mono (fun b q H' R' => ⟨b, rfl, ?_⟩) q) q⟩
      split at q
      · rename_i hb; rw [if_pos hb]; subst hb; exact q H' R'
      · rename_i hb; rw [if_neg hb]; exact ⟨e, fr, R', q⟩
    · refine PW.weak (pw_or h2 h4) fun σ H Q q => ?_
      obtain ⟨env, fr, R, q⟩ := q
      unfold evOr at q
      refine ⟨env, fr, R, ev_mono a e0 (fun r e q => tst_mono (fun b q H' R' => ?_) q) q⟩
      split at q
      · rename_i hb; rw [if_pos hb]; exact q H' R'
      · rename_i hb; rw [if_neg hb]; exact ⟨e, fr, R', q⟩
theorem tst_bl {f : Ts → Ev → (Ex → Ev → Prop) → (Bool → Ev → Prop) → Prop} {K : PySem.W.Frag} {as : Ts} {env : Ev} {σ : Sg} {fr : Prs} {Q : VK} {H : Hp} (hf : ∀ {as : Ts} {env : Ev} {E : Ex → Ev → Prop} {k k' : Bool → Ev → Prop}, (∀ r e, k r e → k' r e) → f as env E k → f as env E k') (R0 : RelX C K H env σ fr)
    (q : f as env E0x fun b e => ∀ v H', RelR C K H' e σ fr v (.obj (rB b)) → Q v H') : vB (tAs C K Γ f as) σ H Q :=
  ⟨env, fr, R0, hf (fun b e q H' R' => q (.bl b) H' (R'.std fun G => rfl)) q⟩
theorem snd_and {as : Ts} (ih : AllS B C Γ as) : Snd B C Γ (.and as) := by
  intro X sc ow S e h
  cases e with
  | BoolOp op es pos =>
    cases op with
    | And =>
      simp only [chkE, Bool.and_eq_true, Bool.not_eq_true', List.isEmpty_eq_false_iff] at h
      obtain ⟨h1, h2⟩ := and_snd S (pos := pos) as es ih h.1 h.2
      refine ⟨PE.weak h1 fun σ H Q q => ?_, PT.weak h2.pt fun σ H Q q => ?_⟩
      · obtain ⟨env, fr, R, q⟩ := q
        unfold ev at q
        exact tst_bl (fun h => evAnd_mono _ (fun _ _ h => h) h) R q
      · obtain ⟨env, fr, R, q⟩ := q
        unfold ev at q
        exact ⟨env, fr, R, q⟩
    | _ => simp [chkE] at h
  | _ => simp [chkE] at h
theorem snd_or {as : Ts} (ih : AllS B C Γ as) : Snd B C Γ (.or as) := by
  intro X sc ow S e h
  cases e with
  | BoolOp op es pos =>
    cases op with
    | Or =>
      simp only [chkE, Bool.and_eq_true, Bool.not_eq_true', List.isEmpty_eq_false_iff] at h
      obtain ⟨h1, h2⟩ := or_snd S (pos := pos) as es ih h.1 h.2
      refine ⟨PE.weak h1 fun σ H Q q => ?_, PT.weak h2.pt fun σ H Q q => ?_⟩
      · obtain ⟨env, fr, R, q⟩ := q
        unfold ev at q
        exact tst_bl (fun h => evOr_mono _ (fun _ _ h => h) h) R q
      · obtain ⟨env, fr, R, q⟩ := q
        unfold ev at q
        exact ⟨env, fr, R, q⟩
    | _ => simp [chkE] at h
  | _ => simp [chkE] at h

/-! ### calls of own defs -/
def holes : Ev → List R → Ev
  | env, [] => env
  | env, .obj _ :: rs => holes env rs
  | env, .path i :: rs => holes (env.set i none) rs
theorem opsO_set {a : Option O} {i : Nat} : ∀ {rs : List R} {is : List Nat} {env : Ev}, i ∈ is → apart rs is = true → opsO (env.set i a) rs = opsO env rs
  | [], _, _, _, _ => rfl
  | .obj o :: rs, is, env, hi, h => by
    have h' : apart rs is = true := h
    show (match getR (env.set i a) (.obj o), opsO (env.set i a) rs with | some o, some os => some (o :: os) | _, _ => none) = (match getR env (.obj o), opsO env rs with | some o, some os => some (o :: os) | _, _ => none)
    rw [opsO_set hi h']
    rfl
  | .path j :: rs, is, env, hi, h => by
    simp only [apart, Bool.and_eq_true, Bool.not_eq_true'] at h
    have ne : i ≠ j := fun e => by
      subst e
      have := h.1
      rw [List.contains_iff_mem.mpr hi] at this
      cases this
    show (match getR (env.set i a) (.path j), opsO (env.set i a) rs with | some o, some os => some (o :: os) | _, _ => none) = (match getR env (.path j), opsO env rs with | some o, some os => some (o :: os) | _, _ => none)
    rw [opsO_set (List.mem_cons_of_mem _ hi) h.2]
    have : getR (env.set i a) (.path j) = getR env (.path j) := slot_set_ne ne
    rw [this]
theorem holes_set {a : Option O} {i : Nat} : ∀ {rs : List R} {is : List Nat} {env : Ev}, i ∈ is → apart rs is = true → (holes env rs).set i a = holes (env.set i a) rs
  | [], _, _, _, _ => rfl
  | .obj o :: rs, is, env, hi, h => holes_set (rs := rs) hi h
  | .path j :: rs, is, env, hi, h => by
    simp only [apart, Bool.and_eq_true, Bool.not_eq_true'] at h
    have ne : j ≠ i := fun e => by
      subst e
      have := h.1
      rw [List.contains_iff_mem.mpr hi] at this
      cases this
    show (holes (env.set j none) rs).set i a = holes ((env.set i a).set j none) rs
    rw [holes_set (List.mem_cons_of_mem _ hi) h.2, List.set_comm _ _ ne]
theorem puts_holes : ∀ {rs : List R} {is : List Nat} {os : List O} {env : Ev}, apart rs is = true → os.length = rs.length → puts (holes env rs) rs os = puts env rs os
  | [], _, _, _, _, _ => by simp [puts, holes]
  | _ :: _, _, [], _, _, h => by simp at h
  | .obj _ :: rs, is, o :: os, env, h, hl => puts_holes (rs := rs) (is := is) h (by simpa using hl)
  | .path i :: rs, is, o :: os, env, h, hl => by
    simp only [apart, Bool.and_eq_true, Bool.not_eq_true'] at h
    show puts ((holes (env.set i none) rs).set i (some o)) rs os = puts (env.set i (some o)) rs os
    rw [holes_set (is := i :: is) (by simp) h.2, List.set_set]
    exact puts_holes h.2 (by simpa using hl)
section
variable {K : PySem.W.Frag} {H H' : Hp} {σ : Sg}
theorem call_out : ∀ {rs : List R} {is : List Nat} {vs : List V} {os : List O} {env : Ev} {fr : Prs}, apart rs is = true → opsO env rs = some os → Paths σ vs rs → RelX C K H env σ (pend vs rs ++ fr) → RelX C K H (holes env rs) σ (vs.zip os ++ fr)
  | [], _, [], os, _, _, _, ho, _, R => by simp [opsO] at ho; subst ho; exact R
  | [], _, _ :: _, _, _, _, _, _, p, _ => p.elim
  | r :: rs, _, [], _, _, _, _, _, p, _ => by cases r <;> exact p.elim
  | .obj o :: rs, is, v :: vs, os, env, fr, h, ho, p, R => by
    unfold opsO at ho
    cases e2 : opsO env rs with
    | none => rw [e2] at ho; cases ho
    | some os' =>
      rw [e2] at ho
      have ho' : some (o :: os') = some os := ho
      cases ho'
      exact (call_out (rs := rs) (is := is) h e2 (show Paths σ vs rs from p) (fr := (v, o) :: fr) (RelX.perm (fr' := pend vs rs ++ (v, o) :: fr) R List.perm_middle.symm)).perm List.perm_middle
  | .path i :: rs, is, v :: vs, os, env, fr, h, ho, p, R => by
    simp only [apart, Bool.and_eq_true, Bool.not_eq_true'] at h
    unfold opsO at ho
    cases e1 : slot env i with
    | none =>
      have : getR env (.path i) = none := e1
      rw [this] at ho; cases ho
    | some o =>
      have e1' : getR env (.path i) = some o := e1
      rw [e1'] at ho
      cases e2 : opsO env rs with
      | none => rw [e2] at ho; cases ho
      | some os' =>
        rw [e2] at ho
        have ho' : some (o :: os') = some os := ho
        cases ho'
        have R1 := (RelX.take R e1 p.1).perm (fr' := pend vs rs ++ (v, o) :: fr) List.perm_middle.symm
        exact (call_out (is := i :: is) h.2 (by rw [opsO_set (is := i :: is) (by simp) h.2]; exact e2) p.2 R1).perm List.perm_middle
theorem call_in : ∀ {rs : List R} {vs : List V} {os : List O} {env : Ev} {fr : Prs}, os.length = rs.length → Paths σ vs rs → RelX C K H env σ (vs.zip os ++ fr) → RelX C K H (puts env rs os) σ fr
  | [], [], [], _, _, _, _, R => R
  | [], [], _ :: _, _, _, hl, _, _ => by simp at hl
  | [], _ :: _, _, _, _, _, p, _ => p.elim
  | _ :: _, _, [], _, _, hl, _, _ => by simp at hl
  | r :: rs, [], _, _, _, _, p, _ => by cases r <;> exact p.elim
  | .obj _ :: rs, v :: vs, o :: os, env, fr, hl, p, R => call_in (rs := rs) (by simpa using hl) (show Paths σ vs rs from p) (RelX.pop R)
  | .path i :: rs, v :: vs, o :: os, env, fr, hl, p, R => call_in (rs := rs) (by simpa using hl) p.2 (RelX.back R p.1)
end
theorem snd_call {f : Nat} {as : Ts} (ih : AllS B C Γ as) : Snd B C Γ (.call f as) := by
  intro X sc ow S e h
  cases as with
  | nil => cases e <;> simp [chkE] at h
  | cons a as =>
    cases e with
    | Call g es ks pos =>
      cases g with
      | Name x p =>
        cases es with
        | nil => simp [chkE] at h
        | cons e es =>
          cases ks with
          | cons _ _ => simp [chkE] at h
          | nil =>
            simp only [chkE, Bool.and_eq_true, decide_eq_true_eq, Bool.not_eq_true'] at h
            obtain ⟨⟨⟨⟨h1, h2⟩, h3⟩, h4⟩, ⟨h5, h6⟩, h7⟩ := h
            have hes : chkEs B (.cons a as) sc ow (e :: es) = true := by simp only [chkEs, Bool.and_eq_true]; exact ⟨⟨h5, h6⟩, h7⟩
            obtain ⟨k, ad, fd, ps, F, hr, hm, hk, hb⟩ := S.fn f x h1
            refine pt_plain (PE.weak (pe_call F hr (gl_of S h2) hm hk hb .nil (E := fun _ _ _ => False) (fun _ _ _ _ _ _ _ h => h.elim) (sndA S _ _ ih hes) h3 (star_cons h5) (star_any h7)) fun σ H Q q => ?_) rfl
            obtain ⟨env, fr, R, q⟩ := q
            unfold ev at q
            refine tA_of R (evs_len _ q) fun rs e1 vs H' ⟨hl, q1⟩ R1 => ?_
            split at q1
            · rename_i os eo
              obtain ⟨ap, q1⟩ := q1
              have lv : vs.length = B.ar f := by rw [paths_len R1.paths, hl, chk_len hes, h4]; rfl
              have lo := opsO_len eo
              have R2 := call_out (is := []) ap eo R1.paths R1.rel
              rw [List.append_nil]
              refine ⟨lv, pr (holes e1 rs) σ ++ fr, os, by rw [lo, ← paths_len R1.paths, lv], R2.rel.perm ?_, callW.mono q1 (fun o os' hos q v H2 R3 => ?_) fun _ _ z => z⟩
              · rw [← List.append_assoc, ← List.append_assoc]
                exact List.Perm.append_right fr List.perm_append_comm
              · refine q v H2 ?_
                show RelX C X.K H2 (puts e1 rs os') σ ((v, o) :: fr)
                rw [← puts_holes (is := []) ap (by rw [hos, lo])]
                refine call_in (by rw [hos, lo]) R1.paths ⟨R2.len, R2.has, R3.perm ?_⟩
                refine List.Perm.trans ?_ (List.perm_append_comm_assoc _ _ _)
                refine List.Perm.trans (List.perm_middle (l₁ := vs.zip os') (a := (v, o)) (l₂ := pr (holes e1 rs) σ ++ fr)).symm ?_
                exact List.Perm.append_left _ List.perm_middle.symm
            · exact q1.elim
      | _ => simp [chkE] at h
    | _ => simp [chkE] at h
end
end VE
/-! VE14: in-place methods, comprehensions; the expressions' soundness -/
namespace VE
open PySem PySem.Spec PyProof.Rows L2
section
variable {B : Tb} {C : CT} {Γ : Gam}
/-- an owned list, written anew -/
theorem RelX.upd {K : PySem.W.Frag} {H : Hp} {env : Ev} {σ : Sg} {fr : Prs} {v : V} {ys xs : List D} {vs : List V} (R : RelX C K H env σ ((v, .lst ys) :: (vs.zip (xs.map O.d) ++ fr))) (hl : xs.length = vs.length) :
    ∃ p ws G, v = .ref p ∧ H p = some (.lst ws) ∧ Same G H ∧ Reps C K G ys ws ∧ Reps C K G xs vs ∧ ∀ ys' ws' x w, Reps C K G ys' ws' → Rep C K G x w → RelX C K (upd H p (.lst ws')) env σ ((w, .d x) :: (v, .lst ys') :: fr) := by
  obtain ⟨G, S, g, ⟨S1, S2, e2, ⟨p, ws, ev, eS, hp, hr⟩, h2⟩, nd, no⟩ := R.top
  obtain ⟨T, pT, h3⟩ := ownL.perm (show (pr env σ ++ (vs.zip (xs.map O.d) ++ fr)).Perm (vs.zip (xs.map O.d) ++ (pr env σ ++ fr)) by
    rw [← List.append_assoc, ← List.append_assoc]
    exact List.Perm.append_right fr List.perm_append_comm) h2
  obtain ⟨k1, k2⟩ := own_d hl h3
  subst e2 eS
  refine ⟨p, ws, G, ev, hp, g, hr, k1, fun ys' ws' x w h4 h5 => ⟨R.len, R.has, ?_⟩⟩
  have np : p ∉ T := fun q => (List.nodup_append.mp nd).2.2 p (by simp) p (pT.mem_iff.mpr q) rfl
  have gp : G p = none := no p (by simp)
  have R1 : Rel C K (L2.upd H p (.lst ws')) ((w, .d x) :: (v, .lst ys') :: (pr env σ ++ fr)) := by
    refine ⟨G, [p] ++ T, fun q u e => ?_, ⟨[], [p] ++ T, rfl, ⟨rfl, h5⟩, [p], T, rfl, ⟨p, ws', ev, rfl, upd_same, h4⟩, ownL.keep _ _ k2 (fun q hq => upd_ne fun e => np (e ▸ hq)) (Same.refl G)⟩, ?_, fun q hq => ?_⟩
    · rw [upd_ne (fun z => by rw [z, gp] at e; cases e)]; exact g _ _ e
    · exact List.nodup_cons.mpr ⟨np, (pT.nodup_iff).mp (List.nodup_append.mp nd).2.1⟩
    · rcases List.mem_cons.mp (show q ∈ p :: T from hq) with rfl | hq
      · exact gp
      · exact no q (List.mem_append_right _ (pT.mem_iff.mpr hq))
  refine R1.perm ?_
  refine List.Perm.trans ?_ List.perm_middle.symm
  exact (List.perm_middle.symm).cons _
theorem seqIx {i : Int} {n : Nat} (h1 : 0 ≤ i) (h2 : i < n) : seqIndex? i n = some i.toNat := by
  unfold seqIndex?
  have e : ¬ i < 0 := by omega
  simp only [e, if_false]
  rw [if_pos (by simp; exact ⟨h1, h2⟩)]
/-- what a method does in place -/
def rMu (C : CT) (K : PySem.W.Frag) (u : Mu) : V → List V → Hp → VK → Prop := match u with
  | .append => rAppend
  | .extend => rExtend
  | .pop => rPop
  | .popAt => rPopAt
  | _ => fun _ _ _ _ => False
theorem mu_ok {K : PySem.W.Frag} {u : Mu} {H : Hp} {env : Ev} {σ : Sg} {fr : Prs} {v : V} {o : O} {xs : List D} {vs : List V} {k : O → D → Prop} {Q : VK} (R : RelX C K H env σ ((v, o) :: (vs.zip (xs.map O.d) ++ fr))) (hl : xs.length = vs.length) (h : mw u o xs k)
    (q : ∀ o' x w H', k o' x → RelX C K H' env σ ((w, .d x) :: (v, o') :: fr) → Q w H') : rMu C K u v vs H Q := by
  unfold mw at h
  split at h
  · obtain ⟨p, ws, G, ev, hp, g, hr, hx, hu⟩ := RelX.upd R hl
    obtain ⟨y, r, e1, h1, h2⟩ := hx
    cases h2; subst e1
    exact ⟨p, ws, y, ev, rfl, hp, by rw [← hr.length]; exact h.1, q _ _ _ _ h.2 (hu _ _ .non .non (hr.append (.one h1)) rfl)⟩
  · obtain ⟨p, ws, G, ev, hp, g, hr, hx, hu⟩ := RelX.upd R hl
    obtain ⟨y, r, e1, h1, h2⟩ := hx
    cases h2; subst e1
    obtain ⟨b, zs, e3, h3, h4⟩ := h1
    subst e3
    exact ⟨p, b, ws, zs, ev, rfl, hp, g _ _ h3, by rw [← hr.length, ← h4.length]; exact h.1, q _ _ _ _ h.2 (hu _ _ .non .non (hr.append h4) rfl)⟩
  · obtain ⟨p, ws, G, ev, hp, g, hr, hx, hu⟩ := RelX.upd R hl
    cases vs with
    | cons _ _ => simp at hl
    | nil =>
      obtain ⟨x, h1, h2⟩ := h
      obtain ⟨w, h3, h4⟩ := hr.get h1
      exact ⟨p, ws, w, ev, rfl, hp, by rw [← hr.length]; exact h3, q _ _ _ _ h2 (hu _ _ _ _ hr.dropLast h4)⟩
  · obtain ⟨p, ws, G, ev, hp, g, hr, hx, hu⟩ := RelX.upd R hl
    obtain ⟨y, r, e1, h1, h2⟩ := hx
    cases h2; subst e1; cases h1
    obtain ⟨⟨i1, i2, i3⟩, x, h1, h2⟩ := h
    obtain ⟨w, h3, h4⟩ := hr.get h1
    exact ⟨p, ws, _, _, w, ev, rfl, hp, by omega, i3, seqIx i1 (by rw [← hr.length]; exact i2), h3, q _ _ _ _ h2 (hu _ _ _ _ (hr.eraseIdx _) h4)⟩
  · exact h.elim
theorem lstAt_is {env : Ev} {i : Nat} (h : lstAt env i) : ∃ ys, slot env i = some (.lst ys) := by
  unfold lstAt at h
  split at h
  · exact ⟨_, by assumption⟩
  · exact h.elim
theorem snd_mut {u : Mu} {i : Nat} {as : Ts} (ih : AllS B C Γ as) : Snd B C Γ (.mut u i as) := by
  intro X sc ow S e h
  cases e with
  | Call g es ks pos =>
    cases g with
    | Attribute o nm apos =>
      cases o with
      | Name x p =>
        cases ks with
        | cons _ _ => simp [chkE] at h
        | nil =>
          simp only [chkE, Bool.and_eq_true, decide_eq_true_eq] at h
          obtain ⟨⟨⟨⟨⟨⟨h1, h2⟩, h3⟩, h4⟩, h5⟩, h6⟩, h7⟩ := h
          have hv : chkE B (.var i) sc ow (.Name x p) = true := by simp only [chkE, Bool.and_eq_true, decide_eq_true_eq]; exact ⟨⟨h2, h3⟩, h4⟩
          have var := (snd_var (B := B) (C := C) (Γ := Γ) i S (.Name x p) hv).1
          have pa := sndA S as es ih h6
          -- the law
          have law : ∀ {σ : L2.St} {H : Hp} {Q : VK}, tE C X.K Γ (.mut u i as) σ H Q → tE C X.K Γ (.var i) σ H fun v H1 => tyV X.K "list" v H1 ∧ tA C X.K Γ as σ H1 fun vs H2 => rMu C X.K u v vs H2 Q := by
            intro σ H Q q
            obtain ⟨env, fr, R, q⟩ := q
            unfold ev at q
            obtain ⟨hl, q⟩ := q
            obtain ⟨ys, hs⟩ := lstAt_is hl
            refine ⟨env, fr, R, ?_⟩
            unfold ev
            rw [hs]
            intro v H1 R1
            have R1' : RelX C X.K H1 env σ fr ∧ σ[i]? = some (some v) ∧ _ := R1
            obtain ⟨R2, hv, _⟩ := R1'
            constructor
            · obtain ⟨G, S', g, ⟨S1, S2, e2, ⟨pp, ws, ev, eS, hp, hr⟩, k⟩, nd, no⟩ := (R2.take hs hv).top
              subst ev
              exact .inl ⟨rfl, ws, .inl (.of hp)⟩
            · refine tA_of R2 q fun rs e1 vs H2 q1 R3 => ?_
              obtain ⟨xs, e2, q2, hx, R4⟩ := vals_snd R3 q1
              split at q2
              · rename_i o hs2
                have R5 := R4.take hs2 hv
                exact mu_ok R5 hx q2 fun o' x w H' qq R6 => qq w H' (R6.swap.back' hv)
              · exact q2.elim
          refine pt_plain ?_ rfl
          cases es with
          | nil =>
            cases as with
            | cons _ _ => simp [chkEs] at h6
            | nil =>
              have fin : ∀ {σ : L2.St} {H : Hp} {Q : VK}, tE C X.K Γ (.mut u i .nil) σ H Q → tBM0 X.K "list" (rMu C X.K u) (tE C X.K Γ (.var i)) σ H Q := by
                intro σ H Q q
                obtain ⟨env, fr, R, q⟩ := law q
                refine ⟨env, fr, R, ev_mono _ e0 (fun r e q v H' R' => ?_) q⟩
                obtain ⟨q1, env2, fr2, R2, q2⟩ := q v H' R'
                unfold evs at q2
                exact ⟨q1, q2 [] H' (relRs_nil R2)⟩
              cases u <;> simp only [mname, Option.some.injEq, reduceCtorEq] at h1
              · subst h1; exact PE.weak (pe_bm0 PySem.F.plainAttrs_list PySem.F.slot_list_append PySem.F.type_list_append mt_append var rfl h7) fun σ H Q q => fin q
              · subst h1; exact PE.weak (pe_bm0 PySem.F.plainAttrs_list PySem.F.slot_list_extend PySem.F.type_list_extend mt_extend var rfl h7) fun σ H Q q => fin q
              · subst h1; exact PE.weak (pe_bm0 PySem.F.plainAttrs_list PySem.F.slot_list_pop PySem.F.type_list_pop mt_pop var rfl h7) fun σ H Q q => fin q
              · subst h1; exact PE.weak (pe_bm0 PySem.F.plainAttrs_list PySem.F.slot_list_pop PySem.F.type_list_pop mt_popAt var rfl h7) fun σ H Q q => fin q
          | cons e es =>
            cases es with
            | cons _ _ => simp at h5
            | nil =>
              cases as with
              | nil => simp [chkEs] at h6
              | cons a as =>
                have hn : noStar e = true := by simp only [chkEs, Bool.and_eq_true] at h6; exact h6.1.1
                have few : ((backTo pos (starEach [e] X.env)).all (fun x => !x.1) && (backToKw pos (keywordEach [] X.env)).all (fun x => x.1.isSome)
                    && decide (([e] : List Expr).length + ([] : List Keyword).length + (if ([] : List Keyword).isEmpty then 0 else 1) < 30)) = true := by
                  rw [star_cons hn]; rfl
                cases u <;> simp only [mname, Option.some.injEq, reduceCtorEq] at h1
                · subst h1; exact PE.weak (pe_bm PySem.F.plainAttrs_list PySem.F.slot_list_append PySem.F.type_list_append mt_append var pa rfl few h7 (star_cons hn)) fun σ H Q q => law q
                · subst h1; exact PE.weak (pe_bm PySem.F.plainAttrs_list PySem.F.slot_list_extend PySem.F.type_list_extend mt_extend var pa rfl few h7 (star_cons hn)) fun σ H Q q => law q
                · subst h1; exact PE.weak (pe_bm PySem.F.plainAttrs_list PySem.F.slot_list_pop PySem.F.type_list_pop mt_pop var pa rfl few h7 (star_cons hn)) fun σ H Q q => law q
                · subst h1; exact PE.weak (pe_bm PySem.F.plainAttrs_list PySem.F.slot_list_pop PySem.F.type_list_pop mt_popAt var pa rfl few h7 (star_cons hn)) fun σ H Q q => law q
      | _ => simp [chkE] at h
    | _ => simp [chkE] at h
  | _ => simp [chkE] at h

/-! ### walks -/
structure Walks (C : CT) (K : PySem.W.Frag) (J : It) (base : Prs) (xs : List D) : Prop where
  go : ∀ i H L, i < xs.length → Rel C K H (base ++ L) → J.go i H
  stop : ∀ H L, Rel C K H (base ++ L) → J.stop xs.length H
  yld : ∀ i H L v H' (h : i < xs.length), Rel C K H (base ++ L) → J.yld i H v H' → Rel C K H' ((v, .d xs[i]) :: (base ++ L))
theorem rel_std {K : PySem.W.Frag} {H : Hp} {L : Prs} {v : V} {x : D} (R : Rel C K H L) (h : ∀ G, Rep C K G x v) : Rel C K H ((v, .d x) :: L) := by
  obtain ⟨G, S, g, k, nd, no⟩ := R
  exact ⟨G, S, g, ⟨[], S, rfl, ⟨rfl, h G⟩, k⟩, nd, no⟩
theorem rel_at {K : PySem.W.Frag} {H : Hp} {L : Prs} {a : Addr} {xs : List D} (R : Rel C K H ((.ref a, .d (.lst xs)) :: L)) : ∃ ws, H a = some (.lst ws) ∧ xs.length = ws.length ∧ ∀ i v (h : i < xs.length), ws[i]? = some v → Rel C K H ((v, .d xs[i]) :: (.ref a, .d (.lst xs)) :: L) := by
  obtain ⟨G, S, g, ⟨S1, S2, e2, ⟨e3, q, ws, e, hq, hr⟩, h2⟩, nd, no⟩ := R
  cases e
  subst e3
  refine ⟨ws, g _ _ hq, hr.length, fun i v h e => ?_⟩
  obtain ⟨x, h3, h4⟩ := hr.get' e
  have : xs[i] = x := by rw [List.getElem?_eq_getElem h] at h3; exact Option.some.inj h3
  rw [this]
  exact ⟨G, S, g, ⟨[], S, rfl, ⟨rfl, h4⟩, [], S2, e2, ⟨rfl, a, ws, rfl, hq, hr⟩, h2⟩, nd, no⟩
theorem rel_atT {K : PySem.W.Frag} {H : Hp} {L : Prs} {a : Addr} {xs : List D} (R : Rel C K H ((.ref a, .d (.tup xs)) :: L)) : ∃ ws, H a = some (.tup ws) ∧ xs.length = ws.length ∧ ∀ i v (h : i < xs.length), ws[i]? = some v → Rel C K H ((v, .d xs[i]) :: (.ref a, .d (.tup xs)) :: L) := by
  obtain ⟨G, S, g, ⟨S1, S2, e2, ⟨e3, q, ws, e, hq, hr⟩, h2⟩, nd, no⟩ := R
  cases e
  subst e3
  refine ⟨ws, g _ _ hq, hr.length, fun i v h e => ?_⟩
  obtain ⟨x, h3, h4⟩ := hr.get' e
  have : xs[i] = x := by rw [List.getElem?_eq_getElem h] at h3; exact Option.some.inj h3
  rw [this]
  exact ⟨G, S, g, ⟨[], S, rfl, ⟨rfl, h4⟩, [], S2, e2, ⟨rfl, a, ws, rfl, hq, hr⟩, h2⟩, nd, no⟩
theorem walks_lst {K : PySem.W.Frag} {a : Addr} {xs : List D} : Walks C K (Itl K a) [(.ref a, .d (.lst xs))] xs where
  go := fun i H L h R => by
    obtain ⟨ws, h1, h2, h3⟩ := rel_at R
    exact ⟨ws, ws[i], .inl (.of h1), by simp [← h2, h]⟩
  stop := fun H L R => by
    obtain ⟨ws, h1, h2, h3⟩ := rel_at R
    exact ⟨ws, .inl (.of h1), by omega⟩
  yld := fun i H L v H' h R y => by
    obtain ⟨ws, h1, h2, h3⟩ := rel_at R
    obtain ⟨e, y⟩ := y
    subst e
    exact h3 i v h (y ws (.inl (.of h1)))
theorem walks_tup {K : PySem.W.Frag} {a : Addr} {xs : List D} : Walks C K (Itt K a) [(.ref a, .d (.tup xs))] xs where
  go := fun i H L h R => by
    obtain ⟨ws, h1, h2, h3⟩ := rel_atT R
    exact ⟨ws, ws[i], .inl (.of h1), by simp [← h2, h]⟩
  stop := fun H L R => by
    obtain ⟨ws, h1, h2, h3⟩ := rel_atT R
    exact ⟨ws, .inl (.of h1), by omega⟩
  yld := fun i H L v H' h R y => by
    obtain ⟨ws, h1, h2, h3⟩ := rel_atT R
    obtain ⟨e, y⟩ := y
    subst e
    exact h3 i v h (y ws (.inl (.of h1)))
theorem walks_rng {K : PySem.W.Frag} {i j : Int} : Walks C K (Itr i (j - i).toNat) [] (rngD i j) where
  go := fun k H L h R => by simp [rngD] at h; show k < (j - i).toNat; omega
  stop := fun H L R => by show (j - i).toNat ≤ _; simp [rngD]
  yld := fun k H L v H' h R y => by
    obtain ⟨e, y⟩ := y
    subst e y
    refine rel_std R fun G => ?_
    have e : (rngD i j)[k] = .int (i + k) := by simp [rngD]
    rw [e]
    rfl
theorem own_d_all {K : PySem.W.Frag} {H : Hp} {env : Ev} {σ : Sg} {fr : Prs} {xs : List D} {vs : List V} (R : RelX C K H env σ (vs.zip (xs.map O.d) ++ fr)) (e : xs.length = vs.length) : Reps C K H xs vs := by
  obtain ⟨G, S, g, k, nd, no⟩ := R.rel
  obtain ⟨S1, S2, e2, h1, h2⟩ := ownL.split k
  exact Reps.mono g _ _ (own_d e h2).1
def tI (C : CT) (K : PySem.W.Frag) (Γ : Gam) (kd : ItK) (as : Ts) : TI := fun σ H R => ∃ env fr, RelX C K H env σ fr ∧ evs Γ as env E0x fun rs e => vals rs e fun ds e' => itW kd ds fun xs => ∀ J H' base, Walks C K J base xs → RelX C K H' e' σ (base ++ fr) → R J H'
def iSeq (K : PySem.W.Frag) (tl : TE) : TI := fun σ H R => tl σ H fun x H1 => ∃ a, x = .ref a ∧ (((∃ xs, SqL K H1 a xs) ∧ R (Itl K a) H1) ∨ ((∃ xs, SqT K H1 a xs) ∧ R (Itt K a) H1))
theorem pi_seq {X : Cx} {tg l : Expr} {tl : TE} (hl : PE X l tl) : PI X tg l (iSeq X.K tl) := by
  refine ⟨fun pins s σ H R I h => ?_⟩
  refine thn (hl.run pins s σ H _ I h) fun v s1 ⟨x, H1, I1, r1, q1⟩ => ?_
  obtain ⟨a, e, q⟩ := q1
  subst e
  cases r1
  rcases q with ⟨⟨xs, hq⟩, q⟩ | ⟨⟨xs, hq⟩, q⟩
  · obtain ⟨its, rv, p, hz⟩ := I1.list hq
    refine wpAny_pyIter_list p.isList ?_
    refine ⟨s1.heap.objs.size, [s1.heap.objs.size], _, _, H1, rfl, I1.kept (t' := s1.toks) fun b o e => Heap.get?_push_of_some _ e, turn_list a _, ⟨_, Heap.get?_push_size _ rfl, rfl, rfl⟩, fun b hb => ?_, q⟩
    have e : b = s1.heap.objs.size := by simpa using hb
    subst e
    exact I1.fpOk (Nat.le_refl _) (I1.hok.fresh (Nat.le_refl _))
  · obtain ⟨its, rv, p, hz⟩ := I1.tuple hq
    refine wpAny_pyIter_tuple (show s1.heap.IsTuple a its.toArray from p) ?_
    refine ⟨s1.heap.objs.size, [s1.heap.objs.size], _, _, H1, rfl, I1.kept (t' := s1.toks) fun b o e => Heap.get?_push_of_some _ e, turn_tuple a _, ⟨_, Heap.get?_push_size _ rfl, rfl, rfl⟩, fun b hb => ?_, q⟩
    have e : b = s1.heap.objs.size := by simpa using hb
    subst e
    exact I1.fpOk (Nat.le_refl _) (I1.hok.fresh (Nat.le_refl _))
theorem PI.weak {X : Cx} {tg e : Expr} {t t' : TI} (h : PI X tg e t) (w : ∀ σ H Q, t' σ H Q → t σ H Q) : PI X tg e t' := ⟨fun pins s σ H Q I q => h.run pins s σ H Q I (w σ H Q q)⟩
theorem sndI {X : Cx} {sc : Scope} {ow : Option Scope} (S : Sup B C Γ sc ow X) {kd : ItK} {as : Ts} {tg e : Expr} (ih : AllS B C Γ as) (h : chkI B kd as sc ow tg e = true) : PI X tg e (tI C X.K Γ kd as) ∧ ∀ x, foldedSetIterable e X.env x = pure x := by
  cases kd with
  | seq =>
    cases as with
    | nil => simp [chkI] at h
    | cons a as =>
      cases as with
      | cons _ _ => simp [chkI] at h
      | nil =>
        simp only [chkI, Bool.and_eq_true] at h
        refine ⟨PI.weak (pi_seq (ih.1 S e h.1).1) fun σ H Q q => ?_, fun x => ?_⟩
        · obtain ⟨env, fr, R, q⟩ := q
          refine tE_one R q fun rs e v H' q1 R1 => ?_
          obtain ⟨xs, e2, q2, hx, R2⟩ := vals_snd R1 q1
          cases xs with
          | nil => simp at hx
          | cons x xs =>
            cases xs with
            | cons _ _ => simp at hx
            | nil =>
              have R3 : RelX C X.K H' e2 σ ((v, .d x) :: fr) := R2
              unfold itW at q2
              cases x <;> first | exact q2.elim | skip
              · obtain ⟨p, ws, e3, h1, _⟩ := R3.top.rep
                subst e3
                exact ⟨p, rfl, .inr ⟨⟨ws, .inl (.of h1)⟩, q2 _ _ _ walks_tup R3⟩⟩
              · obtain ⟨p, ws, e3, h1, _⟩ := R3.top.rep
                subst e3
                exact ⟨p, rfl, .inl ⟨⟨ws, .inl (.of h1)⟩, q2 _ _ _ walks_lst R3⟩⟩
        · cases e <;> first | rfl | (have := h.2; cases this)
  | rng =>
    cases as with
    | nil => simp [chkI] at h
    | cons a as =>
      cases e with
      | Call g es ks pos =>
        cases g with
        | Name x p =>
          cases es with
          | nil => simp [chkI] at h
          | cons e es =>
            cases ks with
            | cons _ _ => simp [chkI] at h
            | nil =>
              simp only [chkI, Bool.and_eq_true, decide_eq_true_eq] at h
              obtain ⟨⟨⟨h1, h2⟩, ⟨h3, h4⟩, h5⟩, h6⟩ := h
              unfold gnOk at h2
              simp only [Bool.and_eq_true, decide_eq_true_eq, Bool.not_eq_true'] at h2
              obtain ⟨⟨⟨g1, g2⟩, g3⟩, g4⟩ := h2
              subst h1
              have hes : chkEs B (.cons a as) sc ow (e :: es) = true := by simp only [chkEs, Bool.and_eq_true]; exact ⟨⟨h3, h4⟩, h5⟩
              refine ⟨?_, fun x => rfl⟩
              have main : ∀ {σ : L2.St} {H : Hp} {Q : It → Hp → Prop}, tI C X.K Γ .rng (.cons a as) σ H Q → tA C X.K Γ (.cons a as) σ H fun vs H1 => (∃ j, vs = [.int j] ∧ b62 j ∧ Q (Itr 0 (j - 0).toNat) H1) ∨ (∃ i j, vs = [.int i, .int j] ∧ b62 i ∧ b62 j ∧ Q (Itr i (j - i).toNat) H1) ∨ vs.length = 3 := by
                intro σ H Q q
                obtain ⟨env, fr, R, q⟩ := q
                refine tA_of R q fun rs e1 vs H' q1 R1 => ?_
                obtain ⟨xs, e2, q2, hx, R2⟩ := vals_snd R1 q1
                unfold itW at q2
                split at q2
                all_goals try (rename_i z _; cases z; done)
                all_goals try (rename_i z; cases z; done)
                · rename_i j _
                  obtain ⟨v, vs', e3, h8, h9⟩ := (own_d_all R2 hx)
                  cases h9; subst e3; cases h8
                  exact .inl ⟨_, rfl, q2.1, q2.2 _ _ _ walks_rng (show RelX C X.K H' e2 σ ([] ++ fr) from R2.pop)⟩
                · obtain ⟨v, vs', e3, h8, v2, vs2, e4, h9, h10⟩ := (own_d_all R2 hx)
                  cases h10; subst e4; subst e3; cases h8; cases h9
                  exact .inr (.inl ⟨_, _, rfl, q2.1.1, q2.1.2, q2.2 _ _ _ walks_rng (show RelX C X.K H' e2 σ ([] ++ fr) from R2.pop.pop)⟩)
                · exact .inr (.inr (by rw [← hx]; rfl))
                · exact q2.elim
              cases es with
              | nil =>
                refine PI.weak (pi_range1 (gl_of S g1) (S.blt _ g2) (sndA S _ _ ih hes) (star_cons h3)) fun σ H Q q => ?_
                obtain ⟨env, fr, R, q⟩ := main q
                refine ⟨env, fr, R, evs_mono _ e0 (fun rs e ⟨hl, q⟩ vs H' R' => ?_) (evs_len _ q)⟩
                have lv : vs.length = 1 := by rw [paths_len R'.paths, hl, chk_len hes]; rfl
                rcases q vs H' R' with ⟨j, e1, hb, q⟩ | ⟨i, j, e1, _⟩ | e1
                · exact ⟨j, e1, hb.1, hb.2, by rw [Int.sub_zero] at q; exact q⟩
                · subst e1; simp at lv
                · omega
              | cons e2 es =>
                cases es with
                | cons _ _ => simp at h6
                | nil =>
                  have h7 : noStar e2 = true := by cases as <;> simp [chkEs] at h5; exact h5.1.1
                  refine PI.weak (pi_range2 (gl_of S g1) (S.blt _ g2) (sndA S _ _ ih hes) (by rw [star_cons h3, star_cons h7]; rfl) (star_cons h7)) fun σ H Q q => ?_
                  obtain ⟨env, fr, R, q⟩ := main q
                  refine ⟨env, fr, R, evs_mono _ e0 (fun rs e ⟨hl, q⟩ vs H' R' => ?_) (evs_len _ q)⟩
                  have lv : vs.length = 2 := by rw [paths_len R'.paths, hl, chk_len hes]; rfl
                  rcases q vs H' R' with ⟨j, e1, hb, q⟩ | ⟨i, j, e1, b1, b2, q⟩ | e1
                  · subst e1; simp at lv
                  · exact ⟨i, j, e1, ⟨b1.1, b1.2, b2.1, b2.2⟩, q⟩
                  · omega
        | _ => simp [chkI] at h
      | _ => simp [chkI] at h
  | _ => cases as <;> simp [chkI] at h
end
end VE
/-! VE15: comprehensions; every expression is sound -/
namespace VE
open PySem PySem.Spec PyProof.Rows L2
section
variable {B : Tb} {C : CT} {Γ : Gam}
mutual
theorem asgP_len : ∀ (p : Pat) {x : D} {env : Ev} {k : Ev → Prop}, asgP p x env k → asgP p x env fun e => e.length = env.length ∧ k e
  | .v i, x, env, k, h => by unfold asgP at h ⊢; exact ⟨List.length_set, h⟩
  | .t ps, x, env, k, h => by
    cases x <;> unfold asgP at h ⊢ <;> first | exact asgPs_len2 ps h | exact h.elim
theorem asgPs_len2 : ∀ (ps : Pats) {xs : List D} {env : Ev} {k : Ev → Prop}, asgPs ps xs env k → asgPs ps xs env fun e => e.length = env.length ∧ k e
  | .nil, xs, env, k, h => by
    cases xs <;> unfold asgPs at h ⊢ <;> first | exact ⟨rfl, h⟩ | exact h.elim
  | .cons p ps, xs, env, k, h => by
    cases xs <;> unfold asgPs at h ⊢
    · exact h.elim
    · exact asgP_mono p (fun e ⟨h1, h2⟩ => asgPs_mono ps (fun e2 ⟨h3, h4⟩ => ⟨h3.trans h1, h4⟩) (asgPs_len2 ps h2)) (asgP_len p h)
end
theorem wipe_get {σ : Sg} {j : Nat} : ∀ {ow : List Nat}, (wipe σ ow)[j]? = if j ∈ ow then (if j < σ.length then some none else none) else σ[j]?
  | [] => by simp [wipe]
  | i :: is => by
    unfold wipe
    by_cases e : i = j
    · subst e
      rw [if_pos List.mem_cons_self]
      by_cases h : i < σ.length
      · rw [List.getElem?_set_self (by rw [wipe_length]; exact h), if_pos h]
      · rw [if_neg h, List.getElem?_eq_none (by rw [List.length_set, wipe_length]; omega)]
    · rw [List.getElem?_set_ne e, wipe_get]
      have : (j ∈ i :: is) = (j ∈ is) := by simp [List.mem_cons, Ne.symm e]
      simp only [this]
theorem wipeE_length : ∀ {env : Ev} {ow : List Nat}, (wipeE env ow).length = env.length
  | _, [] => rfl
  | _, i :: is => by unfold wipeE; rw [List.length_set, wipeE_length]
theorem wipeE_get {env : Ev} {j : Nat} : ∀ {ow : List Nat}, (wipeE env ow)[j]? = if j ∈ ow then (if j < env.length then some none else none) else env[j]?
  | [] => by simp [wipeE]
  | i :: is => by
    unfold wipeE
    by_cases e : i = j
    · subst e
      rw [if_pos List.mem_cons_self]
      by_cases h : i < env.length
      · rw [List.getElem?_set_self (by rw [wipeE_length]; exact h), if_pos h]
      · rw [if_neg h, List.getElem?_eq_none (by rw [List.length_set, wipeE_length]; omega)]
    · rw [List.getElem?_set_ne e, wipeE_get]
      have : (j ∈ i :: is) = (j ∈ is) := by simp [List.mem_cons, Ne.symm e]
      simp only [this]
theorem backE_length {e0 : Ev} : ∀ {env : Ev} {ow : List Nat}, (backE e0 env ow).length = env.length
  | _, [] => rfl
  | _, i :: is => by unfold backE; rw [List.length_set, backE_length]
theorem backE_wipe {e0 : Ev} {env : Ev} : ∀ {ow xs : List Nat}, (∀ i ∈ xs, i ∈ ow) → backE e0 (wipeE env xs) ow = backE e0 env ow := by
  intro ow xs hx
  apply List.ext_getElem?
  intro j
  have get : ∀ (env : Ev) (ow : List Nat), (backE e0 env ow)[j]? = if j ∈ ow then (if j < env.length then some (match slot e0 j with | some (.d x) => some (.d x) | _ => none) else none) else env[j]? := by
    intro env ow
    induction ow with
    | nil => simp [backE]
    | cons i is ih =>
      unfold backE
      by_cases e : i = j
      · subst e
        rw [if_pos List.mem_cons_self]
        by_cases h : i < env.length
        · rw [List.getElem?_set_self (by rw [backE_length]; exact h), if_pos h]
          all_goals first
            | rfl
            | (cases slot e0 i with
              | none => rfl
              | some o => cases o <;> rfl)
        · rw [if_neg h, List.getElem?_eq_none (by rw [List.length_set, backE_length]; omega)]
      · rw [List.getElem?_set_ne e, ih]
        have : (j ∈ i :: is) = (j ∈ is) := by simp [List.mem_cons, Ne.symm e]
        simp only [this]
  rw [get, get, wipeE_length]
  by_cases h : j ∈ ow
  · rw [if_pos h, if_pos h]
  · rw [if_neg h, if_neg h, wipeE_get, if_neg fun q => h (hx j q)]
theorem pr_none {σ : Sg} {env : Ev} {i : Nat} {a : Option V} : pr (env.set i none) (σ.set i a) = pr (env.set i none) σ := by
  induction env generalizing σ i with
  | nil => rfl
  | cons e env ih =>
    cases σ with
    | nil => rfl
    | cons s σ =>
      cases i with
      | zero => cases s <;> cases a <;> rfl
      | succ i =>
        cases e with
        | none => exact ih
        | some o =>
          cases s with
          | none => exact ih
          | some v => exact congrArg ((v, o) :: ·) ih
section
variable {K : PySem.W.Frag} {H H' : Hp} {σ : Sg} {fr : Prs} {env : Ev}
/-- a forgotten slot may hold anything -/
theorem RelX.any {i : Nat} {a : Option V} (R : RelX C K H (env.set i none) σ fr) : RelX C K H (env.set i none) (σ.set i a) fr := by
  refine ⟨by rw [List.length_set (as := σ)]; exact R.len, fun j o h => ?_, by rw [pr_none]; exact R.rel⟩
  by_cases e : i = j
  · subst e
    unfold slot at h
    by_cases hl : i < env.length
    · rw [List.getElem?_set_self hl] at h; cases h
    · rw [List.getElem?_eq_none (by rw [List.length_set]; omega)] at h; cases h
  · rw [List.getElem?_set_ne e]; exact R.has j o h
theorem RelX.wipe (R : RelX C K H env σ fr) : ∀ ow : List Nat, RelX C K H (wipeE env ow) (L2.wipe σ ow) fr
  | [] => R
  | i :: is => by
    unfold wipeE L2.wipe
    exact ((RelX.wipe R is).clear i).any
theorem set_set_same {σ : Sg} {i : Nat} {a : Option V} (h : σ[i]? = some a) : σ.set i a = σ := by
  apply List.ext_getElem?
  intro j
  by_cases e : i = j
  · subst e; rw [List.getElem?_set_self (List.getElem?_eq_some_iff.mp h).1, h]
  · rw [List.getElem?_set_ne e]
theorem unwipe : ∀ {ow : List Nat} {σ σ' : Sg}, σ'.length = σ.length → (∀ j, j ∉ ow → σ'[j]? = σ[j]?) → RelX C K H env σ' fr → RelX C K H (wipeE env ow) σ fr := by
  intro ow
  induction ow with
  | nil =>
    intro σ σ' hl h R
    have : σ' = σ := List.ext_getElem? fun j => h j (by simp)
    subst this
    exact R
  | cons i is ih =>
    intro σ σ' hl h R
    -- σ with i as σ' has it
    cases hi : σ'[i]? with
    | none =>
      have R1 := ih (σ := σ) (σ' := σ') hl (fun j hj => by
        by_cases e : j = i
        · subst e
          rw [hi, List.getElem?_eq_none]
          rw [← hl]; exact List.getElem?_eq_none_iff.mp hi
        · exact h j (by simp [e, hj])) R
      unfold wipeE
      exact R1.clear i
    | some a =>
      have hli : i < σ.length := by rw [← hl]; exact (List.getElem?_eq_some_iff.mp hi).1
      have R1 := ih (σ := σ.set i a) (σ' := σ') (by rw [List.length_set]; exact hl) (fun j hj => by
        by_cases e : i = j
        · subst e; rw [List.getElem?_set_self hli, hi]
        · rw [List.getElem?_set_ne e]; exact h j (by simp [Ne.symm e, hj])) R
      unfold wipeE
      have R2 := (R1.clear i).any (i := i) (a := σ[i])
      rw [List.set_set, set_set_same (List.getElem?_eq_getElem hli)] at R2
      exact R2
/-- the data of a block's own names, kept aside -/
def sv (env : Ev) (σ : Sg) : List Nat → Prs
  | [] => []
  | i :: is => match slot env i, σ[i]? with
    | some (.d x), some (some v) => (v, .d x) :: sv env σ is
    | _, _ => sv env σ is
theorem RelX.keep (R : RelX C K H env σ fr) : ∀ ow : List Nat, RelX C K H env σ (sv env σ ow ++ fr)
  | [] => R
  | i :: is => by
    have R1 := RelX.keep R is
    unfold sv
    split
    · rename_i x v e1 e2
      have R2 := R1.take e1 e2
      have R3 : RelX C K H (env.set i none) σ ((v, .d x) :: (v, .d x) :: (sv env σ is ++ fr)) := ⟨R2.len, R2.has, (R2.top.dup).perm (by
        refine (List.Perm.trans ?_ List.perm_middle.symm)
        exact (List.perm_middle.symm).cons _)⟩
      have R4 := R3.back' e2
      have e3 : env.set i (some (.d x)) = env := by
        apply List.ext_getElem?
        intro j
        by_cases z : i = j
        · subst z; rw [List.getElem?_set_self (slot_lt e1), slot_some.mp e1]
        · rw [List.getElem?_set_ne z]
      rw [e3] at R4
      exact R4
    · exact R1
theorem RelX.backE {e0 : Ev} (hv : ∀ i o, slot e0 i = some o → ∃ v, σ[i]? = some (some v)) : ∀ {ow : List Nat} {fr : Prs}, RelX C K H env σ (sv e0 σ ow ++ fr) → RelX C K H (VE.backE e0 env ow) σ fr
  | [], _, R => R
  | i :: is, fr, R => by
    unfold VE.backE
    unfold sv at R
    cases e1 : slot e0 i with
    | none =>
      rw [e1] at R
      exact (RelX.backE hv (ow := is) R).clear i
    | some o =>
      obtain ⟨v, e2⟩ := hv i o e1
      rw [e1, e2] at R
      cases o with
      | d x => exact (RelX.backE hv (ow := is) (fr := (v, .d x) :: fr) (RelX.perm (fr' := sv e0 σ is ++ (v, .d x) :: fr) R List.perm_middle.symm)).back e2
      | lst xs => exact (RelX.backE hv (ow := is) R).clear i
      | dic t ks xs => exact (RelX.backE hv (ow := is) R).clear i
      | ins c fs => exact (RelX.backE hv (ow := is) R).clear i
end
/-- the block's context -/
theorem Sup.blk {X : Cx} {sc : Scope} {ow : Option Scope} (S : Sup B C Γ sc ow X) (scope : Scope) (s : Shared) (H : Hp) (A : Addr) (cl : List (Str × Addr)) (fp : List Addr) : Sup B C Γ (relS scope sc) (some scope) (X.blk s H scope (compEnvC scope cl A X.env) fp) where
  calm := S.calm
  stk := S.stk
  hu1 := S.hu1
  hN := S.hN
  nd := S.nd
  hsc := by rw [← S.hsc]; rfl
  tg := fun i x h => by
    unfold tgOk at h
    simp only [Bool.and_eq_true, Bool.or_eq_true, decide_eq_true_eq] at h
    rcases h.2 with h | h
    · exact .inl (by show (scope.names.lookup x == some .cell) = true; rw [h]; rfl)
    · exact .inr h
  blt := S.blt
  glob := S.glob
  fn := S.fn
theorem cIfs {X : Cx} {sc : Scope} {ow : Option Scope} (S : Sup B C Γ sc ow X) {ifs : Ts} {cs : List Expr} (ih : AllS B C Γ ifs) (h : chkC B ifs sc ow cs = true) : PTs X cs (tAs C X.K Γ (evIfs Γ) ifs) := by
  have w : ∀ {ifs : List Expr} {t t' : TT}, PTs X ifs t → (∀ σ H Q, t' σ H Q → t σ H Q) → PTs X ifs t' := fun h w => ⟨fun pins s σ H Q I q => h.run pins s σ H Q I (w σ H Q q)⟩
  cases ifs with
  | nil =>
    cases cs with
    | cons _ _ => simp [chkC] at h
    | nil =>
      refine w pts_nil fun σ H Q q => ?_
      obtain ⟨env, fr, R, q⟩ := q
      unfold evIfs at q
      exact q H R
  | cons a as =>
    cases as with
    | cons _ _ => cases cs <;> simp [chkC] at h
    | nil =>
      cases cs with
      | nil => simp [chkC] at h
      | cons e cs =>
        cases cs with
        | cons _ _ => simp [chkC] at h
        | nil =>
          simp only [chkC] at h
          refine w (pts_one (ih.1 S e h).2) fun σ H Q q => ?_
          obtain ⟨env, fr, R, q⟩ := q
          unfold evIfs at q
          refine ⟨env, fr, R, ev_mono a e0 (fun r e q => tst_mono (fun b q H' R' => ?_) q) q⟩
          cases b with
          | true => rw [if_pos rfl] at q; unfold evIfs at q; exact q H' R'
          | false => rw [if_neg (by decide)] at q; exact q H' R'
theorem lc_law {K : PySem.W.Frag} {own : List Nat} {p : Pat} {kd : ItK} {as ifs : Ts} {a : T} (own2 : ∀ i, i ∈ p.vs → i ∈ own) {σ : L2.St} {H : Hp} {Q : VK} (q : tE C K Γ (.comp own p kd as ifs a) σ H Q) : tLc (tI C K Γ kd as) (gP C K p) (tAs C K Γ (evIfs Γ) ifs) (tE C K Γ a) own σ H Q := by
  obtain ⟨env, fr, R, q⟩ := q
  unfold ev at q
  refine ⟨env, fr, R, evs_mono as e0 (fun rs e q => vals_mono (fun ds e' q => itW_mono (fun xs q J H1 base wk R1 Da hD => ?_) q) q) q⟩
  -- the loop
  generalize hb : (fun (x : D) (acc : List D) (e1 : Ev) (kk : List D → Ev → Prop) => asgP p x e1 fun e2 => evIfs Γ ifs e2 E0x fun b e3 =>
    if b = true then ev Γ a e3 E0x fun r e4 => r.val e4 fun y e5 => addA acc y fun acc' => kk acc' (wipeE e5 own) else kk acc (wipeE e3 own)) = body at q
  have R2 : RelX C K (L2.upd H1 Da (.lst [])) (wipeE e' own) (L2.wipe σ own) ((.ref Da, .lst []) :: (base ++ (sv e' σ own ++ fr))) := by
    have R3 : RelX C K H1 (wipeE e' own) (L2.wipe σ own) (sv e' σ own ++ (base ++ fr)) := (R1.keep own).wipe own
    have R4 := RelX.made (xs := []) (vs := []) (o := .lst []) (v := .ref Da) (H' := L2.upd H1 Da (.lst [])) R3 rfl fun G hr => .lst hD hr
    refine R4.perm (.cons _ ?_)
    exact List.perm_append_comm_assoc _ _ _
  refine ⟨fun i m H => m = xs.length - i ∧ i ≤ xs.length ∧ ∃ acc env1, RelX C K H env1 (L2.wipe σ own) ((.ref Da, .lst acc) :: (base ++ (sv e' σ own ++ fr))) ∧ cloop body (xs.drop i) acc env1 fun ys e6 => ∀ v H', RelR C K H' (VE.backE e' e6 own) σ fr v (.obj (.lst ys)) → Q v H',
    ⟨xs.length, by simp, Nat.zero_le _, [], wipeE e' own, R2, by simpa using q⟩, ?_⟩
  rintro i m H2 ⟨rfl, hi', acc, env1, R3, q⟩
  have rl : Rel C K H2 (base ++ ((.ref Da, .lst acc) :: (pr env1 (L2.wipe σ own) ++ (sv e' σ own ++ fr)))) := R3.rel.perm (by
    refine List.Perm.trans List.perm_middle ?_
    refine List.Perm.trans ?_ List.perm_middle.symm
    exact (List.perm_append_comm_assoc _ _ _).cons _)
  by_cases hlt : i < xs.length
  · refine .inr ⟨wk.go i H2 _ hlt rl, fun H' => ∃ acc env1, RelX C K H' env1 (L2.wipe σ own) ((.ref Da, .lst acc) :: (base ++ (sv e' σ own ++ fr))) ∧ cloop body (xs.drop (i + 1)) acc env1 fun ys e6 => ∀ v H', RelR C K H' (VE.backE e' e6 own) σ fr v (.obj (.lst ys)) → Q v H',
      fun H' n' => ⟨xs.length - (i + 1), by omega, rfl, hlt, n'⟩, fun x H' y => ?_⟩
    have rl2 := wk.yld i H2 _ x H' hlt rl y
    have R4 : RelX C K H' env1 (L2.wipe σ own) ((x, .d xs[i]) :: ((.ref Da, .lst acc) :: (base ++ (sv e' σ own ++ fr)))) := ⟨R3.len, R3.has, rl2.perm (by
      refine List.Perm.trans ?_ List.perm_middle.symm
      refine List.Perm.cons _ ?_
      refine List.Perm.trans List.perm_middle ?_
      refine List.Perm.trans ?_ List.perm_middle.symm
      exact (List.perm_append_comm_assoc _ _ _).cons _)⟩
    rw [List.drop_eq_getElem_cons hlt] at q
    unfold cloop at q
    rw [← hb] at q
    refine ⟨env1, _, xs[i], R4, asgP_mono p (fun e2 ⟨hle, q⟩ σ2 ag R5 => ?_) (asgP_len p q)⟩
    have ls : σ2.length = σ.length := by rw [← R5.len, hle, R4.len, wipe_length]
    have wp : L2.wipe σ2 own = L2.wipe σ own := by
      apply List.ext_getElem?
      intro j
      rw [wipe_get, wipe_get, ls]
      by_cases hj : j ∈ own
      · rw [if_pos hj, if_pos hj]
      · rw [if_neg hj, if_neg hj, ag j fun z => hj (own2 j z), wipe_get, if_neg hj]
    refine ⟨wp, e2, _, R5, evIfs_mono ifs e0 (fun b e3 q H3 R6 => ?_) q⟩
    cases b with
    | false =>
      rw [if_neg (by decide)] at q ⊢
      refine ⟨acc, _, ?_, by rw [hb] at q; exact q⟩
      have := R6.wipe own
      rw [wp] at this
      exact this
    | true =>
      rw [if_pos rfl] at q ⊢
      refine tE_of R6 q fun r e4 y H4 q R7 => ?_
      obtain ⟨dy, e5, q, R8⟩ := R7.val q
      obtain ⟨pp, ws, G, ev, hp, g, hr, hx, hu⟩ := RelX.upd (xs := [dy]) (vs := [y]) R8.swap rfl
      obtain ⟨_, _, e9, hy, e10⟩ := hx
      cases e10; cases e9; cases ev
      refine ⟨ws, hp, by rw [← hr.length]; exact q.1, acc ++ [dy], _, ?_, by rw [hb] at q; exact q.2⟩
      have R9 := ((hu _ _ .non .non (hr.append (.one hy)) rfl).pop).wipe own
      rw [wp] at R9
      exact R9
  · have ei : i = xs.length := by omega
    subst ei
    refine .inl ⟨wk.stop H2 _ rl, ?_⟩
    rw [List.drop_length] at q
    unfold cloop at q
    refine q (.ref Da) H2 ?_
    show RelX C K H2 (VE.backE e' env1 own) σ ((.ref Da, .lst acc) :: fr)
    have R4 : RelX C K H2 (wipeE env1 own) σ ((.ref Da, .lst acc) :: (base ++ (sv e' σ own ++ fr))) := unwipe (σ' := L2.wipe σ own) (by rw [wipe_length]) (fun j hj => by rw [wipe_get, if_neg hj]) R3
    have R5 : RelX C K H2 (wipeE env1 own) σ (sv e' σ own ++ ((.ref Da, .lst acc) :: fr)) := by
      refine (R4.perm (fr' := base ++ ((.ref Da, .lst acc) :: (sv e' σ own ++ fr))) List.perm_middle.symm).sub ?_ |>.perm List.perm_middle.symm
      exact List.sublist_append_right _ _
    have := RelX.backE (fun i o h => R1.has i o h) R5
    rwa [backE_wipe fun _ h => h] at this
theorem snd_comp {own : List Nat} {p : Pat} {kd : ItK} {as ifs : Ts} {a : T} (ih : AllS B C Γ as) (ihc : AllS B C Γ ifs) (iha : Snd B C Γ a) : Snd B C Γ (.comp own p kd as ifs a) := by
  intro X sc ow S e h
  cases e with
  | ListComp elt gs scope pos =>
    cases gs with
    | nil => simp [chkE] at h
    | cons g gs =>
      cases gs with
      | cons _ _ => obtain ⟨_, _, _, _⟩ := g; simp [chkE] at h
      | nil =>
        obtain ⟨tg, iter, cs, z⟩ := g
        simp only [chkE, Bool.and_eq_true, decide_eq_true_eq, List.all_eq_true] at h
        obtain ⟨⟨⟨⟨⟨⟨⟨h1, h2⟩, h3⟩, h4⟩, h5⟩, h6⟩, h7⟩, h8⟩ := h
        subst h1
        obtain ⟨hi, hf⟩ := sndI S ih h6
        have ok := blkOk_by h2
        refine pt_plain (PE.weak (pe_lc (g := gP C X.K p) (tt := tAs C X.K Γ (evIfs Γ) ifs) (te := tE C X.K Γ a) S.calm (by rw [S.hN]; exact S.nd) hi (by rw [S.hN, S.hsc]; exact ok) (fun s H A cl fp => sndP (S.blk scope s H A cl fp) p tg h5) (fun s H A cl fp => cIfs (S.blk scope s H A cl fp) ihc h7) (fun s H A cl fp => (iha (S.blk scope s H A cl fp) elt h8).1) hf) fun σ H Q q => ?_) rfl
        rw [h3]
        exact lc_law (fun i hi => by
          have := h4 i hi
          simpa using this) q
  | _ => simp [chkE] at h

/-! ### every expression -/
mutual
theorem snd : ∀ a : T, Snd B C Γ a
  | .var i => snd_var i
  | .int i => snd_int i
  | .bl b => snd_bl b
  | .non => snd_non
  | .str s => snd_str s
  | .glob x i => snd_glob x i
  | .tup as => snd_tup (sndTs as)
  | .lst as => snd_lst (sndTs as)
  | .prim u as => snd_prim (sndTs as)
  | .chain o1 o2 a b c => snd_chain (snd a) (snd b) (snd c)
  | .and as => snd_and (sndTs as)
  | .or as => snd_or (sndTs as)
  | .not a => snd_not (snd a)
  | .ite c a b => snd_ite (snd c) (snd a) (snd b)
  | .call f as => snd_call (sndTs as)
  | .mut u i as => snd_mut (sndTs as)
  | .comp own p k as ifs e => snd_comp (sndTs as) (sndTs ifs) (snd e)
  | .dic0 t => by intro S e h; cases e <;> simp [chkE] at h
  | .new c as => by intro S e h; cases e <;> simp [chkE] at h
  | .meth m r as => by intro S e h; cases e <;> simp [chkE] at h
  | .fld c j e => by intro S e h; cases e <;> simp [chkE] at h
  | .isi e k => by intro S e h; cases e <;> simp [chkE] at h
  | .comp2 .. => by intro S e h; cases e <;> simp [chkE] at h
theorem sndTs : ∀ as : Ts, AllS B C Γ as
  | .nil => trivial
  | .cons a as => ⟨snd a, sndTs as⟩
end
end
end VE
/-! VE16: statements -/
namespace VE
open PySem PySem.Spec PyProof.Rows L2
/-! ### the check -/
def swB (sc : Scope) (x : Str) (px : Pos) : Expr → Bool
  | .ListComp _ _ scope pos => decide (sc.names.lookup x = some .local) && px.line == pos.line && !(scope.names.any fun (n, k) => n == x && (k == .local || k == .cell))
  | _ => false
def foldOk (ts : List Expr) : Expr → Bool
  | .Tuple vs _ _ => vs.all (foldedForSure 8) || !(ts.length == 2 || ts.length == 3)
  | _ => true
def locB (B : Tb) (F : List Nat) (sc : Scope) (i : Nat) (x : Str) : Bool := decide (B.N[i]? = some x) && decide (sc.names.lookup x = some .local) && !F.contains i
mutual
def chkS (B : Tb) (F : List Nat) (sc : Scope) : S → Stmt → Bool
  | .pass, .Pass _ => true
  | .pass, .Expr (.Constant (.str _) _ _) _ => true
  | .set i e, .Assign [.Name x _] v _ => tgOk B sc none i x && !F.contains i && chkE B e sc none v
  | .asg (.t ps) e, .Assign [.Tuple es _ _] v _ => chkPs B sc none ps es && (ps.vs.all fun i => !F.contains i) && chkE B e sc none v && foldOk es v
  | .par [i, j] (.cons a (.cons b .nil)), .Assign [.Tuple [.Name x px, .Name y py] _ _] (.Tuple [u, v] _ _) _ =>
    locB B F sc i x && locB B F sc j y && decide (i ≠ j) && chkEs B (.cons a (.cons b .nil)) sc none [u, v] && px.line == py.line && !([u, v].all (foldedForSure 8)) && !([u, v].all (constantsAlone 8))
  | .par [i, j, k] (.cons a (.cons b (.cons c .nil))), .Assign [.Tuple [.Name x px, .Name y py, .Name z pz] _ _] (.Tuple [u, v, w] _ _) _ =>
    locB B F sc i x && locB B F sc j y && locB B F sc k z && decide (i ≠ j) && decide (i ≠ k) && decide (j ≠ k) && chkEs B (.cons a (.cons b (.cons c .nil))) sc none [u, v, w] && px.line == py.line && px.line == pz.line && !([u, v, w].all (foldedForSure 8)) && !([u, v, w].all (constantsAlone 8))
  | .setIx i a e, .Assign [.Subscript (.Name x _) ie _] v _ => decide (B.N[i]? = some x) && visB sc x && nmOk x && chkE B a sc none ie && plainIx ie && chkE B e sc none v
  | .aug i op e, .AugAssign (.Name x _) op' v _ => decide (op = op') && (decide (op = .Add) || decide (op = .Sub)) && tgOk B sc none i x && !F.contains i && chkE B e sc none v
  | .augIx i a op e, .AugAssign (.Subscript (.Name x _) ie _) op' v _ => decide (op = op') && (decide (op = .Add) || decide (op = .Sub)) && decide (B.N[i]? = some x) && visB sc x && nmOk x && chkE B a sc none ie && plainIx ie && chkE B e sc none v
  | .expr e, .Expr v _ => chkE B e sc none v && (match v with | .ListComp .. => false | _ => true)
  | .ret e, .Return (some v) _ => chkE B e sc none v
  | .retN, .Return none _ => true
  | .brk, .Break _ => true
  | .cont, .Continue _ => true
  | .ifs c a b, .If t x y _ => chkE B c sc none t && chkSs B F sc a x && chkSs B F sc b y
  | .whl c b, .While t x [] _ => chkE B c sc none t && chkSs B F sc b x
  | .for_ p kd as b, .For tg iter x [] _ => chkP B sc none p tg && (p.vs.all fun i => !F.contains i) && chkI B kd as sc none tg iter && chkSs B F sc b x
  | .never, _ => true
  | _, _ => false
def chkSs (B : Tb) (F : List Nat) (sc : Scope) : Ss → List Stmt → Bool
  | .nil, [] => true
  | .cons s ss, st :: sts => chkS B F sc s st && chkSs B F sc ss sts
  | _, _ => false
end

/-! ### what a body must have -/
structure SupS (B : Tb) (C : CT) (Γ : Gam) (sc : Scope) (X : Cx) : Prop where
  sup : Sup B C Γ sc none X
  kind : sc.kind = .function
  pass : PassesOwn (model X.prog X.w) X.A X.env X.xe
def Fix (F : List Nat) (fx : Nat → Option (Option V)) (σ : Sg) : Prop := ∀ i ∈ F, σ[i]? = fx i
structure EndOk (C : CT) (K : PySem.W.Frag) (F : List Nat) (fx : Nat → Option (Option V)) (fr : Prs) (P : Post) (D : Ends) : Prop where
  nx : ∀ e σ H, P.nx e → RelX C K H e σ fr → Fix F fx σ → D.nx σ H
  bk : ∀ e σ H, P.bk e → RelX C K H e σ fr → Fix F fx σ → D.bk σ H
  ct : ∀ e σ H, P.ct e → RelX C K H e σ fr → Fix F fx σ → D.ct σ H
  rt : ∀ o e v σ H, P.rt o e → RelX C K H e σ ((v, o) :: fr) → Fix F fx σ → D.rt v H
  xc : ∀ x e, ¬ P.xc x e
def tS (C : CT) (K : PySem.W.Frag) (Γ : Gam) (F : List Nat) (s : S) : TS := fun D σ H => ∃ env fr fx P, RelX C K H env σ fr ∧ Fix F fx σ ∧ wpS Γ F s env P ∧ EndOk C K F fx fr P D
def tSs (C : CT) (K : PySem.W.Frag) (Γ : Gam) (F : List Nat) (s : Ss) : TS := fun D σ H => ∃ env fr fx P, RelX C K H env σ fr ∧ Fix F fx σ ∧ wpSs Γ F s env P ∧ EndOk C K F fx fr P D
section
variable {B : Tb} {C : CT} {Γ : Gam} {F : List Nat}
theorem PS.weak {X : Cx} {e : Stmt} {t t' : TS} (h : PS X e t) (w : ∀ D σ H, t' D σ H → t D σ H) : PS X e t' := ⟨fun pins s σ H D I q => h.run pins s σ H D I (w D σ H q)⟩
theorem PSs.weak {X : Cx} {e : List Stmt} {t t' : TS} (h : PSs X e t) (w : ∀ D σ H, t' D σ H → t D σ H) : PSs X e t' := ⟨fun pins s σ H D I q => h.run pins s σ H D I (w D σ H q)⟩
theorem PS.weakI {X : Cx} {e : Stmt} {t t' : TS} (h : PS X e t) (w : ∀ D σ H, X.N.length = σ.length → t' D σ H → t D σ H) : PS X e t' := ⟨fun pins s σ H D I q => h.run pins s σ H D I (w D σ H I.len.symm q)⟩
section
variable {K : PySem.W.Frag} {H : Hp} {env : Ev} {σ : Sg} {fr : Prs}
theorem ev_x {a : T} {P : Post} {k : R → Ev → Prop} (nx : ∀ x e, ¬ P.xc x e) (h : ev Γ a env P.xc k) : ev Γ a env E0x k := ev_mono a (fun x e z => (nx x e z).elim) (fun _ _ h => h) h
theorem evs_x {a : Ts} {P : Post} {k : List R → Ev → Prop} (nx : ∀ x e, ¬ P.xc x e) (h : evs Γ a env P.xc k) : evs Γ a env E0x k := evs_mono a (fun x e z => (nx x e z).elim) (fun _ _ h => h) h
theorem evsO_x {a : Ts} {P : Post} {k : List O → Ev → Prop} (nx : ∀ x e, ¬ P.xc x e) (h : evsO Γ a env P.xc k) : evsO Γ a env E0x k := evsO_mono a (fun x e z => (nx x e z).elim) (fun _ _ h => h) h
theorem Fix.set {fx : Nat → Option (Option V)} {i : Nat} {a : Option V} (h : Fix F fx σ) (hi : F.contains i = false) : Fix F fx (σ.set i a) := fun j hj => by
  rw [List.getElem?_set_ne (fun e => by subst e; rw [List.contains_iff_mem.mpr hj] at hi; cases hi)]
  exact h j hj
end
/-- the reading of operands whose objects are handed on -/
def tAO (C : CT) (K : PySem.W.Frag) (Γ : Gam) (as : Ts) : TA := fun σ H Q => ∃ env fr, RelX C K H env σ fr ∧ evsO Γ as env E0x fun os e => ∀ vs H', vs.length = os.length → RelX C K H' e σ (vs.zip os ++ fr) → Q vs H'
theorem sndAO {X : Cx} {sc : Scope} {ow : Option Scope} (S : Sup B C Γ sc ow X) : ∀ (as : Ts) (es : List Expr), chkEs B as sc ow es = true → PA X es (tAO C X.K Γ as)
  | .nil, es, h => by
    cases es with
    | cons _ _ => simp [chkEs] at h
    | nil =>
      refine PA.weak pa_nil fun σ H Q q => ?_
      obtain ⟨env, fr, R, q⟩ := q
      unfold evsO at q
      exact q [] H rfl R
  | .cons a as, es, h => by
    cases es with
    | nil => simp [chkEs] at h
    | cons e es =>
      simp only [chkEs, Bool.and_eq_true] at h
      refine PA.weak (pa_cons (snd a S e h.1.2).1 (sndAO S as es h.2) (star_cons h.1.1)) fun σ H Q q => ?_
      obtain ⟨env, fr, R, q⟩ := q
      unfold evsO at q
      refine tE_of R q fun r e1 v H' q1 R1 => ?_
      obtain ⟨o, e2, q2, R2⟩ := R1.get q1
      exact ⟨e2, _, R2, evsO_mono as e0 (fun os e3 q3 vs H3 hl R3 => q3 (v :: vs) H3 (by simp [hl]) (R3.perm List.perm_middle)) q2⟩

/-! ### names that are stored -/
theorem sw_false {e : Expr} {x : Str} {px : Pos} {l : Nat} {env : Env} {sc : Scope} {B : Tb} {t : T} {ow : Option Scope} (hs : env.scope = sc) (hk : sc.kind = .function) (hc : chkE B t sc ow e = true) (h : swB sc x px e = false) : swapsWith e (some (.Name x px)) l env = pure false := by
  cases e with
  | ListComp elt gs scope pos =>
    have hb : env.blockKind = .function := by unfold Env.blockKind; rw [hs, hk]; rfl
    unfold swB at h
    unfold swapsWith
    show (pure (env.blockKind == .function && env.kindOf x == some .local && px.line == pos.line && !(scope.names.any fun (n, k) => n == x && (k == .local || k == .cell))) : Sem Bool) = pure false
    congr 1
    have ky : (env.kindOf x == some .local) = decide (sc.names.lookup x = some .local) := by
      have : env.kindOf x = sc.names.lookup x := by rw [← hs]; rfl
      rw [this]
      by_cases e : sc.names.lookup x = some .local
      · rw [e]; rfl
      · rw [decide_eq_false e]; exact beq_eq_false_iff_ne.mpr e
    rw [hb, ky]
    simpa using h
  | SetComp => cases t <;> simp [chkE] at hc
  | DictComp => cases t <;> simp [chkE] at hc
  | _ => rfl
theorem sw_tup {e : Expr} {es : List Expr} {k : Nat} {pt : Pos} {l : Nat} {env : Env} : swapsWithSole [.Tuple es k pt] e l env = pure false := by
  cases e <;> rfl
theorem st_none {e : Expr} {es : List Expr} {k : Nat} {pt : Pos} {env : Env} (h : foldOk es e = true) : swappedStores [.Tuple es k pt] e env = pure none := by
  cases e with
  | Tuple vs k2 p2 =>
    unfold foldOk at h
    simp only [Bool.or_eq_true] at h
    unfold swappedStores
    simp only
    split
    · rfl
    · rename_i h1
      split
      · rfl
      · split
        · rfl
        · rcases h with h | h
          · rw [if_pos h]
          · exact absurd (by rw [h]; rfl) h1
  | _ => rfl
/-! ### stores in place, op= -/
def rAddI : TIp := fun x y H Q => (∃ i j, x = .int i ∧ y = .int j ∧ Q (.int (i + j)) H) ∨ (∃ i j, x = .str i ∧ y = .str j ∧ i.length + j.length ≤ sizeLine ∧ Q (.str (i ++ j)) H) ∨ rExt2 x y H Q
theorem ip_add3 {X : Cx} : PIp X .Add rAddI := by
  intro pins s σ H x y v u Q I rx ry h
  rcases h with ⟨i, j, e1, e2, q⟩ | h | h
  · exact ip_add pins s σ H x y v u Q I rx ry ⟨i, j, e1, e2, q⟩
  · exact iop_add_str pins s σ H x y v u Q I rx ry h
  · exact iop_ext pins s σ H x y v u Q I rx ry h
theorem iw_add {o : O} {y : D} {k : O → Prop} (h : iw .Add o y k) : (∃ i j, o = .d (.int i) ∧ y = .int j ∧ k (rI (i + j))) ∨ (∃ i j : Str, o = .d (.str i) ∧ y = .str j ∧ i.length + j.length ≤ sizeLine ∧ k (.d (.str (i ++ j)))) ∨ (∃ xs ys, o = .lst xs ∧ y = .lst ys ∧ xs.length + ys.length ≤ sizeLine ∧ k (.lst (xs ++ ys))) := by
  unfold iw at h
  split at h <;> first | exact .inl ⟨_, _, rfl, rfl, h⟩ | exact .inr (.inl ⟨_, _, rfl, rfl, h⟩) | exact .inr (.inr ⟨_, _, rfl, rfl, h⟩) | contradiction | exact h.elim
theorem iw_sub {o : O} {y : D} {k : O → Prop} (h : iw .Sub o y k) : ∃ i j, o = .d (.int i) ∧ y = .int j ∧ k (rI (i - j)) := by
  unfold iw at h
  split at h <;> first | exact ⟨_, _, rfl, rfl, h⟩ | contradiction | exact h.elim
theorem aug_add {K : PySem.W.Frag} {H : Hp} {env : Ev} {σ : Sg} {fr : Prs} {v w : V} {o : O} {y : D} {k : O → Prop} {Q : VK} (R : RelX C K H env σ ((v, o) :: (w, .d y) :: fr)) (h : iw .Add o y k) (q : ∀ o' z H', k o' → RelX C K H' env σ ((z, o') :: fr) → Q z H') : rAddI v w H Q := by
  rcases iw_add h with ⟨i, j, rfl, rfl, h⟩ | ⟨i, j, rfl, rfl, h⟩ | ⟨xs, ys, rfl, rfl, h⟩
  · have e1 : v = .int _ := R.top.rep
    have e2 : w = .int _ := R.pop.top.rep
    exact .inl ⟨_, _, e1, e2, q _ _ _ h (R.pop.pop.std fun G => rfl)⟩
  · have e1 : v = .str _ := R.top.rep
    have e2 : w = .str _ := R.pop.top.rep
    exact .inr (.inl ⟨_, _, e1, e2, h.1, q _ _ _ h.2 (R.pop.pop.std fun G => rfl)⟩)
  · obtain ⟨p, ws, G, ev, hp, g, hr, hx, hu⟩ := RelX.upd (xs := [.lst ys]) (vs := [w]) R rfl
    obtain ⟨_, _, e1, ⟨b, zs, e3, h3, h4⟩, e2⟩ := hx
    cases e2; cases e1; subst e3 ev
    exact .inr (.inr ⟨p, b, ws, zs, rfl, rfl, hp, g _ _ h3, by rw [← hr.length, ← h4.length]; exact h.1, q _ _ _ h.2 (hu _ _ .non .non (hr.append h4) rfl).pop⟩)
theorem aug_sub {K : PySem.W.Frag} {H : Hp} {env : Ev} {σ : Sg} {fr : Prs} {v w : V} {o : O} {y : D} {k : O → Prop} {Q : VK} (R : RelX C K H env σ ((v, o) :: (w, .d y) :: fr)) (h : iw .Sub o y k) (q : ∀ o' z H', k o' → RelX C K H' env σ ((z, o') :: fr) → Q z H') : ipI (fun i j => i - j) v w H Q := by
  obtain ⟨i, j, rfl, rfl, h⟩ := iw_sub h
  have e1 : v = .int _ := R.top.rep
  have e2 : w = .int _ := R.pop.top.rep
  exact ⟨_, _, e1, e2, q _ _ _ h (R.pop.pop.std fun G => rfl)⟩
theorem sw_is {o : O} {dk dx : D} {k : O → Prop} (h : sw o dk dx k) : ∃ xs i, o = .lst xs ∧ dk = .int i ∧ ∃ j, ixN xs.length i = some j ∧ k (.lst (xs.set j dx)) := by
  unfold sw at h
  split at h
  · exact ⟨_, _, rfl, rfl, h⟩
  · exact h.elim
theorem set_ok {K : PySem.W.Frag} {H : Hp} {env : Ev} {σ : Sg} {fr : Prs} {o : O} {v vk vx : V} {dk dx : D} {k : O → Prop} {Q : Hp → Prop} (R : RelX C K H env σ ((v, o) :: (vk, .d dk) :: (vx, .d dx) :: fr)) (h : sw o dk dx k) (q : ∀ o' H', k o' → RelX C K H' env σ ((v, o') :: fr) → Q H') : rSetL v vk vx H Q := by
  obtain ⟨xs, i, rfl, rfl, j, hj, h⟩ := sw_is h
  obtain ⟨p, ws, G, ev, hp, g, hr, hx, hu⟩ := RelX.upd (xs := [.int i, dx]) (vs := [vk, vx]) R rfl
  obtain ⟨_, _, e1, h1, _, _, e2, h2, e3⟩ := hx
  cases e3; cases e2; cases e1; cases h1; subst ev
  exact ⟨p, ws, _, j, rfl, rfl, hp, by rw [← hr.length]; exact hj, q _ _ h (hu _ _ .non .non (hr.set j h2) rfl).pop⟩
/-! ### every statement -/
theorem tg_of {sc : Scope} {X : Cx} (S : SupS B C Γ sc X) {i : Nat} {x : Str} (h : tgOk B sc none i x = true) : X.N[i]? = some x ∧ L2.Loc X.env.scope x ∧ (X.fn x = true ∨ X.env.scope.names.lookup x = some .local) := by
  have h0 := h
  unfold tgOk at h
  simp only [Bool.and_eq_true, Bool.or_eq_true, decide_eq_true_eq] at h
  obtain ⟨⟨h1, h2⟩, h3⟩ := h
  refine ⟨by rw [S.sup.hN]; exact h1, by show _ ∨ _; rw [S.sup.hsc]; exact h2, ?_⟩
  rcases S.sup.tg i x h0 with z | z
  · exact .inl z
  · exact .inr (by rw [S.sup.hsc]; exact z)
theorem lt_of {X : Cx} {i : Nat} {x : Str} {env : Ev} {σ : Sg} {K : PySem.W.Frag} {H : Hp} {fr : Prs} (hi : X.N[i]? = some x) (hl : X.N.length = σ.length) (R : RelX C K H env σ fr) : i < env.length := by
  rw [R.len, ← hl]; exact (List.getElem?_eq_some_iff.mp hi).1
theorem st_setIx {sc : Scope} {X : Cx} (S : SupS B C Γ sc X) {i : Nat} {a e : T} {st : Stmt} (h : chkS B F sc (.setIx i a e) st = true) : PS X st (tS C X.K Γ F (.setIx i a e)) := by
  cases st with
  | Assign ts v pos =>
    cases ts with
    | nil => simp [chkS] at h
    | cons t ts =>
      cases ts with
      | cons _ _ => cases t <;> first | exact absurd h Bool.false_ne_true | (rename_i o _ _; cases o <;> exact absurd h Bool.false_ne_true)
      | nil =>
        cases t with
        | Subscript o ie p2 =>
          cases o with
          | Name x px =>
            simp only [chkS, Bool.and_eq_true, decide_eq_true_eq] at h
            obtain ⟨⟨⟨⟨⟨h1, h2⟩, h3⟩, h4⟩, h5⟩, h6⟩ := h
            have hv : chkE B (.var i) sc none (.Name x px) = true := by simp only [chkE, Bool.and_eq_true, decide_eq_true_eq]; exact ⟨⟨h1, h2⟩, h3⟩
            have var := (snd (B := B) (C := C) (Γ := Γ) (.var i) S.sup (.Name x px) hv).1
            refine PS.weak (ps_asg (snd e S.sup v h6).1 (pg_sub var (snd a S.sup ie h4).1 set_list (by intro v; cases ie <;> first | rfl | cases h5)) (by cases v <;> rfl) (by cases v <;> rfl)) fun D σ H q => ?_
            obtain ⟨env, fr, fx, P, R, fi, q, E⟩ := q
            unfold wpS at q
            refine tE_of R (ev_x E.xc q) fun r e1 w H1 q1 R1 => ?_
            obtain ⟨x, e2, ⟨hl, q2⟩, R2⟩ := R1.val q1
            obtain ⟨ys, hs⟩ := lstAt_is hl
            refine ⟨e2, _, R2, ?_⟩
            unfold ev
            rw [hs]
            intro u H2 R3
            have R3' : RelX C X.K H2 e2 σ ((w, .d x) :: fr) ∧ σ[i]? = some (some u) ∧ _ := R3
            obtain ⟨R4, hu, _⟩ := R3'
            refine tE_of R4 (ev_x E.xc q2) fun ra e3 vk H3 q3 R5 => ?_
            obtain ⟨dk, e4, q4, R6⟩ := R5.val q3
            split at q4
            · rename_i o hs4
              exact set_ok (R6.take hs4 hu) q4 fun o' H' qq R7 => E.nx _ _ _ qq (R7.back' hu) fi
            · exact q4.elim
          | _ => simp [chkS] at h
        | _ => simp [chkS] at h
  | _ => simp [chkS] at h
theorem st_two {env : Env} {sc : Scope} {x y : Str} {px py pt p2 : Pos} {k k2 : Nat} {u v : Expr} (hs : env.scope = sc) (hk : sc.kind = .function) (hx : sc.names.lookup x = some .local) (hy : sc.names.lookup y = some .local) (hl : (px.line == py.line) = true) (ne : x ≠ y) (n1 : noStar u = true) (n2 : noStar v = true)
    (hf : [u, v].all (foldedForSure 8) = false) (hc : [u, v].all (constantsAlone 8) = false) : swappedStores [.Tuple [.Name x px, .Name y py] k pt] (.Tuple [u, v] k2 p2) env = pure (some [x, y]) := by
  have hb : env.blockKind = .function := by unfold Env.blockKind; rw [hs, hk]; rfl
  have kx : env.kindOf x = some .local := by rw [← hx, ← hs]; rfl
  have ky : env.kindOf y = some .local := by rw [← hy, ← hs]; rfl
  have su : ∀ e : Expr, noStar e = true → (match e with | .Starred .. => true | _ => false) = false := by intro e h; cases e <;> first | rfl | cases h
  have l2 : (py.line == px.line) = true := by rw [beq_iff_eq] at hl ⊢; exact hl.symm
  unfold swappedStores
  simp only [hb, List.filterMap_cons, List.filterMap_nil, kx, ky, List.any_cons, List.any_nil, su u n1, su v n2, hf, hc, List.head?_cons, Option.map_some, Option.getD_some, Expr.pos, l2, beq_self_eq_true, Bool.and_self, if_true, List.length_cons, List.length_nil, List.eraseDups_cons]
  have e : (y == x) = false := by rw [beq_eq_false_iff_ne]; exact fun z => ne z.symm
  simp [e]
  rw [if_neg, if_pos (show [y].eraseDups.length = 1 from rfl)]
  rintro (h | h)
  · cases u <;> first | (cases h; done) | (cases n1; done)
  · cases v <;> first | (cases h; done) | (cases n2; done)
theorem st_three {env : Env} {sc : Scope} {x y z : Str} {px py pz pt p2 : Pos} {k k2 : Nat} {u v w : Expr} (hs : env.scope = sc) (hk : sc.kind = .function) (hx : sc.names.lookup x = some .local) (hy : sc.names.lookup y = some .local) (hz : sc.names.lookup z = some .local) (hl : (px.line == py.line) = true) (hl2 : (px.line == pz.line) = true) (ne : x ≠ y) (ne2 : x ≠ z) (ne3 : y ≠ z) (n1 : noStar u = true) (n2 : noStar v = true) (n3 : noStar w = true)
    (hf : [u, v, w].all (foldedForSure 8) = false) (hc : [u, v, w].all (constantsAlone 8) = false) : swappedStores [.Tuple [.Name x px, .Name y py, .Name z pz] k pt] (.Tuple [u, v, w] k2 p2) env = pure (some [x, y, z]) := by
  have hb : env.blockKind = .function := by unfold Env.blockKind; rw [hs, hk]; rfl
  have kx : env.kindOf x = some .local := by rw [← hx, ← hs]; rfl
  have ky : env.kindOf y = some .local := by rw [← hy, ← hs]; rfl
  have kz : env.kindOf z = some .local := by rw [← hz, ← hs]; rfl
  have l2 : (py.line == px.line) = true := by rw [beq_iff_eq] at hl ⊢; exact hl.symm
  have l3 : (pz.line == px.line) = true := by rw [beq_iff_eq] at hl2 ⊢; exact hl2.symm
  unfold swappedStores
  simp only [hb, List.filterMap_cons, List.filterMap_nil, kx, ky, kz, List.any_cons, List.any_nil, hf, hc, List.head?_cons, Option.map_some, Option.getD_some, Expr.pos, l2, l3, beq_self_eq_true, Bool.and_self, if_true, List.length_cons, List.length_nil, List.eraseDups_cons]
  have e : (y == x) = false := by rw [beq_eq_false_iff_ne]; exact fun z => ne z.symm
  have e2 : (z == x) = false := by rw [beq_eq_false_iff_ne]; exact fun z => ne2 z.symm
  have e3 : (z == y) = false := by rw [beq_eq_false_iff_ne]; exact fun z => ne3 z.symm
  simp [e, e2, e3]
  rw [if_neg, if_pos]
  · have : ([y, z].eraseDups) = [y, z] := by
      rw [List.eraseDups_cons]
      simp [e3]
      rfl
    rw [this]; rfl
  rintro (h | h | h)
  · cases u <;> first | (cases h; done) | (cases n1; done)
  · cases v <;> first | (cases h; done) | (cases n2; done)
  · cases w <;> first | (cases h; done) | (cases n3; done)
theorem evsO_len : ∀ (as : Ts) {env : Ev} {E : Ex → Ev → Prop} {k : List O → Ev → Prop}, evsO Γ as env E k → evsO Γ as env E fun os e => os.length = as.len ∧ k os e
  | .nil, _, _, _, h => by unfold evsO at h ⊢; exact ⟨rfl, h⟩
  | .cons a as, _, _, _, h => by
    unfold evsO at h ⊢
    exact ev_mono a (fun _ _ h => h) (fun r e h => get_mono (fun o e1 h => evsO_mono as (fun _ _ h => h) (fun os e2 ⟨h1, h2⟩ => ⟨by simp [Ts.len, h1], h2⟩) (evsO_len as h)) h) h
theorem loc_of {sc : Scope} {X : Cx} (S : SupS B C Γ sc X) {i : Nat} {x : Str} (h : locB B F sc i x = true) : X.N[i]? = some x ∧ sc.names.lookup x = some .local ∧ F.contains i = false := by
  unfold locB at h
  simp only [Bool.and_eq_true, decide_eq_true_eq, Bool.not_eq_true'] at h
  exact ⟨by rw [S.sup.hN]; exact h.1.1, h.1.2, h.2⟩
theorem nd_ne {N : List Str} (nd : N.Nodup) {i j : Nat} {x y : Str} (hi : N[i]? = some x) (hj : N[j]? = some y) (h : i ≠ j) : x ≠ y := fun e => by
  subst e
  obtain ⟨l1, e1⟩ := List.getElem?_eq_some_iff.mp hi
  obtain ⟨l2, e2⟩ := List.getElem?_eq_some_iff.mp hj
  exact h ((List.getElem?_inj l1 nd).mp (hi.trans hj.symm))
theorem st_par2 {sc : Scope} {X : Cx} (S : SupS B C Γ sc X) {i j : Nat} {a b : T} {x y : Str} {px py pt p2 pos : Pos} {k k2 : Nat} {u v : Expr}
    (h : chkS B F sc (.par [i, j] (.cons a (.cons b .nil))) (.Assign [.Tuple [.Name x px, .Name y py] k pt] (.Tuple [u, v] k2 p2) pos) = true) : PS X (.Assign [.Tuple [.Name x px, .Name y py] k pt] (.Tuple [u, v] k2 p2) pos) (tS C X.K Γ F (.par [i, j] (.cons a (.cons b .nil)))) := by
  unfold chkS at h
  simp only [Bool.and_eq_true, Bool.not_eq_true', decide_eq_true_eq] at h
  obtain ⟨⟨⟨⟨⟨⟨h1, h2⟩, h3⟩, h4⟩, h5⟩, h6⟩, h7⟩ := h
  obtain ⟨hi, li, fi'⟩ := loc_of S h1
  obtain ⟨hj, lj, fj'⟩ := loc_of S h2
  have hn := h4
  simp only [chkEs, Bool.and_eq_true] at hn
  have nd : X.N.Nodup := by rw [S.sup.hN]; exact S.sup.nd
  refine PS.weakI (ps_par S.sup.calm nd hi hj h3 (by rw [S.sup.hsc]; exact li) (by rw [S.sup.hsc]; exact lj) (sndAO S.sup _ _ h4) (st_two S.sup.hsc S.kind li lj h5 (nd_ne nd hi hj h3) hn.1.1 hn.2.1.1 h6 h7)) fun D σ H hl q => ?_
  obtain ⟨env, fr, fx, P, R, fi, q, E⟩ := q
  unfold wpS at q
  refine ⟨env, fr, R, evsO_mono _ e0 (fun os e q vs H' hv R' => ?_) (evsO_x E.xc (evsO_len _ q))⟩
  obtain ⟨ho, q⟩ := q
  match os, vs, ho, hv, R', q with
  | [o1, o2], [v1, v2], _, _, R', q =>
    have R1 : RelX C X.K H' e σ ((v1, o1) :: (v2, o2) :: fr) := R'
    have R2 := (R1.put (i := i) (lt_of hi hl R1))
    have R3 := R2.put (i := j) (lt_of hj (by rw [List.length_set]; exact hl) R2)
    exact ⟨v1, v2, rfl, E.nx _ _ _ q R3 ((fi.set fi').set fj')⟩
theorem st_par3 {sc : Scope} {X : Cx} (S : SupS B C Γ sc X) {i j l : Nat} {a b c : T} {x y z : Str} {px py pz pt p2 pos : Pos} {k k2 : Nat} {u v w : Expr}
    (h : chkS B F sc (.par [i, j, l] (.cons a (.cons b (.cons c .nil)))) (.Assign [.Tuple [.Name x px, .Name y py, .Name z pz] k pt] (.Tuple [u, v, w] k2 p2) pos) = true) : PS X (.Assign [.Tuple [.Name x px, .Name y py, .Name z pz] k pt] (.Tuple [u, v, w] k2 p2) pos) (tS C X.K Γ F (.par [i, j, l] (.cons a (.cons b (.cons c .nil))))) := by
  unfold chkS at h
  simp only [Bool.and_eq_true, Bool.not_eq_true', decide_eq_true_eq] at h
  obtain ⟨⟨⟨⟨⟨⟨⟨⟨⟨⟨h1, h2⟩, h3⟩, n1⟩, n2⟩, n3⟩, h4⟩, h5⟩, h5'⟩, h6⟩, h7⟩ := h
  obtain ⟨hi, li, fi'⟩ := loc_of S h1
  obtain ⟨hj, lj, fj'⟩ := loc_of S h2
  obtain ⟨hk, lk, fk'⟩ := loc_of S h3
  have hn := h4
  simp only [chkEs, Bool.and_eq_true] at hn
  have nd : X.N.Nodup := by rw [S.sup.hN]; exact S.sup.nd
  refine PS.weakI (ps_par3 S.sup.calm nd hi hj hk n1 n2 n3 (by rw [S.sup.hsc]; exact li) (by rw [S.sup.hsc]; exact lj) (by rw [S.sup.hsc]; exact lk) (sndAO S.sup _ _ h4)
    (st_three S.sup.hsc S.kind li lj lk h5 h5' (nd_ne nd hi hj n1) (nd_ne nd hi hk n2) (nd_ne nd hj hk n3) hn.1.1 hn.2.1.1 hn.2.2.1.1 h6 h7)) fun D σ H hl q => ?_
  obtain ⟨env, fr, fx, P, R, fi, q, E⟩ := q
  unfold wpS at q
  refine ⟨env, fr, R, evsO_mono _ e0 (fun os e q vs H' hv R' => ?_) (evsO_x E.xc (evsO_len _ q))⟩
  obtain ⟨ho, q⟩ := q
  match os, vs, ho, hv, R', q with
  | [o1, o2, o3], [v1, v2, v3], _, _, R', q =>
    have R1 : RelX C X.K H' e σ ((v1, o1) :: (v2, o2) :: (v3, o3) :: fr) := R'
    have R2 := (R1.put (i := i) (lt_of hi hl R1))
    have R3 := R2.put (i := j) (lt_of hj (by rw [List.length_set]; exact hl) R2)
    have R4 := R3.put (i := l) (lt_of hk (by rw [List.length_set, List.length_set]; exact hl) R3)
    exact ⟨v1, v2, v3, rfl, E.nx _ _ _ q R4 (((fi.set fi').set fj').set fk')⟩
theorem st_par {sc : Scope} {X : Cx} (S : SupS B C Γ sc X) {is : List Nat} {as : Ts} {st : Stmt} (h : chkS B F sc (.par is as) st = true) : PS X st (tS C X.K Γ F (.par is as)) := by
  obtain ⟨ts, v, pos, rfl⟩ : ∃ ts v pos, st = .Assign ts v pos := by cases st <;> first | exact ⟨_, _, _, rfl⟩ | exact absurd h (by unfold chkS; simp)
  match is, as, ts, v, h with
  | [i, j], .cons a (.cons b .nil), [.Tuple [.Name x px, .Name y py] _ _], .Tuple [u, v] _ _, h => exact st_par2 S h
  | [i, j, l], .cons a (.cons b (.cons c .nil)), [.Tuple [.Name x px, .Name y py, .Name z pz] _ _], .Tuple [u, v, w] _ _, h => exact st_par3 S h
def rGL (K : PySem.W.Frag) : V → V → Hp → VK → Prop := fun x y H Q => ∃ p xs i v, x = .ref p ∧ y = .int i ∧ SqL K H p xs ∧ atI xs i = some v ∧ Q v H
theorem get_list {X : Cx} : PGet X (rGL X.K) := by
  intro pins s σ H x y v u Q I rx ry h
  obtain ⟨p, xs, i, z, rfl, rfl, hq, he, q⟩ := h
  cases rx
  obtain ⟨t, rfl⟩ := ry
  obtain ⟨its, r, pl, hz⟩ := I.list hq
  obtain ⟨j, h1, h2, h3, h4, h5⟩ := atI_get he
  obtain ⟨w, ew, rw'⟩ := r.get h2
  have hl := r.length
  have hn := line63
  have fin : EP X pins σ Q w s := ⟨z, H, I, rw', q⟩
  by_cases h0 : 0 ≤ i
  · have hj : i.toNat = j := by
      rw [seqIndex_of h0 h5] at h1
      exact Option.some.inj h1
    exact wpAny_getItem_list pl.isList h0 (by omega) (by rw [hj]; simpa using ew) fin
  · have hj : (i + (its.toArray.size : Int)).toNat = j := by
      rw [seqIndex_neg (by omega) h4] at h1
      rw [List.size_toArray, ← hl]
      exact Option.some.inj h1
    exact wpAny_getItem_list_neg pl.isList (by omega) (by rw [List.size_toArray] <;> omega) (by omega) (by rw [hj]; simpa using ew) fin
theorem at_get {K : PySem.W.Frag} {G : Hp} {xs : List D} {vs : List V} {i : Int} {x : D} (h2 : Reps C K G xs vs) (hx : atI xs i = some x) : ∃ w, atI vs i = some w ∧ Rep C K G x w := by
  unfold atI at hx ⊢
  rw [← h2.length]
  cases e : ixN xs.length i with
  | none => rw [e] at hx; cases hx
  | some j =>
    rw [e] at hx
    exact h2.get hx
theorem st_augIx {sc : Scope} {X : Cx} (S : SupS B C Γ sc X) {i : Nat} {a e : T} {op : Operator} {st : Stmt} (h : chkS B F sc (.augIx i a op e) st = true) : PS X st (tS C X.K Γ F (.augIx i a op e)) := by
  obtain ⟨t, op', v, pos, rfl⟩ : ∃ t op' v pos, st = .AugAssign t op' v pos := by cases st <;> first | exact ⟨_, _, _, _, rfl⟩ | exact absurd h (by unfold chkS; simp)
  match t, h with
  | .Subscript (.Name x px) ie p2, h =>
    unfold chkS at h
    simp only [Bool.and_eq_true, Bool.or_eq_true, decide_eq_true_eq] at h
    obtain ⟨⟨⟨⟨⟨⟨⟨h1, h2⟩, h3⟩, h4⟩, h5⟩, h6⟩, h7⟩, h8⟩ := h
    subst h1
    have hv : chkE B (.var i) sc none (.Name x px) = true := by simp only [chkE, Bool.and_eq_true, decide_eq_true_eq]; exact ⟨⟨h3, h4⟩, h5⟩
    have var := (snd (B := B) (C := C) (Γ := Γ) (.var i) S.sup (.Name x px) hv).1
    have ha : ∀ ov iv new, augStore ie ov iv new = (do holding [new, ov, iv] (setItem ov iv new); release [new, ov, iv] []; pure .next) := by intro ov iv new; cases ie <;> first | rfl | cases h7
    have fin : ∀ {ti : TIp}, (∀ {K : PySem.W.Frag} {H : Hp} {env : Ev} {σ : Sg} {fr : Prs} {v w : V} {o : O} {y : D} {k : O → Prop} {Q : VK}, RelX C K H env σ ((v, o) :: (w, .d y) :: fr) → iw op o y k → (∀ o' z H', k o' → RelX C K H' env σ ((z, o') :: fr) → Q z H') → ti v w H Q) →
        ∀ D σ H, tS C X.K Γ F (.augIx i a op e) D σ H → tAugS (tE C X.K Γ (.var i)) (tE C X.K Γ a) (tE C X.K Γ e) (rGL X.K) ti rSetL D σ H := by
      intro ti hti Dd σ H q
      obtain ⟨env, fr, fx, P, R, fi, q, E⟩ := q
      unfold wpS at q
      obtain ⟨hl, q⟩ := q
      obtain ⟨ys, hs⟩ := lstAt_is hl
      refine ⟨env, _, R, ?_⟩
      unfold ev
      rw [hs]
      intro u H2 R3
      have R3' : RelX C X.K H2 env σ fr ∧ σ[i]? = some (some u) ∧ _ := R3
      obtain ⟨R4, hu, _⟩ := R3'
      refine tE_of R4 (ev_x E.xc q) fun ra e1 vk H3 q3 R5 => ?_
      obtain ⟨dk, e2, q4, R6⟩ := R5.val q3
      split at q4
      · rename_i xs hs4
        obtain ⟨k, dv, e5, hat, q5⟩ := q4
        subst e5
        have ek : vk = .int k := R6.top.rep
        have R7 := R6.take hs4 hu
        -- the item
        obtain ⟨p, ws, G, ev, hp, g, hr, hx, hu2⟩ := RelX.upd (xs := [.int k]) (vs := [vk]) R7 rfl
        obtain ⟨vi, hvi, hri⟩ := at_get hr hat
        refine ⟨p, ws, k, vi, ev, ek, .inl (.of hp), hvi, ?_⟩
        have same : L2.upd H3 p (.lst ws) = H3 := by
          funext b
          by_cases e : b = p
          · subst e; rw [upd_same, hp]
          · rw [upd_ne e]
        have R8 := hu2 xs ws dv vi hr hri
        rw [same] at R8
        have R9 : RelX C X.K H3 e2 σ ((vi, .d dv) :: (vk, .d (.int k)) :: fr) := by
          have e9 : (e2.set i none).set i (some (.lst xs)) = e2 := by
            rw [List.set_set]
            apply List.ext_getElem?
            intro j
            by_cases z : i = j
            · subst z; rw [List.getElem?_set_self (slot_lt hs4), slot_some.mp hs4]
            · rw [List.getElem?_set_ne z]
          have Ra := R8.swap.back' hu
          have Rb : RelX C X.K H3 e2 σ ((vi, .d dv) :: fr) := by
            have : e2.set i (some (.lst xs)) = e2 := by rw [List.set_set] at e9; exact e9
            rwa [this] at Ra
          subst ek
          exact (Rb.std (v := .int k) (x := .int k) fun G => rfl).swap
        refine tE_of R9 (ev_x E.xc q5) fun r e3 w H4 q6 Rc => ?_
        obtain ⟨y, e4, q7, Rd⟩ := Rc.val q6
        refine hti (Rd.swap) q7 fun z vz H5 q8 Re => ?_
        split at q8
        · rename_i o2 hs5
          have Rf := (Re.freeze).take hs5 hu
          exact set_ok (Rf.perm (List.Perm.cons _ (.swap _ _ _))) q8 fun o' H' qq Rg => E.nx _ _ _ qq (Rg.back' hu) fi
        · exact q8.elim
      · exact q4.elim
    rcases h2 with h2 | h2
    · subst h2
      exact PS.weak (ps_augS var (snd a S.sup ie h6).1 get_list (snd e S.sup v h8).1 ip_add3 set_list ha) (fin fun R h q => aug_add R h q)
    · subst h2
      exact PS.weak (ps_augS var (snd a S.sup ie h6).1 get_list (snd e S.sup v h8).1 ip_sub set_list ha) (fin fun R h q => aug_sub R h q)
mutual
theorem sndS {sc : Scope} {X : Cx} (S : SupS B C Γ sc X) : ∀ (s : VE.S) (st : Stmt), chkS B F sc s st = true → PS X st (tS C X.K Γ F s)
  | .pass, st, h => by
    cases st with
    | Pass pos =>
      refine PS.weak ps_pass fun D σ H q => ?_
      obtain ⟨env, fr, fx, P, R, fi, q, E⟩ := q
      unfold wpS at q
      exact E.nx _ _ _ q R fi
    | Expr e pos =>
      cases e with
      | Constant c k p =>
        cases c with
        | str s =>
          refine PS.weak ps_doc fun D σ H q => ?_
          obtain ⟨env, fr, fx, P, R, fi, q, E⟩ := q
          unfold wpS at q
          exact E.nx _ _ _ q R fi
        | _ => simp [chkS] at h
      | _ => simp [chkS] at h
    | _ => simp [chkS] at h
  | .set i e, st, h => by
    cases st with
    | Assign ts v pos =>
      cases ts with
      | nil => simp [chkS] at h
      | cons t ts =>
        cases ts with
        | cons _ _ => cases t <;> simp [chkS] at h
        | nil =>
          cases t with
          | Name x px =>
            simp only [chkS, Bool.and_eq_true, Bool.not_eq_true'] at h
            obtain ⟨⟨h1, h2⟩, h3⟩ := h
            obtain ⟨hi, hx, hf⟩ := tg_of S h1
            have fin : ∀ D σ H, X.N.length = σ.length → tS C X.K Γ F (.set i e) D σ H → tAsg (tE C X.K Γ e) (gName i) D σ H := by
              intro D σ H hl q
              obtain ⟨env, fr, fx, P, R, fi, q, E⟩ := q
              unfold wpS at q
              refine tE_of R (ev_x E.xc q) fun r e1 w H1 q1 R1 => ?_
              obtain ⟨o, e2, q2, R2⟩ := R1.get q1
              exact E.nx _ _ _ q2 (R2.put (lt_of hi hl R2)) (fi.set h2)
            by_cases sw : swB sc x px v = true
            · cases v with
              | ListComp elt gs scope p2 =>
                unfold swB at sw
                simp only [Bool.and_eq_true, decide_eq_true_eq, Bool.not_eq_true'] at sw
                obtain ⟨⟨w1, w2⟩, w3⟩ := sw
                cases e with
                | comp own p kd as ifs a =>
                  cases gs with
                  | nil => simp [chkE] at h3
                  | cons g gs =>
                    cases gs with
                    | cons _ _ => obtain ⟨_, _, _, _⟩ := g; simp [chkE] at h3
                    | nil =>
                      obtain ⟨tg, iter, cs, z⟩ := g
                      simp only [chkE, Bool.and_eq_true, decide_eq_true_eq, List.all_eq_true] at h3
                      obtain ⟨⟨⟨⟨⟨⟨⟨k1, k2⟩, k3⟩, k4⟩, k5⟩, k6⟩, k7⟩, k8⟩ := h3
                      subst k1
                      obtain ⟨hi2, hf2⟩ := sndI S.sup (sndTs (B := B) (C := C) (Γ := Γ) as) k6
                      have ok := blkOk_by k2
                      refine PS.weakI (ps_setLc (g := gP C X.K p) (tt := tAs C X.K Γ (evIfs Γ) ifs) (te := tE C X.K Γ a) S.sup.calm (by rw [S.sup.hN]; exact S.sup.nd) hi (by rw [S.sup.hsc]; exact w1) (sw_true (by rw [S.sup.hsc]; exact S.kind) (by rw [S.sup.hsc]; exact w1) w2 w3) hi2 (by rw [S.sup.hN, S.sup.hsc]; exact ok)
                        (fun s H A cl fp => sndP (S.sup.blk scope s H A cl fp) p tg k5) (fun s H A cl fp => cIfs (S.sup.blk scope s H A cl fp) (sndTs ifs) k7) (fun s H A cl fp => (snd a (S.sup.blk scope s H A cl fp) elt k8).1) hf2) fun D σ H hl q => ?_
                      have q2 := fin D σ H hl q
                      show tLc _ _ _ _ _ σ H _
                      rw [k3]
                      exact lc_law (fun i hi => by
                        have := k4 i hi
                        simpa using this) q2
                | _ => simp [chkE] at h3
              | _ => simp [swB] at sw
            · exact PS.weakI (ps_set (by rw [S.sup.hN]; exact S.sup.nd) hi hx (snd e S.sup v h3).1 (sw_false S.sup.hsc S.kind h3 (by simpa using sw)) hf) fin
          | _ => simp [chkS] at h
    | _ => simp [chkS] at h
  | .asg (.v i) e, st, h => by cases st <;> simp [chkS] at h
  | .asg (.t ps) e, st, h => by
    cases st with
    | Assign ts v pos =>
      cases ts with
      | nil => simp [chkS] at h
      | cons t ts =>
        cases ts with
        | cons _ _ => cases t <;> simp [chkS] at h
        | nil =>
          cases t with
          | Tuple es k pt =>
            simp only [chkS, Bool.and_eq_true, List.all_eq_true, Bool.not_eq_true'] at h
            obtain ⟨⟨⟨h1, h2⟩, h3⟩, h4⟩ := h
            have g := sndP S.sup (.t ps) (.Tuple es k pt) (by simp only [chkP]; exact h1)
            refine PS.weak (ps_asg (snd e S.sup v h3).1 g sw_tup (st_none h4)) fun D σ H q => ?_
            obtain ⟨env, fr, fx, P, R, fi, q, E⟩ := q
            unfold wpS at q
            refine tE_of R (ev_x E.xc q) fun r e1 w H1 q1 R1 => ?_
            obtain ⟨x, e2, q2, R2⟩ := R1.val q1
            refine ⟨e2, fr, x, R2, asgP_mono _ (fun e3 q3 σ' ag R3 => E.nx _ _ _ q3 R3 fun j hj => ?_) q2⟩
            rw [ag j fun z => ?_]
            · exact fi j hj
            · have := h2 j z
              rw [List.contains_iff_mem.mpr hj] at this; cases this
          | _ => simp [chkS] at h
    | _ => simp [chkS] at h
  | .par is as, st, h => st_par S h
  | .setIx i a e, st, h => st_setIx S h
  | .aug i op e, st, h => by
    cases st with
    | AugAssign t op' v pos =>
      cases t with
      | Name x px =>
        simp only [chkS, Bool.and_eq_true, Bool.or_eq_true, decide_eq_true_eq, Bool.not_eq_true'] at h
        obtain ⟨⟨⟨⟨h1, h2⟩, h3⟩, h4⟩, h5⟩ := h
        subst h1
        obtain ⟨hi, hx, hf⟩ := tg_of S h3
        have fin : ∀ {ti : TIp}, (∀ {K : PySem.W.Frag} {H : Hp} {env : Ev} {σ : Sg} {fr : Prs} {v w : V} {o : O} {y : D} {k : O → Prop} {Q : VK}, RelX C K H env σ ((v, o) :: (w, .d y) :: fr) → iw op o y k → (∀ o' z H', k o' → RelX C K H' env σ ((z, o') :: fr) → Q z H') → ti v w H Q) →
            ∀ D σ H, X.N.length = σ.length → tS C X.K Γ F (.aug i op e) D σ H → tAug i (tE C X.K Γ e) ti D σ H := by
          intro ti hti D σ H hl q
          obtain ⟨env, fr, fx, P, R, fi, q, E⟩ := q
          unfold wpS at q
          obtain ⟨hs, q⟩ := q
          obtain ⟨o0, hs0⟩ := Option.isSome_iff_exists.mp hs
          obtain ⟨u, hu⟩ := R.has i o0 hs0
          refine ⟨u, hu, tE_of R (ev_x E.xc q) fun r e1 w H1 q1 R1 => ?_⟩
          obtain ⟨y, e2, q2, R2⟩ := R1.val q1
          split at q2
          · rename_i o hs2
            refine hti (R2.take hs2 hu) q2 fun o' z H' qq R3 => E.nx _ _ _ qq ?_ (fi.set h4)
            have R4 := R3.put (i := i) (lt_of hi hl R3)
            rwa [List.set_set] at R4
          · exact q2.elim
        rcases h2 with h2 | h2
        · subst h2
          exact PS.weakI (ps_aug (by rw [S.sup.hN]; exact S.sup.nd) hi hx (snd e S.sup v h5).1 ip_add3 hf) (fin fun R h q => aug_add R h q)
        · subst h2
          exact PS.weakI (ps_aug (by rw [S.sup.hN]; exact S.sup.nd) hi hx (snd e S.sup v h5).1 ip_sub hf) (fin fun R h q => aug_sub R h q)
      | _ => simp [chkS] at h
    | _ => simp [chkS] at h
  | .augIx i a op e, st, h => st_augIx S h
  | .setF c i j e, st, h => by cases st <;> simp [chkS] at h
  | .expr e, st, h => by
    cases st with
    | Expr v pos =>
      simp only [chkS, Bool.and_eq_true] at h
      have sw : swapsWith v none pos.line X.env = pure false := by
        cases v with
        | ListComp => cases h.2
        | SetComp => have := h.1; cases e <;> simp [chkE] at this
        | DictComp => have := h.1; cases e <;> simp [chkE] at this
        | _ => rfl
      refine PS.weak (ps_expr (snd e S.sup v h.1).1 sw) fun D σ H q => ?_
      obtain ⟨env, fr, fx, P, R, fi, q, E⟩ := q
      unfold wpS at q
      exact tE_of R (ev_x E.xc q) fun r e1 w H1 q1 R1 => E.nx _ _ _ q1 R1.base fi
    | _ => simp [chkS] at h
  | .ret e, st, h => by
    cases st with
    | Return v pos =>
      cases v with
      | none => simp [chkS] at h
      | some v =>
        simp only [chkS] at h
        refine PS.weak (ps_ret (snd e S.sup v h).1) fun D σ H q => ?_
        obtain ⟨env, fr, fx, P, R, fi, q, E⟩ := q
        unfold wpS at q
        refine tE_of R (ev_x E.xc q) fun r e1 w H1 q1 R1 => ?_
        cases r with
        | obj o =>
          obtain ⟨o', e2, q2, R2⟩ := R1.get q1
          exact E.rt _ _ _ _ _ q2 R2 fi
        | path j =>
          simp only at q1
          split at q1
          · obtain ⟨x, e2, q2, R2⟩ := R1.val q1
            exact E.rt _ _ _ _ _ q2 R2 fi
          · split at q1
            · rename_i o hs
              exact E.rt _ _ _ _ _ q1 (R1.1.take hs R1.2.1) fi
            · exact q1.elim
    | _ => simp [chkS] at h
  | .retN, st, h => by
    cases st with
    | Return v pos =>
      cases v with
      | some v => simp [chkS] at h
      | none =>
        refine PS.weak ps_retN fun D σ H q => ?_
        obtain ⟨env, fr, fx, P, R, fi, q, E⟩ := q
        unfold wpS at q
        exact E.rt _ _ .non σ H q (R.std fun G => rfl) fi
    | _ => simp [chkS] at h
  | .brk, st, h => by
    cases st with
    | Break pos =>
      refine PS.weak ps_break fun D σ H q => ?_
      obtain ⟨env, fr, fx, P, R, fi, q, E⟩ := q
      unfold wpS at q
      exact E.bk _ _ _ q R fi
    | _ => simp [chkS] at h
  | .cont, st, h => by
    cases st with
    | Continue pos =>
      refine PS.weak ps_continue fun D σ H q => ?_
      obtain ⟨env, fr, fx, P, R, fi, q, E⟩ := q
      unfold wpS at q
      exact E.ct _ _ _ q R fi
    | _ => simp [chkS] at h
  | .ifs c a b, st, h => by
    cases st with
    | If t x y pos =>
      simp only [chkS, Bool.and_eq_true] at h
      refine PS.weak (ps_if (snd c S.sup t h.1.1).2 (sndSs S a x h.1.2) (sndSs S b y h.2)) fun D σ H q => ?_
      obtain ⟨env, fr, fx, P, R, fi, q, E⟩ := q
      unfold wpS at q
      refine ⟨env, fr, R, ev_mono c e0 (fun r e q => tst_mono (fun t q H' R' => ?_) q) (ev_x E.xc q)⟩
      split at q
      · rename_i ht; rw [if_pos ht]; exact ⟨e, fr, fx, P, R', fi, q, E⟩
      · rename_i ht; rw [if_neg ht]; exact ⟨e, fr, fx, P, R', fi, q, E⟩
    | _ => simp [chkS] at h
  | .whl c b, st, h => by
    cases st with
    | While t x y pos =>
      cases y with
      | cons _ _ => simp [chkS] at h
      | nil =>
        simp only [chkS, Bool.and_eq_true] at h
        refine PS.weak (ps_while S.pass (snd c S.sup t h.1).2 (sndSs S b x h.2)) fun D σ H q => ?_
        obtain ⟨env, fr, fx, P, R, fi, q, E⟩ := q
        unfold wpS at q
        obtain ⟨I, ⟨m0, i0⟩, q⟩ := q
        refine ⟨fun m σ H => ∃ env, RelX C X.K H env σ fr ∧ Fix F fx σ ∧ I m env, ⟨m0, env, R, fi, i0⟩, ?_⟩
        rintro m σ H ⟨env, R, fi, im⟩
        refine ⟨env, fr, R, ev_mono c e0 (fun r e q => tst_mono (fun t q H' R' => ?_) q) (ev_x E.xc (q m env im))⟩
        split at q
        · rename_i ht; rw [if_pos ht]
          refine ⟨fun σ H => ∃ env m', m' < m ∧ RelX C X.K H env σ fr ∧ Fix F fx σ ∧ I m' env, fun σ' H' ⟨env', m', hm, R', f', i'⟩ => ⟨m', hm, env', R', f', i'⟩, e, fr, fx, _, R', fi, q, ⟨?_, ?_, ?_, ?_, E.xc⟩⟩
          · exact fun e σ H ⟨m', hm, i'⟩ R f => ⟨e, m', hm, R, f, i'⟩
          · exact fun e σ H n R f => E.nx e σ H n R f
          · exact fun e σ H ⟨m', hm, i'⟩ R f => ⟨e, m', hm, R, f, i'⟩
          · exact fun o e v σ H r R f => E.rt o e v σ H r R f
        · rename_i ht; rw [if_neg ht]; exact E.nx _ _ _ q R' fi
    | _ => simp [chkS] at h
  | .for_ p kd as b, st, h => by
    cases st with
    | For tg iter x y pos =>
      cases y with
      | cons _ _ => simp [chkS] at h
      | nil =>
        simp only [chkS, Bool.and_eq_true, List.all_eq_true, Bool.not_eq_true'] at h
        obtain ⟨⟨⟨h1, h2⟩, h3⟩, h4⟩ := h
        obtain ⟨hi, hf⟩ := sndI S.sup (sndTs (B := B) (C := C) (Γ := Γ) as) h3
        refine PS.weak (ps_for S.pass S.sup.calm hi (sndP S.sup p tg h1) (sndSs S b x h4) hf) fun Dd σ H q => ?_
        obtain ⟨env, fr, fx, P, R, fi, q, E⟩ := q
        unfold wpS at q
        refine ⟨env, fr, R, evs_mono as e0 (fun rs e q => vals_mono (fun ds e' q => itW_mono (fun xs q J H1 base wk R1 => ?_) q) q) (evs_x E.xc q)⟩
        generalize hb : (fun (x : D) (e1 : Ev) (kk : Ev → Prop) => asgP p x e1 fun e2 => wpSs Γ F b e2 { P with nx := kk, ct := kk, bk := P.nx }) = body at q
        refine ⟨fun i m σ H => m = xs.length - i ∧ i ≤ xs.length ∧ ∃ env1, RelX C X.K H env1 σ (base ++ fr) ∧ Fix F fx σ ∧ floop body (xs.drop i) env1 P.nx, ⟨xs.length, by simp, Nat.zero_le _, e', R1, fi, by simpa using q⟩, ?_⟩
        rintro i m σ2 H2 ⟨rfl, hi', env1, R3, fi3, q⟩
        have rl : Rel C X.K H2 (base ++ (pr env1 σ2 ++ fr)) := R3.rel.perm (List.perm_append_comm_assoc _ _ _)
        by_cases hlt : i < xs.length
        · refine .inr ⟨wk.go i H2 _ hlt rl, fun σ' H' => ∃ env1, RelX C X.K H' env1 σ' (base ++ fr) ∧ Fix F fx σ' ∧ floop body (xs.drop (i + 1)) env1 P.nx, fun σ' H' n' => ⟨xs.length - (i + 1), by omega, rfl, hlt, n'⟩, fun x H' y => ?_⟩
          have rl2 := wk.yld i H2 _ x H' hlt rl y
          have R4 : RelX C X.K H' env1 σ2 ((x, .d xs[i]) :: (base ++ fr)) := ⟨R3.len, R3.has, rl2.perm (by
            refine List.Perm.trans ?_ List.perm_middle.symm
            exact (List.perm_append_comm_assoc _ _ _).cons _)⟩
          rw [List.drop_eq_getElem_cons hlt] at q
          unfold floop at q
          rw [← hb] at q
          refine ⟨env1, _, xs[i], R4, asgP_mono p (fun e2 q σ' ag R5 => ?_) q⟩
          have sub : ∀ {v : V} {o : O}, ((v, o) :: fr).Sublist ((v, o) :: (base ++ fr)) := (List.sublist_append_right _ _).cons_cons _
          refine ⟨e2, base ++ fr, fx, _, R5, fun j hj => ?_, q, ⟨?_, ?_, ?_, ?_, E.xc⟩⟩
          · rw [ag j fun z => ?_]
            · exact fi3 j hj
            · have := h2 j z
              rw [List.contains_iff_mem.mpr hj] at this; cases this
          · intro e σ H n R f
            rw [hb] at n
            exact ⟨e, R, f, n⟩
          · exact fun e σ H n R f => E.nx e σ H n (R.sub (List.sublist_append_right _ _)) f
          · intro e σ H n R f
            rw [hb] at n
            exact ⟨e, R, f, n⟩
          · exact fun o e v σ H r R f => E.rt o e v σ H r (R.sub ((List.sublist_append_right _ _).cons_cons _)) f
        · have ei : i = xs.length := by omega
          subst ei
          refine .inl ⟨wk.stop H2 _ rl, ?_⟩
          rw [List.drop_length] at q
          unfold floop at q
          exact E.nx _ _ _ q (R3.sub (List.sublist_append_right _ _)) fi3
    | _ => simp [chkS] at h
  | .never, st, h => by
    refine PS.weak ps_never fun D σ H q => ?_
    obtain ⟨env, fr, fx, P, R, fi, q, E⟩ := q
    unfold wpS at q
    exact q.elim
theorem sndSs {sc : Scope} {X : Cx} (S : SupS B C Γ sc X) : ∀ (ss : Ss) (sts : List Stmt), chkSs B F sc ss sts = true → PSs X sts (tSs C X.K Γ F ss)
  | .nil, sts, h => by
    cases sts with
    | cons _ _ => simp [chkSs] at h
    | nil =>
      refine PSs.weak pss_nil fun D σ H q => ?_
      obtain ⟨env, fr, fx, P, R, fi, q, E⟩ := q
      unfold wpSs at q
      exact E.nx _ _ _ q R fi
  | .cons s ss, sts, h => by
    cases sts with
    | nil => simp [chkSs] at h
    | cons st sts =>
      simp only [chkSs, Bool.and_eq_true] at h
      refine PSs.weak (pss_cons (sndS S s st h.1) (sndSs S ss sts h.2)) fun D σ H q => ?_
      obtain ⟨env, fr, fx, P, R, fi, q, E⟩ := q
      unfold wpSs at q
      refine ⟨env, fr, fx, _, R, fi, q, ⟨?_, E.bk, E.ct, E.rt, E.xc⟩⟩
      exact fun e σ H n R f => ⟨e, fr, fx, P, R, f, n, E⟩
end
end
end VE
/-! VE17: defs -/
namespace VE
open PySem PySem.Spec PyProof.Rows L2
/-- the objects at the entry: a parameter that is stored anew (not in F) is frozen first -/
def inO (F : List Nat) : Nat → List O → List O
  | _, [] => []
  | k, o :: os => (if F.contains k then o else .d o.toD) :: inO F (k + 1) os
def cps (F : List Nat) : Nat → List V → List O → Prs
  | k, v :: vs, o :: os => if F.contains k then cps F (k + 1) vs os else (v, .d o.toD) :: cps F (k + 1) vs os
  | _, _, _ => []
/-- .. at the end -/
def outO (F : List Nat) (e : Ev) : Nat → List O → Option (List O)
  | _, [] => some []
  | k, o :: os => match (if F.contains k then slot e k else some (.d o.toD)), outO F e (k + 1) os with
    | some a, some r => some (a :: r)
    | _, _ => none
def env0 (F : List Nat) (n : Nat) (os : List O) : Ev := (inO F 0 os).map some ++ List.replicate (n - os.length) none
def postD (F : List Nat) (os : List O) (Q : O → List O → Prop) : Post where
  nx := fun e => ∃ os', outO F e 0 os = some os' ∧ Q (.d .non) os'
  rt := fun o e => ∃ os', outO F e 0 os = some os' ∧ Q o os'
  bk := fun _ => False
  ct := fun _ => False
  xc := fun _ _ => False
section
variable {C : CT} {K : PySem.W.Frag} {H : Hp} {F : List Nat}
theorem inO_len : ∀ {os : List O} {k : Nat}, (inO F k os).length = os.length
  | [], _ => rfl
  | _ :: os, k => by simp [inO, inO_len]
theorem entry : ∀ {os : List O} {vs : List V} {k : Nat} {L : Prs}, vs.length = os.length → Rel C K H (vs.zip os ++ L) → Rel C K H (vs.zip (inO F k os) ++ (cps F k vs os ++ L))
  | [], [], _, _, _, R => R
  | [], _ :: _, _, _, h, _ => by simp at h
  | _ :: _, [], _, _, h, _ => by simp at h
  | o :: os, v :: vs, k, L, h, R => by
    unfold inO cps
    by_cases hk : F.contains k = true
    · rw [if_pos hk, if_pos hk]
      have R1 : Rel C K H (vs.zip os ++ ((v, o) :: L)) := R.perm List.perm_middle.symm
      have R2 := entry (k := k + 1) (by simpa using h) R1
      refine R2.perm ?_
      show (vs.zip (inO F (k + 1) os) ++ (cps F (k + 1) vs os ++ (v, o) :: L)).Perm ((v, o) :: (vs.zip (inO F (k + 1) os) ++ (cps F (k + 1) vs os ++ L)))
      refine List.Perm.trans (List.Perm.append_left _ List.perm_middle) ?_
      exact List.perm_middle
    · rw [if_neg hk, if_neg hk]
      have R1 : Rel C K H ((v, .d o.toD) :: (v, .d o.toD) :: (vs.zip os ++ L)) := (Rel.freeze R).dup
      have R2 : Rel C K H (vs.zip os ++ ((v, .d o.toD) :: (v, .d o.toD) :: L)) := R1.perm (by
        refine List.Perm.trans ?_ List.perm_middle.symm
        exact List.Perm.cons _ List.perm_middle.symm)
      have R3 := entry (k := k + 1) (by simpa using h) R2
      refine R3.perm ?_
      show (vs.zip (inO F (k + 1) os) ++ (cps F (k + 1) vs os ++ (v, .d o.toD) :: (v, .d o.toD) :: L)).Perm ((v, .d o.toD) :: (vs.zip (inO F (k + 1) os) ++ ((v, .d o.toD) :: cps F (k + 1) vs os ++ L)))
      refine List.Perm.trans (List.Perm.append_left _ List.perm_middle) ?_
      refine List.Perm.trans List.perm_middle ?_
      refine List.Perm.cons _ ?_
      exact List.Perm.append_left _ List.perm_middle
theorem outO_set {a : Option O} {i : Nat} : ∀ {os : List O} {e : Ev} {k : Nat}, i < k → outO F (e.set i a) k os = outO F e k os
  | [], _, _, _ => rfl
  | o :: os, e, k, h => by
    unfold outO
    rw [outO_set (by omega), slot_set_ne (by omega)]
theorem exit : ∀ {os os' : List O} {vs : List V} {k : Nat} {M : Prs} {e : Ev} {σ : Sg}, vs.length = os.length → (∀ j, F.contains (k + j) = true → ∀ v, vs[j]? = some v → σ[k + j]? = some (some v)) → outO F e k os = some os' → RelX C K H e σ (cps F k vs os ++ M) → ∃ e2, RelX C K H e2 σ (vs.zip os' ++ M)
  | [], os', [], k, M, e, σ, _, _, h, R => by
    simp [outO] at h; subst h; exact ⟨e, R⟩
  | [], _, _ :: _, _, _, _, _, h, _, _, _ => by simp at h
  | _ :: _, _, [], _, _, _, _, h, _, _, _ => by simp at h
  | o :: os, os', v :: vs, k, M, e, σ, hl, hf, h, R => by
    unfold outO at h
    unfold cps at R
    by_cases hk : F.contains k = true
    · rw [if_pos hk] at h R
      cases e1 : slot e k with
      | none => rw [e1] at h; cases h
      | some a =>
        rw [e1] at h
        cases e2 : outO F e (k + 1) os with
        | none => rw [e2] at h; cases h
        | some r =>
          rw [e2] at h
          have h' : some (a :: r) = some os' := h
          cases h'
          have hv := hf 0 hk v rfl
          have R1 := RelX.take R e1 hv
          have R2 : RelX C K H (e.set k none) σ (cps F (k + 1) vs os ++ ((v, a) :: M)) := R1.perm List.perm_middle.symm
          obtain ⟨e3, R3⟩ := exit (k := k + 1) (by simpa using hl) (fun j hj v hv => by
            have := hf (j + 1) (by rw [show k + (j + 1) = k + 1 + j by omega]; exact hj) v (by simpa using hv)
            rwa [show k + (j + 1) = k + 1 + j by omega] at this) (by rw [outO_set (by omega)]; exact e2) R2
          exact ⟨e3, R3.perm List.perm_middle⟩
    · rw [if_neg hk] at h R
      cases e2 : outO F e (k + 1) os with
      | none => rw [e2] at h; cases h
      | some r =>
        rw [e2] at h
        have h' : some (.d o.toD :: r) = some os' := h
        cases h'
        have R2 : RelX C K H e σ (cps F (k + 1) vs os ++ ((v, .d o.toD) :: M)) := RelX.perm R List.perm_middle.symm
        obtain ⟨e3, R3⟩ := exit (k := k + 1) (by simpa using hl) (fun j hj v hv => by
          have := hf (j + 1) (by rw [show k + (j + 1) = k + 1 + j by omega]; exact hj) v (by simpa using hv)
          rwa [show k + (j + 1) = k + 1 + j by omega] at this) e2 R2
        exact ⟨e3, R3.perm List.perm_middle⟩
theorem pr_start : ∀ {os : List O} {vs : List V} {n m : Nat}, vs.length = os.length → pr (os.map some ++ List.replicate n none) (vs.map some ++ List.replicate m none) = vs.zip os
  | [], [], n, m, _ => by
    show pr (List.replicate n none) (List.replicate m none) = []
    induction n generalizing m with
    | zero => rfl
    | succ n ih =>
      cases m with
      | zero => rfl
      | succ m => exact ih m
  | [], _ :: _, _, _, h => by simp at h
  | _ :: _, [], _, _, h => by simp at h
  | o :: os, v :: vs, n, m, h => by
    show (v, o) :: pr (os.map some ++ List.replicate n none) (vs.map some ++ List.replicate m none) = _
    rw [pr_start (by simpa using h)]; rfl
theorem relX_start {os : List O} {vs : List V} {N : List Str} {fr : Prs} (hl : vs.length = os.length) (R : Rel C K H (vs.zip os ++ fr)) : RelX C K H (os.map some ++ List.replicate (N.length - os.length) none) (L2.start N vs) fr := by
  refine ⟨by simp [L2.start, hl], fun i o h => ?_, ?_⟩
  · have h' := slot_some.mp h
    by_cases hi : i < os.length
    · have hv : i < vs.length := by omega
      exact ⟨vs[i], by unfold L2.start; rw [List.getElem?_append_left (by simpa using hv), List.getElem?_map, List.getElem?_eq_getElem hv]; rfl⟩
    · rw [List.getElem?_append_right (by simpa using hi)] at h'
      rw [List.getElem?_replicate] at h'
      split at h' <;> cases h'
  · unfold L2.start
    rw [pr_start hl]; exact R
end

/-! ### a def keeps its promise -/
/-- def number f, named x, keeps Γ's promise at level k -/
def FA (C : CT) (Γ : Gam) (ar : Nat → Nat) (P : Program) (w : World) (K : PySem.W.Frag) (mg : Str → Option Value) (base : Heap) (k : Nat) (f : Nat) (x : Str) : Prop :=
  ∃ a fd ps, FnOk P w K mg base CX0 k a fd ps (spOf C K (ar f) (Γ.fn f)) ∧ mg x = some (.ref a) ∧ PySem.W.keepIn K (.ref a) = true ∧ Binds K fd ps []
/-- a def's own table: its names, whom it calls -/
def mkB (ar : Nat → Nat) (glob : List (Str × Int)) (free : List Str) (N : List Str) (calls : List (Nat × Str)) : Tb := ⟨N, fun f => calls.lookup f, ar, glob, free⟩
section
variable {C : CT} {Γ : Gam} {ar : Nat → Nat} {P : Program} {w : World} {K : PySem.W.Frag} {mg : Str → Option Value} {base : Heap} {glob : List (Str × Int)} {free : List Str}
theorem FA.mono {j k f : Nat} {x : Str} (h : FA C Γ ar P w K mg base j f x) (hk : j ≤ k) : FA C Γ ar P w K mg base k f x := by
  obtain ⟨a, fd, ps, F, r⟩ := h
  exact ⟨a, fd, ps, F.mono hk, r⟩
theorem lookup_mem {α : Type} : ∀ {l : List (Nat × α)} {f : Nat} {x : α}, l.lookup f = some x → (f, x) ∈ l
  | (g, y) :: l, f, x, h => by
    rw [List.lookup_cons] at h
    cases e : f == g with
    | true =>
      rw [e] at h
      have e' := beq_iff_eq.mp e
      cases h; subst e'; exact List.mem_cons_self
    | false => rw [e] at h; exact List.mem_cons_of_mem _ (lookup_mem h)
theorem body_ok {k n f : Nat} {x qual : Str} {params : Arguments} {body : List Stmt} {scope : Scope} {a : Addr} {fd : FuncData} {N ps : List Str} {calls : List (Nat × Str)} {F : List Nat} {ss : Ss}
    (FD : FunD K x qual params body scope [] [] a fd) (S : FnScope N ps scope) (hn : ar f = ps.length)
    (hc : chkSs (mkB ar glob free N calls) F scope ss body = true) (hcall : ∀ p ∈ calls, FA C Γ ar P w K mg base k p.1 p.2) (hfree : ∀ y ∈ free, mg y = none) (hglob : ∀ p ∈ glob, ∃ t, mg p.1 = some (.int p.2 t))
    (hΦ : ∀ os Q E, os.length = ps.length → Γ.fn f os Q E → wpSs Γ F ss (env0 F N.length os) (postD F os Q)) : FnOk P w K mg base CX0 (k + 1) a fd ps (spOf C K (ar f) (Γ.fn f)) := by
  refine FD.ok S (fun vs H Q E h => by rw [← hn]; exact h.1) fun cdv A outer s H vs Q E hr h => ?_
  obtain ⟨hv, L, os, hos, R, Q0, E0, hP, hQ, hE⟩ := h
  have hl : vs.length = os.length := by rw [hv, hos]
  refine ⟨tSs C K Γ F ss, PSs.nox (sndSs (B := mkB ar glob free N calls) (sc := scope) (X := (cxOf CX0 P w K mg base N qual scope a cdv A outer s H E).nox) ⟨⟨rfl, ?_, ?_, rfl, S.nd, rfl, fun i x h => .inl rfl, hfree, fun x i h => hglob (x, i) h, fun g y h => ?_⟩, S.kind, PassesOwn.never⟩ ss body hc), ?_⟩
  · have := hr.un
    show (A.deeper (envOfC qual scope s.heap.objs.size a cdv)).units + 70 < cLine
    omega
  · have := hr.un
    show (A.deeper (envOfC qual scope s.heap.objs.size a cdv)).units + 1 < cLine
    omega
  · obtain ⟨a', fd', ps', F', h1, h2, h3⟩ := hcall (g, y) (lookup_mem h)
    exact ⟨k, a', fd', ps', F', hr, h1, h2, h3⟩
  · have R1 := entry (F := F) (k := 0) hl R
    have R2 := relX_start (N := N) (by rw [inO_len]; exact hl) R1
    rw [inO_len] at R2
    have fixed : ∀ {σ : Sg}, Fix F (fun i => (L2.start N vs)[i]?) σ → ∀ j, F.contains (0 + j) = true → ∀ v, vs[j]? = some v → σ[0 + j]? = some (some v) := by
      intro σ hf j hj v hv
      rw [Nat.zero_add] at hj ⊢
      rw [hf j (List.contains_iff_mem.mp hj)]
      show (L2.start N vs)[j]? = _
      unfold L2.start
      have hlt := (List.getElem?_eq_some_iff.mp hv).1
      rw [List.getElem?_append_left (by simpa using hlt), List.getElem?_map, hv]
      rfl
    have done : ∀ o e v σ H2, (∃ os', outO F e 0 os = some os' ∧ Q0 o os') → RelX C K H2 e σ ((v, o) :: (cps F 0 vs os ++ L)) → Fix F (fun i => (L2.start N vs)[i]?) σ → Q v H2 := by
      intro o e v σ H2 ⟨os', h1, h2⟩ R3 hf
      obtain ⟨e2, R4⟩ := exit (k := 0) (M := (v, o) :: L) hl (fixed hf) h1 (R3.perm List.perm_middle.symm)
      refine (hQ o os' h2).2 v H2 ?_
      exact (Rel.dropL R4.rel).perm List.perm_middle
    refine ⟨env0 F N.length os, cps F 0 vs os ++ L, fun i => (L2.start N vs)[i]?, postD F os Q0, R2, fun _ _ => rfl, hΦ os Q0 E0 (by rw [hos, hn]) hP, ⟨?_, fun _ _ _ h => h.elim, fun _ _ _ h => h.elim, ?_, fun _ _ h => h⟩⟩
    · exact fun e σ H2 h R3 hf => done _ e .non σ H2 h (R3.std fun G => rfl) hf
    · exact fun o e v σ H2 h R3 hf => done o e v σ H2 h R3 hf
end
end VE
/-! VE18: unfolding by simp; promises of a plain form -/
namespace VE
open PySem PySem.Spec PyProof.Rows L2
/-! ### states, by continuations (so that simp runs the program from its head) -/
@[simp] theorem rI_def {i : Int} : rI i = .d (.int i) := rfl
@[simp] theorem rB_def {i : Bool} : rB i = .d (.bl i) := rfl
@[simp] theorem slot_nil {i : Nat} : slot [] i = none := rfl
@[simp] theorem slot_zero {a : Option O} {l : Ev} : slot (a :: l) 0 = a := by cases a <;> rfl
@[simp] theorem slot_succ {a : Option O} {l : Ev} {i : Nat} : slot (a :: l) (i + 1) = slot l i := rfl
@[simp] theorem toD_d {x : D} : O.toD (.d x) = x := by simp [O.toD]
@[simp] theorem toD_lst {x : List D} : O.toD (.lst x) = .lst x := by simp [O.toD]
def slotK (env : Ev) (i : Nat) (k : O → Prop) : Prop := match slot env i with
  | some o => k o
  | none => False
def lstK (env : Ev) (i : Nat) (k : List D → Prop) : Prop := match slot env i with
  | some (.lst xs) => k xs
  | _ => False
def opsK (env : Ev) (rs : List R) (k : List O → Prop) : Prop := match opsO env rs with
  | some os => k os
  | none => False
def dtK (o : O) (k : D → Prop) : Prop := k o.toD
def setK (e : Ev) (i : Nat) (a : Option O) (k : Ev → Prop) : Prop := k (e.set i a)
def vrK (i : Nat) (o : O) (k : R → Prop) : Prop := k (vR i o)
def nrmK (r : R) (k : R → Prop) : Prop := k r.nrm
def dsK (env : Ev) (rs : List R) (k : List D → Prop) : Prop := opsK env rs fun os => k (os.map O.toD)
def putsK (e : Ev) (rs : List R) (os : List O) (k : Ev → Prop) : Prop := k (puts e rs os)
def wipeK (e : Ev) (is : List Nat) (k : Ev → Prop) : Prop := k (wipeE e is)
def backK (e0 e : Ev) (is : List Nat) (k : Ev → Prop) : Prop := k (backE e0 e is)
def datO : Option O → Option O
  | some (.d x) => some (.d x)
  | _ => none
def slotV (e : Ev) (i : Nat) (k : Option O → Prop) : Prop := k (slot e i)
def allK (e : Ev) (is : List Nat) (os : List O) (k : Ev → Prop) : Prop := k (setAll e is os)
@[simp] theorem datO_d {x : D} : datO (some (.d x)) = some (.d x) := rfl
@[simp] theorem datO_none : datO none = none := rfl
@[simp] theorem datO_lst {x : List D} : datO (some (.lst x)) = none := rfl
section
variable {k : O → Prop} {kl : List D → Prop} {ko : List O → Prop} {kd : D → Prop} {ke : Ev → Prop} {kr : R → Prop} {kv : Option O → Prop} {a : Option O} {l env : Ev} {o x : O} {i : Nat} {xs : List D} {d : D} {b : Option O} {rs : List R} {os : List O}
@[simp ↓] theorem slotK_zero : slotK (some o :: l) 0 k = k o := rfl
@[simp ↓] theorem slotK_succ : slotK (a :: l) (i + 1) k = slotK l i k := rfl
@[simp ↓] theorem lstK_zero : lstK (some (.lst xs) :: l) 0 kl = kl xs := rfl
@[simp ↓] theorem lstK_succ : lstK (a :: l) (i + 1) kl = lstK l i kl := rfl
@[simp ↓] theorem slotV_zero : slotV (a :: l) 0 kv = kv a := by cases a <;> rfl
@[simp ↓] theorem slotV_succ : slotV (a :: l) (i + 1) kv = slotV l i kv := rfl
@[simp ↓] theorem opsK_nil : opsK env [] ko = ko [] := rfl
@[simp ↓] theorem opsK_obj : opsK env (.obj x :: rs) ko = opsK env rs fun os => ko (x :: os) := by
  show (match (match getR env (.obj x), opsO env rs with | some o, some os => some (o :: os) | _, _ => none) with | some os => ko os | none => False) = _
  unfold opsK
  cases opsO env rs <;> rfl
@[simp ↓] theorem opsK_path : opsK env (.path i :: rs) ko = slotK env i fun o => opsK env rs fun os => ko (o :: os) := by
  show (match (match slot env i, opsO env rs with | some o, some os => some (o :: os) | _, _ => none) with | some os => ko os | none => False) = _
  unfold opsK slotK
  cases slot env i <;> cases opsO env rs <;> rfl
@[simp ↓] theorem dtK_d : dtK (.d d) kd = kd d := by unfold dtK; rw [toD_d]
@[simp ↓] theorem dtK_lst : dtK (.lst xs) kd = kd (.lst xs) := by unfold dtK; rw [toD_lst]
@[simp ↓] theorem setK_zero : setK (a :: l) 0 b ke = ke (b :: l) := rfl
@[simp ↓] theorem setK_succ : setK (a :: l) (i + 1) b ke = setK l i b fun e => ke (a :: e) := rfl
@[simp ↓] theorem vrK_d : vrK i (.d d) kr = kr (.obj (.d d)) := rfl
@[simp ↓] theorem vrK_lst : vrK i (.lst xs) kr = kr (.path i) := rfl
@[simp ↓] theorem nrmK_d : nrmK (.obj (.d d)) kr = kr (.obj (.d d)) := by unfold nrmK; show kr (.obj (.d (O.toD (.d d)))) = _; rw [toD_d]
@[simp ↓] theorem nrmK_lst : nrmK (.obj (.lst xs)) kr = kr (.obj (.d (.lst xs))) := by unfold nrmK; show kr (.obj (.d (O.toD (.lst xs)))) = _; rw [toD_lst]
@[simp ↓] theorem nrmK_path : nrmK (.path i) kr = kr (.path i) := rfl
@[simp ↓] theorem dsK_nil : dsK env [] kl = kl [] := rfl
@[simp ↓] theorem dsK_obj : dsK env (.obj (.d d) :: rs) kl = dsK env rs fun ds => kl (d :: ds) := by
  unfold dsK
  rw [opsK_obj]
  simp only [List.map_cons, toD_d]
@[simp ↓] theorem dsK_path : dsK env (.path i :: rs) kl = slotK env i fun o => dtK o fun d => dsK env rs fun ds => kl (d :: ds) := by
  unfold dsK
  rw [opsK_path]
  rfl
@[simp ↓] theorem putsK_nil : putsK env [] os ke = ke env := by unfold putsK; cases os <;> rfl
@[simp ↓] theorem putsK_obj : putsK env (.obj x :: rs) (o :: os) ke = putsK env rs os ke := rfl
@[simp ↓] theorem putsK_path : putsK env (.path i :: rs) (o :: os) ke = setK env i (some o) fun e => putsK e rs os ke := rfl
@[simp ↓] theorem wipeK_nil : wipeK env [] ke = ke env := rfl
@[simp ↓] theorem wipeK_cons {is : List Nat} : wipeK env (i :: is) ke = wipeK env is fun e => setK e i none ke := rfl
@[simp ↓] theorem backK_nil {e0 : Ev} : backK e0 env [] ke = ke env := rfl
@[simp ↓] theorem backK_cons {e0 : Ev} {is : List Nat} : backK e0 env (i :: is) ke = backK e0 env is fun e => slotV e0 i fun a => setK e i (datO a) ke := by
  unfold backK slotV setK
  show ke ((backE e0 env is).set i (match slot e0 i with | some (.d x) => some (.d x) | _ => none)) = ke ((backE e0 env is).set i (datO (slot e0 i)))
  cases slot e0 i with
  | none => rfl
  | some o => cases o <;> rfl
@[simp ↓] theorem allK_nil : allK env [] os ke = ke env := by unfold allK; cases os <;> rfl
@[simp ↓] theorem allK_cons {is : List Nat} : allK env (i :: is) (o :: os) ke = setK env i (some o) fun e => allK e is os ke := rfl
end
@[simp ↓] theorem val_d {x : D} {env : Ev} {k : D → Ev → Prop} : R.val (.obj (.d x)) env k = k x env := by
  show k (O.toD (.d x)) env = _; rw [toD_d]
@[simp ↓] theorem val_lst {x : List D} {env : Ev} {k : D → Ev → Prop} : R.val (.obj (.lst x)) env k = k (.lst x) env := by
  show k (O.toD (.lst x)) env = _; rw [toD_lst]
@[simp ↓] theorem val_path {i : Nat} {env : Ev} {k : D → Ev → Prop} : R.val (.path i) env k = slotK env i fun o => dtK o fun d => setK env i (some (.d d)) fun e => k d e := rfl
@[simp ↓] theorem get_obj {x : O} {env : Ev} {k : O → Ev → Prop} : R.get (.obj x) env k = k x env := rfl
@[simp ↓] theorem get_path {i : Nat} {env : Ev} {k : O → Ev → Prop} : R.get (.path i) env k = R.val (.path i) env fun x e => k (.d x) e := rfl
@[simp ↓] theorem vals_nil {env : Ev} {k : List D → Ev → Prop} : vals [] env k = k [] env := rfl
@[simp ↓] theorem vals_cons {r : R} {rs : List R} {env : Ev} {k : List D → Ev → Prop} : vals (r :: rs) env k = r.val env fun x e => vals rs e fun xs e2 => k (x :: xs) e2 := rfl
@[simp] theorem apart_nil {is : List Nat} : apart [] is = true := rfl
@[simp] theorem apart_obj {x : O} {rs : List R} {is : List Nat} : apart (.obj x :: rs) is = apart rs is := rfl
@[simp] theorem apart_path {i : Nat} {rs : List R} {is : List Nat} : apart (.path i :: rs) is = (!is.contains i && apart rs (i :: is)) := rfl
@[simp ↓] theorem asgP_v {i : Nat} {x : D} {env : Ev} {k : Ev → Prop} : asgP (.v i) x env k = setK env i (some (.d x)) k := by unfold asgP; rfl
@[simp ↓] theorem asgP_t {ps : Pats} {xs : List D} {env : Ev} {k : Ev → Prop} : asgP (.t ps) (.tup xs) env k = asgPs ps xs env k := by (conv => lhs; unfold asgP) <;> rfl
@[simp ↓] theorem asgPs_nil {env : Ev} {k : Ev → Prop} : asgPs .nil [] env k = k env := by unfold asgPs; rfl
@[simp ↓] theorem asgPs_cons {p : Pat} {ps : Pats} {x : D} {xs : List D} {env : Ev} {k : Ev → Prop} : asgPs (.cons p ps) (x :: xs) env k = asgP p x env fun e => asgPs ps xs e k := by (conv => lhs; unfold asgPs) <;> rfl
@[simp ↓] theorem tst_bl2 {b : Bool} {k : Bool → Prop} : tst (.obj (.d (.bl b))) k = k b := rfl
@[simp ↓] theorem addA_def {acc : List D} {y : D} {k : List D → Prop} : addA acc y k = (acc.length < sizeLine ∧ k (acc ++ [y])) := rfl
/-! ### primitives -/
@[simp] theorem atI_0 {α : Type} {a : α} {l : List α} : atI (a :: l) 0 = some a := by
  simp [atI, ixN]
  first | done | (rw [if_pos (by omega)]; done) | (rw [if_pos (by omega)]; rfl)
@[simp] theorem atI_1 {α : Type} {a b : α} {l : List α} : atI (a :: b :: l) 1 = some b := by
  simp [atI, ixN]
  first | done | (rw [if_pos (by omega)]; done) | (rw [if_pos (by omega)]; rfl)
theorem atI_mod {α : Type} {ns : List α} {i : Int} (h : 0 < ns.length) : ∃ n, atI ns (i % ns.length) = some n := by
  have h1 : 0 ≤ i % (ns.length : Int) := Int.emod_nonneg _ (by omega)
  have h2 : i % (ns.length : Int) < ns.length := Int.emod_lt_of_pos _ (by omega)
  unfold atI ixN
  rw [if_pos h1, if_pos h2]
  exact ⟨ns[(i % (ns.length : Int)).toNat]'(by omega), by simp⟩

section
variable {Q : O → Prop} {i j : Int} {xs ys : List D} {b : Bool}
@[simp ↓] theorem pw_bop {o : Operator} {ds : List D} : pw (.bop o) ds Q = wBop o ds Q := by unfold pw; rfl
@[simp ↓] theorem pw_cmp {o : CmpOp} {ds : List D} : pw (.cmp o) ds Q = wCmp o ds Q := by unfold pw; rfl
@[simp ↓] theorem pw_ix {ds : List D} : pw .ix ds Q = wIx ds Q := by unfold pw; rfl
@[simp ↓] theorem pw_sl {l h : Bool} {ds : List D} : pw (.sl l h) ds Q = wSlice l h ds Q := by unfold pw; rfl
@[simp ↓] theorem pw_call {n : String} {ds : List D} : pw (.call n) ds Q = wCall n ds Q := by unfold pw; rfl
@[simp ↓] theorem pw_ty {n : String} {ds : List D} : pw (.ty n) ds Q = wTy n ds Q := by unfold pw; rfl
@[simp ↓] theorem pw_neg : pw .neg [.int i] Q = Q (.d (.int (-i))) := by unfold pw; rfl
@[simp ↓] theorem pw_rev : pw .rev [.lst xs] Q = Q (.lst xs.reverse) := by unfold pw; rfl
@[simp ↓] theorem add_int : wBop .Add [.int i, .int j] Q = Q (.d (.int (i + j))) := by unfold wBop; rfl
@[simp ↓] theorem add_tup : wBop .Add [.tup xs, .tup ys] Q = (xs.length + ys.length ≤ sizeLine ∧ Q (.d (.tup (xs ++ ys)))) := by unfold wBop; rfl
@[simp ↓] theorem add_lst : wBop .Add [.lst xs, .lst ys] Q = (xs.length + ys.length ≤ sizeLine ∧ Q (.lst (xs ++ ys))) := by unfold wBop; rfl
@[simp ↓] theorem sub_int : wBop .Sub [.int i, .int j] Q = Q (.d (.int (i - j))) := by unfold wBop; rfl
@[simp ↓] theorem mul_int : wBop .Mult [.int i, .int j] Q = (MulOk i j ∧ Q (.d (.int (i * j)))) := by unfold wBop; rfl
@[simp ↓] theorem mul_lst : wBop .Mult [.lst xs, .int j] Q = ((-(2 ^ 63) ≤ j ∧ j < 2 ^ 63 ∧ xs.length * j.toNat ≤ sizeLine) ∧ Q (.lst (List.replicate j.toNat xs).flatten)) := by unfold wBop; rfl
@[simp ↓] theorem div_int : wBop .FloorDiv [.int i, .int j] Q = (DivOk j ∧ Q (.d (.int (i / j)))) := by unfold wBop; rfl
@[simp ↓] theorem mod_int : wBop .Mod [.int i, .int j] Q = (0 < j ∧ Q (.d (.int (i % j)))) := by unfold wBop; rfl
@[simp ↓] theorem pow_int : wBop .Pow [.int i, .int j] Q = ((0 ≤ j ∧ j ≤ 1000000 ∧ i.natAbs < 2 ^ 64) ∧ Q (.d (.int (i ^ j.toNat)))) := by unfold wBop; rfl
@[simp] theorem eqOk_int : eqOk (.int i) (.int j) = true := by simp [eqOk, D.pur, D.dep]
@[simp] theorem ltOk_int : ltOk (.int i) (.int j) = true := by simp [ltOk, D.like, D.pyb, D.dep]
@[simp] theorem lt_int : D.lt (.int i) (.int j) = decide (i < j) := by simp [D.lt]
@[simp ↓] theorem cmp_eq_int : wCmp .Eq [.int i, .int j] Q = Q (.d (.bl (decide (i = j)))) := by simp [wCmp, wEq]
@[simp ↓] theorem cmp_ne_int : wCmp .NotEq [.int i, .int j] Q = Q (.d (.bl (!decide (i = j)))) := by simp [wCmp]
@[simp ↓] theorem cmp_lt_int : wCmp .Lt [.int i, .int j] Q = Q (.d (.bl (decide (i < j)))) := by simp [wCmp]
@[simp ↓] theorem cmp_le_int : wCmp .LtE [.int i, .int j] Q = Q (.d (.bl (decide (i ≤ j)))) := by simp [wCmp, ← decide_not]
@[simp ↓] theorem cmp_gt_int : wCmp .Gt [.int i, .int j] Q = Q (.d (.bl (decide (j < i)))) := by simp [wCmp]
@[simp ↓] theorem cmp_ge_int : wCmp .GtE [.int i, .int j] Q = Q (.d (.bl (decide (j ≤ i)))) := by simp [wCmp, ← decide_not]
@[simp ↓] theorem cmp_eq_scr {ns : List Int} {y : D} : wCmp .Eq [.scr ns, y] Q = (y = .lst [] ∧ Q (.d (.bl (ns.isEmpty)))) := by simp [wCmp, wEq]
@[simp ↓] theorem cmp_eq_tup : wCmp .Eq [.tup xs, .tup ys] Q = (eqOk (.tup xs) (.tup ys) = true ∧ Q (.d (.bl (decide (xs = ys))))) := by simp [wCmp, wEq]
@[simp ↓] theorem cmp_ne_tup : wCmp .NotEq [.tup xs, .tup ys] Q = (eqOk (.tup xs) (.tup ys) = true ∧ Q (.d (.bl (!decide (xs = ys))))) := by simp [wCmp]
@[simp ↓] theorem cmp_eq_lst : wCmp .Eq [.lst xs, .lst ys] Q = (eqOk (.lst xs) (.lst ys) = true ∧ Q (.d (.bl (decide (xs = ys))))) := by simp [wCmp, wEq]
@[simp ↓] theorem cmp_ne_lst : wCmp .NotEq [.lst xs, .lst ys] Q = (eqOk (.lst xs) (.lst ys) = true ∧ Q (.d (.bl (!decide (xs = ys))))) := by simp [wCmp]
@[simp ↓] theorem cmp_in {x y : D} : wCmp .In [x, y] Q = wIn x y fun b => Q (.d (.bl b)) := by simp [wCmp]
@[simp ↓] theorem cmp_notin {x y : D} : wCmp .NotIn [x, y] Q = wIn x y fun b => Q (.d (.bl (!b))) := by simp [wCmp]
@[simp ↓] theorem in_lst {x : D} {Q : Bool → Prop} : wIn x (.lst ys) Q = ((x.pur && D.purs ys && decide (x.dep ≤ 60) && decide (D.deps ys ≤ 60)) = true ∧ Q (decide (x ∈ ys))) := by cases x <;> rfl
@[simp ↓] theorem in_tup {x : D} {Q : Bool → Prop} : wIn x (.tup ys) Q = ((x.pur && D.purs ys && decide (x.dep ≤ 60) && decide (D.deps ys ≤ 60)) = true ∧ Q (decide (x ∈ ys))) := by cases x <;> rfl
@[simp ↓ high] theorem ix_lst0 {x : D} : wIx [.lst (x :: xs), .int 0] Q = Q (.d x) := by
  show (∃ y, atI (x :: xs) 0 = some y ∧ Q (.d y)) = _
  rw [atI_0]; simp
@[simp ↓ high] theorem ix_lst1 {x y : D} : wIx [.lst (x :: y :: xs), .int 1] Q = Q (.d y) := by
  show (∃ z, atI (x :: y :: xs) 1 = some z ∧ Q (.d z)) = _
  rw [atI_1]; simp
@[simp ↓] theorem ix_lst : wIx [.lst xs, .int i] Q = ∃ x, atI xs i = some x ∧ Q (.d x) := rfl
@[simp ↓] theorem ix_tp : wIx [.tup xs, .int i] Q = ∃ x, atI xs i = some x ∧ Q (.d x) := rfl
@[simp ↓] theorem ix_scr {ns : List Int} : wIx [.scr ns, .int i] Q = ∃ n, atI ns i = some n ∧ Q (.d (.int n)) := rfl
@[simp ↓] theorem len_lst : wCall "len" [.lst xs] Q = Q (.d (.int (xs.length))) := by simp [wCall, dlen]
@[simp ↓] theorem len_tup : wCall "len" [.tup xs] Q = Q (.d (.int (xs.length))) := by simp [wCall, dlen]
@[simp ↓] theorem len_scr {ns : List Int} : wCall "len" [.scr ns] Q = Q (.d (.int (ns.length))) := by simp [wCall, dlen]
@[simp ↓] theorem abs_int : wCall "abs" [.int i] Q = Q (.d (.int (if i < 0 then -i else i))) := by unfold wCall; rfl
@[simp ↓] theorem max_int : wCall "max" [.int i, .int j] Q = Q (.d (.int (if j > i then j else i))) := by unfold wCall; rfl
@[simp ↓] theorem min_int : wCall "min" [.int i, .int j] Q = Q (.d (.int (if j < i then j else i))) := by unfold wCall; rfl
@[simp ↓] theorem sum_lst : wCall "sum" [.lst xs] Q = (xs.all isInt = true ∧ Q (.d (.int (dsum xs)))) := by unfold wCall; rfl
@[simp ↓] theorem any_lst : wCall "any" [.lst xs] Q = (xs.all isBl = true ∧ Q (.d (.bl (xs.any unB)))) := by unfold wCall; rfl
@[simp ↓] theorem all_lst : wCall "all" [.lst xs] Q = (xs.all isBl = true ∧ Q (.d (.bl (xs.all unB)))) := by unfold wCall; rfl
@[simp ↓] theorem sorted_lst : wCall "sorted" [.lst xs] Q = ((∀ a ∈ xs, ∀ b ∈ xs, ltOk a b = true) ∧ (∀ a ∈ xs, a ≠ .tup []) ∧ Q (.lst (dsort xs))) := by unfold wCall; rfl
@[simp ↓] theorem ty_int : wTy "int" [.int i] Q = Q (.d (.int i)) := by unfold wTy; rfl
@[simp ↓] theorem ty_bl : wTy "int" [.bl b] Q = Q (.d (.int (if b then 1 else 0))) := by unfold wTy; rfl
@[simp ↓] theorem ty_tupl : wTy "tuple" [.lst xs] Q = Q (.d (.tup xs)) := by unfold wTy; rfl
@[simp ↓] theorem ty_tupt : wTy "tuple" [.tup xs] Q = Q (.d (.tup xs)) := by unfold wTy; rfl
@[simp ↓] theorem ty_lstl : wTy "list" [.lst xs] Q = Q (.lst xs) := by unfold wTy; rfl
@[simp ↓] theorem ty_lstt : wTy "list" [.tup xs] Q = Q (.lst xs) := by unfold wTy; rfl
@[simp ↓] theorem mw_append {x : D} {Q : O → D → Prop} : mw .append (.lst xs) [x] Q = (xs.length < sizeLine ∧ Q (.lst (xs ++ [x])) .non) := by unfold mw; rfl
@[simp ↓] theorem mw_extend {Q : O → D → Prop} : mw .extend (.lst xs) [.lst ys] Q = (xs.length + ys.length ≤ sizeLine ∧ Q (.lst (xs ++ ys)) .non) := by unfold mw; rfl
@[simp ↓] theorem mw_pop {Q : O → D → Prop} : mw .pop (.lst xs) [] Q = ∃ x, xs[xs.length - 1]? = some x ∧ Q (.lst xs.dropLast) x := by unfold mw; rfl
@[simp ↓] theorem mw_popAt {Q : O → D → Prop} : mw .popAt (.lst xs) [.int i] Q = ((0 ≤ i ∧ i < xs.length ∧ i < 2 ^ 63) ∧ ∃ x, xs[i.toNat]? = some x ∧ Q (.lst (xs.eraseIdx i.toNat)) x) := by unfold mw; rfl
@[simp ↓] theorem sw_lst {x : D} : sw (.lst xs) (.int i) x Q = ∃ j, ixN xs.length i = some j ∧ Q (.lst (xs.set j x)) := by unfold sw; rfl
@[simp ↓] theorem iw_addI : iw .Add (.d (.int i)) (.int j) Q = Q (.d (.int (i + j))) := by unfold iw; rfl
@[simp ↓] theorem iw_subI : iw .Sub (.d (.int i)) (.int j) Q = Q (.d (.int (i - j))) := by unfold iw; rfl
@[simp ↓] theorem iw_addL : iw .Add (.lst xs) (.lst ys) Q = (xs.length + ys.length ≤ sizeLine ∧ Q (.lst (xs ++ ys))) := by unfold iw; rfl
@[simp ↓] theorem it_lst {Q : List D → Prop} : itW .seq [.lst xs] Q = Q xs := by unfold itW; rfl
@[simp ↓] theorem it_tup {Q : List D → Prop} : itW .seq [.tup xs] Q = Q xs := by unfold itW; rfl
@[simp ↓] theorem it_rng1 {Q : List D → Prop} : itW .rng [.int j] Q = (b62 j ∧ Q (rngD 0 j)) := by unfold itW; rfl
@[simp ↓] theorem it_rng2 {Q : List D → Prop} : itW .rng [.int i, .int j] Q = ((b62 i ∧ b62 j) ∧ Q (rngD i j)) := by unfold itW; rfl
theorem mulOk_l (h : -(2 ^ 64) < i ∧ i < 2 ^ 64) : MulOk i j := .inl h
theorem mulOk_r (h : -(2 ^ 64) < j ∧ j < 2 ^ 64) : MulOk i j := .inr (.inl h)
theorem divOk (h : 0 < j ∧ j < 2 ^ 64) : DivOk j := ⟨h.1, .inl h.2⟩
end
/-! ### expressions, statements -/
section
variable {Γ : Gam} {env : Ev} {E : Ex → Ev → Prop} {k : R → Ev → Prop} {F : List Nat} {P : Post}
@[simp ↓] theorem ev_var {i : Nat} : ev Γ (.var i) env E k = slotK env i fun o => vrK i o fun r => k r env := by (conv => lhs; unfold ev) <;> rfl
@[simp ↓] theorem ev_int {i : Int} : ev Γ (.int i) env E k = k (.obj (.d (.int i))) env := by unfold ev; rfl
@[simp ↓] theorem ev_bl {i : Bool} : ev Γ (.bl i) env E k = k (.obj (.d (.bl i))) env := by unfold ev; rfl
@[simp ↓] theorem ev_non : ev Γ .non env E k = k (.obj (.d .non)) env := by unfold ev; rfl
@[simp ↓] theorem ev_str {s : Str} : ev Γ (.str s) env E k = k (.obj (.d (.str s))) env := by unfold ev; rfl
@[simp ↓] theorem ev_glob {x : Str} {i : Int} : ev Γ (.glob x i) env E k = k (.obj (.d (.int i))) env := by unfold ev; rfl
@[simp ↓] theorem ev_tup {as : Ts} : ev Γ (.tup as) env E k = evs Γ as env E fun rs e => vals rs e fun xs e2 => k (.obj (.d (.tup xs))) e2 := by (conv => lhs; unfold ev) <;> rfl
@[simp ↓] theorem ev_lst {as : Ts} : ev Γ (.lst as) env E k = evs Γ as env E fun rs e => vals rs e fun xs e2 => k (.obj (.lst xs)) e2 := by (conv => lhs; unfold ev) <;> rfl
@[simp ↓] theorem ev_prim {u : Prim} {as : Ts} : ev Γ (.prim u as) env E k = evs Γ as env E fun rs e => dsK e rs fun ds => pw u ds fun o => k (.obj o) e := by (conv => lhs; unfold ev) <;> rfl
def chT (o : O) (A B : Prop) : Prop := tst (.obj o) fun b => if b = true then A else B
@[simp ↓] theorem chT_bl {b : Bool} {A B : Prop} : chT (.d (.bl b)) A B = if b = true then A else B := rfl
@[simp ↓] theorem ev_chain {o1 o2 : CmpOp} {a b c : T} : ev Γ (.chain o1 o2 a b c) env E k = ev Γ a env E fun ra e1 => ev Γ b e1 E fun rb e2 => nrmK ra fun ra' => nrmK rb fun rb' => dsK e2 [ra', rb'] fun ds => wCmp o1 ds fun o => chT o (ev Γ c e2 E fun rc e3 => nrmK rc fun rc' => dsK e3 [rb', rc'] fun ds2 => wCmp o2 ds2 fun o2 => k (.obj o2) e3) (k (.obj (.d (.bl false))) e2) := by
  conv => lhs; unfold ev
  congr 1; funext ra e1; congr 1; funext rb e2
  show _ = opsK e2 [ra.nrm, rb.nrm] fun os => _
  unfold opsK
  cases opsO e2 [ra.nrm, rb.nrm] with
  | none => rfl
  | some os =>
    show pw (.cmp o1) (os.map O.toD) _ = wCmp o1 (os.map O.toD) _
    rw [pw_cmp]
    congr 1
    funext o
    have hc : (ev Γ c e2 E fun rc e3 => match opsO e3 [rb.nrm, rc.nrm] with
        | some os2 => pw (.cmp o2) (os2.map O.toD) fun o2 => k (.obj o2) e3
        | none => False) = (ev Γ c e2 E fun rc e3 => match opsO e3 [rb.nrm, rc.nrm] with
        | some os2 => wCmp o2 (os2.map O.toD) fun o2 => k (.obj o2) e3
        | none => False) := by simp only [pw_cmp]
    cases o with
    | d x =>
      cases x with
      | bl b => cases b with
        | true => exact hc
        | false => rfl
      | _ => rfl
    | _ => rfl
@[simp ↓] theorem ev_and {as : Ts} : ev Γ (.and as) env E k = evAnd Γ as env E fun b e => k (.obj (.d (.bl b))) e := by (conv => lhs; unfold ev) <;> rfl
@[simp ↓] theorem ev_or {as : Ts} : ev Γ (.or as) env E k = evOr Γ as env E fun b e => k (.obj (.d (.bl b))) e := by (conv => lhs; unfold ev) <;> rfl
@[simp ↓] theorem ev_not {a : T} : ev Γ (.not a) env E k = ev Γ a env E fun r e => tst r fun b => k (.obj (.d (.bl (!b)))) e := by (conv => lhs; unfold ev) <;> rfl
@[simp ↓] theorem ev_ite {c a b : T} : ev Γ (.ite c a b) env E k = ev Γ c env E fun r e => tst r fun t => if t = true then ev Γ a e E k else ev Γ b e E k := by (conv => lhs; unfold ev) <;> rfl
@[simp ↓] theorem ev_call {f : Nat} {as : Ts} : ev Γ (.call f as) env E k = evs Γ as env E fun rs e => opsK e rs fun os => apart rs [] = true ∧ callW (Γ.fn f) os (fun o os' => putsK e rs os' fun e2 => k (.obj o) e2) (fun x os' => E x (puts e rs os')) := by (conv => lhs; unfold ev) <;> rfl
/-- a comprehension's turn -/
def compB (Γ : Gam) (ow : List Nat) (p : Pat) (ifs : Ts) (a : T) (x : D) (acc : List D) (e1 : Ev) (kk : List D → Ev → Prop) : Prop := asgP p x e1 fun e2 => evIfs Γ ifs e2 E0x fun b e3 =>
        if b = true then ev Γ a e3 E0x fun r e4 => r.val e4 fun y e5 => addA acc y fun acc' => wipeK e5 ow fun e6 => kk acc' e6 else wipeK e3 ow fun e6 => kk acc e6
@[simp ↓] theorem ev_comp {ow : List Nat} {p : Pat} {kd : ItK} {as ifs : Ts} {a : T} : ev Γ (.comp ow p kd as ifs a) env E k = evs Γ as env E fun rs e => vals rs e fun ds e' => itW kd ds fun xs => wipeK e' ow fun e1 => cloop (compB Γ ow p ifs a) xs [] e1 fun ys e6 => backK e' e6 ow fun e7 => k (.obj (.lst ys)) e7 := by (conv => lhs; unfold ev) <;> rfl
@[simp ↓] theorem ev_mut {u : Mu} {i : Nat} {as : Ts} : ev Γ (.mut u i as) env E k = lstK env i fun _ => evs Γ as env E fun rs e => vals rs e fun xs e2 => slotK e2 i fun o => mw u o xs fun o' x => setK e2 i (some o') fun e3 => k (.obj (.d x)) e3 := by
  (conv => lhs; unfold ev)
  unfold lstK lstAt
  cases slot env i with
  | none => simp
  | some o => cases o <;> simp <;> rfl
@[simp ↓] theorem evs_nil {k : List R → Ev → Prop} : evs Γ .nil env E k = k [] env := by unfold evs; rfl
@[simp ↓] theorem evs_cons {a : T} {as : Ts} {k : List R → Ev → Prop} : evs Γ (.cons a as) env E k = ev Γ a env E fun r e => nrmK r fun r' => evs Γ as e E fun rs e2 => k (r' :: rs) e2 := by (conv => lhs; unfold evs) <;> rfl
@[simp ↓] theorem evAnd_nil {k : Bool → Ev → Prop} : evAnd Γ .nil env E k = k true env := by unfold evAnd; rfl
@[simp ↓] theorem evAnd_cons {a : T} {as : Ts} {k : Bool → Ev → Prop} : evAnd Γ (.cons a as) env E k = ev Γ a env E fun r e => tst r fun b => if b = true then evAnd Γ as e E k else k false e := by (conv => lhs; unfold evAnd) <;> rfl
@[simp ↓] theorem evOr_nil {k : Bool → Ev → Prop} : evOr Γ .nil env E k = k false env := by unfold evOr; rfl
@[simp ↓] theorem evOr_cons {a : T} {as : Ts} {k : Bool → Ev → Prop} : evOr Γ (.cons a as) env E k = ev Γ a env E fun r e => tst r fun b => if b = true then k true e else evOr Γ as e E k := by (conv => lhs; unfold evOr) <;> rfl
@[simp ↓] theorem evIfs_nil {k : Bool → Ev → Prop} : evIfs Γ .nil env E k = k true env := by unfold evIfs; rfl
@[simp ↓] theorem evIfs_cons {a : T} {as : Ts} {k : Bool → Ev → Prop} : evIfs Γ (.cons a as) env E k = ev Γ a env E fun r e => tst r fun b => if b = true then evIfs Γ as e E k else k false e := by (conv => lhs; unfold evIfs) <;> rfl
@[simp ↓] theorem evsO_nil {k : List O → Ev → Prop} : evsO Γ .nil env E k = k [] env := by unfold evsO; rfl
@[simp ↓] theorem evsO_cons {a : T} {as : Ts} {k : List O → Ev → Prop} : evsO Γ (.cons a as) env E k = ev Γ a env E fun r e => r.get e fun o e1 => evsO Γ as e1 E fun os e2 => k (o :: os) e2 := by (conv => lhs; unfold evsO) <;> rfl
/-- what follows: not entered before the state is known -/
def nxK (Γ : Gam) (F : List Nat) (ss : Ss) (P : Post) : Ev → Prop := fun e => wpSs Γ F ss e P
@[simp ↓] theorem nxK_cons {a : Option O} {l : Ev} {ss : Ss} : nxK Γ F ss P (a :: l) = wpSs Γ F ss (a :: l) P := rfl
/-- a for loop's turn -/
def forB (Γ : Gam) (F : List Nat) (p : Pat) (b : Ss) (P : Post) (x : D) (e1 : Ev) (kk : Ev → Prop) : Prop := asgP p x e1 fun e2 => wpSs Γ F b e2 { P with nx := kk, ct := kk, bk := P.nx }
@[simp ↓] theorem wpSs_nil : wpSs Γ F .nil env P = P.nx env := by unfold wpSs; rfl
@[simp ↓] theorem wpSs_cons {s : S} {ss : Ss} : wpSs Γ F (.cons s ss) env P = wpS Γ F s env { P with nx := nxK Γ F ss P } := by (conv => lhs; unfold wpSs) <;> rfl
@[simp ↓] theorem wpS_set {i : Nat} {e : T} : wpS Γ F (.set i e) env P = ev Γ e env P.xc fun r e1 => r.get e1 fun o e2 => setK e2 i (some o) P.nx := by (conv => lhs; unfold wpS) <;> rfl
@[simp ↓] theorem wpS_asg {p : Pat} {e : T} : wpS Γ F (.asg p e) env P = ev Γ e env P.xc fun r e1 => r.val e1 fun x e2 => asgP p x e2 P.nx := by (conv => lhs; unfold wpS) <;> rfl
@[simp ↓] theorem wpS_par {is : List Nat} {as : Ts} : wpS Γ F (.par is as) env P = evsO Γ as env P.xc fun os e => allK e is os P.nx := by (conv => lhs; unfold wpS) <;> rfl
@[simp ↓] theorem wpS_setIx {i : Nat} {a e : T} : wpS Γ F (.setIx i a e) env P = ev Γ e env P.xc fun r e1 => r.val e1 fun x e2 => lstK e2 i fun _ => ev Γ a e2 P.xc fun ra e3 => ra.val e3 fun q e4 => slotK e4 i fun o => sw o q x fun o' => setK e4 i (some o') P.nx := by
  (conv => lhs; unfold wpS)
  congr 1; funext r e1; congr 1; funext x e2
  unfold lstK lstAt
  cases slot e2 i with
  | none => simp
  | some o => cases o <;> simp <;> rfl
@[simp ↓] theorem wpS_aug {i : Nat} {op : Operator} {e : T} : wpS Γ F (.aug i op e) env P = slotK env i fun _ => ev Γ e env P.xc fun r e1 => r.val e1 fun y e2 => slotK e2 i fun o => iw op o y fun o' => setK e2 i (some o') P.nx := by
  (conv => lhs; unfold wpS)
  unfold slotK
  cases slot env i <;> simp <;> rfl
@[simp ↓] theorem wpS_augIx {i : Nat} {a e : T} {op : Operator} : wpS Γ F (.augIx i a op e) env P = lstK env i fun _ => ev Γ a env P.xc fun ra e1 => ra.val e1 fun q e2 => lstK e2 i fun xs => wIx [.lst xs, q] fun x => dtK x fun v => ev Γ e e2 P.xc fun r e3 => r.val e3 fun y e4 => iw op (.d v) y fun z => slotK e4 i fun o2 => dtK z fun zd => sw o2 q zd fun o3 => setK e4 i (some o3) P.nx := by
  (conv => lhs; unfold wpS)
  have key : ∀ (e2 : Ev) (q : D) (K : Int → D → Prop), (lstK e2 i fun xs => ∃ k v, q = .int k ∧ atI xs k = some v ∧ K k v) = lstK e2 i fun xs => wIx [.lst xs, q] fun x => dtK x fun v => match q with | .int k => K k v | _ => False := by
    intro e2 q K
    unfold lstK
    split
    · rename_i xs _
      cases q with
      | int k =>
        show (∃ k' v, D.int k = D.int k' ∧ atI xs k' = some v ∧ K k' v) = ∃ x, atI xs k = some x ∧ dtK (.d x) fun v => K k v
        apply propext
        constructor
        · rintro ⟨k', v, h1, h2, h3⟩; cases h1; exact ⟨v, h2, by rw [dtK_d]; exact h3⟩
        · rintro ⟨x, h1, h2⟩; rw [dtK_d] at h2; exact ⟨k, x, rfl, h1, h2⟩
      | _ => simp [wIx]
    · rfl
  have key2 : ∀ (e2 : Ev) (q : D) (K : D → Prop), (lstK e2 i fun xs => wIx [.lst xs, q] fun x => dtK x fun v => match q with | .int k => K v | _ => False) = lstK e2 i fun xs => wIx [.lst xs, q] fun x => dtK x K := by
    intro e2 q K
    unfold lstK
    split
    · cases q <;> first | rfl | simp [wIx]
    · rfl
  show (lstAt env i ∧ ev Γ a env P.xc fun ra e1 => ra.val e1 fun q e2 => lstK e2 i fun xs => ∃ k v, q = .int k ∧ atI xs k = some v ∧ (fun (_ : Int) v => ev Γ e e2 P.xc fun r e3 => r.val e3 fun y e4 => iw op (.d v) y fun z => slotK e4 i fun o2 => dtK z fun zd => sw o2 q zd fun o3 => setK e4 i (some o3) P.nx) k v) = _
  have e1 : (fun (ra : R) (e1 : Ev) => ra.val e1 fun q e2 => lstK e2 i fun xs => ∃ k v, q = .int k ∧ atI xs k = some v ∧ (fun (_ : Int) v => ev Γ e e2 P.xc fun r e3 => r.val e3 fun y e4 => iw op (.d v) y fun z => slotK e4 i fun o2 => dtK z fun zd => sw o2 q zd fun o3 => setK e4 i (some o3) P.nx) k v) =
      fun ra e1 => ra.val e1 fun q e2 => lstK e2 i fun xs => wIx [.lst xs, q] fun x => dtK x fun v => ev Γ e e2 P.xc fun r e3 => r.val e3 fun y e4 => iw op (.d v) y fun z => slotK e4 i fun o2 => dtK z fun zd => sw o2 q zd fun o3 => setK e4 i (some o3) P.nx := by
    funext ra e1
    congr 1
    funext q e2
    rw [key, key2]
  rw [e1]
  unfold lstAt
  show _ = lstK env i fun _ => _
  unfold lstK
  cases slot env i with
  | none => simp
  | some o => cases o <;> simp
@[simp ↓] theorem wpS_expr {e : T} : wpS Γ F (.expr e) env P = ev Γ e env P.xc fun _ e1 => P.nx e1 := by (conv => lhs; unfold wpS) <;> rfl
/-- what a return hands on -/
def retK (F : List Nat) (P : Post) : R → Ev → Prop
  | .path j, e => if F.contains j = true then slotK e j fun o => dtK o fun d => setK e j (some (.d d)) fun e2 => P.rt (.d d) e2 else slotK e j fun o => setK e j none fun e2 => P.rt o e2
  | .obj x, e => P.rt x e
@[simp ↓] theorem retK_obj {x : O} {e : Ev} : retK F P (.obj x) e = P.rt x e := rfl
@[simp ↓] theorem retK_path {j : Nat} {e : Ev} : retK F P (.path j) e = if F.contains j = true then slotK e j fun o => dtK o fun d => setK e j (some (.d d)) fun e2 => P.rt (.d d) e2 else slotK e j fun o => setK e j none fun e2 => P.rt o e2 := rfl
@[simp ↓] theorem wpS_ret {e : T} : wpS Γ F (.ret e) env P = ev Γ e env P.xc fun r e1 => retK F P r e1 := by
  (conv => lhs; unfold wpS)
  congr 1; funext r e1
  cases r <;> rfl
@[simp ↓] theorem wpS_retN : wpS Γ F .retN env P = P.rt (.d .non) env := by unfold wpS; rfl
@[simp ↓] theorem wpS_pass : wpS Γ F .pass env P = P.nx env := by unfold wpS; rfl
@[simp ↓] theorem wpS_brk : wpS Γ F .brk env P = P.bk env := by unfold wpS; rfl
@[simp ↓] theorem wpS_cont : wpS Γ F .cont env P = P.ct env := by unfold wpS; rfl
@[simp ↓] theorem wpS_ifs {c : T} {a b : Ss} : wpS Γ F (.ifs c a b) env P = ev Γ c env P.xc fun r e => tst r fun t => if t = true then wpSs Γ F a e P else wpSs Γ F b e P := by (conv => lhs; unfold wpS) <;> rfl
theorem wpS_whl {c : T} {b : Ss} : wpS Γ F (.whl c b) env P = ∃ I : Nat → Ev → Prop, (∃ m, I m env) ∧ ∀ m e, I m e → ev Γ c e P.xc fun r e1 => tst r fun t =>
      if t = true then wpSs Γ F b e1 { P with nx := fun e2 => ∃ m', m' < m ∧ I m' e2, ct := fun e2 => ∃ m', m' < m ∧ I m' e2, bk := P.nx } else P.nx e1 := by (conv => lhs; unfold wpS) <;> rfl
@[simp ↓] theorem wpS_for {p : Pat} {kd : ItK} {as : Ts} {b : Ss} : wpS Γ F (.for_ p kd as b) env P = evs Γ as env P.xc fun rs e => vals rs e fun ds e' => itW kd ds fun xs => floop (forB Γ F p b P) xs e' P.nx := by (conv => lhs; unfold wpS) <;> rfl
end
/-! ### loops -/
theorem floop_inv {body : D → Ev → (Ev → Prop) → Prop} {Q : Ev → Prop} : ∀ {xs : List D} {env : Ev} (I : Nat → Ev → Prop) (n : Nat), I n env → (∀ k e kk, (h : k < xs.length) → I (n + k) e → (∀ e', I (n + k + 1) e' → kk e') → body xs[k] e kk) → (∀ e, I (n + xs.length) e → Q e) → floop body xs env Q
  | [], env, I, n, h0, _, hQ => by unfold floop; exact hQ env h0
  | x :: xs, env, I, n, h0, hs, hQ => by
    unfold floop
    refine hs 0 env _ (by simp) h0 fun e' h' => ?_
    refine floop_inv I (n + 1) h' (fun k e kk h i f => ?_) fun e h => hQ e (by simpa [Nat.add_assoc, Nat.add_comm 1] using h)
    have := hs (k + 1) e kk (by simpa using h) (by rw [show n + (k + 1) = n + 1 + k by omega]; exact i) fun e' h => f e' (by rw [show n + 1 + k + 1 = n + (k + 1) + 1 by omega]; exact h)
    simpa using this
/-- by turns from 0 -/
theorem floop_by {body : D → Ev → (Ev → Prop) → Prop} {Q : Ev → Prop} {xs : List D} {env : Ev} (I : Nat → Ev → Prop) (h0 : I 0 env) (hs : ∀ k e kk, (h : k < xs.length) → I k e → (∀ e', I (k + 1) e' → kk e') → body xs[k] e kk) (hQ : ∀ e, I xs.length e → Q e) : floop body xs env Q :=
  floop_inv I 0 h0 (fun k e kk h i f => hs k e kk h (by simpa using i) (by simpa using f)) fun e h => hQ e (by simpa using h)
theorem cloop_inv {body : D → List D → Ev → (List D → Ev → Prop) → Prop} {Q : List D → Ev → Prop} : ∀ {xs acc : List D} {env : Ev} (I : Nat → List D → Ev → Prop) (n : Nat), I n acc env → (∀ k acc e kk, (h : k < xs.length) → I (n + k) acc e → (∀ acc' e', I (n + k + 1) acc' e' → kk acc' e') → body xs[k] acc e kk) →
    (∀ acc e, I (n + xs.length) acc e → Q acc e) → cloop body xs acc env Q
  | [], acc, env, I, n, h0, _, hQ => by unfold cloop; exact hQ acc env h0
  | x :: xs, acc, env, I, n, h0, hs, hQ => by
    unfold cloop
    refine hs 0 acc env _ (by simp) h0 fun acc' e' h' => ?_
    refine cloop_inv I (n + 1) h' (fun k acc e kk h i f => ?_) fun acc e h => hQ acc e (by simpa [Nat.add_assoc, Nat.add_comm 1] using h)
    have := hs (k + 1) acc e kk (by simpa using h) (by rw [show n + (k + 1) = n + 1 + k by omega]; exact i) fun acc' e' h => f acc' e' (by rw [show n + 1 + k + 1 = n + (k + 1) + 1 by omega]; exact h)
    simpa using this
theorem cloop_by {body : D → List D → Ev → (List D → Ev → Prop) → Prop} {Q : List D → Ev → Prop} {xs : List D} {env : Ev} (I : Nat → List D → Ev → Prop) (h0 : I 0 [] env) (hs : ∀ k acc e kk, (h : k < xs.length) → I k acc e → (∀ acc' e', I (k + 1) acc' e' → kk acc' e') → body xs[k] acc e kk)
    (hQ : ∀ acc e, I xs.length acc e → Q acc e) : cloop body xs [] env Q :=
  cloop_inv I 0 h0 (fun k acc e kk h i f => hs k acc e kk h (by simpa using i) (by simpa using f)) fun acc e h => hQ acc e (by simpa using h)
/-- a plain comprehension: each item's value, the state as it was -/
theorem cloop_map {body : D → List D → Ev → (List D → Ev → Prop) → Prop} {Q : List D → Ev → Prop} {xs : List D} {env : Ev} (f : D → D) (hl : xs.length ≤ sizeLine) (hs : ∀ x ∈ xs, ∀ acc kk, acc.length < sizeLine → kk (acc ++ [f x]) env → body x acc env kk) (hQ : Q (xs.map f) env) : cloop body xs [] env Q := by
  refine cloop_by (fun k acc e => e = env ∧ acc = (xs.take k).map f) ⟨rfl, rfl⟩ (fun k acc e kk h ⟨h1, h2⟩ g => ?_) fun acc e ⟨h1, h2⟩ => ?_
  · subst h1 h2
    refine hs _ (List.getElem_mem h) _ _ (by simp; omega) (g _ _ ⟨rfl, ?_⟩)
    rw [List.take_succ_eq_append_getElem h, List.map_append]; rfl
  · subst h1 h2
    rw [List.take_length]; exact hQ
/-- with a test -/
theorem cloop_filter {body : D → List D → Ev → (List D → Ev → Prop) → Prop} {Q : List D → Ev → Prop} {xs : List D} {env : Ev} (f : D → Option D) (hl : xs.length ≤ sizeLine) (hs : ∀ x ∈ xs, ∀ acc kk, acc.length < sizeLine → (match f x with | some y => kk (acc ++ [y]) env | none => kk acc env) → body x acc env kk) (hQ : Q (xs.filterMap f) env) : cloop body xs [] env Q := by
  refine cloop_by (fun k acc e => e = env ∧ acc = (xs.take k).filterMap f) ⟨rfl, rfl⟩ (fun k acc e kk h ⟨h1, h2⟩ g => ?_) fun acc e ⟨h1, h2⟩ => ?_
  · subst h1 h2
    refine hs _ (List.getElem_mem h) _ _ ?_ ?_
    · have := List.length_filterMap_le f (xs.take k)
      simp at this; omega
    · have e : (xs.take (k + 1)).filterMap f = (xs.take k).filterMap f ++ (match f xs[k] with | some y => [y] | none => []) := by
        rw [List.take_succ_eq_append_getElem h, List.filterMap_append]
        congr 1
        cases h9 : f xs[k] with
        | none => simp [h9]
        | some y => simp [h9]
      cases h3 : f xs[k] with
      | none => exact g _ _ ⟨rfl, by rw [e, h3]; simp⟩
      | some y => exact g _ _ ⟨rfl, by rw [e, h3]⟩
  · subst h1 h2
    rw [List.take_length]; exact hQ
theorem rngD_len {i j : Int} : (rngD i j).length = (j - i).toNat := by simp [rngD]
theorem rngD_get {i j : Int} {k : Nat} (h : k < (rngD i j).length) : (rngD i j)[k] = .int (i + k) := by simp [rngD]
theorem mem_rngD {i j : Int} {x : D} : x ∈ rngD i j ↔ ∃ n, x = .int n ∧ i ≤ n ∧ n < j := by
  unfold rngD
  simp only [List.mem_map, List.mem_range]
  constructor
  · rintro ⟨k, h, rfl⟩; exact ⟨_, rfl, by omega, by omega⟩
  · rintro ⟨n, rfl, h1, h2⟩
    exact ⟨(n - i).toNat, by omega, by congr 1; omega⟩
/-! ### plain promises -/
/-- a value of the arguments; they stay as they are -/
def fnSp (f : List O → Option O) : DSp := fun os Q _ => ∃ r, f os = some r ∧ Q r os
@[simp] theorem callW_fnSp {f : List O → Option O} {os : List O} {Q : O → List O → Prop} {E : Ex → List O → Prop} : callW (fnSp f) os Q E = ∃ r, f os = some r ∧ Q r os := by
  apply propext
  constructor
  · rintro ⟨Q0, E0, ⟨r, h1, h2⟩, h3, h4⟩
    exact ⟨r, h1, (h3 _ _ h2).2⟩
  · rintro ⟨r, h1, h2⟩
    exact callW.of ⟨r, h1, rfl, h2⟩
/-- some value; the arguments may turn -/
def ndSp (P : List O → Prop) (R : List O → O → List O → Prop) : DSp := fun os Q _ => P os ∧ ∀ o os', R os o os' → Q o os'
theorem callW_ndSp {P : List O → Prop} {R : List O → O → List O → Prop} {os : List O} {Q : O → List O → Prop} {E : Ex → List O → Prop} (hl : ∀ o os', R os o os' → os'.length = os.length) : callW (ndSp P R) os Q E = (P os ∧ ∀ o os', R os o os' → Q o os') := by
  apply propext
  constructor
  · rintro ⟨Q0, E0, ⟨h1, h2⟩, h3, h4⟩
    exact ⟨h1, fun o os' r => (h3 _ _ (h2 o os' r)).2⟩
  · rintro ⟨h1, h2⟩
    exact callW.of ⟨h1, fun o os' r => ⟨hl o os' r, h2 o os' r⟩⟩
@[simp] theorem postD_nx {F : List Nat} {os : List O} {Q : O → List O → Prop} {e : Ev} : (postD F os Q).nx e = ∃ os', outO F e 0 os = some os' ∧ Q (.d .non) os' := rfl
@[simp] theorem postD_rt {F : List Nat} {os : List O} {Q : O → List O → Prop} {o : O} {e : Ev} : (postD F os Q).rt o e = ∃ os', outO F e 0 os = some os' ∧ Q o os' := rfl
@[simp] theorem postD_xc {F : List Nat} {os : List O} {Q : O → List O → Prop} : (postD F os Q).xc = fun _ _ => False := rfl
@[simp] theorem outO_nil {F : List Nat} {e : Ev} {k : Nat} : outO F e k [] = some [] := by simp [outO]
@[simp] theorem outO_cons {F : List Nat} {e : Ev} {k : Nat} {o : O} {os : List O} : outO F e k (o :: os) = match (if F.contains k then slot e k else some (.d o.toD)), outO F e (k + 1) os with
    | some a, some r => some (a :: r)
    | _, _ => none := by (conv => lhs; unfold outO) <;> rfl
@[simp] theorem inO_nil {F : List Nat} {k : Nat} : inO F k [] = [] := by simp [inO]
@[simp] theorem inO_cons {F : List Nat} {k : Nat} {o : O} {os : List O} : inO F k (o :: os) = (if F.contains k then o else .d o.toD) :: inO F (k + 1) os := by simp [inO]
@[simp] theorem env0_def {F : List Nat} {n : Nat} {os : List O} : env0 F n os = (inO F 0 os).map some ++ List.replicate (n - os.length) none := rfl
/-- one statement, by a word between -/
theorem step {Γ : Gam} {F : List Nat} {s : S} {ss : Ss} {env : Ev} {P : Post} (M : Ev → Prop) (h1 : wpS Γ F s env { P with nx := M }) (h2 : ∀ e, M e → wpSs Γ F ss e P) : wpSs Γ F (.cons s ss) env P := by
  unfold wpSs
  exact wpS_mono (P := { P with nx := M }) (P' := { P with nx := fun e => wpSs Γ F ss e P }) s ⟨h2, fun _ _ h => h, fun _ h => h, fun _ h => h, fun _ _ h => h⟩ h1
/-- lists of ints -/
theorem purs_int : ∀ {xs : List D}, xs.all isInt = true → D.purs xs = true ∧ D.deps xs = 0
  | [], _ => by simp [D.purs, D.deps]
  | x :: xs, h => by
    rw [List.all_cons, Bool.and_eq_true] at h
    obtain ⟨h1, h2⟩ := purs_int h.2
    cases x <;> simp [isInt] at h
    simp [D.purs, D.deps, D.pur, D.dep, h1, h2]
theorem eqOk_ints {xs ys : List D} (h1 : xs.all isInt = true) (h2 : ys.all isInt = true) : eqOk (.tup xs) (.tup ys) = true := by
  obtain ⟨a1, a2⟩ := purs_int h1
  obtain ⟨b1, b2⟩ := purs_int h2
  simp [eqOk, D.pur, D.dep, a1, a2, b1, b2]
end VE
/-! VE19: the laws' own defs -/
namespace VE
open PySem PySem.Spec PyProof.Rows L2
def numP : List O → Prop := fun os => ∃ ns i, os = [.d (.scr ns), .d (.int i)]
def numR : List O → O → List O → Prop := fun os o os' => os' = os ∧ ∃ r, o = .d (.int r) ∧ 0 ≤ r ∧ r < 2147483647
def numSp : DSp := ndSp numP numR
@[simp ↓] theorem call_num {ns : List Int} {i : Int} {Q : O → List O → Prop} {E : Ex → List O → Prop} : callW numSp [.d (.scr ns), .d (.int i)] Q E = ∀ r, 0 ≤ r → r < 2147483647 → Q (.d (.int r)) [.d (.scr ns), .d (.int i)] := by
  unfold numSp
  rw [callW_ndSp fun o os' h => by rw [h.1]]
  apply propext
  constructor
  · exact fun ⟨_, h⟩ r h1 h2 => h _ _ ⟨rfl, r, rfl, h1, h2⟩
  · exact fun h => ⟨⟨ns, i, rfl⟩, fun o os' ⟨h1, r, h2, h3, h4⟩ => by subst h1 h2; exact h r h3 h4⟩
def b_num : Ss :=
  .cons (.ifs (.prim (.cmp .Eq) (.cons (.var 0) (.cons (.lst .nil) .nil))) (.cons (.ret (.prim (.ty "int") (.cons (.prim (.bop .Mod) (.cons (.prim (.bop .Add) (.cons (.prim (.bop .Mult) (.cons (.var 1) (.cons (.int 48271) .nil))) (.cons (.int 12345) .nil))) (.cons (.int 2147483647) .nil))) .nil))) .nil) .nil) <|
  .cons (.set 2 (.prim .ix (.cons (.var 0) (.cons (.prim (.bop .Mod) (.cons (.var 1) (.cons (.prim (.call "len") (.cons (.var 0) .nil)) .nil))) .nil)))) <|
  .cons (.ifs (.prim (.cmp .GtE) (.cons (.prim (.call "abs") (.cons (.var 2) .nil)) (.cons (.prim (.bop .Pow) (.cons (.int 10) (.cons (.int 60) .nil))) .nil))) (.cons (.set 2 (.prim (.bop .Mod) (.cons (.var 2) (.cons (.prim (.bop .Pow) (.cons (.int 10) (.cons (.int 18) .nil))) .nil)))) .nil) .nil) <|
  .cons (.set 3 (.prim (.bop .Mod) (.cons (.prim (.bop .Add) (.cons (.prim (.bop .Mult) (.cons (.prim (.bop .Add) (.cons (.var 2) (.cons (.prim (.bop .Mult) (.cons (.int 977) (.cons (.var 1) .nil))) .nil))) (.cons (.int 48271) .nil))) (.cons (.prim (.bop .Mult) (.cons (.int 31) (.cons (.prim (.call "len") (.cons (.var 0) .nil)) .nil))) .nil))) (.cons (.int 2147483647) .nil)))) <|
  .cons (.ret (.prim (.ty "int") (.cons (.prim (.bop .Mod) (.cons (.prim (.bop .Add) (.cons (.prim (.bop .Mult) (.cons (.prim (.bop .Mod) (.cons (.prim (.bop .Mult) (.cons (.var 3) (.cons (.int 69621) .nil))) (.cons (.int 2147483629) .nil))) (.cons (.int 16807) .nil))) (.cons (.var 1) .nil))) (.cons (.int 2147483587) .nil))) .nil))) <|
  .nil
theorem w_num (Γ : Gam) (os : List O) (Q : O → List O → Prop) (E : Ex → List O → Prop) (h : numSp os Q E) : wpSs Γ [0, 1] b_num (env0 [0, 1] 4 os) (postD [0, 1] os Q) := by
  obtain ⟨⟨ns, i, rfl⟩, h⟩ := h
  have ok : ∀ r, 0 ≤ r → r < 2147483647 → Q (.d (.int r)) [.d (.scr ns), .d (.int i)] := fun r h1 h2 => h _ _ ⟨rfl, r, rfl, h1, h2⟩
  simp [b_num, MulOk]
  by_cases h0 : ns = []
  · rw [if_pos h0]; apply ok <;> omega
  · rw [if_neg h0]
    have hp : 0 < ns.length := List.length_pos_iff.mpr h0
    refine ⟨hp, ?_⟩
    obtain ⟨n, hn⟩ := atI_mod (i := i) hp
    refine ⟨n, hn, ?_⟩
    split <;> split <;> apply ok <;> omega
def takeP : List O → Prop := fun os => ∃ ns i m, os = [.lst [.scr ns, .int i], .d (.int m)] ∧ 0 < m
def takeR : List O → O → List O → Prop := fun os o os' => ∃ ns i m r, os = [.lst [.scr ns, .int i], .d (.int m)] ∧ os' = [.lst [.scr ns, .int (i + 1)], .d (.int m)] ∧ o = .d (.int r) ∧ 0 ≤ r ∧ r < m
def takeSp : DSp := ndSp takeP takeR
@[simp ↓] theorem call_take {ns : List Int} {i m : Int} {Q : O → List O → Prop} {E : Ex → List O → Prop} : callW takeSp [.lst [.scr ns, .int i], .d (.int m)] Q E = (0 < m ∧ ∀ r, 0 ≤ r → r < m → Q (.d (.int r)) [.lst [.scr ns, .int (i + 1)], .d (.int m)]) := by
  unfold takeSp
  rw [callW_ndSp fun o os' ⟨_, _, _, _, h1, h2, _⟩ => by rw [h1, h2]; rfl]
  apply propext
  constructor
  · rintro ⟨⟨ns', i', m', e, hm⟩, h⟩
    cases e
    exact ⟨hm, fun r h1 h2 => h _ _ ⟨ns, i, m, r, rfl, rfl, rfl, h1, h2⟩⟩
  · rintro ⟨hm, h⟩
    refine ⟨⟨ns, i, m, rfl, hm⟩, ?_⟩
    rintro o os' ⟨ns', i', m', r, e, e2, e3, h3, h4⟩
    cases e; subst e2 e3
    exact h r h3 h4
def b_take (f : Nat) : Ss :=
  .cons (.augIx 0 (.int 1) .Add (.int 1)) <|
  .cons (.ret (.prim (.bop .Mod) (.cons (.prim (.ty "int") (.cons (.call f (.cons (.prim .ix (.cons (.var 0) (.cons (.int 0) .nil))) (.cons (.prim (.ty "int") (.cons (.prim .ix (.cons (.var 0) (.cons (.int 1) .nil))) .nil)) .nil))) .nil)) (.cons (.var 1) .nil)))) <|
  .nil
theorem w_take (Γ : Gam) {f : Nat} (hf : Γ.fn f = numSp) (os : List O) (Q : O → List O → Prop) (E : Ex → List O → Prop) (h : takeSp os Q E) : wpSs Γ [0, 1] (b_take f) (env0 [0, 1] 2 os) (postD [0, 1] os Q) := by
  obtain ⟨⟨ns, i, m, rfl, hm⟩, h⟩ := h
  have ok : ∀ r, 0 ≤ r → r < m → Q (.d (.int r)) [.lst [.scr ns, .int (i + 1)], .d (.int m)] := fun r h1 h2 => h _ _ ⟨ns, i, m, r, rfl, rfl, rfl, h1, h2⟩
  simp [b_take, hf, ixN]
  exact fun r h1 h2 => ⟨hm, ok _ (Int.emod_nonneg _ (by omega)) (Int.emod_lt_of_pos _ hm)⟩
/-- the law's def at its call -/
theorem law_sp {C : CT} {K : PySem.W.Frag} {H : Hp} {a : Addr} {ns : List Int} {n : Nat} {Φ : DSp} {E : XK} (hO : L2.Only H) (hS : SqL K H a (ns.map V.int)) (hp : n = 1 ∧ ∀ ns, callW Φ [.d (.scr ns)] (fun o _ => o = .d (.bl true)) (fun _ _ => False)) : spOf C K n Φ [.ref a] H (fun v _ => v = .bl true) E := by
  obtain ⟨e, hp⟩ := hp
  subst e
  refine ⟨rfl, [], [.d (.scr ns)], rfl, ⟨H, [], Same.refl H, ⟨[], [], rfl, ⟨rfl, a, rfl, hS⟩, rfl⟩, List.nodup_nil, fun _ h => nomatch h⟩, callW.mono (hp ns) (fun o os' _ h v H' R => ?_) fun _ _ h => h⟩
  subst h
  exact R.rep
end VE
namespace K59
open PySem PySem.Spec PyProof.Rows L2 VE
def top (i : Nat) : Stmt := PySem.Challenge.pw_finecloud_k59_whole_numbers.main.body.getD i (.Pass ⟨0, 0, 0, 0⟩)
def ar : Nat → Nat
  | 0 => 2
  | 1 => 2
  | 2 => 2
  | 3 => 1
  | 4 => 1
  | 5 => 2
  | 6 => 1
  | 7 => 1
  | _ => 0
def free : List Str := ["abs", "any", "int", "len", "min", "range", "sum", "tuple"]
def glob : List (Str × Int) := []
/-! _law_number -/
abbrev s_law_number : Stmt := top 20
def n_law_number : List Str := ["_law_script", "_law_index", "_law_cell", "_law_blend"]
def p_law_number : List Str := ["_law_script", "_law_index"]
def c_law_number : List (Nat × Str) := []
def f_law_number : List Nat := [0, 1]
def b_law_number : Ss := 
  .cons (.ifs (.prim (.cmp .Eq) (.cons (.var 0) (.cons (.lst .nil) .nil))) (.cons (.ret (.prim (.ty "int") (.cons (.prim (.bop .Mod) (.cons (.prim (.bop .Add) (.cons (.prim (.bop .Mult) (.cons (.var 1) (.cons (.int 48271) .nil))) (.cons (.int 12345) .nil))) (.cons (.int 2147483647) .nil))) .nil))) .nil) .nil) <|
  .cons (.set 2 (.prim .ix (.cons (.var 0) (.cons (.prim (.bop .Mod) (.cons (.var 1) (.cons (.prim (.call "len") (.cons (.var 0) .nil)) .nil))) .nil)))) <|
  .cons (.ifs (.prim (.cmp .GtE) (.cons (.prim (.call "abs") (.cons (.var 2) .nil)) (.cons (.prim (.bop .Pow) (.cons (.int 10) (.cons (.int 60) .nil))) .nil))) (.cons (.set 2 (.prim (.bop .Mod) (.cons (.var 2) (.cons (.prim (.bop .Pow) (.cons (.int 10) (.cons (.int 18) .nil))) .nil)))) .nil) .nil) <|
  .cons (.set 3 (.prim (.bop .Mod) (.cons (.prim (.bop .Add) (.cons (.prim (.bop .Mult) (.cons (.prim (.bop .Add) (.cons (.var 2) (.cons (.prim (.bop .Mult) (.cons (.int 977) (.cons (.var 1) .nil))) .nil))) (.cons (.int 48271) .nil))) (.cons (.prim (.bop .Mult) (.cons (.int 31) (.cons (.prim (.call "len") (.cons (.var 0) .nil)) .nil))) .nil))) (.cons (.int 2147483647) .nil)))) <|
  .cons (.ret (.prim (.ty "int") (.cons (.prim (.bop .Mod) (.cons (.prim (.bop .Add) (.cons (.prim (.bop .Mult) (.cons (.prim (.bop .Mod) (.cons (.prim (.bop .Mult) (.cons (.var 3) (.cons (.int 69621) .nil))) (.cons (.int 2147483629) .nil))) (.cons (.int 16807) .nil))) (.cons (.var 1) .nil))) (.cons (.int 2147483587) .nil))) .nil))) <|
  .nil
theorem sc_law_number : FnScope n_law_number p_law_number (defScope s_law_number) := ⟨rfl, rfl, rfl, by decide +kernel, rfl, by decide +kernel, by decide +kernel⟩
theorem k_law_number : chkSs (mkB ar glob free n_law_number c_law_number) f_law_number (defScope s_law_number) b_law_number (defBody s_law_number) = true := by kernel_rfl
/-! _law_take -/
abbrev s_law_take : Stmt := top 21
def n_law_take : List Str := ["_law_draw", "_law_many"]
def p_law_take : List Str := ["_law_draw", "_law_many"]
def c_law_take : List (Nat × Str) := [(0, "_law_number")]
def f_law_take : List Nat := [0, 1]
def b_law_take : Ss := 
  .cons (.augIx 0 (.int 1) .Add (.int 1)) <|
  .cons (.ret (.prim (.bop .Mod) (.cons (.prim (.ty "int") (.cons (.call 0 (.cons (.prim .ix (.cons (.var 0) (.cons (.int 0) .nil))) (.cons (.prim (.ty "int") (.cons (.prim .ix (.cons (.var 0) (.cons (.int 1) .nil))) .nil)) .nil))) .nil)) (.cons (.var 1) .nil)))) <|
  .nil
theorem sc_law_take : FnScope n_law_take p_law_take (defScope s_law_take) := ⟨rfl, rfl, rfl, by decide +kernel, rfl, by decide +kernel, by decide +kernel⟩
theorem k_law_take : chkSs (mkB ar glob free n_law_take c_law_take) f_law_take (defScope s_law_take) b_law_take (defBody s_law_take) = true := by kernel_rfl
/-! choices -/
abbrev s_choices : Stmt := top 4
def n_choices : List Str := ["many", "some", "found", "turn"]
def p_choices : List Str := ["many", "some"]
def c_choices : List (Nat × Str) := []
def f_choices : List Nat := [0, 1]
def l_choices_0 : Ss :=
  .cons (.set 2 (.prim (.bop .FloorDiv) (.cons (.prim (.bop .Mult) (.cons (.var 2) (.cons (.prim (.bop .Sub) (.cons (.var 0) (.cons (.var 3) .nil))) .nil))) (.cons (.prim (.bop .Add) (.cons (.var 3) (.cons (.int 1) .nil))) .nil)))) <|
  .nil
def b_choices : Ss := 
  .cons (.ifs (.not (.chain .LtE .LtE (.int 0) (.var 1) (.var 0))) (.cons (.ret (.int 0)) .nil) .nil) <|
  .cons (.set 2 (.int 1)) <|
  .cons (.for_ (.v 3) .rng (.cons (.prim (.call "min") (.cons (.var 1) (.cons (.prim (.bop .Sub) (.cons (.var 0) (.cons (.var 1) .nil))) .nil))) .nil) l_choices_0) <|
  .cons (.ret (.var 2)) <|
  .nil
theorem sc_choices : FnScope n_choices p_choices (defScope s_choices) := ⟨rfl, rfl, rfl, by decide +kernel, rfl, by decide +kernel, by decide +kernel⟩
theorem k_choices : chkSs (mkB ar glob free n_choices c_choices) f_choices (defScope s_choices) b_choices (defBody s_choices) = true := by kernel_rfl
/-! power -/
abbrev s_power : Stmt := top 3
def n_power : List Str := ["times", "found", "turn"]
def p_power : List Str := ["times"]
def c_power : List (Nat × Str) := []
def f_power : List Nat := [0]
def l_power_0 : Ss :=
  .cons (.set 1 (.prim (.bop .Mult) (.cons (.var 1) (.cons (.int 2) .nil)))) <|
  .nil
def b_power : Ss := 
  .cons (.set 1 (.int 1)) <|
  .cons (.for_ (.v 2) .rng (.cons (.var 0) .nil) l_power_0) <|
  .cons (.ret (.var 1)) <|
  .nil
theorem sc_power : FnScope n_power p_power (defScope s_power) := ⟨rfl, rfl, rfl, by decide +kernel, rfl, by decide +kernel, by decide +kernel⟩
theorem k_power : chkSs (mkB ar glob free n_power c_power) f_power (defScope s_power) b_power (defBody s_power) = true := by kernel_rfl
/-! bits_for -/
abbrev s_bits_for : Stmt := top 5
def n_bits_for : List Str := ["many", "found", "room"]
def p_bits_for : List Str := ["many"]
def c_bits_for : List (Nat × Str) := []
def f_bits_for : List Nat := [0]
def l_bits_for_0 : Ss :=
  .cons (.par [1, 2] (.cons (.prim (.bop .Add) (.cons (.var 1) (.cons (.int 1) .nil))) (.cons (.prim (.bop .Mult) (.cons (.var 2) (.cons (.int 2) .nil))) .nil))) <|
  .nil
def b_bits_for : Ss := 
  .cons (.asg (.t (.cons (.v 1) (.cons (.v 2) .nil))) (.tup (.cons (.int 0) (.cons (.int 1) .nil)))) <|
  .cons (.whl (.prim (.cmp .Lt) (.cons (.var 2) (.cons (.var 0) .nil))) l_bits_for_0) <|
  .cons (.ret (.var 1)) <|
  .nil
theorem sc_bits_for : FnScope n_bits_for p_bits_for (defScope s_bits_for) := ⟨rfl, rfl, rfl, by decide +kernel, rfl, by decide +kernel, by decide +kernel⟩
theorem k_bits_for : chkSs (mkB ar glob free n_bits_for c_bits_for) f_bits_for (defScope s_bits_for) b_bits_for (defBody s_bits_for) = true := by kernel_rfl
/-! bits_of -/
abbrev s_bits_of : Stmt := top 6
def n_bits_of : List Str := ["number", "many", "found", "turn"]
def p_bits_of : List Str := ["number", "many"]
def c_bits_of : List (Nat × Str) := []
def f_bits_of : List Nat := [1]
def l_bits_of_0 : Ss :=
  .cons (.expr (.mut .append 2 (.cons (.prim (.bop .Mod) (.cons (.prim (.ty "int") (.cons (.var 0) .nil)) (.cons (.int 2) .nil))) .nil))) <|
  .cons (.set 0 (.prim (.bop .FloorDiv) (.cons (.var 0) (.cons (.int 2) .nil)))) <|
  .nil
def b_bits_of : Ss := 
  .cons (.set 2 (.lst .nil)) <|
  .cons (.for_ (.v 3) .rng (.cons (.var 1) .nil) l_bits_of_0) <|
  .cons (.ret (.prim (.ty "tuple") (.cons (.prim .rev (.cons (.var 2) .nil)) .nil))) <|
  .nil
theorem sc_bits_of : FnScope n_bits_of p_bits_of (defScope s_bits_of) := ⟨rfl, rfl, rfl, by decide +kernel, rfl, by decide +kernel, by decide +kernel⟩
theorem k_bits_of : chkSs (mkB ar glob free n_bits_of c_bits_of) f_bits_of (defScope s_bits_of) b_bits_of (defBody s_bits_of) = true := by kernel_rfl
/-! number_of -/
abbrev s_number_of : Stmt := top 7
def n_number_of : List Str := ["bits", "found", "bit"]
def p_number_of : List Str := ["bits"]
def c_number_of : List (Nat × Str) := []
def f_number_of : List Nat := [0]
def l_number_of_0 : Ss :=
  .cons (.set 1 (.prim (.bop .Add) (.cons (.prim (.bop .Mult) (.cons (.var 1) (.cons (.int 2) .nil))) (.cons (.var 2) .nil)))) <|
  .nil
def b_number_of : Ss := 
  .cons (.set 1 (.int 0)) <|
  .cons (.for_ (.v 2) .seq (.cons (.var 0) .nil) l_number_of_0) <|
  .cons (.ret (.var 1)) <|
  .nil
theorem sc_number_of : FnScope n_number_of p_number_of (defScope s_number_of) := ⟨rfl, rfl, rfl, by decide +kernel, rfl, by decide +kernel, by decide +kernel⟩
theorem k_number_of : chkSs (mkB ar glob free n_number_of c_number_of) f_number_of (defScope s_number_of) b_number_of (defBody s_number_of) = true := by kernel_rfl
/-! law -/
abbrev s_law : Stmt := top 31
def n_law : List Str := ["_law_script", "_law_draw", "_law_turn", "_law_many", "_law_some", "_law_number_here", "_law_least", "_law_bits", "_law_one", "_law_other", "_law_bit"]
def p_law : List Str := ["_law_script"]
def c_law : List (Nat × Str) := [(1, "_law_take"), (2, "choices"), (3, "power"), (4, "bits_for"), (5, "bits_of"), (6, "number_of")]
def f_law : List Nat := [0]
def l_law_0 : Ss :=
  .cons (.set 3 (.ite (.prim (.cmp .Lt) (.cons (.var 2) (.cons (.int 5) .nil))) (.call 1 (.cons (.var 1) (.cons (.int 14) .nil))) (.call 1 (.cons (.var 1) (.cons (.int 2000) .nil))))) <|
  .cons (.set 4 (.prim (.bop .Sub) (.cons (.call 1 (.cons (.var 1) (.cons (.int 12) .nil))) (.cons (.int 2) .nil)))) <|
  .cons (.ifs (.and (.cons (.prim (.cmp .Gt) (.cons (.var 3) (.cons (.int 0) .nil))) (.cons (.prim (.cmp .NotEq) (.cons (.call 2 (.cons (.var 3) (.cons (.var 4) .nil))) (.cons (.prim (.bop .Add) (.cons (.call 2 (.cons (.prim (.bop .Sub) (.cons (.var 3) (.cons (.int 1) .nil))) (.cons (.var 4) .nil))) (.cons (.call 2 (.cons (.prim (.bop .Sub) (.cons (.var 3) (.cons (.int 1) .nil))) (.cons (.prim (.bop .Sub) (.cons (.var 4) (.cons (.int 1) .nil))) .nil))) .nil))) .nil))) .nil))) (.cons (.ret (.bl false)) .nil) .nil) <|
  .cons (.ifs (.and (.cons (.prim (.cmp .Lt) (.cons (.var 2) (.cons (.int 5) .nil))) (.cons (.prim (.cmp .NotEq) (.cons (.prim (.call "sum") (.cons (.comp [8] (.v 8) .rng (.cons (.prim (.bop .Add) (.cons (.var 3) (.cons (.int 1) .nil))) .nil) .nil (.call 2 (.cons (.var 3) (.cons (.var 8) .nil)))) .nil)) (.cons (.call 3 (.cons (.var 3) .nil)) .nil))) .nil))) (.cons (.ret (.bl false)) .nil) .nil) <|
  .cons (.ifs (.or (.cons (.prim (.cmp .NotEq) (.cons (.call 2 (.cons (.var 3) (.cons (.var 3) .nil))) (.cons (.int 1) .nil))) (.cons (.prim (.cmp .NotEq) (.cons (.call 2 (.cons (.var 3) (.cons (.int 0) .nil))) (.cons (.int 1) .nil))) (.cons (.prim (.cmp .NotEq) (.cons (.call 2 (.cons (.var 3) (.cons (.prim (.bop .Add) (.cons (.var 3) (.cons (.int 1) .nil))) .nil))) (.cons (.int 0) .nil))) (.cons (.prim (.cmp .NotEq) (.cons (.call 2 (.cons (.var 3) (.cons (.prim .neg (.cons (.int 1) .nil)) .nil))) (.cons (.int 0) .nil))) .nil))))) (.cons (.ret (.bl false)) .nil) .nil) <|
  .cons (.set 5 (.prim (.bop .Add) (.cons (.int 1) (.cons (.call 1 (.cons (.var 1) (.cons (.prim (.bop .Pow) (.cons (.int 10) (.cons (.int 6) .nil))) .nil))) .nil)))) <|
  .cons (.set 6 (.call 4 (.cons (.var 5) .nil))) <|
  .cons (.ifs (.or (.cons (.prim (.cmp .Lt) (.cons (.call 3 (.cons (.var 6) .nil)) (.cons (.var 5) .nil))) (.cons (.and (.cons (.prim (.cmp .Gt) (.cons (.var 6) (.cons (.int 0) .nil))) (.cons (.prim (.cmp .GtE) (.cons (.call 3 (.cons (.prim (.bop .Sub) (.cons (.var 6) (.cons (.int 1) .nil))) .nil)) (.cons (.var 5) .nil))) .nil))) .nil))) (.cons (.ret (.bl false)) .nil) .nil) <|
  .cons (.set 7 (.call 5 (.cons (.prim (.bop .Sub) (.cons (.var 5) (.cons (.int 1) .nil))) (.cons (.var 6) .nil)))) <|
  .cons (.ifs (.or (.cons (.prim (.cmp .NotEq) (.cons (.prim (.call "len") (.cons (.var 7) .nil)) (.cons (.var 6) .nil))) (.cons (.prim (.cmp .NotEq) (.cons (.call 6 (.cons (.var 7) .nil)) (.cons (.prim (.bop .Sub) (.cons (.var 5) (.cons (.int 1) .nil))) .nil))) (.cons (.prim (.call "any") (.cons (.comp [10] (.v 10) .seq (.cons (.var 7) .nil) .nil (.prim (.cmp .NotIn) (.cons (.var 10) (.cons (.tup (.cons (.int 0) (.cons (.int 1) .nil))) .nil)))) .nil)) .nil)))) (.cons (.ret (.bl false)) .nil) .nil) <|
  .cons (.ifs (.or (.cons (.prim (.cmp .NotEq) (.cons (.call 6 (.cons (.prim (.bop .Add) (.cons (.tup (.cons (.int 0) (.cons (.int 0) .nil))) (.cons (.var 7) .nil))) .nil)) (.cons (.prim (.bop .Sub) (.cons (.var 5) (.cons (.int 1) .nil))) .nil))) (.cons (.prim (.cmp .NotEq) (.cons (.call 5 (.cons (.prim (.bop .Sub) (.cons (.var 5) (.cons (.int 1) .nil))) (.cons (.prim (.bop .Add) (.cons (.var 6) (.cons (.int 3) .nil))) .nil))) (.cons (.prim (.bop .Add) (.cons (.tup (.cons (.int 0) (.cons (.int 0) (.cons (.int 0) .nil)))) (.cons (.var 7) .nil))) .nil))) .nil))) (.cons (.ret (.bl false)) .nil) .nil) <|
  .nil
def b_law : Ss := 
  .cons (.set 1 (.lst (.cons (.var 0) (.cons (.int 0) .nil)))) <|
  .cons (.for_ (.v 2) .rng (.cons (.int 8) .nil) l_law_0) <|
  .cons (.par [8, 9] (.cons (.call 1 (.cons (.var 1) (.cons (.int 60) .nil))) (.cons (.call 1 (.cons (.var 1) (.cons (.int 60) .nil))) .nil))) <|
  .cons (.ifs (.or (.cons (.prim (.cmp .NotEq) (.cons (.call 4 (.cons (.call 3 (.cons (.var 8) .nil)) .nil)) (.cons (.var 8) .nil))) (.cons (.prim (.cmp .NotEq) (.cons (.call 4 (.cons (.prim (.bop .Add) (.cons (.call 3 (.cons (.var 8) .nil)) (.cons (.int 1) .nil))) .nil)) (.cons (.prim (.bop .Add) (.cons (.var 8) (.cons (.int 1) .nil))) .nil))) .nil))) (.cons (.ret (.bl false)) .nil) .nil) <|
  .cons (.ret (.and (.cons (.prim (.cmp .Eq) (.cons (.prim (.bop .Mult) (.cons (.call 3 (.cons (.var 8) .nil)) (.cons (.call 3 (.cons (.var 9) .nil)) .nil))) (.cons (.call 3 (.cons (.prim (.bop .Add) (.cons (.var 8) (.cons (.var 9) .nil))) .nil)) .nil))) (.cons (.prim (.cmp .Eq) (.cons (.call 6 (.cons (.tup .nil) .nil)) (.cons (.int 0) .nil))) (.cons (.prim (.cmp .Eq) (.cons (.call 5 (.cons (.int 0) (.cons (.int 0) .nil))) (.cons (.tup .nil) .nil))) (.cons (.prim (.cmp .Eq) (.cons (.call 3 (.cons (.int 0) .nil)) (.cons (.int 1) .nil))) .nil)))))) <|
  .nil
theorem sc_law : FnScope n_law p_law (defScope s_law) := ⟨rfl, rfl, rfl, by decide +kernel, rfl, by decide +kernel, by decide +kernel⟩
theorem k_law : chkSs (mkB ar glob free n_law c_law) f_law (defScope s_law) b_law (defBody s_law) = true := by kernel_rfl
end K59
namespace K59
open VE
def bin : Nat → Nat → Nat
  | _, 0 => 1
  | 0, _ + 1 => 0
  | n + 1, k + 1 => bin n k + bin n (k + 1)
theorem bin_zero : ∀ n, bin n 0 = 1
  | 0 => rfl
  | _ + 1 => rfl
theorem bin_gt : ∀ {n k : Nat}, n < k → bin n k = 0
  | _, 0, h => absurd h (by omega)
  | 0, _ + 1, _ => rfl
  | n + 1, k + 1, h => by unfold bin; rw [bin_gt (by omega), bin_gt (by omega)]
theorem bin_self : ∀ n, bin n n = 1
  | 0 => rfl
  | n + 1 => by unfold bin; rw [bin_self n, bin_gt (by omega)]
theorem bin_mul : ∀ {n k : Nat}, k ≤ n → bin n (k + 1) * (k + 1) = bin n k * (n - k)
  | 0, k, h => by
    have : k = 0 := by omega
    subst this; rfl
  | n + 1, 0, _ => by
    have ih := bin_mul (n := n) (k := 0) (by omega)
    show (bin n 0 + bin n (0 + 1)) * (0 + 1) = bin (n + 1) 0 * (n + 1 - 0)
    rw [bin_zero] at ih ⊢
    rw [bin_zero]
    simp at ih ⊢
    omega
  | n + 1, k + 1, h => by
    have i1 := bin_mul (n := n) (k := k) (by omega)
    have e1 : bin (n + 1) (k + 1 + 1) = bin n (k + 1) + bin n (k + 1 + 1) := rfl
    have e2 : bin (n + 1) (k + 1) = bin n k + bin n (k + 1) := rfl
    rw [e1, e2]
    have e3 : n + 1 - (k + 1) = n - k := by omega
    rw [e3, Nat.add_mul, Nat.add_mul, ← i1]
    by_cases hk : k + 1 ≤ n
    · have i2 := bin_mul (n := n) (k := k + 1) hk
      rw [i2]
      have : bin n (k + 1) * (k + 1 + 1) + bin n (k + 1) * (n - (k + 1)) = bin n (k + 1) * (k + 1) + bin n (k + 1) * (n - k) := by
        rw [← Nat.mul_add, ← Nat.mul_add]
        congr 1; omega
      exact this
    · rw [bin_gt (n := n) (k := k + 1) (by omega), bin_gt (n := n) (k := k + 1 + 1) (by omega)]
      simp
theorem bin_symm : ∀ {n k : Nat}, k ≤ n → bin n (n - k) = bin n k
  | 0, k, h => by
    have : k = 0 := by omega
    subst this; rfl
  | n + 1, 0, _ => by rw [Nat.sub_zero, bin_self, bin_zero]
  | n + 1, k + 1, h => by
    by_cases hk : k + 1 ≤ n
    · have e : n + 1 - (k + 1) = (n - (k + 1)) + 1 := by omega
      rw [e]
      show bin n (n - (k + 1)) + bin n (n - (k + 1) + 1) = bin n k + bin n (k + 1)
      rw [bin_symm hk, show n - (k + 1) + 1 = n - k by omega, bin_symm (by omega : k ≤ n)]
      omega
    · have : k = n := by omega
      subst this
      rw [Nat.sub_self, bin_zero, bin_self]
def sumb (n : Nat) : Nat → Nat
  | 0 => 0
  | k + 1 => sumb n k + bin n k
theorem sumb_succ (n : Nat) : ∀ k, sumb (n + 1) (k + 1) = sumb n k + sumb n (k + 1)
  | 0 => by simp [sumb, bin_zero]
  | k + 1 => by
    have ih := sumb_succ n k
    show sumb (n + 1) (k + 1) + bin (n + 1) (k + 1) = sumb n (k + 1) + (sumb n (k + 1) + bin n (k + 1))
    rw [ih]
    show _ + (bin n k + bin n (k + 1)) = _
    have : sumb n (k + 1) = sumb n k + bin n k := rfl
    omega
theorem sumb_all : ∀ n, sumb n (n + 1) = 2 ^ n
  | 0 => rfl
  | n + 1 => by
    rw [sumb_succ, sumb_all n]
    have : sumb n (n + 1 + 1) = sumb n (n + 1) + bin n (n + 1) := rfl
    rw [this, sumb_all n, bin_gt (by omega), Nat.pow_succ]
    omega
/-- the law's value -/
def ch (m s : Int) : Int := if 0 ≤ s ∧ s ≤ m then (bin m.toNat s.toNat : Int) else 0
theorem ch_pascal {m s : Int} (h : 0 < m) : ch m s = ch (m - 1) s + ch (m - 1) (s - 1) := by
  unfold ch
  by_cases h0 : s < 0
  · rw [if_neg (by omega), if_neg (by omega), if_neg (by omega)]; rfl
  by_cases h1 : s = 0
  · subst h1
    rw [if_pos (by omega), if_pos (by omega), if_neg (by omega)]
    simp [bin_zero]
  by_cases h2 : s < m
  · rw [if_pos (by omega), if_pos (by omega), if_pos (by omega)]
    have e1 : m.toNat = (m - 1).toNat + 1 := by omega
    have e2 : s.toNat = (s - 1).toNat + 1 := by omega
    rw [e1, e2]
    show ((bin (m - 1).toNat (s - 1).toNat + bin (m - 1).toNat ((s - 1).toNat + 1) : Nat) : Int) = _
    omega
  by_cases h3 : s = m
  · subst h3
    rw [if_pos (by omega), if_neg (by omega), if_pos (by omega)]
    simp [bin_self]
  · rw [if_neg (by omega), if_neg (by omega), if_neg (by omega)]; rfl
theorem ch_self {m : Int} (h : 0 ≤ m) : ch m m = 1 := by
  unfold ch; rw [if_pos (by omega), bin_self]; rfl
theorem ch_zero {m : Int} (h : 0 ≤ m) : ch m 0 = 1 := by
  unfold ch; rw [if_pos (by omega)]; simp [bin_zero]
theorem ch_out {m s : Int} (h : s < 0 ∨ m < s) : ch m s = 0 := by
  unfold ch; rw [if_neg (by omega)]
/-! bits -/
def bfor (m : Int) : Nat := if m ≤ 1 then 0 else (m - 1).toNat.log2 + 1
theorem bfor_lt {m : Int} {t : Nat} : (2 : Int) ^ t < m ↔ t < bfor m := by
  unfold bfor
  have hp : (0 : Int) < 2 ^ t := Int.pow_pos (by decide)
  by_cases h : m ≤ 1
  · rw [if_pos h]
    constructor
    · intro q; omega
    · intro q; omega
  · rw [if_neg h]
    have e : (m - 1).toNat ≠ 0 := by omega
    have := Nat.le_log2 e (k := t)
    have c : ((2 ^ t : Nat) : Int) = (2 : Int) ^ t := by simp
    constructor
    · intro q
      have : 2 ^ t ≤ (m - 1).toNat := by omega
      have := (Nat.le_log2 e).mpr this
      omega
    · intro q
      have : t ≤ (m - 1).toNat.log2 := by omega
      have := (Nat.le_log2 e).mp this
      omega
def lowbits : Int → Nat → List D
  | _, 0 => []
  | m, t + 1 => .int (m % 2) :: lowbits (m / 2) t
open VE in
def numD (xs : List D) : Int := xs.foldl (fun a x => match x with | .int i => a * 2 + i | _ => a) 0
theorem lowbits_snoc : ∀ (m : Int) (k : Nat), lowbits m (k + 1) = lowbits m k ++ [.int (m / 2 ^ k % 2)]
  | m, 0 => by simp [lowbits]
  | m, k + 1 => by
    rw [lowbits, lowbits_snoc (m / 2) k]
    show _ = (D.int (m % 2) :: lowbits (m / 2) k) ++ _
    rw [List.cons_append]
    congr 3
    rw [Int.ediv_ediv_of_nonneg (by decide : (0 : Int) ≤ 2), Int.pow_succ, Int.mul_comm (2 ^ k) 2]
theorem lowbits_len : ∀ (m : Int) (k : Nat), (lowbits m k).length = k
  | _, 0 => rfl
  | m, k + 1 => by simp [lowbits, lowbits_len]
theorem numD_snoc (xs : List D) (b : Int) : numD (xs ++ [.int b]) = numD xs * 2 + b := by simp [numD]
theorem numD_low : ∀ (t : Nat) (m : Int), 0 ≤ m → m < 2 ^ t → numD (lowbits m t).reverse = m
  | 0, m, h0, h1 => by
    have : m = 0 := by simp at h1; omega
    subst this; rfl
  | t + 1, m, h0, h1 => by
    rw [lowbits, List.reverse_cons, numD_snoc, numD_low t (m / 2) (by omega) (by rw [Int.pow_succ] at h1; omega)]
    omega
theorem pow_lt {a b : Nat} : (2 : Int) ^ a < 2 ^ b ↔ a < b := by
  have c : ∀ n : Nat, ((2 ^ n : Nat) : Int) = (2 : Int) ^ n := fun n => by simp
  rw [← c, ← c, Int.ofNat_lt]
  exact Nat.pow_lt_pow_iff_right (by decide)
theorem low_pad {m : Int} {t : Nat} (h0 : 0 ≤ m) (h1 : m < 2 ^ t) : lowbits m (t + 3) = lowbits m t ++ [.int 0, .int 0, .int 0] := by
  have big : ∀ j, m / 2 ^ (t + j) = 0 := fun j => Int.ediv_eq_zero_of_lt h0 (by
    have : ¬ (2 : Int) ^ (t + j) < 2 ^ t := fun q => by have := pow_lt.mp q; omega
    omega)
  rw [lowbits_snoc, lowbits_snoc, lowbits_snoc, big 2, big 1, show m / 2 ^ t = 0 from big 0]
  simp
theorem low_mem {x : D} : ∀ {t : Nat} {m : Int}, x ∈ lowbits m t → x = .int 0 ∨ x = .int 1
  | 0, _, h => by simp [lowbits] at h
  | t + 1, m, h => by
    rcases List.mem_cons.mp h with h | h
    · subst h
      have : m % 2 = 0 ∨ m % 2 = 1 := by omega
      rcases this with e | e <;> rw [e] <;> simp
    · exact low_mem h
theorem low_int {t : Nat} {m : Int} : (lowbits m t).all isInt = true := by
  rw [List.all_eq_true]
  intro x h
  rcases low_mem h with e | e <;> rw [e] <;> rfl
theorem bfor_ge {m : Int} : m ≤ 2 ^ bfor m := by
  have := mt (bfor_lt (m := m) (t := bfor m)).mp (by omega)
  omega
theorem bfor_pred {m : Int} (h : 0 < bfor m) : (2 : Int) ^ (bfor m - 1) < m := bfor_lt.mpr (by omega)
theorem bfor_le {m : Int} {t : Nat} (h : m ≤ 2 ^ t) : bfor m ≤ t := by
  have := mt (bfor_lt (m := m) (t := t)).mpr (by omega)
  omega
theorem bfor_pow (k : Nat) : bfor (2 ^ k) = k := by
  have h := fun t => (bfor_lt (m := (2 : Int) ^ k) (t := t)).symm.trans (pow_lt (a := t) (b := k))
  have h1 := h k
  have h2 := h (bfor (2 ^ k))
  omega
theorem bfor_pow1 (k : Nat) : bfor (2 ^ k + 1) = k + 1 := by
  have h := fun t => (bfor_lt (m := (2 : Int) ^ k + 1) (t := t)).symm
  have g : ∀ t : Nat, (2 : Int) ^ t < 2 ^ k + 1 ↔ t < k + 1 := fun t => by
    constructor
    · intro q
      by_cases z : t < k + 1
      · exact z
      · have := (pow_lt (a := k) (b := t)).mpr (by omega)
        omega
    · intro q
      have z : ¬ (2 : Int) ^ k < 2 ^ t := fun y => by have := pow_lt.mp y; omega
      omega
  have h1 := (h (k + 1)).trans (g (k + 1))
  have h2 := (h (bfor (2 ^ k + 1))).trans (g _)
  omega
def chD (m : Int) : D → D
  | .int j => .int (ch m j)
  | x => x
theorem sum_ch {m : Int} (h : 0 ≤ m) : ((rngD 0 (m + 1)).map (chD m)).all isInt = true ∧ dsum ((rngD 0 (m + 1)).map (chD m)) = 2 ^ m.toNat := by
  have go : ∀ n : Nat, n ≤ m.toNat + 1 → ((List.range n).map fun (k : Nat) => D.int (ch m (0 + (k : Int)))).all isInt = true ∧ ∀ a, ((List.range n).map fun (k : Nat) => D.int (ch m (0 + (k : Int)))).foldl addI a = a + (sumb m.toNat n : Nat) := by
    intro n
    induction n with
    | zero => intro _; exact ⟨rfl, fun a => by simp [sumb]⟩
    | succ n ih =>
      intro hn
      obtain ⟨i1, i2⟩ := ih (by omega)
      refine ⟨?_, fun a => ?_⟩
      · rw [List.range_succ, List.map_append, List.all_append, i1]; rfl
      · rw [List.range_succ, List.map_append, List.foldl_append, i2]
        show a + _ + ch m (0 + (n : Int)) = _
        have : ch m (0 + (n : Int)) = bin m.toNat n := by
          unfold ch
          rw [if_pos (by omega)]
          congr 2; omega
        rw [this]
        show _ = a + ((sumb m.toNat n + bin m.toNat n : Nat) : Int)
        omega
  have e : (rngD 0 (m + 1)).map (chD m) = (List.range (m.toNat + 1)).map fun (k : Nat) => D.int (ch m (0 + (k : Int))) := by
    unfold rngD
    rw [List.map_map, show (m + 1 - 0).toNat = m.toNat + 1 by omega]
    rfl
  obtain ⟨h1, h2⟩ := go (m.toNat + 1) (by omega)
  rw [e]
  refine ⟨h1, ?_⟩
  unfold dsum
  rw [h2 0, sumb_all]
  simp
end K59
namespace K59
open PySem PySem.Spec PyProof.Rows L2 VE
def fpower : List O → Option O
  | [.d (.int n)] => if 0 ≤ n ∧ n ≤ 2000 then some (.d (.int (2 ^ n.toNat))) else none
  | _ => none
def fnum : List O → Option O
  | [.d (.tup xs)] => if xs.all isInt = true then some (.d (.int (numD xs))) else none
  | _ => none
def fbits : List O → Option O
  | [.d (.int m), .d (.int k)] => if 0 ≤ k ∧ k ≤ 2000 then some (.d (.tup (lowbits m k.toNat).reverse)) else none
  | _ => none
def ffor : List O → Option O
  | [.d (.int m)] => some (.d (.int (bfor m)))
  | _ => none
def fch : List O → Option O
  | [.d (.int m), .d (.int s)] => if m ≤ 1000000 then some (.d (.int (ch m s))) else none
  | _ => none
def flaw : List O → Option O
  | [.d (.scr _)] => some (.d (.bl true))
  | _ => none
def Γ : Gam where
  fn := fun f => match f with
    | 0 => numSp
    | 1 => takeSp
    | 2 => fnSp fch
    | 3 => fnSp fpower
    | 4 => fnSp ffor
    | 5 => fnSp fbits
    | 6 => fnSp fnum
    | 7 => fnSp flaw
    | _ => fun _ _ _ => False
  init := fun _ _ _ _ => False
  meth := fun _ _ _ _ _ => False
section
variable {Q : O → List O → Prop} {E : Ex → List O → Prop} {n m k s i : Int} {xs : List D} {ns : List Int}
theorem fn_if {os : List O} {c : Prop} [Decidable c] {v : O} : (∃ r, (if c then some v else none) = some r ∧ Q r os) = (c ∧ Q v os) := by
  apply propext
  constructor
  · rintro ⟨r, h1, h2⟩
    split at h1
    · cases h1; exact ⟨by assumption, h2⟩
    · cases h1
  · rintro ⟨h1, h2⟩; exact ⟨v, by rw [if_pos h1], h2⟩
@[simp ↓] theorem cl_num : callW (Γ.fn 6) [.d (.tup xs)] Q E = (xs.all isInt = true ∧ Q (.d (.int (numD xs))) [.d (.tup xs)]) := callW_fnSp.trans fn_if
@[simp ↓] theorem cl_bits : callW (Γ.fn 5) [.d (.int m), .d (.int k)] Q E = ((0 ≤ k ∧ k ≤ 2000) ∧ Q (.d (.tup (lowbits m k.toNat).reverse)) [.d (.int m), .d (.int k)]) := callW_fnSp.trans fn_if
@[simp ↓] theorem cl_power : callW (Γ.fn 3) [.d (.int n)] Q E = ((0 ≤ n ∧ n ≤ 2000) ∧ Q (.d (.int (2 ^ n.toNat))) [.d (.int n)]) := callW_fnSp.trans fn_if
@[simp ↓] theorem cl_for : callW (Γ.fn 4) [.d (.int m)] Q E = Q (.d (.int (bfor m))) [.d (.int m)] := by
  show callW (fnSp ffor) _ _ _ = _
  rw [callW_fnSp]; simp [ffor]
@[simp ↓] theorem cl_take : callW (Γ.fn 1) [.lst [.scr ns, .int i], .d (.int m)] Q E = (0 < m ∧ ∀ r, 0 ≤ r → r < m → Q (.d (.int r)) [.lst [.scr ns, .int (i + 1)], .d (.int m)]) := call_take
@[simp ↓] theorem cl_ch : callW (Γ.fn 2) [.d (.int m), .d (.int s)] Q E = (m ≤ 1000000 ∧ Q (.d (.int (ch m s))) [.d (.int m), .d (.int s)]) := callW_fnSp.trans fn_if
end
theorem w_power (os : List O) (Q : O → List O → Prop) (E : Ex → List O → Prop) (h : fnSp fpower os Q E) : wpSs Γ f_power b_power (env0 f_power n_power.length os) (postD f_power os Q) := by
  obtain ⟨r, h1, h2⟩ := h
  unfold fpower at h1
  split at h1
  · rename_i n
    split at h1
    · rename_i hn
      cases h1
      simp [b_power, n_power, f_power]
      refine ⟨⟨by omega, by omega⟩, floop_by (fun k e => ∃ t, e = [some (.d (.int n)), some (.d (.int (2 ^ k))), t]) ⟨none, rfl⟩ ?_ ?_⟩
      · rintro k e kk hk ⟨t, rfl⟩ hkk
        simp [forB, l_power_0, l_number_of_0, VE.MulOk]
        exact hkk _ ⟨_, by rw [Int.pow_succ]⟩
      · rintro e ⟨t, rfl⟩
        rw [rngD_len, Int.sub_zero]
        simpa using h2
    · cases h1
  · cases h1
theorem w_number_of (os : List O) (Q : O → List O → Prop) (E : Ex → List O → Prop) (h : fnSp fnum os Q E) : wpSs Γ f_number_of b_number_of (env0 f_number_of n_number_of.length os) (postD f_number_of os Q) := by
  obtain ⟨r, h1, h2⟩ := h
  unfold fnum at h1
  split at h1
  · rename_i xs
    split at h1
    · rename_i hx
      cases h1
      simp [b_number_of, n_number_of, f_number_of]
      refine floop_by (fun k e => ∃ t, e = [some (.d (.tup xs)), some (.d (.int (numD (xs.take k)))), t]) ⟨none, rfl⟩ ?_ ?_
      · rintro k e kk hk ⟨t, rfl⟩ hkk
        have hi : isInt xs[k] = true := List.all_eq_true.mp hx _ (List.getElem_mem hk)
        obtain ⟨i, ei⟩ : ∃ i, xs[k] = .int i := by
          cases e : xs[k] <;> rw [e] at hi <;> first | exact ⟨_, rfl⟩ | cases hi
        simp [forB, l_power_0, l_number_of_0, VE.MulOk, ei]
        have : numD (xs.take (k + 1)) = numD (xs.take k) * 2 + i := by
          rw [List.take_succ_eq_append_getElem hk, ei]
          simp [numD]
        rw [this] at hkk
        exact hkk _ ⟨_, rfl⟩
      · rintro e ⟨t, rfl⟩
        rw [List.take_length]
        simpa using h2
    · cases h1
  · cases h1
theorem w_bits_of (os : List O) (Q : O → List O → Prop) (E : Ex → List O → Prop) (h : fnSp fbits os Q E) : wpSs Γ f_bits_of b_bits_of (env0 f_bits_of n_bits_of.length os) (postD f_bits_of os Q) := by
  obtain ⟨r, h1, h2⟩ := h
  unfold fbits at h1
  split at h1
  · rename_i m k0
    split at h1
    · rename_i hx
      cases h1
      simp [b_bits_of, n_bits_of, f_bits_of]
      refine ⟨⟨by omega, by omega⟩, floop_by (fun k e => ∃ t, e = [some (.d (.int (m / 2 ^ k))), some (.d (.int k0)), some (.lst (lowbits m k)), t]) ⟨none, by simp [lowbits]⟩ ?_ ?_⟩
      · rintro k e kk hk ⟨t, rfl⟩ hkk
        rw [rngD_len] at hk
        simp [forB, l_bits_of_0, DivOk]
        rw [lowbits_snoc, Int.pow_succ, ← Int.ediv_ediv_of_nonneg (Int.le_of_lt (Int.pow_pos (by decide)))] at hkk
        exact ⟨by rw [lowbits_len]; show k < 2 ^ 24; omega, hkk _ ⟨_, rfl⟩⟩
      · rintro e ⟨t, rfl⟩
        rw [rngD_len, Int.sub_zero]
        simpa using h2
    · cases h1
  · cases h1
theorem w_bits_for (os : List O) (Q : O → List O → Prop) (E : Ex → List O → Prop) (h : fnSp ffor os Q E) : wpSs Γ f_bits_for b_bits_for (env0 f_bits_for n_bits_for.length os) (postD f_bits_for os Q) := by
  obtain ⟨r, h1, h2⟩ := h
  unfold ffor at h1
  split at h1
  · rename_i m
    cases h1
    simp [b_bits_for, n_bits_for, f_bits_for, wpS_whl]
    refine ⟨fun n e => ∃ t : Nat, n = bfor m - t ∧ t ≤ bfor m ∧ e = [some (.d (.int m)), some (.d (.int t)), some (.d (.int (2 ^ t)))], ⟨_, 0, rfl, by omega, rfl⟩, ?_⟩
    rintro n e ⟨t, rfl, ht, rfl⟩
    simp [l_bits_for_0, VE.MulOk]
    by_cases hlt : (2 : Int) ^ t < m
    · rw [if_pos hlt]
      have := bfor_lt.mp hlt
      exact ⟨bfor m - (t + 1), by omega, t + 1, rfl, by omega, by simp, by rw [Int.pow_succ]⟩
    · rw [if_neg hlt]
      have : t = bfor m := by
        have := mt bfor_lt.mpr hlt
        omega
      subst this
      exact h2
  · cases h1
theorem w_choices (os : List O) (Q : O → List O → Prop) (E : Ex → List O → Prop) (h : fnSp fch os Q E) : wpSs Γ f_choices b_choices (env0 f_choices n_choices.length os) (postD f_choices os Q) := by
  obtain ⟨r, h1, h2⟩ := h
  unfold fch at h1
  split at h1
  · rename_i m s
    split at h1
    · rename_i hm
      cases h1
      simp [b_choices, n_choices, f_choices]
      have key : 0 ≤ s → s ≤ m → bin m.toNat (if m - s < s then m - s else s).toNat = bin m.toNat s.toNat := by
        intro h0 h1
        split
        · rw [show (m - s).toNat = m.toNat - s.toNat by omega]; exact bin_symm (by omega)
        · rfl
      by_cases hs : 0 ≤ s ∧ s ≤ m
      · have e1 : decide (0 ≤ s) = true := decide_eq_true hs.1
        simp [hs.1, hs.2]
        rw [if_neg (by omega)]
        refine ⟨by constructor <;> split <;> omega, floop_by (fun k e => ∃ t, e = [some (.d (.int m)), some (.d (.int s)), some (.d (.int (bin m.toNat k))), t]) ⟨none, by simp [bin_zero]⟩ ?_ ?_⟩
        · rintro k e kk hk ⟨t, rfl⟩ hkk
          rw [rngD_len] at hk
          have hk2 : k < m.toNat := by split at hk <;> omega
          have h3 := rngD_get (i := 0) (j := if m - s < s then m - s else s) (k := k) (by rw [rngD_len]; exact hk)
          have h4 : ((bin m.toNat k : Int) * (m - k)) / (k + 1) = bin m.toNat (k + 1) := by
            have h5 := bin_mul (n := m.toNat) (k := k) (by omega)
            have h6 : (m - k : Int) = ((m.toNat - k : Nat) : Int) := by omega
            rw [h6]
            have h7 : ((bin m.toNat k : Int) * ((m.toNat - k : Nat) : Int)) = (bin m.toNat (k + 1) : Int) * ((k : Int) + 1) := by
              have := congrArg (Nat.cast : Nat → Int) h5
              simp only [Int.natCast_mul, Int.natCast_add, Int.natCast_one] at this
              exact this.symm
            rw [h7]
            exact Int.mul_ediv_cancel _ (by omega)
          simp [forB, l_choices_0, h3]
          rw [h4]
          exact ⟨.inr (.inl (by omega)), ⟨by omega, .inl (by omega)⟩, hkk _ ⟨_, rfl⟩⟩
        · rintro e ⟨t, rfl⟩
          rw [rngD_len, Int.sub_zero, key hs.1 hs.2]
          simpa [ch, hs] using h2
      · have hz : ch m s = 0 := by unfold ch; rw [if_neg hs]
        rw [hz] at h2
        split
        · split
          · exact h2
          · exact absurd ⟨by assumption, by omega⟩ hs
        · exact h2
    · cases h1
  · cases h1
theorem turn (ns : List Int) (k : Nat) (hk8 : k < 8) (Q : O → List O → Prop) (P : Post) (kk : Ev → Prop) (hx : P.xc = fun _ _ => False) (i : Int) (t2 t3 t4 t5 t6 t7 t8 t9 t10 : Option O)
    (hkk : ∀ i t3 t4 t5 t6 t7 t8 t9 t10, kk [some (.d (.scr ns)), some (.lst [.scr ns, .int i]), some (.d (.int k)), t3, t4, t5, t6, t7, t8, t9, t10]) : forB Γ f_law (.v 2) l_law_0 P (.int k) [some (.d (.scr ns)), some (.lst [.scr ns, .int i]), t2, t3, t4, t5, t6, t7, t8, t9, t10] kk := by
  simp [forB, l_law_0, -wpSs_cons, f_law]
  refine step (fun e => ∃ (i : Int) (m : Int) (t4 : Option O) (t5 : Option O) (t6 : Option O) (t7 : Option O) (t8 : Option O) (t9 : Option O) (t10 : Option O), e = [some (.d (.scr ns)), some (.lst [.scr ns, .int i]), some (.d (.int k)), some (.d (.int m)), t4, t5, t6, t7, t8, t9, t10] ∧ 0 ≤ m ∧ m < 2000 ∧ (k < 5 → m < 14)) ?_ fun e he => ?_
  · simp; split <;> exact fun r h0 h1 => ⟨_, _, ⟨rfl, rfl⟩, h0, by omega, by omega⟩
  obtain ⟨i, m, t4, t5, t6, t7, t8, t9, t10, rfl, g0_0, g0_1, g0_2⟩ := he
  refine step (fun e => ∃ (i : Int) (m : Int) (s : Int) (t5 : Option O) (t6 : Option O) (t7 : Option O) (t8 : Option O) (t9 : Option O) (t10 : Option O), e = [some (.d (.scr ns)), some (.lst [.scr ns, .int i]), some (.d (.int k)), some (.d (.int m)), some (.d (.int s)), t5, t6, t7, t8, t9, t10] ∧ 0 ≤ m ∧ m < 2000 ∧ (k < 5 → m < 14)) ?_ fun e he => ?_
  · simp [hx]; exact fun r h0 h1 => ⟨_, _, ⟨rfl, rfl⟩, g0_0, g0_1, g0_2⟩
  obtain ⟨i, m, s, t5, t6, t7, t8, t9, t10, rfl, g1_0, g1_1, g1_2⟩ := he
  refine step (fun e => ∃ (i : Int) (m : Int) (s : Int) (t5 : Option O) (t6 : Option O) (t7 : Option O) (t8 : Option O) (t9 : Option O) (t10 : Option O), e = [some (.d (.scr ns)), some (.lst [.scr ns, .int i]), some (.d (.int k)), some (.d (.int m)), some (.d (.int s)), t5, t6, t7, t8, t9, t10] ∧ 0 ≤ m ∧ m < 2000 ∧ (k < 5 → m < 14)) ?_ fun e he => ?_
  · simp [hx]
    split
    · rename_i h
      exact ⟨by omega, by omega, by rw [if_pos (ch_pascal h)]; exact ⟨_, _, ⟨rfl, rfl⟩, g1_0, g1_1, g1_2⟩⟩
    · exact ⟨_, _, ⟨rfl, rfl⟩, g1_0, g1_1, g1_2⟩
  obtain ⟨i, m, s, t5, t6, t7, t8, t9, t10, rfl, g2_0, g2_1, g2_2⟩ := he
  refine step (fun e => ∃ (i : Int) (m : Int) (s : Int) (t5 : Option O) (t6 : Option O) (t7 : Option O) (t8 : Option O) (t9 : Option O) (t10 : Option O), e = [some (.d (.scr ns)), some (.lst [.scr ns, .int i]), some (.d (.int k)), some (.d (.int m)), some (.d (.int s)), t5, t6, t7, t8, t9, t10] ∧ 0 ≤ m ∧ m < 2000) ?_ fun e he => ?_
  · simp [hx]
    split
    · refine ⟨⟨by omega, by omega⟩, cloop_map (chD m) ?_ ?_ ?_⟩
      · rw [rngD_len]; show _ ≤ 2 ^ 24; omega
      · intro x hx acc kk hacc hkk
        obtain ⟨j, rfl, j0, j1⟩ := mem_rngD.mp hx
        simp [compB]
        exact ⟨by omega, hacc, hkk⟩
      · obtain ⟨s1, s2⟩ := sum_ch g2_0
        generalize (rngD 0 (m + 1)).map (chD m) = ys at s1 s2 ⊢
        simp [s2]
        exact ⟨by simpa using s1, by omega, _, _, ⟨rfl, rfl⟩, g2_0, g2_1⟩
    · exact ⟨_, _, ⟨rfl, rfl⟩, g2_0, g2_1⟩
  obtain ⟨i, m, s, t5, t6, t7, t8, t9, t10, rfl, g3_0, g3_1⟩ := he
  refine step (fun e => ∃ (i : Int) (m : Int) (s : Int) (t5 : Option O) (t6 : Option O) (t7 : Option O) (t8 : Option O) (t9 : Option O) (t10 : Option O), e = [some (.d (.scr ns)), some (.lst [.scr ns, .int i]), some (.d (.int k)), some (.d (.int m)), some (.d (.int s)), t5, t6, t7, t8, t9, t10] ∧ 0 ≤ m ∧ m < 2000) ?_ fun e he => ?_
  · simp [hx]
    exact ⟨by omega, by rw [if_pos (ch_self g3_0)]; exact ⟨by omega, by rw [if_pos (ch_zero g3_0)]; exact ⟨by omega, by rw [if_pos (ch_out (.inr (by omega)))]; exact ⟨by omega, by rw [if_pos (ch_out (.inl (by omega)))]; exact ⟨_, _, ⟨rfl, rfl⟩, g3_0, g3_1⟩⟩⟩⟩⟩
  obtain ⟨i, m, s, t5, t6, t7, t8, t9, t10, rfl, g4_0, g4_1⟩ := he
  refine step (fun e => ∃ (i : Int) (m : Int) (s : Int) (n : Int) (t6 : Option O) (t7 : Option O) (t8 : Option O) (t9 : Option O) (t10 : Option O), e = [some (.d (.scr ns)), some (.lst [.scr ns, .int i]), some (.d (.int k)), some (.d (.int m)), some (.d (.int s)), some (.d (.int n)), t6, t7, t8, t9, t10] ∧ 1 ≤ n ∧ n ≤ 1000000) ?_ fun e he => ?_
  · simp [hx]; exact fun r h0 h1 => ⟨_, _, _, _, ⟨rfl, rfl, rfl, rfl⟩, by omega, by omega⟩
  obtain ⟨i, m, s, n, t6, t7, t8, t9, t10, rfl, g5_0, g5_1⟩ := he
  refine step (fun e => ∃ (i : Int) (m : Int) (s : Int) (n : Int) (t7 : Option O) (t8 : Option O) (t9 : Option O) (t10 : Option O), e = [some (.d (.scr ns)), some (.lst [.scr ns, .int i]), some (.d (.int k)), some (.d (.int m)), some (.d (.int s)), some (.d (.int n)), some (.d (.int (bfor n))), t7, t8, t9, t10] ∧ 1 ≤ n ∧ n ≤ 1000000) ?_ fun e he => ?_
  · simp [hx]; exact ⟨_, _, _, _, ⟨rfl, rfl, rfl, rfl, rfl⟩, g5_0, g5_1⟩
  obtain ⟨i, m, s, n, t7, t8, t9, t10, rfl, g6_0, g6_1⟩ := he
  refine step (fun e => ∃ (i : Int) (m : Int) (s : Int) (n : Int) (t7 : Option O) (t8 : Option O) (t9 : Option O) (t10 : Option O), e = [some (.d (.scr ns)), some (.lst [.scr ns, .int i]), some (.d (.int k)), some (.d (.int m)), some (.d (.int s)), some (.d (.int n)), some (.d (.int (bfor n))), t7, t8, t9, t10] ∧ 1 ≤ n ∧ n ≤ 1000000) ?_ fun e he => ?_
  · simp [hx]
    have hb : bfor n ≤ 20 := bfor_le (by omega)
    refine ⟨by omega, ?_⟩
    rw [if_neg (by have := bfor_ge (m := n); omega)]
    split
    · rename_i hz
      refine ⟨⟨by omega, by omega⟩, ?_⟩
      rw [if_neg (by have := bfor_pred hz; omega)]
      exact ⟨_, _, _, _, ⟨rfl, rfl, rfl, rfl, rfl⟩, g6_0, g6_1⟩
    · exact ⟨_, _, _, _, ⟨rfl, rfl, rfl, rfl, rfl⟩, g6_0, g6_1⟩
  obtain ⟨i, m, s, n, t7, t8, t9, t10, rfl, g7_0, g7_1⟩ := he
  refine step (fun e => ∃ (i : Int) (m : Int) (s : Int) (n : Int) (t8 : Option O) (t9 : Option O) (t10 : Option O), e = [some (.d (.scr ns)), some (.lst [.scr ns, .int i]), some (.d (.int k)), some (.d (.int m)), some (.d (.int s)), some (.d (.int n)), some (.d (.int (bfor n))), some (.d (.tup (lowbits (n - 1) (bfor n)).reverse)), t8, t9, t10] ∧ 1 ≤ n ∧ n ≤ 1000000) ?_ fun e he => ?_
  · simp [hx]
    have hb : bfor n ≤ 20 := bfor_le (by omega)
    exact ⟨by omega, _, _, _, _, ⟨rfl, rfl, rfl, rfl, rfl, rfl⟩, g7_0, g7_1⟩
  obtain ⟨i, m, s, n, t8, t9, t10, rfl, g8_0, g8_1⟩ := he
  refine step (fun e => ∃ (i : Int) (m : Int) (s : Int) (n : Int) (t8 : Option O) (t9 : Option O) (t10 : Option O), e = [some (.d (.scr ns)), some (.lst [.scr ns, .int i]), some (.d (.int k)), some (.d (.int m)), some (.d (.int s)), some (.d (.int n)), some (.d (.int (bfor n))), some (.d (.tup (lowbits (n - 1) (bfor n)).reverse)), t8, t9, t10] ∧ 1 ≤ n ∧ n ≤ 1000000) ?_ fun e he => ?_
  · simp [hx]
    have hb : bfor n ≤ 20 := bfor_le (by omega)
    have hg : n - 1 < 2 ^ bfor n := by have := bfor_ge (m := n); omega
    rw [if_pos (by rw [lowbits_len])]
    refine ⟨fun x hx => by rcases low_mem hx with e | e <;> rw [e] <;> rfl, ?_⟩
    rw [if_pos (numD_low _ _ (by omega) hg)]
    refine cloop_map (fun x => .bl (!decide (x ∈ [D.int 0, D.int 1]))) ?_ ?_ ?_
    · rw [List.length_reverse, lowbits_len]; show _ ≤ 2 ^ 24; omega
    · intro x hx acc kk hacc hkk
      rcases low_mem (List.mem_reverse.mp hx) with e | e <;> subst e <;> simp [compB, D.pur, D.purs, D.dep, D.deps] <;> exact ⟨hacc, by simpa using hkk⟩
    · have ha : ∀ y ∈ (lowbits (n - 1) (bfor n)).reverse.map (fun x => D.bl (!decide (x ∈ [D.int 0, D.int 1]))), y = D.bl false := by
        intro y hy
        obtain ⟨x, hx, rfl⟩ := List.mem_map.mp hy
        rcases low_mem (List.mem_reverse.mp hx) with e | e <;> subst e <;> simp
      generalize (lowbits (n - 1) (bfor n)).reverse.map (fun x => D.bl (!decide (x ∈ [D.int 0, D.int 1]))) = ys at ha ⊢
      simp
      refine ⟨fun x hx => by rw [ha x hx]; rfl, ?_⟩
      rw [if_neg (by rintro ⟨x, hx, hu⟩; rw [ha x hx] at hu; cases hu)]
      exact ⟨_, _, _, _, ⟨rfl, rfl, rfl, rfl, rfl, rfl⟩, g8_0, g8_1⟩
  obtain ⟨i, m, s, n, t8, t9, t10, rfl, g9_0, g9_1⟩ := he
  refine step (fun e => ∃ (i : Int) (m : Int) (s : Int) (n : Int) (t8 : Option O) (t9 : Option O) (t10 : Option O), e = [some (.d (.scr ns)), some (.lst [.scr ns, .int i]), some (.d (.int k)), some (.d (.int m)), some (.d (.int s)), some (.d (.int n)), some (.d (.int (bfor n))), some (.d (.tup (lowbits (n - 1) (bfor n)).reverse)), t8, t9, t10] ∧ 1 ≤ n ∧ n ≤ 1000000) ?_ fun e he => ?_
  · simp [hx]
    have hb : bfor n ≤ 20 := bfor_le (by omega)
    have hg : n - 1 < 2 ^ bfor n := by have := bfor_ge (m := n); omega
    have pad : ∀ xs, numD (D.int 0 :: D.int 0 :: xs) = numD xs := fun xs => by simp [numD]
    refine ⟨by rw [lowbits_len]; show _ ≤ 2 ^ 24; omega, ⟨rfl, fun x hx => by rcases low_mem hx with e | e <;> rw [e] <;> rfl⟩, ?_⟩
    rw [if_pos (by rw [pad]; exact numD_low _ _ (by omega) hg)]
    refine ⟨⟨by omega, by omega⟩, by rw [lowbits_len]; show _ ≤ 2 ^ 24; omega, eqOk_ints (by rw [List.all_reverse]; exact low_int) (by simp only [List.all_cons, List.all_reverse, low_int, VE.isInt, Bool.and_self]), ?_⟩
    rw [if_pos (by rw [show ((bfor n : Int) + 3).toNat = bfor n + 3 by omega]; exact low_pad (by omega) hg)]
    exact ⟨_, _, _, _, ⟨rfl, rfl, rfl, rfl, rfl, rfl⟩, g9_0, g9_1⟩
  obtain ⟨i, m, s, n, t8, t9, t10, rfl, g10_0, g10_1⟩ := he
  simp [hkk]
theorem w_law (os : List O) (Q : O → List O → Prop) (E : Ex → List O → Prop) (h : fnSp flaw os Q E) : wpSs Γ f_law b_law (env0 f_law n_law.length os) (postD f_law os Q) := by
  obtain ⟨r, h1, h2⟩ := h
  unfold flaw at h1
  split at h1
  · rename_i ns
    cases h1
    simp [b_law, n_law, f_law]
    refine ⟨⟨by omega, by omega⟩, floop_by (fun k e => ∃ i t2 t3 t4 t5 t6 t7 t8 t9 t10, e = [some (.d (.scr ns)), some (.lst [.scr ns, .int i]), t2, t3, t4, t5, t6, t7, t8, t9, t10]) ⟨0, _, _, _, _, _, _, _, _, _, rfl⟩ ?_ ?_⟩
    · rintro k e kk hk ⟨i, t2, t3, t4, t5, t6, t7, t8, t9, t10, rfl⟩ hkk
      rw [rngD_len] at hk
      have h3 := rngD_get (i := 0) (j := 8) (k := k) (by rw [rngD_len]; exact hk)
      rw [h3, Int.zero_add]
      exact turn ns k (by omega) Q _ kk rfl i t2 t3 t4 t5 t6 t7 t8 t9 t10 fun i t3 t4 t5 t6 t7 t8 t9 t10 => hkk _ ⟨i, _, _, _, _, _, _, _, _, _, rfl⟩
    · rintro e ⟨i, t2, t3, t4, t5, t6, t7, t8, t9, t10, rfl⟩
      simp [VE.MulOk]
      intro r h0 h60 r1 g0 g60
      have p1 : (2 : Int) ^ r.toNat < 2 ^ 60 := pow_lt.mpr (by omega)
      have p2 : (0 : Int) < 2 ^ r.toNat := Int.pow_pos (by decide)
      refine ⟨by omega, ?_⟩
      rw [if_pos (by rw [bfor_pow]; omega)]
      refine ⟨by omega, ?_⟩
      rw [if_pos (by rw [bfor_pow1]; omega)]
      refine ⟨by omega, by omega, .inl (by omega), by omega, ?_⟩
      rw [if_pos (by rw [← Int.pow_add]; congr 1; omega), if_pos (show numD [] = 0 from rfl)]
      exact ⟨by simp [eqOk, D.pur, D.purs, D.dep, D.deps, lowbits], by rw [if_pos (show lowbits 0 0 = [] from rfl)]; exact h2⟩
  · cases h1
theorem w_law_number (os : List O) (Q : O → List O → Prop) (E : Ex → List O → Prop) (h : numSp os Q E) : wpSs Γ f_law_number b_law_number (env0 f_law_number n_law_number.length os) (postD f_law_number os Q) := w_num Γ os Q E h
theorem w_law_take (os : List O) (Q : O → List O → Prop) (E : Ex → List O → Prop) (h : takeSp os Q E) : wpSs Γ f_law_take b_law_take (env0 f_law_take n_law_take.length os) (postD f_law_take os Q) := w_take Γ (f := 0) rfl os Q E h
def CTb : CT := ⟨fun _ => 0, fun _ => []⟩
theorem law_prom : ar 7 = 1 ∧ ∀ ns, callW (Γ.fn 7) [.d (.scr ns)] (fun o _ => o = .d (.bl true)) (fun _ _ => False) := ⟨rfl, fun ns => by
  show callW (fnSp flaw) _ _ _
  rw [callW_fnSp]
  exact ⟨_, rfl, rfl⟩⟩
end K59
namespace K59
open PySem PySem.Spec PyProof.Rows L2 VE
def dd_law_number : He.DefD := ⟨("_law_number", none), "_law_number", "_law_number", defArgs s_law_number, defBody s_law_number, defScope s_law_number, [], []⟩
def dd_law_take : He.DefD := ⟨("_law_take", none), "_law_take", "_law_take", defArgs s_law_take, defBody s_law_take, defScope s_law_take, [], []⟩
def dd_choices : He.DefD := ⟨("choices", none), "choices", "choices", defArgs s_choices, defBody s_choices, defScope s_choices, [], []⟩
def dd_power : He.DefD := ⟨("power", none), "power", "power", defArgs s_power, defBody s_power, defScope s_power, [], []⟩
def dd_bits_for : He.DefD := ⟨("bits_for", none), "bits_for", "bits_for", defArgs s_bits_for, defBody s_bits_for, defScope s_bits_for, [], []⟩
def dd_bits_of : He.DefD := ⟨("bits_of", none), "bits_of", "bits_of", defArgs s_bits_of, defBody s_bits_of, defScope s_bits_of, [], []⟩
def dd_number_of : He.DefD := ⟨("number_of", none), "number_of", "number_of", defArgs s_number_of, defBody s_number_of, defScope s_number_of, [], []⟩
def dd_law : He.DefD := ⟨("law", none), "law", "law", defArgs s_law, defBody s_law, defScope s_law, [], []⟩
def fn : List He.DefD := [dd_law_number, dd_law_take, dd_choices, dd_power, dd_bits_for, dd_bits_of, dd_number_of, dd_law]
def fa : List He.Fa := [.glo "_law_number", .glo "_law_take", .glo "choices", .glo "power", .glo "bits_for", .glo "bits_of", .glo "number_of", .glo "law", .free "abs", .free "any", .free "int", .free "len", .free "min", .free "range", .free "sum", .free "tuple"]
abbrev R0 : PySem.W.OpenRow := PySem.W.OpenLaw.row PySem.Challenge.rw_finecloud_k59_whole_numbers
abbrev hk : PySem.W.Hook := He.hookD 4 fa fn
def ob (s : PySem.W.SharedT) : He.AlD := He.obsDG 4 fa fn (HandSHeadRun.getT s)
theorem ob_eq (s : PySem.W.SharedT) : ob s = hk.obs s.abs := He.obsDG_eq (HandSHeadRun.getT_eq s)
def loose : List PySem.Str := ["_wall", "__name__", "is_whole", "power", "choices", "bits_for", "bits_of", "number_of", "CloudError", "BadSpace", "BadPoint", "Cloud", "MOST_DIMENSIONS", "MOST_BITS", "Space", "Box", "_law_number", "_law_take", "_law_pick", "_law_unlike", "_law_power", "_law_space", "_law_point", "_law_points", "_law_cloud", "_law_box", "_law_all"]
theorem run (w : World) : HandSHeadRun.RunEq R0 (PySem.W.view R0.prog [31]) hk ob 20000 loose w := by
  intro os
  kernel_rfl
section
variable {P : Program} {w : World} {K : PySem.W.Frag} {mg : Str → Option Value} {base : Heap}
abbrev FAx (P : Program) (w : World) (K : PySem.W.Frag) (mg : Str → Option Value) (base : Heap) := FA CTb Γ ar P w K mg base
theorem fo_law_number {f : Addr} {fd : FuncData} (F : FunD K "_law_number" "_law_number" (defArgs s_law_number) (defBody s_law_number) (defScope s_law_number) [] [] f fd) (hfree : ∀ y ∈ free, mg y = none) (hglob : ∀ p ∈ glob, ∃ t, mg p.1 = some (.int p.2 t))  : FnOk P w K mg base CX0 1 f fd p_law_number (spOf CTb K (ar 0) (Γ.fn 0)) :=
  body_ok (n := 0) (k := 0) F sc_law_number rfl k_law_number (fun _ h => absurd h List.not_mem_nil) hfree hglob fun os Q E hl h => w_law_number os Q E h
theorem fa_law_number {f : Addr} {fd : FuncData} (F : FunD K "_law_number" "_law_number" (defArgs s_law_number) (defBody s_law_number) (defScope s_law_number) [] [] f fd) (g : mg "_law_number" = some (.ref f)) (hfree : ∀ y ∈ free, mg y = none) (hglob : ∀ p ∈ glob, ∃ t, mg p.1 = some (.int p.2 t))  : FAx P w K mg base 1 0 "_law_number" :=
  ⟨f, fd, p_law_number, fo_law_number F hfree hglob , g, F.kp, F.bindsN fun _ _ _ _ _ _ us hl => match us, hl with | [_, _], _ => rfl⟩
theorem fo_law_take {f : Addr} {fd : FuncData} (F : FunD K "_law_take" "_law_take" (defArgs s_law_take) (defBody s_law_take) (defScope s_law_take) [] [] f fd) (hfree : ∀ y ∈ free, mg y = none) (hglob : ∀ p ∈ glob, ∃ t, mg p.1 = some (.int p.2 t)) (h0 : FAx P w K mg base 1 0 "_law_number") : FnOk P w K mg base CX0 2 f fd p_law_take (spOf CTb K (ar 1) (Γ.fn 1)) :=
  body_ok (n := 0) (k := 1) F sc_law_take rfl k_law_take (List.forall_mem_cons.mpr ⟨h0, List.forall_mem_nil _⟩) hfree hglob fun os Q E hl h => w_law_take os Q E h
theorem fa_law_take {f : Addr} {fd : FuncData} (F : FunD K "_law_take" "_law_take" (defArgs s_law_take) (defBody s_law_take) (defScope s_law_take) [] [] f fd) (g : mg "_law_take" = some (.ref f)) (hfree : ∀ y ∈ free, mg y = none) (hglob : ∀ p ∈ glob, ∃ t, mg p.1 = some (.int p.2 t)) (h0 : FAx P w K mg base 1 0 "_law_number") : FAx P w K mg base 2 1 "_law_take" :=
  ⟨f, fd, p_law_take, fo_law_take F hfree hglob h0, g, F.kp, F.bindsN fun _ _ _ _ _ _ us hl => match us, hl with | [_, _], _ => rfl⟩
theorem fo_choices {f : Addr} {fd : FuncData} (F : FunD K "choices" "choices" (defArgs s_choices) (defBody s_choices) (defScope s_choices) [] [] f fd) (hfree : ∀ y ∈ free, mg y = none) (hglob : ∀ p ∈ glob, ∃ t, mg p.1 = some (.int p.2 t))  : FnOk P w K mg base CX0 1 f fd p_choices (spOf CTb K (ar 2) (Γ.fn 2)) :=
  body_ok (n := 0) (k := 0) F sc_choices rfl k_choices (fun _ h => absurd h List.not_mem_nil) hfree hglob fun os Q E hl h => w_choices os Q E h
theorem fa_choices {f : Addr} {fd : FuncData} (F : FunD K "choices" "choices" (defArgs s_choices) (defBody s_choices) (defScope s_choices) [] [] f fd) (g : mg "choices" = some (.ref f)) (hfree : ∀ y ∈ free, mg y = none) (hglob : ∀ p ∈ glob, ∃ t, mg p.1 = some (.int p.2 t))  : FAx P w K mg base 1 2 "choices" :=
  ⟨f, fd, p_choices, fo_choices F hfree hglob , g, F.kp, F.bindsN fun _ _ _ _ _ _ us hl => match us, hl with | [_, _], _ => rfl⟩
theorem fo_power {f : Addr} {fd : FuncData} (F : FunD K "power" "power" (defArgs s_power) (defBody s_power) (defScope s_power) [] [] f fd) (hfree : ∀ y ∈ free, mg y = none) (hglob : ∀ p ∈ glob, ∃ t, mg p.1 = some (.int p.2 t))  : FnOk P w K mg base CX0 1 f fd p_power (spOf CTb K (ar 3) (Γ.fn 3)) :=
  body_ok (n := 0) (k := 0) F sc_power rfl k_power (fun _ h => absurd h List.not_mem_nil) hfree hglob fun os Q E hl h => w_power os Q E h
theorem fa_power {f : Addr} {fd : FuncData} (F : FunD K "power" "power" (defArgs s_power) (defBody s_power) (defScope s_power) [] [] f fd) (g : mg "power" = some (.ref f)) (hfree : ∀ y ∈ free, mg y = none) (hglob : ∀ p ∈ glob, ∃ t, mg p.1 = some (.int p.2 t))  : FAx P w K mg base 1 3 "power" :=
  ⟨f, fd, p_power, fo_power F hfree hglob , g, F.kp, F.bindsN fun _ _ _ _ _ _ us hl => match us, hl with | [_], _ => rfl⟩
theorem fo_bits_for {f : Addr} {fd : FuncData} (F : FunD K "bits_for" "bits_for" (defArgs s_bits_for) (defBody s_bits_for) (defScope s_bits_for) [] [] f fd) (hfree : ∀ y ∈ free, mg y = none) (hglob : ∀ p ∈ glob, ∃ t, mg p.1 = some (.int p.2 t))  : FnOk P w K mg base CX0 1 f fd p_bits_for (spOf CTb K (ar 4) (Γ.fn 4)) :=
  body_ok (n := 0) (k := 0) F sc_bits_for rfl k_bits_for (fun _ h => absurd h List.not_mem_nil) hfree hglob fun os Q E hl h => w_bits_for os Q E h
theorem fa_bits_for {f : Addr} {fd : FuncData} (F : FunD K "bits_for" "bits_for" (defArgs s_bits_for) (defBody s_bits_for) (defScope s_bits_for) [] [] f fd) (g : mg "bits_for" = some (.ref f)) (hfree : ∀ y ∈ free, mg y = none) (hglob : ∀ p ∈ glob, ∃ t, mg p.1 = some (.int p.2 t))  : FAx P w K mg base 1 4 "bits_for" :=
  ⟨f, fd, p_bits_for, fo_bits_for F hfree hglob , g, F.kp, F.bindsN fun _ _ _ _ _ _ us hl => match us, hl with | [_], _ => rfl⟩
theorem fo_bits_of {f : Addr} {fd : FuncData} (F : FunD K "bits_of" "bits_of" (defArgs s_bits_of) (defBody s_bits_of) (defScope s_bits_of) [] [] f fd) (hfree : ∀ y ∈ free, mg y = none) (hglob : ∀ p ∈ glob, ∃ t, mg p.1 = some (.int p.2 t))  : FnOk P w K mg base CX0 1 f fd p_bits_of (spOf CTb K (ar 5) (Γ.fn 5)) :=
  body_ok (n := 0) (k := 0) F sc_bits_of rfl k_bits_of (fun _ h => absurd h List.not_mem_nil) hfree hglob fun os Q E hl h => w_bits_of os Q E h
theorem fa_bits_of {f : Addr} {fd : FuncData} (F : FunD K "bits_of" "bits_of" (defArgs s_bits_of) (defBody s_bits_of) (defScope s_bits_of) [] [] f fd) (g : mg "bits_of" = some (.ref f)) (hfree : ∀ y ∈ free, mg y = none) (hglob : ∀ p ∈ glob, ∃ t, mg p.1 = some (.int p.2 t))  : FAx P w K mg base 1 5 "bits_of" :=
  ⟨f, fd, p_bits_of, fo_bits_of F hfree hglob , g, F.kp, F.bindsN fun _ _ _ _ _ _ us hl => match us, hl with | [_, _], _ => rfl⟩
theorem fo_number_of {f : Addr} {fd : FuncData} (F : FunD K "number_of" "number_of" (defArgs s_number_of) (defBody s_number_of) (defScope s_number_of) [] [] f fd) (hfree : ∀ y ∈ free, mg y = none) (hglob : ∀ p ∈ glob, ∃ t, mg p.1 = some (.int p.2 t))  : FnOk P w K mg base CX0 1 f fd p_number_of (spOf CTb K (ar 6) (Γ.fn 6)) :=
  body_ok (n := 0) (k := 0) F sc_number_of rfl k_number_of (fun _ h => absurd h List.not_mem_nil) hfree hglob fun os Q E hl h => w_number_of os Q E h
theorem fa_number_of {f : Addr} {fd : FuncData} (F : FunD K "number_of" "number_of" (defArgs s_number_of) (defBody s_number_of) (defScope s_number_of) [] [] f fd) (g : mg "number_of" = some (.ref f)) (hfree : ∀ y ∈ free, mg y = none) (hglob : ∀ p ∈ glob, ∃ t, mg p.1 = some (.int p.2 t))  : FAx P w K mg base 1 6 "number_of" :=
  ⟨f, fd, p_number_of, fo_number_of F hfree hglob , g, F.kp, F.bindsN fun _ _ _ _ _ _ us hl => match us, hl with | [_], _ => rfl⟩
theorem fo_law {f : Addr} {fd : FuncData} (F : FunD K "law" "law" (defArgs s_law) (defBody s_law) (defScope s_law) [] [] f fd) (hfree : ∀ y ∈ free, mg y = none) (hglob : ∀ p ∈ glob, ∃ t, mg p.1 = some (.int p.2 t)) (h1 : FAx P w K mg base 2 1 "_law_take") (h2 : FAx P w K mg base 2 2 "choices") (h3 : FAx P w K mg base 2 3 "power") (h4 : FAx P w K mg base 2 4 "bits_for") (h5 : FAx P w K mg base 2 5 "bits_of") (h6 : FAx P w K mg base 2 6 "number_of") : FnOk P w K mg base CX0 3 f fd p_law (spOf CTb K (ar 7) (Γ.fn 7)) :=
  body_ok (n := 0) (k := 2) F sc_law rfl k_law (List.forall_mem_cons.mpr ⟨h1, List.forall_mem_cons.mpr ⟨h2, List.forall_mem_cons.mpr ⟨h3, List.forall_mem_cons.mpr ⟨h4, List.forall_mem_cons.mpr ⟨h5, List.forall_mem_cons.mpr ⟨h6, List.forall_mem_nil _⟩⟩⟩⟩⟩⟩) hfree hglob fun os Q E hl h => w_law os Q E h
theorem fa_law {f : Addr} {fd : FuncData} (F : FunD K "law" "law" (defArgs s_law) (defBody s_law) (defScope s_law) [] [] f fd) (g : mg "law" = some (.ref f)) (hfree : ∀ y ∈ free, mg y = none) (hglob : ∀ p ∈ glob, ∃ t, mg p.1 = some (.int p.2 t)) (h1 : FAx P w K mg base 2 1 "_law_take") (h2 : FAx P w K mg base 2 2 "choices") (h3 : FAx P w K mg base 2 3 "power") (h4 : FAx P w K mg base 2 4 "bits_for") (h5 : FAx P w K mg base 2 5 "bits_of") (h6 : FAx P w K mg base 2 6 "number_of") : FAx P w K mg base 3 7 "law" :=
  ⟨f, fd, p_law, fo_law F hfree hglob h1 h2 h3 h4 h5 h6, g, F.kp, F.bindsN fun _ _ _ _ _ _ us hl => match us, hl with | [_], _ => rfl⟩
end
theorem facts {P : Program} {w : World} {K : PySem.W.Frag} {h : Heap} {mg : Str → Option Value} {f : Addr} (X : K.In h) (G : h.Ns mainGlobals mg) (hfa : mg ("law" : Str) = some (.ref f)) (c : He.SaysD fa fn K) :
    ∃ fd : FuncData, (∀ (s : Shared) (v : Value), BindsTo s fd ⟨[v], []⟩ [("_law_script", v)]) ∧ ∀ base : Heap, K.In base → base.Ns mainGlobals mg → FnOk P w K mg base CX0 3 f fd p_law (spOf CTb K (ar 7) (Γ.fn 7)) := by
  obtain ⟨fd0, F0⟩ := c.def_ 0 (d := dd_law_number) rfl
  obtain ⟨fd1, F1⟩ := c.def_ 1 (d := dd_law_take) rfl
  obtain ⟨fd2, F2⟩ := c.def_ 2 (d := dd_choices) rfl
  obtain ⟨fd3, F3⟩ := c.def_ 3 (d := dd_power) rfl
  obtain ⟨fd4, F4⟩ := c.def_ 4 (d := dd_bits_for) rfl
  obtain ⟨fd5, F5⟩ := c.def_ 5 (d := dd_bits_of) rfl
  obtain ⟨fd6, F6⟩ := c.def_ 6 (d := dd_number_of) rfl
  obtain ⟨fd7, F7⟩ := c.def_ 7 (d := dd_law) rfl
  have e := hfa.symm.trans (He.glo_ok X G (c.fact 7 (f := .glo "law") rfl))
  cases e
  have b := FunD.bindsA (ps := p_law) F7 fun _ _ _ _ _ _ us hl => match us, hl with | [_], _ => rfl
  have hfree : ∀ y ∈ free, mg y = none := List.forall_mem_cons.mpr ⟨He.free_ok X G (c.fact 8 (f := .free "abs") rfl), List.forall_mem_cons.mpr ⟨He.free_ok X G (c.fact 9 (f := .free "any") rfl), List.forall_mem_cons.mpr ⟨He.free_ok X G (c.fact 10 (f := .free "int") rfl), List.forall_mem_cons.mpr ⟨He.free_ok X G (c.fact 11 (f := .free "len") rfl), List.forall_mem_cons.mpr ⟨He.free_ok X G (c.fact 12 (f := .free "min") rfl), List.forall_mem_cons.mpr ⟨He.free_ok X G (c.fact 13 (f := .free "range") rfl), List.forall_mem_cons.mpr ⟨He.free_ok X G (c.fact 14 (f := .free "sum") rfl), List.forall_mem_cons.mpr ⟨He.free_ok X G (c.fact 15 (f := .free "tuple") rfl), List.forall_mem_nil _⟩⟩⟩⟩⟩⟩⟩⟩
  have hglob : ∀ p ∈ glob, ∃ t, mg p.1 = some (.int p.2 t) := List.forall_mem_nil _
  refine ⟨fd7, fun s v => b s [v] rfl, fun base _ _ => ?_⟩
  have A0 := fa_law_number (P := P) (w := w) (base := base) F0 (He.glo_ok X G (c.fact 0 (f := .glo "_law_number") rfl)) hfree hglob 
  have A1 := fa_law_take (P := P) (w := w) (base := base) F1 (He.glo_ok X G (c.fact 1 (f := .glo "_law_take") rfl)) hfree hglob (A0.mono (by decide))
  have A2 := fa_choices (P := P) (w := w) (base := base) F2 (He.glo_ok X G (c.fact 2 (f := .glo "choices") rfl)) hfree hglob 
  have A3 := fa_power (P := P) (w := w) (base := base) F3 (He.glo_ok X G (c.fact 3 (f := .glo "power") rfl)) hfree hglob 
  have A4 := fa_bits_for (P := P) (w := w) (base := base) F4 (He.glo_ok X G (c.fact 4 (f := .glo "bits_for") rfl)) hfree hglob 
  have A5 := fa_bits_of (P := P) (w := w) (base := base) F5 (He.glo_ok X G (c.fact 5 (f := .glo "bits_of") rfl)) hfree hglob 
  have A6 := fa_number_of (P := P) (w := w) (base := base) F6 (He.glo_ok X G (c.fact 6 (f := .glo "number_of") rfl)) hfree hglob 
  exact fo_law F7 hfree hglob (A1.mono (by decide)) (A2.mono (by decide)) (A3.mono (by decide)) (A4.mono (by decide)) (A5.mono (by decide)) (A6.mono (by decide))
end K59
open PySem PySem.W PySem.Calls PyProof.Rows
theorem PySem.Challenge.cw_finecloud_k59_whole_numbers_holds : PySem.Challenge.rw_finecloud_k59_whole_numbers.Holds := by
  w_on; o_law
  refine HandSHeadRun.head_any (r := OpenLaw.row PySem.Challenge.rw_finecloud_k59_whole_numbers) (q := view (OpenLaw.row PySem.Challenge.rw_finecloud_k59_whole_numbers).prog [31]) (H := K59.hk) (ob := K59.ob) (M := 20000) (loose := K59.loose) (d := HandSHeadRun.topDef (OpenLaw.row PySem.Challenge.rw_finecloud_k59_whole_numbers).prog 31) (kwd := []) K59.ob_eq
    (by kernel_rfl) (fun s => by kernel_rfl) K59.run (by kernel_rfl) (by kernel_rfl) (by kernel_rfl) (by rfl) (by first | assumption | decide +kernel) (by decide +kernel) ⟨rfl, rfl, rfl, rfl, rfl, by decide +kernel⟩ ?hw ?hc
  case hw => w_witness2
  case hc =>
    refine L2.walk_ofE (l := PySem.Challenge.rw_finecloud_k59_whole_numbers) (n := 63) (k := 3) (x := "_law_script") (CX := L2.CX0) rfl (by decide) (by kernel_rfl) ⟨rfl, by decide, by decide⟩ ?F (fun _ _ _ _ z => z)
    intro w mg fa h Y G hmg0
    obtain ⟨K, KX, c⟩ := Y
    have hmg : mg ("law" : PySem.Str) = some (.ref fa) := by
      have e : (HandSHeadRun.topDef (OpenLaw.row PySem.Challenge.rw_finecloud_k59_whole_numbers).prog 31).name = ("law" : PySem.Str) := by kernel_rfl
      rw [← e]
      exact hmg0
    obtain ⟨fd, hb, hF⟩ := K59.facts (P := (PySem.Challenge.rw_finecloud_k59_whole_numbers).prog) (w := w) KX G hmg c
    exact ⟨K, fd, _, KX, hb, fun H a ns hl hO hS => VE.law_sp hO hS K59.law_prom, hF⟩
