import PyProof.Rows.All
import Wide.All
import OpenK.AllK
import Wide.FinOn
import HandS.ForMost
import HandS.Exc
import HandS.IsInst
import HandS.Wide
import HandS.Flow
import HandS.FStr
import HandS.Gcd
import HandS.TupAny
import HandS.WideBits
import HandS.TupMul
import HandS.Style
import HandS.Property
import KE.KOpsOwn
import HandS.CallSlots
import HandS.WordsExc
import HandS.RevTup
import HandS.SlotsOwn
import HandS.OwnEq
import PyProof.NeKinds
import PyProof.InstNe
import HandS.TryOnly
import HandS.ExcInit
import HandS.Words
import HandS.Ends
import HandS.Dict
import PyProof.ReprNest
import PyProof.ReprDict
import HandS.Defaults
import HandS.Head0
import HandS.Head1
import HandS.Head2
import HandS.HeadEnd
import HandS.HeadHook1
import HandS.HeadHook2
import HandS.Head3
import PyProof.FitsInt
import PySem.Challenge.RW_tracewords_k87_any_five_and_its_words
set_option Elab.async false
set_option linter.all false
set_option maxRecDepth 100000
namespace Tw
open PySem L2

/-! ## values as trees -/
inductive T where
  | non | bl (b : Bool) | int (i : Int) | str (x : Str) | ty (n : String)
  | lst (xs : List T) | tup (xs : List T) | dct (ks : List (Key × T)) | ins (c : Nat) (fs : List (Str × T))
  -- the script
  | scr (ns : List Int)
  deriving Inhabited

/-- where the classes stand; what lists of the module's own the script may be -/
structure CA where
  f : Nat → Addr
  kl : Addr → List Int → Prop
instance : CoeFun CA (fun _ => Nat → Addr) := ⟨CA.f⟩
/-- a tree, or the k-th cell of the store -/
inductive VV where
  | t (x : T) | c (k : Nat)
  deriving Inhabited

inductive Cell where
  | lst (xs : List T) | dct (ks : List (Key × T)) | ins (c : Nat) (fs : List (Str × T)) | frz (x : T)
  deriving Inhabited

abbrev Store := List Cell
abbrev Loc := List (Option VV)

def Cell.tree : Cell → T
  | .lst xs => .lst xs
  | .dct ks => .dct ks
  | .ins c fs => .ins c fs
  | .frz x => x

def rd (s : Store) : VV → Option T
  | .t x => some x
  | .c k => (s[k]?).map Cell.tree

/-! ## what stands for a tree in an abstract heap -/
section
variable (cA : CA) (G : Hp)
mutual
def Rep : T → V → Prop
  | .non, v => v = .non
  | .bl b, v => v = .bl b
  | .int i, v => v = .int i
  | .str x, v => v = .str x
  | .ty n, v => v = .ty n
  | .lst xs, v => ∃ a vs, v = .ref a ∧ G a = some (.lst vs) ∧ RepL xs vs
  | .tup xs, v => ∃ a vs, v = .ref a ∧ G a = some (.tup vs) ∧ RepL xs vs
  | .dct ks, v => ∃ a kvs, v = .ref a ∧ G a = some (.dK kvs) ∧ RepD ks kvs
  | .ins c fs, v => ∃ a dx gs, v = .ref a ∧ G a = some (.ins (cA c) dx gs) ∧ RepF fs gs
  | .scr ns, v => ∃ a, v = .ref a ∧ ((∃ o, G a = some (.frz o (.lst (ns.map V.int)))) ∨ cA.kl a ns)
def RepL : List T → List V → Prop
  | [], vs => vs = []
  | x :: xs, vs => ∃ v r, vs = v :: r ∧ Rep x v ∧ RepL xs r
def RepD : List (Key × T) → List (Key × V) → Prop
  | [], vs => vs = []
  | (k, x) :: xs, vs => ∃ v r, vs = (k, v) :: r ∧ Rep x v ∧ RepD xs r
def RepF : List (Str × T) → List (Str × V) → Prop
  | [], vs => vs = []
  | (k, x) :: xs, vs => ∃ v r, vs = (k, v) :: r ∧ Rep x v ∧ RepF xs r
end
end

abbrev Sb (G G' : Hp) : Prop := ∀ a o, G a = some o → G' a = some o
theorem Sb.rfl' {G : Hp} : Sb G G := fun _ _ h => h
theorem Sb.trans {G G1 G2 : Hp} (a : Sb G G1) (b : Sb G1 G2) : Sb G G2 := fun x o h => b x o (a x o h)
theorem Sb.new {G : Hp} {p : Addr} {o : HO} (h : G p = none) : Sb G (upd G p o) := fun a u e => by
  rw [upd_ne (ne_of_none e h)]; exact e

section
variable {cA : CA} {G G' : Hp}
mutual
theorem Rep.mono (h : Sb G G') : ∀ {t : T} {v : V}, Rep cA G t v → Rep cA G' t v
  | .non, _, r => by unfold Rep at r ⊢; exact r
  | .bl _, _, r => by unfold Rep at r ⊢; exact r
  | .int _, _, r => by unfold Rep at r ⊢; exact r
  | .str _, _, r => by unfold Rep at r ⊢; exact r
  | .ty _, _, r => by unfold Rep at r ⊢; exact r
  | .lst xs, _, r => by
    unfold Rep at r ⊢
    obtain ⟨a, vs, e, g, q⟩ := r
    exact ⟨a, vs, e, h _ _ g, RepL.mono h q⟩
  | .tup xs, _, r => by
    unfold Rep at r ⊢
    obtain ⟨a, vs, e, g, q⟩ := r
    exact ⟨a, vs, e, h _ _ g, RepL.mono h q⟩
  | .dct ks, _, r => by
    unfold Rep at r ⊢
    obtain ⟨a, vs, e, g, q⟩ := r
    exact ⟨a, vs, e, h _ _ g, RepD.mono h q⟩
  | .ins c fs, _, r => by
    unfold Rep at r ⊢
    obtain ⟨a, dx, vs, e, g, q⟩ := r
    exact ⟨a, dx, vs, e, h _ _ g, RepF.mono h q⟩
  | .scr ns, _, r => by
    unfold Rep at r ⊢
    obtain ⟨a, e, q⟩ := r
    exact ⟨a, e, q.imp (fun ⟨o, z⟩ => ⟨o, h _ _ z⟩) id⟩
theorem RepL.mono (h : Sb G G') : ∀ {xs : List T} {vs : List V}, RepL cA G xs vs → RepL cA G' xs vs
  | [], _, r => by unfold RepL at r ⊢; exact r
  | x :: xs, _, r => by
    unfold RepL at r ⊢
    obtain ⟨v, rr, e, q, q'⟩ := r
    exact ⟨v, rr, e, Rep.mono h q, RepL.mono h q'⟩
theorem RepD.mono (h : Sb G G') : ∀ {xs : List (Key × T)} {vs : List (Key × V)}, RepD cA G xs vs → RepD cA G' xs vs
  | [], _, r => by unfold RepD at r ⊢; exact r
  | (k, x) :: xs, _, r => by
    unfold RepD at r ⊢
    obtain ⟨v, rr, e, q, q'⟩ := r
    exact ⟨v, rr, e, Rep.mono h q, RepD.mono h q'⟩
theorem RepF.mono (h : Sb G G') : ∀ {xs : List (Str × T)} {vs : List (Str × V)}, RepF cA G xs vs → RepF cA G' xs vs
  | [], _, r => by unfold RepF at r ⊢; exact r
  | (k, x) :: xs, _, r => by
    unfold RepF at r ⊢
    obtain ⟨v, rr, e, q, q'⟩ := r
    exact ⟨v, rr, e, Rep.mono h q, RepF.mono h q'⟩
end

theorem RepL.length : ∀ {xs : List T} {vs : List V}, RepL cA G xs vs → vs.length = xs.length
  | [], _, r => by unfold RepL at r; subst r; rfl
  | x :: xs, _, r => by
    unfold RepL at r
    obtain ⟨v, rr, e, q, q'⟩ := r
    subst e
    simp [RepL.length q']
theorem RepL.get : ∀ {xs : List T} {vs : List V} {i : Nat} {x : T}, RepL cA G xs vs → xs[i]? = some x → ∃ v, vs[i]? = some v ∧ Rep cA G x v
  | [], _, i, x, _, e => by simp at e
  | y :: ys, vs, 0, x, r, e => by
    unfold RepL at r
    obtain ⟨v, rr, ev, q, q'⟩ := r
    simp at e; subst e; subst ev
    exact ⟨v, rfl, q⟩
  | y :: ys, vs, i + 1, x, r, e => by
    unfold RepL at r
    obtain ⟨v, rr, ev, q, q'⟩ := r
    subst ev
    obtain ⟨u, h1, h2⟩ := RepL.get (i := i) (x := x) q' (by simpa using e)
    exact ⟨u, by simpa using h1, h2⟩
theorem RepL.append : ∀ {xs ys : List T} {vs us : List V}, RepL cA G xs vs → RepL cA G ys us → RepL cA G (xs ++ ys) (vs ++ us)
  | [], _, _, _, r, s => by unfold RepL at r; subst r; exact s
  | x :: xs, ys, _, us, r, s => by
    unfold RepL at r
    obtain ⟨v, rr, e, q, q'⟩ := r
    subst e
    show RepL cA G (x :: (xs ++ ys)) (v :: (rr ++ us))
    unfold RepL
    exact ⟨v, _, rfl, q, RepL.append q' s⟩
theorem RepL.cons {x : T} {v : V} {xs : List T} {vs : List V} (r : Rep cA G x v) (q : RepL cA G xs vs) : RepL cA G (x :: xs) (v :: vs) := by
  unfold RepL; exact ⟨v, vs, rfl, r, q⟩
theorem RepL.nil : RepL cA G [] [] := by unfold RepL; rfl
theorem RepL.one {x : T} {v : V} (r : Rep cA G x v) : RepL cA G [x] [v] := .cons r .nil
theorem RepL.drop : ∀ {xs : List T} {vs : List V} (n : Nat), RepL cA G xs vs → RepL cA G (xs.drop n) (vs.drop n)
  | xs, vs, 0, r => by simpa using r
  | [], _, n + 1, r => by unfold RepL at r; subst r; exact .nil
  | x :: xs, _, n + 1, r => by
    unfold RepL at r
    obtain ⟨v, rr, e, q, q'⟩ := r
    subst e
    exact RepL.drop n q'
theorem RepL.take : ∀ {xs : List T} {vs : List V} (n : Nat), RepL cA G xs vs → RepL cA G (xs.take n) (vs.take n)
  | _, _, 0, r => by simpa using RepL.nil
  | [], _, n + 1, r => by unfold RepL at r; subst r; exact .nil
  | x :: xs, _, n + 1, r => by
    unfold RepL at r
    obtain ⟨v, rr, e, q, q'⟩ := r
    subst e
    exact .cons q (RepL.take n q')
theorem RepL.set : ∀ {xs : List T} {vs : List V} {x : T} {v : V} (n : Nat), RepL cA G xs vs → Rep cA G x v → RepL cA G (xs.set n x) (vs.set n v)
  | [], _, _, _, _, r, _ => by unfold RepL at r; subst r; exact .nil
  | y :: xs, _, x, v, 0, r, q0 => by
    unfold RepL at r
    obtain ⟨u, rr, e, q, q'⟩ := r
    subst e
    exact .cons q0 q'
  | y :: xs, _, x, v, n + 1, r, q0 => by
    unfold RepL at r
    obtain ⟨u, rr, e, q, q'⟩ := r
    subst e
    exact .cons q (RepL.set n q' q0)
theorem RepF.lookup : ∀ {fs : List (Str × T)} {gs : List (Str × V)} {f : Str} {x : T}, RepF cA G fs gs → fs.lookup f = some x → ∃ v, gs.lookup f = some v ∧ Rep cA G x v
  | [], _, f, x, _, e => by simp at e
  | (k, y) :: ys, gs, f, x, r, e => by
    unfold RepF at r
    obtain ⟨v, rr, ev, q, q'⟩ := r
    subst ev
    rw [List.lookup_cons] at e ⊢
    cases hk : (f == k) with
    | true => rw [hk] at e; simp at e; subst e; exact ⟨v, rfl, q⟩
    | false => rw [hk] at e; exact RepF.lookup q' e
theorem RepF.lookup_none : ∀ {fs : List (Str × T)} {gs : List (Str × V)} {f : Str}, RepF cA G fs gs → fs.lookup f = none → gs.lookup f = none
  | [], _, f, r, _ => by unfold RepF at r; subst r; rfl
  | (k, y) :: ys, gs, f, r, e => by
    unfold RepF at r
    obtain ⟨v, rr, ev, q, q'⟩ := r
    subst ev
    rw [List.lookup_cons] at e ⊢
    cases hk : (f == k) with
    | true => rw [hk] at e; simp at e
    | false => rw [hk] at e; exact RepF.lookup_none q' e
theorem RepF.length : ∀ {xs : List (Str × T)} {vs : List (Str × V)}, RepF cA G xs vs → vs.length = xs.length
  | [], _, r => by unfold RepF at r; subst r; rfl
  | (k, x) :: xs, _, r => by
    unfold RepF at r
    obtain ⟨v, rr, e, q, q'⟩ := r
    subst e
    simp [RepF.length q']
end

/-! ## the store in the heap -/
def CellOk (cA : CA) (G H : Hp) (a : Addr) : Cell → Prop
  | .lst xs => G a = none ∧ ∃ vs, H a = some (.lst vs) ∧ RepL cA G xs vs
  | .dct ks => G a = none ∧ ∃ kvs, H a = some (.dK kvs) ∧ RepD cA G ks kvs
  | .ins c fs => G a = none ∧ ∃ dx gs, H a = some (.ins (cA c) dx gs) ∧ RepF cA G fs gs
  | .frz x => Rep cA G x (.ref a) ∧ ∃ o, G a = some o

structure Rl (cA : CA) (al : List Addr) (G : Hp) (s : Store) (H : Hp) : Prop where
  sub : Sb G H
  len : al.length = s.length
  nd : al.Nodup
  cell : ∀ (k : Nat) a c, al[k]? = some a → s[k]? = some c → CellOk cA G H a c

def RepV (cA : CA) (al : List Addr) (G : Hp) : VV → V → Prop
  | .t x, v => Rep cA G x v
  | .c k, v => ∃ a, al[k]? = some a ∧ v = .ref a

structure RepS (cA : CA) (al : List Addr) (G : Hp) (loc : Loc) (st : L2.St) : Prop where
  len : loc.length = st.length
  get : ∀ (i : Nat) x, loc[i]? = some (some x) → ∃ v, st[i]? = some (some v) ∧ RepV cA al G x v

/-- more cells, more of the heap frozen -/
structure Xt (al : List Addr) (G : Hp) (al' : List Addr) (G' : Hp) : Prop where
  pre : ∃ l, al' = al ++ l
  sub : Sb G G'
theorem Xt.rfl' {al : List Addr} {G : Hp} : Xt al G al G := ⟨⟨[], by simp⟩, Sb.rfl'⟩
theorem Xt.trans {al al1 al2 : List Addr} {G G1 G2 : Hp} (a : Xt al G al1 G1) (b : Xt al1 G1 al2 G2) : Xt al G al2 G2 := by
  obtain ⟨⟨l, e⟩, s⟩ := a
  obtain ⟨⟨l', e'⟩, s'⟩ := b
  exact ⟨⟨l ++ l', by rw [e', e, List.append_assoc]⟩, s.trans s'⟩
theorem Xt.get {al al' : List Addr} {G G' : Hp} (x : Xt al G al' G') {k : Nat} {a : Addr} (h : al[k]? = some a) : al'[k]? = some a := by
  obtain ⟨⟨l, e⟩, _⟩ := x
  subst e
  have := (List.getElem?_eq_some_iff.mp h).1
  rw [List.getElem?_append_left this]; exact h
section
variable {cA : CA} {al al' : List Addr} {G G' H : Hp} {s : Store}
theorem RepV.mono (x : Xt al G al' G') {y : VV} {v : V} (r : RepV cA al G y v) : RepV cA al' G' y v := by
  cases y with
  | t y => exact Rep.mono x.sub r
  | c k =>
    obtain ⟨a, h, e⟩ := r
    exact ⟨a, x.get h, e⟩
theorem RepS.mono (x : Xt al G al' G') {loc : Loc} {st : L2.St} (r : RepS cA al G loc st) : RepS cA al' G' loc st :=
  ⟨r.len, fun i y e => let ⟨v, h, q⟩ := r.get i y e; ⟨v, h, q.mono x⟩⟩
/-- what a value that is read looks like in H -/
theorem Rl.rd (r : Rl cA al G s H) {y : VV} {v : V} {x : T} (q : RepV cA al G y v) (e : rd s y = some x) :
    ∃ G1, Sb G G1 ∧ Sb G1 H ∧ Rep cA G1 x v := by
  cases y with
  | t y =>
    simp [Tw.rd] at e; subst e
    exact ⟨G, Sb.rfl', r.sub, q⟩
  | c k =>
    obtain ⟨a, ha, ev⟩ := q
    subst ev
    simp only [Tw.rd, Option.map_eq_some_iff] at e
    obtain ⟨c, hc, ec⟩ := e
    have ok := r.cell k a c ha hc
    cases c with
    | lst xs =>
      simp only [Cell.tree] at ec; subst ec
      obtain ⟨gn, vs, hh, rr⟩ := ok
      refine ⟨upd G a (.lst vs), Sb.new gn, fun b o e => ?_, ?_⟩
      · by_cases hb : b = a
        · subst hb; rw [upd_same] at e; cases e; exact hh
        · rw [upd_ne hb] at e; exact r.sub b o e
      · unfold Rep; exact ⟨a, vs, rfl, upd_same, RepL.mono (Sb.new gn) rr⟩
    | dct xs =>
      simp only [Cell.tree] at ec; subst ec
      obtain ⟨gn, vs, hh, rr⟩ := ok
      refine ⟨upd G a (.dK vs), Sb.new gn, fun b o e => ?_, ?_⟩
      · by_cases hb : b = a
        · subst hb; rw [upd_same] at e; cases e; exact hh
        · rw [upd_ne hb] at e; exact r.sub b o e
      · unfold Rep; exact ⟨a, vs, rfl, upd_same, RepD.mono (Sb.new gn) rr⟩
    | ins cc xs =>
      simp only [Cell.tree] at ec; subst ec
      obtain ⟨gn, dx, vs, hh, rr⟩ := ok
      refine ⟨upd G a (.ins (cA cc) dx vs), Sb.new gn, fun b o e => ?_, ?_⟩
      · by_cases hb : b = a
        · subst hb; rw [upd_same] at e; cases e; exact hh
        · rw [upd_ne hb] at e; exact r.sub b o e
      · unfold Rep; exact ⟨a, dx, vs, rfl, upd_same, RepF.mono (Sb.new gn) rr⟩
    | frz x' =>
      simp only [Cell.tree] at ec; subst ec
      exact ⟨G, Sb.rfl', r.sub, ok.1⟩
/-- a new frozen object -/
theorem Rl.newT (r : Rl cA al G s H) {p : Addr} {o : HO} (h : H p = none) : Rl cA al (upd G p o) s (upd H p o) := by
  have gn : G p = none := by
    cases e : G p with
    | none => rfl
    | some u => rw [r.sub p u e] at h; cases h
  refine ⟨fun a u e => ?_, r.len, r.nd, fun k a c ha hc => ?_⟩
  · by_cases hb : a = p
    · subst hb; rw [upd_same] at e ⊢; exact e
    · rw [upd_ne hb] at e ⊢; exact r.sub a u e
  · have ok := r.cell k a c ha hc
    cases c with
    | lst xs =>
      obtain ⟨g, vs, hh, rr⟩ := ok
      have hap : a ≠ p := ne_of_none hh h
      exact ⟨by rw [upd_ne hap]; exact g, vs, by rw [upd_ne hap]; exact hh, RepL.mono (Sb.new gn) rr⟩
    | dct xs =>
      obtain ⟨g, vs, hh, rr⟩ := ok
      have hap : a ≠ p := ne_of_none hh h
      exact ⟨by rw [upd_ne hap]; exact g, vs, by rw [upd_ne hap]; exact hh, RepD.mono (Sb.new gn) rr⟩
    | ins cc xs =>
      obtain ⟨g, dx, vs, hh, rr⟩ := ok
      have hap : a ≠ p := ne_of_none hh h
      exact ⟨by rw [upd_ne hap]; exact g, dx, vs, by rw [upd_ne hap]; exact hh, RepF.mono (Sb.new gn) rr⟩
    | frz x => exact ⟨Rep.mono (Sb.new gn) ok.1, ok.2.imp fun o z => Sb.new gn _ _ z⟩
/-- a new object that nothing frozen knows -/
theorem Rl.newX (r : Rl cA al G s H) {p : Addr} {o : HO} (h : H p = none) : Rl cA al G s (upd H p o) := by
  refine ⟨fun a u e => ?_, r.len, r.nd, fun k a c ha hc => ?_⟩
  · have e' := r.sub a u e
    rw [upd_ne (ne_of_none e' h)]; exact e'
  · have ok := r.cell k a c ha hc
    cases c with
    | lst xs =>
      obtain ⟨g, vs, hh, rr⟩ := ok
      exact ⟨g, vs, by rw [upd_ne (ne_of_none hh h)]; exact hh, rr⟩
    | dct xs =>
      obtain ⟨g, vs, hh, rr⟩ := ok
      exact ⟨g, vs, by rw [upd_ne (ne_of_none hh h)]; exact hh, rr⟩
    | ins cc xs =>
      obtain ⟨g, dx, vs, hh, rr⟩ := ok
      exact ⟨g, dx, vs, by rw [upd_ne (ne_of_none hh h)]; exact hh, rr⟩
    | frz x => exact ok
theorem Rl.gnone (r : Rl cA al G s H) {p : Addr} (h : H p = none) : G p = none := by
  cases e : G p with
  | none => rfl
  | some u => rw [r.sub p u e] at h; cases h
theorem Rl.inH (r : Rl cA al G s H) {k : Nat} {a : Addr} (h : al[k]? = some a) : ∃ o, H a = some o := by
  have hk : k < s.length := by rw [← r.len]; exact (List.getElem?_eq_some_iff.mp h).1
  have ok := r.cell k a (s[k]) h (List.getElem?_eq_getElem hk)
  cases e : s[k] with
  | lst xs => rw [e] at ok; obtain ⟨_, _, hh, _⟩ := ok; exact ⟨_, hh⟩
  | dct xs => rw [e] at ok; obtain ⟨_, _, hh, _⟩ := ok; exact ⟨_, hh⟩
  | ins cc xs => rw [e] at ok; obtain ⟨_, _, _, hh, _⟩ := ok; exact ⟨_, hh⟩
  | frz x =>
    rw [e] at ok
    obtain ⟨_, o, z⟩ := ok
    exact ⟨o, r.sub _ _ z⟩
/-- a new cell -/
theorem Rl.newC (r : Rl cA al G s H) {p : Addr} {o : HO} {c : Cell} (h : H p = none) (ok : CellOk cA G (upd H p o) p c) : Rl cA (al ++ [p]) G (s ++ [c]) (upd H p o) := by
  have r' := r.newX (o := o) h
  refine ⟨r'.sub, by simp [r.len], ?_, fun k a c' ha hc => ?_⟩
  · rw [List.nodup_append]
    refine ⟨r.nd, by simp, fun a ha b hb => ?_⟩
    simp at hb; subst hb
    obtain ⟨k, hk, e⟩ := List.mem_iff_getElem.mp ha
    obtain ⟨u, hu⟩ := r.inH (k := k) (a := a) (by rw [List.getElem?_eq_getElem hk, e])
    exact ne_of_none hu h
  · by_cases hk : k < al.length
    · rw [List.getElem?_append_left hk] at ha
      rw [List.getElem?_append_left (by rw [← r.len]; exact hk)] at hc
      exact r'.cell k a c' ha hc
    · have hk' : k = al.length := by
        have := (List.getElem?_eq_some_iff.mp ha).1
        simp at this; omega
      subst hk'
      simp at ha
      rw [r.len] at hc
      simp at hc
      subst ha; subst hc
      exact ok
theorem nodup_ne {al : List Addr} (nd : al.Nodup) {i j : Nat} {a b : Addr} (ha : al[i]? = some a) (hb : al[j]? = some b) (h : i ≠ j) : a ≠ b := by
  intro e; subst e
  exact h (List.Nodup.eq_of_getElem? nd ha hb)
where
  List.Nodup.eq_of_getElem? {al : List Addr} (nd : al.Nodup) {i j : Nat} {a : Addr} (ha : al[i]? = some a) (hb : al[j]? = some a) : i = j := by
    obtain ⟨h1, e1⟩ := List.getElem?_eq_some_iff.mp ha
    obtain ⟨h2, e2⟩ := List.getElem?_eq_some_iff.mp hb
    exact (List.getElem_inj nd).mp (e1.trans e2.symm)
end
end Tw
namespace Tw
open PySem L2

/-! ## the little language -/
/-- what isinstance is asked -/
inductive CR where
  | ty (n : String) | cl (c : Nat)
  deriving DecidableEq, Inhabited

inductive Blt where
  | len | abs | max | min | int | bool | str | repr | divmod | sum | any | all | list | tuple | gcd | lcm
  deriving DecidableEq, Inhabited

inductive E where
  | var (i : Nat) | int (i : Int) | str (x : Str) | bl (b : Bool) | non
  | gint (x : Str) (i : Int)
  | bin (o : Operator) (a b : E)
  | neg (a : E) | not (a : E)
  | cmp (o : CmpOp) (a b : E) | cmp2 (o p : CmpOp) (a b c : E)
  | and (a b : E) | or (a b : E) | ite (c a b : E)
  | nil | cons (a as : E)
  | lst (m : Bool) (as : E) | tup (as : E)
  | ix (a i : E) | sl (a lo hi : E) | omit | rev (a : E)
  | att (a : E) (f : Str)
  | prop (a : E) (f : Str)
  | isi (a : E) (cs : List CR)
  | cal (f : Nat) (as : E)
  | mk (c : Nat) (as : E)
  | mth (c : Nat) (m : Str) (a as : E)
  | blt (b : Blt) (as : E)
  | lc (m : Bool) (own : List Nat) (g : E) (it : E) (cond : E) (e : E)
  | iseq (a : E) | irng1 (a : E) | irng2 (a b : E) | izip (a b : E) | ienu (a : E)
  | fst (as : E) | fs1 (a : E) | fmt (a : E)
  | junk
  | dct (ks : List Key) (vs : E)
  | calk (f : Nat) (as : E) (pm : List Nat)
  -- targets
  | gn (i : Nat) | gt (gs : E)
  deriving Inhabited

def E.isOmit : E → Bool
  | .omit => true
  | _ => false

inductive S where
  | skip | seq (a b : S)
  | asg (g : E) (e : E)
  | par (gs : E) (es : E)
  | ret (m : Bool) (e : E) | retn
  | ite (c : E) (a b : S)
  | for (g : E) (it : E) (b : S)
  | whl (c : E) (b : S)
  | exp (e : E)
  | satt (o : E) (f : Str) (e : E)
  | app (o : Nat) (e : E)
  | ext (o : Nat) (e : E)
  | raise (c : Nat) (as : E)
  | junk
  | try1 (b : S) (c : Nat) (h : S)
  | brk | cont
  deriving Inhabited

/-! ## outcomes -/
structure Exc where
  c : Nat
  fs : List (Str × T)
  deriving Inhabited

inductive Out (α : Type) where
  | ok (a : α) (s : Store) | ex (e : Exc) (s : Store) | bad

def Out.bind {α β : Type} (x : Out α) (f : α → Store → Out β) : Out β :=
  match x with
  | .ok a s => f a s
  | .ex e s => .ex e s
  | .bad => .bad

/-- where nothing may be raised -/
def noex {α : Type} : Out α → Out α
  | .ex _ _ => .bad
  | x => x
def ofO {α : Type} (s : Store) : Option α → Out α
  | some a => .ok a s
  | none => .bad
def ofT (s : Store) : Option T → Out VV
  | some a => .ok (.t a) s
  | none => .bad

/-- the value read as a tree -/
def rdM (s : Store) (y : VV) : Out T := ofO s (rd s y)

/-- frozen -/
def emb (s : Store) : VV → Option (T × Store)
  | .t x => some (x, s)
  | .c k => match s[k]? with
    | some (.frz x) => some (x, s)
    | some c => some (c.tree, s.set k (.frz c.tree))
    | none => none
def embL (s : Store) : List VV → Option (List T × Store)
  | [] => some ([], s)
  | y :: ys => match emb s y with
    | some (x, s1) => match embL s1 ys with
      | some (xs, s2) => some (x :: xs, s2)
      | none => none
    | none => none
def embM (s : Store) (y : VV) : Out T :=
  match emb s y with
  | some (x, s') => .ok x s'
  | none => .bad
def embLM (s : Store) (y : List VV) : Out (List T) :=
  match embL s y with
  | some (x, s') => .ok x s'
  | none => .bad

/-! ## operations on trees -/
def tru : T → Option Bool
  | .non => some false
  | .bl b => some b
  | .int i => some (i != 0)
  | .str x => if x.length ≤ sizeLine then some ((x.length : Int) != 0) else none
  | .lst xs => some (!xs.isEmpty)
  | .tup xs => some (!xs.isEmpty)
  | .dct xs => some (!xs.isEmpty)
  | _ => none

def mulOk (i j : Int) : Bool := decide (i.natAbs.log2 < 60) || decide (j.natAbs.log2 < 60) || decide (i.natAbs.log2 + j.natAbs.log2 < 100000000)

def binP : Operator → T → T → Option T
  | .Add, .int i, .int j => some (.int (i + j))
  | .Add, .str x, .str y => if x.length + y.length ≤ sizeLine then some (.str (x ++ y)) else none
  | .Add, .lst xs, .lst ys => if xs.length + ys.length ≤ sizeLine then some (.lst (xs ++ ys)) else none
  | .Add, .tup xs, .tup ys => if xs.length + ys.length ≤ sizeLine then some (.tup (xs ++ ys)) else none
  | .Sub, .int i, .int j => some (.int (i - j))
  | .Mult, .int i, .int j => if mulOk i j then some (.int (i * j)) else none
  | .Mult, .lst xs, .int k => if decide (-(2 ^ 63) ≤ k) && decide (k < 2 ^ 63) && decide (xs.length * k.toNat ≤ sizeLine) then some (.lst (List.replicate k.toNat xs).flatten) else none
  | .Mult, .tup xs, .int k => if !xs.isEmpty && decide (2 ≤ k) && decide (k ≤ 1000) && decide (xs.length ≤ 1000) then some (.tup (List.replicate k.toNat xs).flatten) else none
  | .FloorDiv, .int i, .int j => if decide (j ≠ 0) && decide (j.natAbs.log2 < 9000) then some (.int (i.fdiv j)) else none
  | .Mod, .int i, .int j => if decide (j ≠ 0) then some (.int (i.fmod j)) else none
  | .Pow, .int i, .int j => if decide (0 ≤ j) && decide (j ≤ 1000000) && decide (i.natAbs < 2 ^ 64) then some (.int (i ^ j.toNat)) else none
  | _, _, _ => none

/-- == of trees without instances within -/
def eqFlat : T → T → Option Bool
  | .non, .non => some true
  | .bl a, .bl b => some (decide (a = b))
  | .int a, .int b => some (decide (a = b))
  | .str a, .str b => some (decide (a = b))
  | .non, .int _ => some false
  | .int _, .non => some false
  | .non, .bl _ => some false
  | .bl _, .non => some false
  | .non, .str _ => some false
  | .str _, .non => some false
  | .int _, .str _ => some false
  | .str _, .int _ => some false
  | .bl _, .str _ => some false
  | .str _, .bl _ => some false
  | _, _ => none

def isSc : T → Bool
  | .non => true | .bl _ => true | .int _ => true | .str _ => true
  | _ => false

/-- x in a list of ints, bools, texts, None -/
def inP (neg : Bool) (x : T) : List T → Option Bool
  | [] => some neg
  | y :: ys => match eqFlat y x, inP neg x ys with
    | some b, some r => some (if b then !neg else r)
    | _, _ => none

def cmpP : CmpOp → T → T → Option Bool
  | .Lt, .int i, .int j => some (decide (i < j))
  | .LtE, .int i, .int j => some (decide (i ≤ j))
  | .Gt, .int i, .int j => some (decide (j < i))
  | .GtE, .int i, .int j => some (decide (j ≤ i))
  | .Eq, x, y => eqFlat x y
  | .NotEq, x, y => (eqFlat x y).map (!·)
  | .Is, .bl a, .bl b => some (decide (a = b))
  | .IsNot, .bl a, .bl b => some (!decide (a = b))
  | .Is, x, .non => some (match x with | .non => true | _ => false)
  | .IsNot, x, .non => some (match x with | .non => false | _ => true)
  | .In, x, .lst ys => if isSc x && ys.all isSc then inP false x ys else none
  | .NotIn, x, .lst ys => if isSc x && ys.all isSc then inP true x ys else none
  | .In, x, .tup ys => if isSc x && ys.all isSc then inP false x ys else none
  | .NotIn, x, .tup ys => if isSc x && ys.all isSc then inP true x ys else none
  | _, _, _ => none

def itemP : T → T → Option T
  | .lst xs, .int i => atI xs i
  | .tup xs, .int i => atI xs i
  | .scr ns, .int i => (atI ns i).map T.int
  | _, _ => none
/-- xs[lo:hi] -/
def cutT (xs : List T) (lo hi : Option Int) : List T := (xs.drop (HT.sIx xs.length 0 lo)).take (HT.sIx xs.length xs.length hi - HT.sIx xs.length 0 lo)
def isiP (sub : Nat → Nat → Bool) : CR → T → Bool
  | .ty n, .non => n == "NoneType" || n == "object"
  | .ty n, .bl _ => n == "bool" || n == "int" || n == "object"
  | .ty n, .int _ => n == "int" || n == "object"
  | .ty n, .str _ => n == "str" || n == "object"
  | .ty n, .lst _ => n == "list" || n == "object"
  | .ty n, .tup _ => n == "tuple" || n == "object"
  | .ty n, .dct _ => n == "dict" || n == "object"
  | .cl c, .ins d _ => sub d c
  | _, _ => false

def isiOk (kit : CR → T → Bool) (cls : Nat → Bool) (cs : List CR) (t : T) : Bool := (cs.all fun c => kit c t) && (match t with | .ty _ => false | .scr _ => false | .ins c _ => cls c | _ => true)

/-! ## the program -/
structure FD where
  np : Nat
  nl : Nat
  body : S

structure Defs where
  fn : Nat → Option FD
  /-- the methods and properties of a class -/
  om : Nat → Str → Option Nat
  /-- the attributes that instances of a class have -/
  fld : Nat → Str → Bool
  sub : Nat → Nat → Bool
  /-- classes whose instances are made by an own __init__ (its number) -/
  ini : Nat → Option Nat
  /-- own exception classes: the one field that __init__ stores, none for none -/
  exf : Nat → Option (Option Str)
  rep : Nat → Option Nat
  pr : Nat → Str → Option Nat
  /-- the defaults of the last parameters -/
  dfl : Nat → List T
  /-- what isinstance is served for -/
  kit : CR → T → Bool
  cls : Nat → Bool
  /-- classes whose own operators are served -/
  own : Nat → Bool

abbrev CF := Nat → List VV → Store → Out VV

def wipeL (loc : Loc) : List Nat → Loc
  | [] => loc
  | v :: vs => (wipeL loc vs).set v none

/-- statements' ends -/
inductive Fl where
  | nx (loc : Loc) (s : Store) | rt (y : VV) (s : Store) | bk (loc : Loc) (s : Store) | ct (loc : Loc) (s : Store) | ex (e : Exc) (loc : Loc) (s : Store) | bad
  deriving Inhabited

def Fl.seq (x : Fl) (f : Loc → Store → Fl) : Fl :=
  match x with
  | .nx loc s => f loc s
  | x => x
def Out.toFl {α : Type} (x : Out α) (loc : Loc) (f : α → Store → Fl) : Fl :=
  match x with
  | .ok a s => f a s
  | .ex e s => .ex e loc s
  | .bad => .bad

/-- what a for loop walks -/
inductive Src where
  | lst (y : VV) | tup (xs : List T) | rng (lo hi : Int) | zip (y z : VV) | enu (y : VV)
  deriving Inhabited
def lstAt (s : Store) (y : VV) : Option (List T) := match rd s y with
  | some (.lst xs) => some xs
  | _ => none
/-- the i-th turn: none: a fault; some none: the end -/
def Src.at (s : Store) : Src → Nat → Option (Option T)
  | .lst y, i => (lstAt s y).map fun xs => xs[i]?
  | .tup xs, i => some xs[i]?
  | .rng lo hi, i => some (if i < (hi - lo).toNat then some (.int (lo + i)) else none)
  | .zip y z, i => match lstAt s y, lstAt s z with
    | some xs, some ys => some (match xs[i]?, ys[i]? with | some a, some b => some (.tup [a, b]) | _, _ => none)
    | _, _ => none
  | .enu y, i => (lstAt s y).map fun xs => (xs[i]?).map fun a => .tup [.int i, a]
/-- a bound of the turns -/
def Src.most (s : Store) : Src → Nat
  | .lst y => ((lstAt s y).getD []).length + 1
  | .tup xs => xs.length + 1
  | .rng lo hi => (hi - lo).toNat + 1
  | .zip y _ => ((lstAt s y).getD []).length + 1
  | .enu y => ((lstAt s y).getD []).length + 1

/-- the items that a target of several names takes -/
def items : T → Option (List T)
  | .tup xs => some xs
  | .lst xs => some xs
  | _ => none
/-- several targets; a name, a tuple of targets -/
def bindGs : E → List T → Loc → Option Loc
  | .nil, [], loc => some loc
  | .cons (.gn i) gs, x :: xs, loc => if i < loc.length then bindGs gs xs (loc.set i (some (.t x))) else none
  | .cons (.gt hs) gs, x :: xs, loc => match items x with
    | some zs => (bindGs hs zs loc).bind fun l => bindGs gs xs l
    | none => none
  | _, _, _ => none
def bindG : E → T → Loc → Option Loc
  | .gn i, x, loc => if i < loc.length then some (loc.set i (some (.t x))) else none
  | .gt gs, x, loc => match items x with
    | some xs => bindGs gs xs loc
    | none => none
  | _, _, _ => none
/-- the slots of a target -/
def gslots : E → List Nat
  | .gn i => [i]
  | .gt gs => gslots gs
  | .cons g gs => gslots g ++ gslots gs
  | _ => []

def loopF (src : Src) (g : E) (body : Loc → Store → Fl) : Nat → Nat → Loc → Store → Fl
  | 0, _, _, _ => .bad
  | n + 1, i, loc, s => match src.at s i with
    | none => .bad
    | some none => .nx loc s
    | some (some x) => match bindG g x loc with
      | none => .bad
      | some l1 => match body l1 s with
        | .nx l2 s2 => loopF src g body n (i + 1) l2 s2
        | .ct l2 s2 => loopF src g body n (i + 1) l2 s2
        | .bk l2 s2 => .nx l2 s2
        | r => r

def loopW (cond : Loc → Store → Out Bool) (body : Loc → Store → Fl) : Nat → Loc → Store → Fl
  | 0, _, _ => .bad
  | n + 1, loc, s => match cond loc s with
    | .bad => .bad
    | .ex e s1 => .ex e loc s1
    | .ok false s1 => .nx loc s1
    | .ok true s1 => match body loc s1 with
      | .nx l2 s2 => loopW cond body n l2 s2
      | .ct l2 s2 => loopW cond body n l2 s2
      | .bk l2 s2 => .nx l2 s2
      | r => r

/-- a comprehension's turns; lw: the slots ahead of each turn; n0: the cell of the list that grows -/
def loopC (src : Src) (g : E) (cond : Loc → Store → Out Bool) (elt : Loc → Store → Out VV) (lw : Loc) (n0 : Nat) : Nat → Nat → Store → Out Unit
  | 0, _, _ => .bad
  | n + 1, i, s => match src.at s i with
    | none => .bad
    | some none => .ok () s
    | some (some x) => match bindG g x lw with
      | none => .bad
      | some l1 => match cond l1 s with
        | .ok false s1 => loopC src g cond elt lw n0 n (i + 1) s1
        | .ok true s1 => match elt l1 s1 with
          | .ok y s2 => match emb s2 y with
            | some (t, s3) => match s3[n0]? with
              | some (.lst acc) => if acc.length < sizeLine then loopC src g cond elt lw n0 n (i + 1) (s3.set n0 (.lst (acc ++ [t]))) else .bad
              | _ => .bad
            | none => .bad
          | _ => .bad
        | _ => .bad
/-- a comprehension's end: the list as a cell, or frozen; no other cell is left -/
def lcEnd (m : Bool) (n : Nat) (s : Store) : Out VV :=
  if m then .ok (.c n) (s.take (n + 1)) else match s[n]? with
    | some c => .ok (.t c.tree) (s.take n)
    | none => .bad

/-- a call's end: the callee's cells are gone -/
def finT (n k : Nat) (s : Store) : Out VV := match s[k]? with
  | some c => .ok (.t c.tree) (s.take n)
  | none => .bad
/-- .. a cell of its own that is given back becomes the caller's last one -/
def fin (n : Nat) (y : VV) (s : Store) : Out VV :=
  match y with
  | .t x => .ok (.t x) (s.take n)
  | .c k => if k < n then .ok (.c k) (s.take n) else match s[k]? with
    | some (.frz x) => .ok (.t x) (s.take n)
    | some c => .ok (.c n) (s.take n ++ [c])
    | none => .bad

/-- behind __init__ -/
def mkEnd (n : Nat) (y : VV) (s : Store) : Out VV := match y with
  | .t .non => finT n n s
  | _ => .bad

def putT (f : Str) (x : T) : List (Str × T) → List (Str × T)
  | [] => [(f, x)]
  | (g, y) :: r => if g = f then (g, x) :: r else (g, y) :: putT f x r

def reprSc : T → Option Str
  | .non => some "None"
  | .bl b => some (if b then "True" else "False")
  | .int i => if i.natAbs.log2 < 1920 then some (toString i) else none
  | _ => none

def bltP : Blt → List T → Option T
  | .len, [.lst xs] => some (.int xs.length)
  | .len, [.tup xs] => some (.int xs.length)
  | .len, [.scr ns] => some (.int ns.length)
  | .len, [.dct xs] => some (.int xs.length)
  | .len, [.str x] => if x.length ≤ sizeLine then some (.int x.length) else none
  | .abs, [.int i] => some (.int (if i < 0 then -i else i))
  | .max, [.int i, .int j] => some (.int (if j > i then j else i))
  | .min, [.int i, .int j] => some (.int (if j < i then j else i))
  | .int, [.int i] => some (.int i)
  | .int, [.bl b] => some (.int (if b then 1 else 0))
  | .bool, [.int i] => some (.bl (i != 0))
  | .bool, [.bl b] => some (.bl b)
  | .str, [.int i] => if i.natAbs.log2 < 1920 then some (.str (toString i)) else none
  | .divmod, [.int i, .int j] => if decide (0 < j) && decide (j < 1073741824) then some (.tup [.int (i / j), .int (i % j)]) else none
  | .gcd, [.int i, .int j] => some (.int ((Nat.gcd i.natAbs j.natAbs : Nat) : Int))
  | .lcm, [.int i, .int j] => if i.natAbs.log2 < 9000 ∧ j.natAbs.log2 < 9000 then some (.int ((Nat.lcm i.natAbs j.natAbs : Nat) : Int)) else none
  | .tuple, [.lst xs] => some (.tup xs)
  | .tuple, [.tup xs] => some (.tup xs)
  | .list, [.lst xs] => some (.lst xs)
  | .list, [.tup xs] => some (.lst xs)
  | .all, [.lst xs] => allB xs
  | .any, [.lst xs] => anyB xs
  | .sum, [.lst xs] => sumI xs
  | _, _ => none
where
  allB : List T → Option T
    | [] => some (.bl true)
    | .bl b :: r => (allB r).bind fun x => match x with | .bl c => some (.bl (b && c)) | _ => none
    | _ :: _ => none
  anyB : List T → Option T
    | [] => some (.bl false)
    | .bl b :: r => (anyB r).bind fun x => match x with | .bl c => some (.bl (b || c)) | _ => none
    | _ :: _ => none
  sumI : List T → Option T
    | [] => some (.int 0)
    | .int b :: r => (sumI r).bind fun x => match x with | .int c => some (.int (b + c)) | _ => none
    | _ :: _ => none

section
variable (D : Defs) (cf : CF) (rp : Store → T → Out Str) (fw : Nat)

/-- a part of a slice -/
def optI (s : Store) (y : VV) : Out (Option Int) := match rd s y with
  | some (.int i) => .ok (some i) s
  | _ => .bad
def slV (y : VV) (i j : Option Int) (s : Store) : Out VV := match rd s y with
  | some (.lst xs) => .ok (.t (.lst (cutT xs i j))) s
  | some (.tup xs) => .ok (.t (.tup (cutT xs i j))) s
  | some (.scr ns) => .ok (.t (.lst (cutT (ns.map T.int) i j))) s
  | _ => .bad

/-- the arguments, the last ones by their defaults -/
def fill (f : Nat) (ys : List VV) : List VV := match D.fn f with
  | some d => if ys.length < d.np ∧ d.np ≤ ys.length + (D.dfl f).length then ys ++ ((D.dfl f).drop ((D.dfl f).length - (d.np - ys.length))).map VV.t else ys
  | none => ys
/-! ### operators of own classes -/
def opNm : Operator → Str
  | .Add => "__add__" | .Sub => "__sub__" | .Mult => "__mul__" | _ => Str.empty
def opRNm : Operator → Str
  | .Add => "__radd__" | .Sub => "__rsub__" | .Mult => "__rmul__" | _ => Str.empty
/-- the class's own def of a name, for n arguments -/
def omN (c : Nat) (m : Str) (n : Nat) : Option Nat := if D.own c then match D.om c m with
  | some g => match D.fn g with
    | some d => if d.np = n then some g else none
    | none => none
  | none => none else none
def ownBin (o : Operator) (a b : T) (y z : VV) (s : Store) : Out VV :=
  match a, b with
  | .ins c _, .ins c' _ => if c = c' then match omN D c (opNm o) 2 with
    | some g => cf g [y, z] s
    | none => .bad else .bad
  | .ins c _, .int _ => match omN D c (opNm o) 2 with
    | some g => cf g [y, z] s
    | none => .bad
  | .int _, .ins c _ => match omN D c (opRNm o) 2 with
    | some g => cf g [z, y] s
    | none => .bad
  | _, _ => .bad
/-- x op y -/
def binV (o : Operator) (y z : VV) (s : Store) : Out VV :=
  match rd s y, rd s z with
  | some a, some b => match binP o a b with
    | some t => .ok (.t t) s
    | none => ownBin D cf o a b y z s
  | _, _ => .bad
/-- a property's def -/
def prN (c : Nat) (f : Str) : Option Nat := match D.pr c f with
  | some g => match D.fn g with
    | some d => if d.np = 1 then some g else none
    | none => none
  | none => none
def propV (f : Str) (y : VV) (s : Store) : Out VV := match rd s y with
  | some (.ins c _) => match prN D c f with
    | some g => noex (cf g [y] s)
    | none => .bad
  | _ => .bad
/-- o.m(..): the def that is called -/
def mthOk (c : Nat) (m : Str) (y : VV) (s : Store) : Option Nat := match rd s y, D.om c m with
  | some (.ins c' fs), some g => if c' = c ∧ fs.lookup m = none then some g else none
  | _, _ => none
theorem mthOk_of {c g : Nat} {m : Str} {y : VV} {s : Store} (h : mthOk D c m y s = some g) : ∃ fs, rd s y = some (.ins c fs) ∧ D.om c m = some g ∧ fs.lookup m = none := by
  unfold mthOk at h
  split at h
  · rename_i c' fs g' h1 h2
    split at h
    · rename_i hz
      cases h
      obtain ⟨rfl, hz⟩ := hz
      exact ⟨fs, h1, h2, hz⟩
    · cases h
  · cases h
/-- o.f -/
def attV (f : Str) (y : VV) (s : Store) : Out VV := match rd s y with
  | some (.ins c fs) => if D.fld c f then ofT s (fs.lookup f) else .bad
  | _ => .bad
def negV (y : VV) (s : Store) : Out VV := match rd s y with
  | some (.int i) => .ok (.t (.int (-i))) s
  | some (.ins c _) => match omN D c "__neg__" 1 with
    | some g => cf g [y] s
    | none => .bad
  | _ => .bad

/-! ### == of lists, tuples, instances -/
mutual
/-- no one value stands for both -/
def dif : T → T → Bool
  | .lst xs, .lst ys => difL xs ys
  | .lst _, .tup _ => true
  | .tup _, .lst _ => true
  | .tup xs, .tup ys => difL xs ys
  | .ins _ fs, .ins _ gs => difF fs gs
  | .ins _ _, .lst _ => true
  | .ins _ _, .tup _ => true
  | x, y => match eqFlat x y with
    | some b => !b
    | none => false
def difL : List T → List T → Bool
  | [], [] => false
  | x :: xs, y :: ys => dif x y || difL xs ys
  | _, _ => true
def difF : List (Str × T) → List (Str × T) → Bool
  | [], [] => false
  | (_, x) :: xs, (_, y) :: ys => dif x y || difF xs ys
  | _, _ => true
end
open Classical in
noncomputable def ownEq (s : Store) (c : Nat) (y z : VV) : Option Bool := match omN D c "__eq__" 2 with
  | some g => match cf g [y, z] s with
    | .ok (.t (.bl b)) s' => if s' = s then some b else none
    | _ => none
  | none => none
/-- of items: the same object is equal to itself -/
def eqI (f : T → T → Option Bool) (x y : T) : Option Bool := match eqFlat x y with
  | some b => some b
  | none => match f x y with
    | some false => if dif x y then some false else none
    | r => r
def eqLs (f : T → T → Option Bool) : List T → List T → Option Bool
  | x :: xs, y :: ys => match f x y with
    | some true => eqLs f xs ys
    | some false => some false
    | none => none
  | _, _ => some true
def isLT : T → Bool
  | .lst _ => true | .tup _ => true | .non => true | .bl _ => true | .int _ => true | .str _ => true | _ => false
noncomputable def eqB (s : Store) (f : T → T → Option Bool) (y z : VV) (x w : T) : Option Bool := match x, w with
  | .lst xs, .lst ys => if xs.length = ys.length then eqLs (eqI f) xs ys else some false
  | .tup xs, .tup ys => (eqLs (eqI f) xs ys).map fun b => b && decide (xs.length = ys.length)
  | .lst _, .tup _ => some false
  | .tup _, .lst _ => some false
  | .ins c _, .ins c' _ => if c = c' then ownEq D cf s c y z else none
  | .ins c _, w => if isLT w then ownEq D cf s c y z else none
  | .lst _, w => if isSc w then some false else none
  | .tup _, w => if isSc w then some false else none
  | x, .lst _ => if isSc x then some false else none
  | x, .tup _ => if isSc x then some false else none
  | _, _ => none
noncomputable def eqD (s : Store) : Nat → T → T → Option Bool
  | 0, _, _ => none
  | n + 1, x, w => eqB D cf s (eqD s n) (.t x) (.t w) x w
/-- x in [..] -/
def inLs (f : T → T → Option Bool) (x : T) : List T → Option Bool
  | [] => some false
  | y :: ys => match f y x with
    | some true => some true
    | some false => inLs f x ys
    | none => none
noncomputable def cmpV (o : CmpOp) (y z : VV) (s : Store) : Option Bool := match rd s y, rd s z with
  | some x, some w => match cmpP o x w with
    | some b => some b
    | none => match o with
      | .Eq => eqB D cf s (eqD D cf s 12) y z x w
      | .NotEq => (eqB D cf s (eqD D cf s 12) y z x w).map (!·)
      | _ => none
  | _, _ => none

/-- some of a list's items, in another sequence -/
def pick {α : Type} : List Nat → List α → Option (List α)
  | [], _ => some []
  | i :: r, l => match l[i]?, pick r l with
    | some x, some xs => some (x :: xs)
    | _, _ => none
/-- how many arguments -/
def alen : E → Nat
  | .cons _ as => alen as + 1
  | _ => 0

mutual
noncomputable def ev : E → Loc → Store → Out VV
  | .var i, loc, s => match loc[i]? with
    | some (some y) => .ok y s
    | _ => .bad
  | .int i, _, s => .ok (.t (.int i)) s
  | .str x, _, s => .ok (.t (.str x)) s
  | .bl b, _, s => .ok (.t (.bl b)) s
  | .non, _, s => .ok (.t .non) s
  | .gint _ i, _, s => .ok (.t (.int i)) s
  | .bin o a b, loc, s => (ev a loc s).bind fun y s1 => (ev b loc s1).bind fun z s2 => binV D cf o y z s2
  | .neg a, loc, s => (ev a loc s).bind fun y s1 => negV D cf y s1
  | .not a, loc, s => (ev a loc s).bind fun y s1 => match (rd s1 y).bind tru with
    | some b => .ok (.t (.bl (!b))) s1
    | _ => .bad
  | .cmp o a b, loc, s => (ev a loc s).bind fun y s1 => (ev b loc s1).bind fun z s2 => ofT s2 ((cmpV D cf o y z s2).map .bl)
  | .cmp2 o p a b c, loc, s => (ev a loc s).bind fun y s1 => (ev b loc s1).bind fun z s2 => match rd s2 y, rd s2 z with
    | some x, some w => match cmpP o x w with
      | some true => (ev c loc s2).bind fun u s3 => match rd s3 z, rd s3 u with
        | some w', some v => ofT s3 ((cmpP p w' v).map .bl)
        | _, _ => .bad
      | some false => .ok (.t (.bl false)) s2
      | none => .bad
    | _, _ => .bad
  | .and a b, loc, s => (ev a loc s).bind fun y s1 => match (rd s1 y).bind tru with
    | some true => ev b loc s1
    | some false => .ok y s1
    | none => .bad
  | .or a b, loc, s => (ev a loc s).bind fun y s1 => match (rd s1 y).bind tru with
    | some true => .ok y s1
    | some false => ev b loc s1
    | none => .bad
  | .ite c a b, loc, s => (ev c loc s).bind fun y s1 => match (rd s1 y).bind tru with
    | some true => ev a loc s1
    | some false => ev b loc s1
    | none => .bad
  | .lst m as, loc, s => (evs as loc s).bind fun ys s1 => (embLM s1 ys).bind fun xs s2 =>
    if xs.length ≤ sizeLine then (if m then .ok (.c s2.length) (s2 ++ [.lst xs]) else .ok (.t (.lst xs)) s2) else .bad
  | .tup as, loc, s => (evs as loc s).bind fun ys s1 => (embLM s1 ys).bind fun xs s2 =>
    if xs.length ≤ sizeLine then .ok (.t (.tup xs)) s2 else .bad
  | .ix a i, loc, s => (ev a loc s).bind fun y s1 => (ev i loc s1).bind fun z s2 => match rd s2 y, rd s2 z with
    | some x, some w => ofT s2 (itemP x w)
    | _, _ => .bad
  | .att a f, loc, s => (ev a loc s).bind fun y s1 => attV D f y s1
  | .prop a f, loc, s => (ev a loc s).bind fun y s1 => propV D cf f y s1
  | .isi a cs, loc, s => (ev a loc s).bind fun y s1 => match rd s1 y with
    | some x => if isiOk D.kit D.cls cs x then .ok (.t (.bl (cs.any fun c => isiP D.sub c x))) s1 else .bad
    | _ => .bad
  | .cal f as, loc, s => (evs as loc s).bind fun ys s1 => cf f (fill D f ys) s1
  | .mk c as, loc, s => (evs as loc s).bind fun ys s1 => match D.ini c with
    | some f => (cf f (fill D f (.c s1.length :: ys)) (s1 ++ [.ins c []])).bind fun y s2 => mkEnd s1.length y s2
    | none => .bad
  | .mth c m a as, loc, s => (ev a loc s).bind fun y s1 => match mthOk D c m y s1 with
    | some g => (evs as loc s1).bind fun ys s2 => cf g (fill D g (y :: ys)) s2
    | none => .bad
  | .blt b as, loc, s => (evs as loc s).bind fun ys s1 => match b with
    | .repr => match ys with
      | [y] => match emb s1 y with
        | some (t, s2) => (noex (rp s2 t)).bind fun x s3 => .ok (.t (.str x)) s3
        | none => .bad
      | _ => .bad
    | b => match ys.mapM (rd s1) with
      | some xs => ofT s1 (bltP b xs)
      | none => .bad
  | .lc m own g it cond e, loc, s => (evI it loc s).bind fun src s1 =>
    (loopC src g (fun l s => if cond.isOmit then .ok true s else (ev cond l s).bind fun y s1 => ofO s1 ((rd s1 y).bind tru)) (ev e) (wipeL loc own) s1.length (src.most s1) 0 (s1 ++ [.lst []])).bind fun _ s2 => lcEnd m s1.length s2
  | .fst as, loc, s => (evF as loc s Str.empty).bind fun x s1 => .ok (.t (.str x)) s1
  | .fs1 a, loc, s => ev a loc s
  | .fmt a, loc, s => (ev a loc s).bind fun y s1 => match rd s1 y with
    | some (.str x) => if x.length ≤ sizeLine then .ok (.t (.str x)) s1 else .bad
    | some (.int i) => if i.natAbs.log2 < 1920 then .ok (.t (.str (toString i))) s1 else .bad
    | _ => .bad
  | .rev a, loc, s => (ev a loc s).bind fun y s1 => match rd s1 y with
    | some (.lst xs) => .ok (.t (.lst xs.reverse)) s1
    | _ => .bad
  | .sl a lo hi, loc, s => (ev a loc s).bind fun y s1 =>
    (if lo.isOmit then .ok none s1 else (ev lo loc s1).bind fun l s2 => optI s2 l).bind fun i s2 =>
      (if hi.isOmit then .ok none s2 else (ev hi loc s2).bind fun h s3 => optI s3 h).bind fun j s3 => slV y i j s3
  | .calk f as pm, loc, s => (evs as loc s).bind fun ys s1 => match pick pm ys with
    | some zs => cf f zs s1
    | none => .bad
  | .dct ks vs, loc, s => (evs vs loc (s ++ [.dct []])).bind fun ys s1 => (embLM s1 ys).bind fun xs s2 => match s2[s.length]? with
    | some (.dct []) => if ks.length = xs.length ∧ ks.length ≤ 15 ∧ ks.Nodup then .ok (.t (.dct (ks.zip xs))) (s2.take s.length) else .bad
    | _ => .bad
  | _, _, _ => .bad
noncomputable def evs : E → Loc → Store → Out (List VV)
  | .nil, _, s => .ok [] s
  | .cons a as, loc, s => (ev a loc s).bind fun y s1 => (evs as loc s1).bind fun ys s2 => .ok (y :: ys) s2
  | _, _, _ => .bad
noncomputable def evF : E → Loc → Store → Str → Out Str
  | .nil, _, s, acc => .ok acc s
  | .cons a as, loc, s, acc => (ev a loc s).bind fun y s1 => match rd s1 y with
    | some (.str x) => if (acc ++ x).length ≤ sizeLine then evF as loc s1 (acc ++ x) else .bad
    | _ => .bad
  | _, _, _, _ => .bad
noncomputable def evI : E → Loc → Store → Out Src
  | .iseq a, loc, s => (ev a loc s).bind fun y s1 => match rd s1 y with
    | some (.lst _) => .ok (.lst y) s1
    | some (.tup xs) => .ok (.tup xs) s1
    | _ => .bad
  | .irng1 a, loc, s => (ev a loc s).bind fun y s1 => match rd s1 y with
    | some (.int j) => if decide (-(2 ^ 62) ≤ j) && decide (j < 2 ^ 62) then .ok (.rng 0 j) s1 else .bad
    | _ => .bad
  | .irng2 a b, loc, s => (ev a loc s).bind fun y s1 => (ev b loc s1).bind fun z s2 => match rd s2 y, rd s2 z with
    | some (.int i), some (.int j) => if decide (-(2 ^ 62) ≤ i) && decide (i < 2 ^ 62) && decide (-(2 ^ 62) ≤ j) && decide (j < 2 ^ 62) then .ok (.rng i j) s2 else .bad
    | _, _ => .bad
  | .izip a b, loc, s => (ev a loc s).bind fun y s1 => (ev b loc s1).bind fun z s2 => match rd s2 y, rd s2 z with
    | some (.lst _), some (.lst _) => .ok (.zip y z) s2
    | _, _ => .bad
  | .ienu a, loc, s => (ev a loc s).bind fun y s1 => match rd s1 y with
    | some (.lst _) => .ok (.enu y) s1
    | _ => .bad
  | _, _, _ => .bad
end

/-- a test -/
noncomputable def evT (e : E) (loc : Loc) (s : Store) : Out Bool := (ev D cf rp e loc s).bind fun y s1 => ofO s1 ((rd s1 y).bind tru)

/-- several values put to several targets, from the left, nothing frozen -/
def bindV : E → List VV → Loc → Option Loc
  | .nil, [], loc => some loc
  | .cons (.gn i) gs, y :: ys, loc => if i < loc.length then bindV gs ys (loc.set i (some y)) else none
  | _, _, _ => none

/-- o[i] = y -/
def setIx (o z : VV) (y : VV) (loc : Loc) (s : Store) : Out Loc := match o with
  | .c k => match emb s y with
    | some (t, s1) => match s1[k]?, rd s1 z with
      | some (.lst xs), some (.int j) => match ixN xs.length j with
        | some p => .ok loc (s1.set k (.lst (xs.set p t)))
        | none => .bad
      | _, _ => .bad
    | none => .bad
  | _ => .bad
mutual
/-- a value put to a target -/
noncomputable def put : E → VV → Loc → Store → Out Loc
  | .gn i, y, loc, s => if i < loc.length then .ok (loc.set i (some y)) s else .bad
  | .gt gs, y, loc, s => match (rd s y).bind items with
    | some xs => if xs.length = alen gs then putL gs xs loc s else .bad
    | none => .bad
  | .ix o i, y, loc, s => (ev D cf rp o loc s).bind fun o' s1 => (ev D cf rp i loc s1).bind fun z s2 => setIx o' z y loc s2
  | _, _, _, _ => .bad
noncomputable def putL : E → List T → Loc → Store → Out Loc
  | .nil, [], loc, s => .ok loc s
  | .cons g gs, x :: xs, loc, s => (put g (.t x) loc s).bind fun l1 s1 => putL gs xs l1 s1
  | _, _, _, _ => .bad
end

def putFl : Out Loc → Fl
  | .ok l s => .nx l s
  | _ => .bad
def Fl.noex : Fl → Fl
  | .ex _ _ _ => .bad
  | x => x
def cellAt (o : Nat) (loc : Loc) (s : Store) : Option Nat := match loc[o]? with
  | some (some (.c k)) => match s[k]? with
    | some (.lst _) => some k
    | _ => none
  | _ => none
def appTo (k : Nat) (y : VV) (loc : Loc) (s : Store) : Fl := match emb s y with
  | some (t, s2) => match s2[k]? with
    | some (.lst xs) => if xs.length < sizeLine then .nx loc (s2.set k (.lst (xs ++ [t]))) else .bad
    | _ => .bad
  | none => .bad
def extTo (k : Nat) (y : VV) (loc : Loc) (s : Store) : Fl := match rd s y, s[k]? with
  | some (.lst ys), some (.lst xs) => if xs.length + ys.length ≤ sizeLine then .nx loc (s.set k (.lst (xs ++ ys))) else .bad
  | _, _ => .bad
def attTo (fld : Nat → Str → Bool) (f : Str) (o y : VV) (loc : Loc) (s : Store) : Fl := match o with
  | .c k => match emb s y with
    | some (t, s3) => match s3[k]? with
      | some (.ins c fs) => if fld c f && decide (fs.length < 1000) then .nx loc (s3.set k (.ins c (putT f t fs))) else .bad
      | _ => .bad
    | none => .bad
  | _ => .bad
def raiseOf (exf : Nat → Option (Option Str)) (c : Nat) (ys : List VV) (loc : Loc) (s : Store) : Fl := match exf c, ys with
  | some (some f), [y] => match emb s y with
    | some (t, s2) => .ex ⟨c, [(f, t)]⟩ loc s2
    | none => .bad
  | _, _ => .bad
noncomputable def evS : S → Loc → Store → Fl
  | .skip, loc, s => .nx loc s
  | .seq a b, loc, s => (evS a loc s).seq fun l1 s1 => evS b l1 s1
  | .asg g e, loc, s => (ev D cf rp e loc s).toFl loc fun y s1 => putFl (put D cf rp g y loc s1)
  | .par gs es, loc, s => (evs D cf rp es loc s).toFl loc fun ys s1 => match bindV gs ys loc with
    | some l => .nx l s1
    | none => .bad
  | .ret m e, loc, s => (ev D cf rp e loc s).toFl loc fun y s1 => if m then .rt y s1 else match emb s1 y with
    | some (t, s2) => .rt (.t t) s2
    | none => .bad
  | .retn, _, s => .rt (.t .non) s
  | .ite c a b, loc, s => (evT D cf rp c loc s).toFl loc fun t s1 => if t then evS a loc s1 else evS b loc s1
  | .for g it b, loc, s => (evI D cf rp it loc s).toFl loc fun src s1 => loopF src g (evS b) (src.most s1) 0 loc s1
  | .whl c b, loc, s => loopW (evT D cf rp c) (evS b) fw loc s
  | .exp e, loc, s => (ev D cf rp e loc s).toFl loc fun _ s1 => .nx loc s1
  | .satt o f e, loc, s => (ev D cf rp e loc s).toFl loc fun y s1 => (ev D cf rp o loc s1).toFl loc fun o' s2 => attTo D.fld f o' y loc s2
  | .app o e, loc, s => match cellAt o loc s with
    | some k => (ev D cf rp e loc s).toFl loc fun y s1 => appTo k y loc s1
    | none => .bad
  | .ext o e, loc, s => match cellAt o loc s with
    | some k => (ev D cf rp e loc s).toFl loc fun y s1 => extTo k y loc s1
    | none => .bad
  | .raise c as, loc, s => (evs D cf rp as loc s).toFl loc fun ys s1 => raiseOf D.exf c ys loc s1
  | .try1 b c h, loc, s => match evS b loc s with
    | .ex e l1 s1 => if (D.exf e.c).isSome && (D.exf c).isSome then (if D.sub e.c c then (evS h l1 s1).noex else .ex e l1 s1) else .bad
    | r => r
  | .junk, _, _ => .bad
  | .brk, loc, s => .bk loc s
  | .cont, loc, s => .ct loc s

end

/-- the calls, to a depth -/
noncomputable def callN (D : Defs) (rp : CF → Store → T → Out Str) (fw : Nat) : Nat → CF
  | 0, _, _, _ => .bad
  | n + 1, f, args, s => match D.fn f with
    | none => .bad
    | some d => if args.length = d.np then match evS D (callN D rp fw n) (rp (callN D rp fw n)) fw d.body (args.map some ++ List.replicate (d.nl - d.np) none) s with
      | .nx _ s1 => fin s.length (.t .non) s1
      | .rt y s1 => fin s.length y s1
      | .ex e _ s1 => .ex e (s1.take s.length)
      | _ => .bad
      else .bad
end Tw
namespace Tw
open PySem L2

def RepVs (cA : CA) (al : List Addr) (G : Hp) : List VV → List V → Prop
  | [], vs => vs = []
  | y :: ys, vs => ∃ v r, vs = v :: r ∧ RepV cA al G y v ∧ RepVs cA al G ys r
def RepX (cA : CA) (G H : Hp) (e : Exc) (cl : Value) (d : Option Addr) : Prop :=
  cl = .ref (cA e.c) ∧ match e.fs with
    | [] => d = none
    | fs => ∃ dd gs, d = some dd ∧ H dd = some (.xd gs) ∧ RepF cA G fs gs

section
variable {cA : CA} {al al' al1 : List Addr} {G G' G1 H : Hp} {s : Store}
theorem RepVs.mono (x : Xt al G al' G') : ∀ {ys : List VV} {vs : List V}, RepVs cA al G ys vs → RepVs cA al' G' ys vs
  | [], _, r => r
  | y :: ys, _, ⟨v, rr, e, q, q'⟩ => ⟨v, rr, e, q.mono x, RepVs.mono x q'⟩
theorem RepVs.length : ∀ {ys : List VV} {vs : List V}, RepVs cA al G ys vs → vs.length = ys.length
  | [], vs, r => by have e : vs = [] := r; subst e; rfl
  | y :: ys, _, ⟨v, rr, e, q, q'⟩ => by rw [e]; simp [RepVs.length q']

/-- a value, looked at: its own object in H, what it holds frozen -/
def Sees (cA : CA) (G H : Hp) : T → V → Prop
  | .lst xs, v => ∃ a vs, v = .ref a ∧ H a = some (.lst vs) ∧ RepL cA G xs vs
  | .dct xs, v => ∃ a vs, v = .ref a ∧ H a = some (.dK vs) ∧ RepD cA G xs vs
  | .ins c fs, v => ∃ a dx gs, v = .ref a ∧ H a = some (.ins (cA c) dx gs) ∧ RepF cA G fs gs
  | x, v => Rep cA G x v
theorem sees_of (sb : Sb G H) : ∀ {x : T} {v : V}, Rep cA G x v → Sees cA G H x v
  | .non, _, r => r | .bl _, _, r => r | .int _, _, r => r | .str _, _, r => r | .ty _, _, r => r | .tup _, _, r => r | .scr _, _, r => r
  | .lst xs, _, r => by
    unfold Rep at r
    obtain ⟨a, vs, e, g, q⟩ := r
    exact ⟨a, vs, e, sb _ _ g, q⟩
  | .dct xs, _, r => by
    unfold Rep at r
    obtain ⟨a, vs, e, g, q⟩ := r
    exact ⟨a, vs, e, sb _ _ g, q⟩
  | .ins c fs, _, r => by
    unfold Rep at r
    obtain ⟨a, dx, vs, e, g, q⟩ := r
    exact ⟨a, dx, vs, e, sb _ _ g, q⟩
theorem Rl.sees (r : Rl cA al G s H) {y : VV} {v : V} {x : T} (q : RepV cA al G y v) (e : Tw.rd s y = some x) : Sees cA G H x v := by
  cases y with
  | t y =>
    simp [Tw.rd] at e; subst e
    exact sees_of r.sub q
  | c k =>
    obtain ⟨a, ha, ev⟩ := q
    subst ev
    simp only [Tw.rd, Option.map_eq_some_iff] at e
    obtain ⟨c, hc, ec⟩ := e
    have ok := r.cell k a c ha hc
    cases c with
    | lst xs =>
      simp only [Cell.tree] at ec; subst ec
      obtain ⟨gn, vs, hh, rr⟩ := ok
      exact ⟨a, vs, rfl, hh, rr⟩
    | dct xs =>
      simp only [Cell.tree] at ec; subst ec
      obtain ⟨gn, vs, hh, rr⟩ := ok
      exact ⟨a, vs, rfl, hh, rr⟩
    | ins cc xs =>
      simp only [Cell.tree] at ec; subst ec
      obtain ⟨gn, dx, vs, hh, rr⟩ := ok
      exact ⟨a, dx, vs, rfl, hh, rr⟩
    | frz x' =>
      simp only [Cell.tree] at ec; subst ec
      exact sees_of r.sub ok.1

/-- a cell is frozen -/
theorem Rl.freeze (r : Rl cA al G s H) {k : Nat} {a : Addr} {c : Cell} (ha : al[k]? = some a) (hc : s[k]? = some c) :
    ∃ G', Sb G G' ∧ Rl cA al G' (s.set k (.frz c.tree)) H ∧ Rep cA G' c.tree (.ref a) := by
  have ok := r.cell k a c ha hc
  have go : ∀ o : HO, G a = none → H a = some o → (∀ G', Sb G G' → G' a = some o → Rep cA G' c.tree (.ref a)) →
      ∃ G', Sb G G' ∧ Rl cA al G' (s.set k (.frz c.tree)) H ∧ Rep cA G' c.tree (.ref a) := fun o gn hh mk => by
    have sb : Sb G (upd G a o) := Sb.new gn
    have rp := mk _ sb upd_same
    refine ⟨upd G a o, sb, ⟨fun b u e => ?_, by simp [r.len], r.nd, fun j b c' hb hc' => ?_⟩, rp⟩
    · by_cases hb : b = a
      · subst hb; rw [upd_same] at e; cases e; exact hh
      · rw [upd_ne hb] at e; exact r.sub b u e
    · by_cases hj : j = k
      · subst hj
        rw [ha] at hb; cases hb
        rw [List.getElem?_set_self (List.getElem?_eq_some_iff.mp hc).1] at hc'
        cases hc'
        exact ⟨rp, _, upd_same⟩
      · rw [List.getElem?_set_ne (Ne.symm hj)] at hc'
        have ok' := r.cell j b c' hb hc'
        have hba : b ≠ a := nodup_ne r.nd hb ha hj
        cases c' with
        | lst xs =>
          obtain ⟨g, vs, h1, h2⟩ := ok'
          exact ⟨by rw [upd_ne hba]; exact g, vs, h1, RepL.mono sb h2⟩
        | dct xs =>
          obtain ⟨g, vs, h1, h2⟩ := ok'
          exact ⟨by rw [upd_ne hba]; exact g, vs, h1, RepD.mono sb h2⟩
        | ins cc xs =>
          obtain ⟨g, dx, vs, h1, h2⟩ := ok'
          exact ⟨by rw [upd_ne hba]; exact g, dx, vs, h1, RepF.mono sb h2⟩
        | frz x => exact ⟨Rep.mono sb ok'.1, ok'.2.imp fun o z => sb _ _ z⟩
  cases c with
  | lst xs =>
    obtain ⟨gn, vs, hh, rr⟩ := ok
    exact go _ gn hh fun G' sb e => by
      show Rep cA G' (.lst xs) _
      unfold Rep; exact ⟨a, vs, rfl, e, RepL.mono sb rr⟩
  | dct xs =>
    obtain ⟨gn, vs, hh, rr⟩ := ok
    exact go _ gn hh fun G' sb e => by
      show Rep cA G' (.dct xs) _
      unfold Rep; exact ⟨a, vs, rfl, e, RepD.mono sb rr⟩
  | ins cc xs =>
    obtain ⟨gn, dx, vs, hh, rr⟩ := ok
    exact go _ gn hh fun G' sb e => by
      show Rep cA G' (.ins cc xs) _
      unfold Rep; exact ⟨a, dx, vs, rfl, e, RepF.mono sb rr⟩
  | frz x =>
    refine ⟨G, Sb.rfl', ?_, ok.1⟩
    have e : s.set k (.frz (Cell.frz x).tree) = s := by
      apply List.ext_getElem?
      intro j
      by_cases hj : j = k
      · subst hj
        rw [List.getElem?_set_self (List.getElem?_eq_some_iff.mp hc).1, hc]; rfl
      · rw [List.getElem?_set_ne (Ne.symm hj)]
    rw [e]; exact r
theorem Rl.emb (r : Rl cA al G s H) {y : VV} {v : V} {x : T} {s' : Store} (q : RepV cA al G y v) (e : Tw.emb s y = some (x, s')) :
    ∃ G', Sb G G' ∧ Rl cA al G' s' H ∧ Rep cA G' x v := by
  cases y with
  | t y =>
    simp only [Tw.emb, Option.some.injEq, Prod.mk.injEq] at e
    obtain ⟨e1, e2⟩ := e
    subst e1; subst e2
    exact ⟨G, Sb.rfl', r, q⟩
  | c k =>
    obtain ⟨a, ha, ev⟩ := q
    subst ev
    simp only [Tw.emb] at e
    cases hc : s[k]? with
    | none => rw [hc] at e; cases e
    | some c =>
      rw [hc] at e
      obtain ⟨G', sb, rl, rp⟩ := r.freeze ha hc
      cases c with
      | frz z =>
        simp only [Option.some.injEq, Prod.mk.injEq] at e
        obtain ⟨e1, e2⟩ := e
        subst e1; subst e2
        exact ⟨G, Sb.rfl', r, (r.cell k a _ ha hc).1⟩
      | lst z =>
        simp only [Option.some.injEq, Prod.mk.injEq] at e
        obtain ⟨e1, e2⟩ := e
        subst e1; subst e2
        exact ⟨G', sb, rl, rp⟩
      | dct z =>
        simp only [Option.some.injEq, Prod.mk.injEq] at e
        obtain ⟨e1, e2⟩ := e
        subst e1; subst e2
        exact ⟨G', sb, rl, rp⟩
      | ins cc z =>
        simp only [Option.some.injEq, Prod.mk.injEq] at e
        obtain ⟨e1, e2⟩ := e
        subst e1; subst e2
        exact ⟨G', sb, rl, rp⟩
theorem Xt.ofSb (h : Sb G G') : Xt al G al G' := ⟨⟨[], by simp⟩, h⟩
theorem Rl.embL : ∀ {ys : List VV} {vs : List V} {xs : List T} {s s' : Store} {G : Hp}, Rl cA al G s H → RepVs cA al G ys vs → Tw.embL s ys = some (xs, s') →
    ∃ G', Sb G G' ∧ Rl cA al G' s' H ∧ RepL cA G' xs vs
  | [], vs, xs, s, s', G, r, q, e => by
    simp only [Tw.embL, Option.some.injEq, Prod.mk.injEq] at e
    obtain ⟨e1, e2⟩ := e
    subst e1; subst e2
    rw [show vs = [] from q]
    exact ⟨G, Sb.rfl', r, .nil⟩
  | y :: ys, vs, xs, s, s', G, r, ⟨v, rr, ev, q, q'⟩, e => by
    subst ev
    unfold Tw.embL at e
    cases h1 : Tw.emb s y with
    | none => rw [h1] at e; cases e
    | some p =>
      obtain ⟨x, s1⟩ := p
      rw [h1] at e
      obtain ⟨G1, sb1, r1, p1⟩ := r.emb q h1
      cases h2 : Tw.embL s1 ys with
      | none => simp only [h2] at e; cases e
      | some p2 =>
        obtain ⟨xs2, s2⟩ := p2
        simp only [h2, Option.some.injEq, Prod.mk.injEq] at e
        obtain ⟨e1, e2⟩ := e
        subst e1; subst e2
        obtain ⟨G2, sb2, r2, p2⟩ := Rl.embL r1 (q'.mono (Xt.ofSb sb1)) h2
        exact ⟨G2, sb1.trans sb2, r2, .cons (Rep.mono sb2 p1) p2⟩
end

/-! ## what an evaluation promises -/
/-- k: what is wanted of the answer, the store, the cells' places, the frozen part, the heap -/
def Po (cA : CA) (W : WX) (al : List Addr) (G : Hp) (st : L2.St) {α : Type} (k : α → Store → List Addr → Hp → Hp → Prop) : Out α → Prop
  | .ok a s' => ∀ al' G' H', Xt al G al' G' → Rl cA al' G' s' H' → k a s' al' G' H'
  | .ex e s' => ∀ al' G' H' cl d, Xt al G al' G' → Rl cA al' G' s' H' → RepX cA G' H' e cl d → W cl d st H'
  | .bad => False
def kV (cA : CA) (Q : VK) : VV → Store → List Addr → Hp → Hp → Prop := fun y _ al' G' H' => ∀ v, RepV cA al' G' y v → Q v H'
def kL (cA : CA) (Q : List V → Hp → Prop) : List VV → Store → List Addr → Hp → Hp → Prop := fun y _ al' G' H' => ∀ v, RepVs cA al' G' y v → Q v H'
def kB (Q : Bool → Hp → Prop) : Bool → Store → List Addr → Hp → Hp → Prop := fun b _ _ _ H' => Q b H'

section
variable {cA : CA} {W : WX} {al al1 : List Addr} {G G1 : Hp} {st : L2.St} {α β : Type}
theorem Po.mono {k : α → Store → List Addr → Hp → Hp → Prop} {x : Out α} (h : Po cA W al G st k x) (e : Xt al G al1 G1) : Po cA W al1 G1 st k x := by
  cases x with
  | ok a s => exact fun al' G' H' e' r => h al' G' H' (e.trans e') r
  | ex x s => exact fun al' G' H' cl d e' r q => h al' G' H' cl d (e.trans e') r q
  | bad => exact h
theorem Po.bind {k : β → Store → List Addr → Hp → Hp → Prop} {x : Out α} {f : α → Store → Out β} (h : Po cA W al G st k (x.bind f)) :
    Po cA W al G st (fun a s1 al1 G1 _ => Po cA W al1 G1 st k (f a s1)) x := by
  cases x with
  | ok a s => exact fun al1 G1 H1 e r => Po.mono (x := f a s) h e
  | ex x s => exact h
  | bad => exact h
theorem Po.imp {k k' : α → Store → List Addr → Hp → Hp → Prop} {x : Out α} (h : Po cA W al G st k x)
    (f : ∀ a s1 al1 G1 H1, Xt al G al1 G1 → Rl cA al1 G1 s1 H1 → k a s1 al1 G1 H1 → k' a s1 al1 G1 H1) : Po cA W al G st k' x := by
  cases x with
  | ok a s => exact fun al1 G1 H1 e r => f a s al1 G1 H1 e r (h al1 G1 H1 e r)
  | ex x s => exact h
  | bad => exact h
/-- at an end that is right here -/
theorem Po.here {k : α → Store → List Addr → Hp → Hp → Prop} {a : α} {s : Store} {H : Hp} (h : Po cA W al G st k (.ok a s)) (r : Rl cA al G s H) : k a s al G H := h al G H Xt.rfl' r
end

theorem Po.hereT {cA : CA} {W : WX} {al : List Addr} {G H : Hp} {st : L2.St} {t : T} {v : V} {Q : VK} {s : Store} (h : Po cA W al G st (kV cA Q) (.ok (.t t) s)) (r : Rl cA al G s H) (q : Rep cA G t v) : Q v H :=
  h al G H Xt.rfl' r v q
theorem Po.hereV {cA : CA} {W : WX} {al : List Addr} {G H : Hp} {st : L2.St} {y : VV} {v : V} {Q : VK} {s : Store} (h : Po cA W al G st (kV cA Q) (.ok y s)) (r : Rl cA al G s H) (q : RepV cA al G y v) : Q v H :=
  h al G H Xt.rfl' r v q

def TEv (cA : CA) (W : WX) (m : Loc → Store → Out VV) : TE := fun st H Q =>
  ∃ al G loc s, Rl cA al G s H ∧ RepS cA al G loc st ∧ Po cA W al G st (kV cA Q) (m loc s)
def TAv (cA : CA) (W : WX) (m : Loc → Store → Out (List VV)) : TA := fun st H Q =>
  ∃ al G loc s, Rl cA al G s H ∧ RepS cA al G loc st ∧ Po cA W al G st (kL cA Q) (m loc s)
def TTv (cA : CA) (W : WX) (m : Loc → Store → Out Bool) : TT := fun st H Q =>
  ∃ al G loc s, Rl cA al G s H ∧ RepS cA al G loc st ∧ Po cA W al G st (kB Q) (m loc s)

section
variable {cA : CA} {W : WX} {al : List Addr} {G H : Hp} {st : L2.St} {β : Type} {loc : Loc} {s : Store}
/-- one expression, then the rest -/
theorem TEv.go {m : Loc → Store → Out VV} {f : VV → Store → Out β} {k : β → Store → List Addr → Hp → Hp → Prop} {Q' : VK}
    (r : Rl cA al G s H) (S : RepS cA al G loc st) (h : Po cA W al G st k ((m loc s).bind f))
    (c : ∀ y s1 al1 G1 H1 v, Xt al G al1 G1 → Rl cA al1 G1 s1 H1 → RepS cA al1 G1 loc st → RepV cA al1 G1 y v → Po cA W al1 G1 st k (f y s1) → Q' v H1) : TEv cA W m st H Q' :=
  ⟨al, G, loc, s, r, S, h.bind.imp fun y s1 al1 G1 H1 x r1 p v q => c y s1 al1 G1 H1 v x r1 (S.mono x) q p⟩
theorem TAv.go {m : Loc → Store → Out (List VV)} {f : List VV → Store → Out β} {k : β → Store → List Addr → Hp → Hp → Prop} {Q' : List V → Hp → Prop}
    (r : Rl cA al G s H) (S : RepS cA al G loc st) (h : Po cA W al G st k ((m loc s).bind f))
    (c : ∀ y s1 al1 G1 H1 v, Xt al G al1 G1 → Rl cA al1 G1 s1 H1 → RepS cA al1 G1 loc st → RepVs cA al1 G1 y v → Po cA W al1 G1 st k (f y s1) → Q' v H1) : TAv cA W m st H Q' :=
  ⟨al, G, loc, s, r, S, h.bind.imp fun y s1 al1 G1 H1 x r1 p v q => c y s1 al1 G1 H1 v x r1 (S.mono x) q p⟩
theorem TTv.go {m : Loc → Store → Out Bool} {f : Bool → Store → Out β} {k : β → Store → List Addr → Hp → Hp → Prop} {Q' : Bool → Hp → Prop}
    (r : Rl cA al G s H) (S : RepS cA al G loc st) (h : Po cA W al G st k ((m loc s).bind f))
    (c : ∀ b s1 al1 G1 H1, Xt al G al1 G1 → Rl cA al1 G1 s1 H1 → RepS cA al1 G1 loc st → Po cA W al1 G1 st k (f b s1) → Q' b H1) : TTv cA W m st H Q' :=
  ⟨al, G, loc, s, r, S, h.bind.imp fun y s1 al1 G1 H1 x r1 p => c y s1 al1 G1 H1 x r1 (S.mono x) p⟩
end

section
variable {X : Cx}
theorem pe_weak {e : Expr} {t t' : TE} (h : PE X e t) (w : ∀ st H Q, t' st H Q → t st H Q) : PE X e t' :=
  ⟨fun pins s st H Q I q => h.run pins s st H Q I (w st H Q q)⟩
theorem pt_weak {e : Expr} {t t' : TT} (h : PT X e t) (w : ∀ st H Q, t' st H Q → t st H Q) : PT X e t' :=
  ⟨fun pins s st H Q I q => h.run pins s st H Q I (w st H Q q)⟩
theorem pa_weak {e : List Expr} {t t' : TA} (h : PA X e t) (w : ∀ st H Q, t' st H Q → t st H Q) : PA X e t' :=
  ⟨fun pos pins s st H Q I q => h.run pos pins s st H Q I (w st H Q q)⟩
theorem ps_weak {e : Stmt} {t t' : TS} (h : PS X e t) (w : ∀ D st H, t' D st H → t D st H) : PS X e t' :=
  ⟨fun pins s st H D I q => h.run pins s st H D I (w D st H q)⟩
theorem pss_weak {e : List Stmt} {t t' : TS} (h : PSs X e t) (w : ∀ D st H, t' D st H → t D st H) : PSs X e t' :=
  ⟨fun pins s st H D I q => h.run pins s st H D I (w D st H q)⟩
end

/-! ## results -/
/-- an answer as a tree, given: nothing new, or one new object -/
inductive Nx (G H : Hp) : Hp → Hp → Prop where
  | same : Nx G H G H
  | new (p : Addr) (o : HO) : H p = none → Nx G H (upd G p o) (upd H p o)
theorem Nx.rl {cA : CA} {al : List Addr} {G H G' H' : Hp} {s : Store} (n : Nx G H G' H') (r : Rl cA al G s H) : Xt al G al G' ∧ Rl cA al G' s H' := by
  cases n with
  | same => exact ⟨Xt.rfl', r⟩
  | new p o h => exact ⟨Xt.ofSb (Sb.new (r.gnone h)), r.newT h⟩
def Give (cA : CA) (G H : Hp) (t : T) (Q : VK) : Prop := ∀ G' H' v, Nx G H G' H' → Rep cA G' t v → Q v H'
theorem Give.of {cA : CA} {W : WX} {al : List Addr} {G H : Hp} {st : L2.St} {t : T} {Q : VK} {s : Store} (h : Po cA W al G st (kV cA Q) (.ok (.t t) s)) (r : Rl cA al G s H) : Give cA G H t Q := fun G' H' v n q => by
  obtain ⟨x, r'⟩ := n.rl r
  exact h al G' H' x r' v q
theorem Give.lst {cA : CA} {G H : Hp} {xs : List T} {vs : List V} {Q : VK} (g : Give cA G H (.lst xs) Q) (gn : ∀ p, H p = none → G p = none) (r : RepL cA G xs vs) : ∀ p, H p = none → Q (.ref p) (upd H p (.lst vs)) := fun p hp =>
  g _ _ _ (.new p (.lst vs) hp) (by unfold Rep; exact ⟨p, vs, rfl, upd_same, RepL.mono (Sb.new (gn p hp)) r⟩)
theorem Give.tup {cA : CA} {G H : Hp} {xs : List T} {vs : List V} {Q : VK} (g : Give cA G H (.tup xs) Q) (gn : ∀ p, H p = none → G p = none) (r : RepL cA G xs vs) : ∀ p, H p = none → Q (.ref p) (upd H p (.tup vs)) := fun p hp =>
  g _ _ _ (.new p (.tup vs) hp) (by unfold Rep; exact ⟨p, vs, rfl, upd_same, RepL.mono (Sb.new (gn p hp)) r⟩)
theorem Give.val {cA : CA} {G H : Hp} {t : T} {v : V} {Q : VK} (g : Give cA G H t Q) (r : Rep cA G t v) : Q v H := g G H v .same r
end Tw
namespace Tw
open PySem L2

/-! ## the operations, over HandS's rules -/
section
variable {cA : CA} {X : Cx} {G H : Hp}
theorem seesI {i : Int} {v : V} (h : Sees cA G H (.int i) v) : v = .int i := by
  unfold Sees Rep at h; exact h
theorem seesB {i : Bool} {v : V} (h : Sees cA G H (.bl i) v) : v = .bl i := by
  unfold Sees Rep at h; exact h
theorem seesS {i : Str} {v : V} (h : Sees cA G H (.str i) v) : v = .str i := by
  unfold Sees Rep at h; exact h
theorem seesN {v : V} (h : Sees cA G H .non v) : v = .non := by
  unfold Sees Rep at h; exact h
theorem seesT {xs : List T} {v : V} (sb : Sb G H) (h : Sees cA G H (.tup xs) v) : ∃ a vs, v = .ref a ∧ H a = some (.tup vs) ∧ G a = some (.tup vs) ∧ RepL cA G xs vs := by
  unfold Sees Rep at h
  obtain ⟨a, vs, e, g, q⟩ := h
  exact ⟨a, vs, e, sb _ _ g, g, q⟩
theorem repI {i : Int} : Rep cA G (.int i) (.int i) := by unfold Rep; rfl
theorem repB {i : Bool} : Rep cA G (.bl i) (.bl i) := by unfold Rep; rfl
theorem repS {i : Str} : Rep cA G (.str i) (.str i) := by unfold Rep; rfl
theorem repN : Rep cA G .non .non := by unfold Rep; rfl

/-- the base of a rule: what is frozen stands in the heap -/
structure Bs (G H : Hp) : Prop where
  sb : Sb G H
theorem Bs.gn (b : Bs G H) : ∀ p, H p = none → G p = none := fun p hp => by
  cases e : G p with
  | none => rfl
  | some u => rw [b.sb p u e] at hp; cases hp

def rBin (cA : CA) (o : Operator) : R2 := fun x y H Q => ∃ G tx ty tz, Bs G H ∧ Sees cA G H tx x ∧ Sees cA G H ty y ∧ binP o tx ty = some tz ∧ Give cA G H tz Q

theorem mul_any : OpR X (binaryOp .Mult) (rI (fun i j => mulOk i j = true) fun i j => .int (i * j)) := opI fun i j _ _ _ _ _ hc q => by
  refine PyProof.Rows.mul_int q ?_
  unfold mulOk at hc
  have b : ∀ x : Int, Builtin.Int.intBits x ≤ x.natAbs.log2 + 1 := fun x => by
    unfold Builtin.Int.intBits
    split <;> omega
  have h1 := b i
  have h2 := b j
  simp only [Bool.or_eq_true, decide_eq_true_eq] at hc
  rcases hc with (hc | hc) | hc
  · exact .of_left (by omega)
  · exact .of_right (by omega)
  · have e : bitsLine = 134217728 := by decide
    unfold IntMulOk
    intro z
    rw [Bool.and_eq_true] at z
    have z2 := z.2
    unfold Builtin.Int.intTooBig at z2
    have z3 := of_decide_eq_true z2
    rw [e] at z3
    omega
theorem fdiv_any : OpR X (binaryOp .FloorDiv) (rI (fun _ j => j ≠ 0 ∧ j.natAbs.log2 < 9000) fun i j => .int (i.fdiv j)) := opI fun _ _ _ _ _ _ _ hc q =>
  PyProof.Rows.floordiv_int hc.1 q (.inl (PyProof.noPylong_of_log2 hc.2))

theorem op_bin (o : Operator) : OpR X (binaryOp o) (rBin cA o) := by
  intro pins s st H x y v u Q I rx ry h
  obtain ⟨G, tx, ty, tz, bs, sx, sy, e, g⟩ := h
  unfold binP at e
  split at e
  · cases e
    exact op_add pins s st H x y v u Q I rx ry ⟨_, _, seesI sx, seesI sy, g.val repI⟩
  · split at e
    · cases e
      rename_i hz
      exact op_add_str pins s st H x y v u Q I rx ry ⟨_, _, seesS sx, seesS sy, hz, g.val repS⟩
    · cases e
  · split at e
    · cases e
      rename_i hz
      obtain ⟨a, vs, ea, ha, ra⟩ := sx
      obtain ⟨b, us, eb, hb, rb⟩ := sy
      refine op_cat pins s st H x y v u Q I rx ry ⟨a, b, vs, us, ea, eb, ha, hb, ?_, g.lst bs.gn (ra.append rb)⟩
      rw [ra.length, rb.length]; exact hz
    · cases e
  · split at e
    · cases e
      rename_i xs ys hz
      obtain ⟨a, vs, ea, ha, ga, ra⟩ := seesT bs.sb sx
      obtain ⟨b, us, eb, hb, gb, rb⟩ := seesT bs.sb sy
      refine op_catA pins s st H x y v u Q I rx ry ⟨a, b, vs, us, ea, eb, .of ha, .of hb, ?_, fun z => ?_, fun z1 z2 => ?_, fun z1 z2 p hp => ?_⟩
      · rw [ra.length, rb.length]; exact hz
      · subst z
        have e0 : xs = [] := by have := ra.length; simp at this; exact List.eq_nil_of_length_eq_zero this.symm
        subst e0
        refine g.val ?_
        show Rep cA G (.tup ([] ++ ys)) (.ref b)
        unfold Rep; exact ⟨b, us, rfl, gb, rb⟩
      · subst z2
        have e0 : ys = [] := by have := rb.length; simp at this; exact List.eq_nil_of_length_eq_zero this.symm
        subst e0
        refine g.val ?_
        rw [List.append_nil]
        unfold Rep; exact ⟨a, vs, rfl, ga, ra⟩
      · exact g.tup bs.gn (ra.append rb) p hp
    · cases e
  · cases e
    exact op_sub pins s st H x y v u Q I rx ry ⟨_, _, seesI sx, seesI sy, g.val repI⟩
  · split at e
    · cases e
      rename_i hz
      exact mul_any pins s st H x y v u Q I rx ry ⟨_, _, seesI sx, seesI sy, hz, g.val repI⟩
    · cases e
  · split at e
    · cases e
      rename_i xs k hz
      simp only [Bool.and_eq_true, decide_eq_true_eq] at hz
      obtain ⟨a, vs, ea, ha, ra⟩ := sx
      refine op_rep pins s st H x y v u Q I rx ry ⟨a, k, vs, ea, seesI sy, ha, hz.1.1, hz.1.2, by rw [ra.length]; exact hz.2, g.lst bs.gn ?_⟩
      generalize k.toNat = n
      induction n with
      | zero => exact .nil
      | succ n ih => rw [List.replicate_succ, List.replicate_succ, List.flatten_cons, List.flatten_cons]; exact ra.append ih
    · cases e
  · split at e
    · cases e
      rename_i xs k hz
      simp only [Bool.and_eq_true, decide_eq_true_eq, Bool.not_eq_true', List.isEmpty_eq_false_iff] at hz
      obtain ⟨a, vs, ea, ha, ga, ra⟩ := seesT bs.sb sx
      refine op_repT pins s st H x y v u Q I rx ry ⟨a, k, vs, ea, seesI sy, .of ha, ?_, hz.1.1.2, hz.1.2, by rw [ra.length]; exact hz.2, g.tup bs.gn ?_⟩
      · intro z
        subst z
        have := ra.length
        exact hz.1.1.1 (List.eq_nil_of_length_eq_zero (by simpa using this.symm))
      · generalize k.toNat = n
        induction n with
        | zero => exact .nil
        | succ n ih => rw [List.replicate_succ, List.replicate_succ, List.flatten_cons, List.flatten_cons]; exact ra.append ih
    · cases e
  · split at e
    · cases e
      rename_i hz
      simp only [Bool.and_eq_true, decide_eq_true_eq] at hz
      exact fdiv_any pins s st H x y v u Q I rx ry ⟨_, _, seesI sx, seesI sy, hz, g.val repI⟩
    · cases e
  · split at e
    · cases e
      rename_i hz
      simp only [decide_eq_true_eq] at hz
      exact op_modN pins s st H x y v u Q I rx ry ⟨_, _, seesI sx, seesI sy, hz, g.val repI⟩
    · cases e
  · split at e
    · cases e
      rename_i hz
      simp only [Bool.and_eq_true, decide_eq_true_eq] at hz
      exact op_pow pins s st H x y v u Q I rx ry ⟨_, _, seesI sx, seesI sy, ⟨hz.1.1, hz.1.2, hz.2⟩, g.val repI⟩
    · cases e
  · cases e

/-! ### comparisons -/
def rCmp (cA : CA) (o : CmpOp) : R2 := fun x y H Q => ∃ G tx ty b, Bs G H ∧ Sees cA G H tx x ∧ Sees cA G H ty y ∧ cmpP o tx ty = some b ∧ Q (.bl b) H
theorem eqFlat_ok {tx ty : T} {x y : V} {b : Bool} (sx : Sees cA G H tx x) (sy : Sees cA G H ty y) (e : eqFlat tx ty = some b) : scal x y = true ∧ decide (x = y) = b := by
  unfold eqFlat at e
  split at e <;> first
    | (cases e; done)
    | (cases e; first
        | (rw [seesN sx, seesN sy]; exact ⟨rfl, by decide⟩)
        | (rw [seesB sx, seesB sy]; exact ⟨rfl, by simp⟩)
        | (rw [seesI sx, seesI sy]; exact ⟨rfl, by simp⟩)
        | (rw [seesS sx, seesS sy]; exact ⟨rfl, by simp⟩)
        | (rw [seesN sx, seesI sy]; exact ⟨rfl, by simp⟩)
        | (rw [seesI sx, seesN sy]; exact ⟨rfl, by simp⟩)
        | (rw [seesN sx, seesB sy]; exact ⟨rfl, by simp⟩)
        | (rw [seesB sx, seesN sy]; exact ⟨rfl, by simp⟩)
        | (rw [seesN sx, seesS sy]; exact ⟨rfl, by simp⟩)
        | (rw [seesS sx, seesN sy]; exact ⟨rfl, by simp⟩)
        | (rw [seesI sx, seesS sy]; exact ⟨rfl, by simp⟩)
        | (rw [seesS sx, seesI sy]; exact ⟨rfl, by simp⟩)
        | (rw [seesB sx, seesS sy]; exact ⟨rfl, by simp⟩)
        | (rw [seesS sx, seesB sy]; exact ⟨rfl, by simp⟩))
theorem sc_flat {t : T} {v : V} (s : Rep cA G t v) (h : isSc t = true) : flatV v = true := by
  cases t with
  | non => unfold Rep at s; rw [s]; rfl
  | bl _ => unfold Rep at s; rw [s]; rfl
  | int _ => unfold Rep at s; rw [s]; rfl
  | str _ => unfold Rep at s; rw [s]; rfl
  | _ => cases h
theorem sees_sc {t : T} {v : V} (s : Sees cA G H t v) (h : isSc t = true) : Rep cA G t v := by
  cases t with
  | non => exact s
  | bl _ => exact s
  | int _ => exact s
  | str _ => exact s
  | _ => cases h
theorem eqFlat_V {tx ty : T} {x y : V} {b : Bool} (sx : Rep cA G tx x) (sy : Rep cA G ty y) (e : eqFlat tx ty = some b) : eqV x y = b := by
  unfold eqFlat at e
  split at e <;> first
    | (cases e; done)
    | (unfold Rep at sx sy; subst sx; subst sy; cases e; first | rfl | (simp [eqV]; done) | (simp [eqV]; rw [Bool.eq_iff_iff]; simp))
theorem inP_ok {neg : Bool} {tx : T} {x : V} (sx : Rep cA G tx x) : ∀ {ys : List T} {vs : List V} {b : Bool}, RepL cA G ys vs → inP neg tx ys = some b → (if neg then !inV x vs else inV x vs) = b
  | [], vs, b, r, e => by
    unfold RepL at r; subst r
    unfold inP at e; cases e
    cases neg <;> rfl
  | y :: ys, vs, b, r, e => by
    unfold RepL at r
    obtain ⟨v, rr, ev, q, q'⟩ := r
    subst ev
    unfold inP at e
    cases h1 : eqFlat y tx with
    | none => rw [h1] at e; cases e
    | some c =>
      cases h2 : inP neg tx ys with
      | none => rw [h1, h2] at e; cases e
      | some d =>
        rw [h1, h2] at e
        have h3 := inP_ok sx q' h2
        have h4 := eqFlat_V q sx h1
        simp only [Option.some.injEq] at e
        subst e
        unfold inV at h3 ⊢
        rw [List.any_cons, h4]
        cases c with
        | true => cases neg <;> rfl
        | false =>
          simp only [Bool.false_or, Bool.false_eq_true, if_false]
          exact h3
theorem all_flat : ∀ {ys : List T} {vs : List V}, RepL cA G ys vs → ys.all isSc = true → vs.all flatV = true
  | [], vs, r, _ => by unfold RepL at r; subst r; rfl
  | y :: ys, vs, r, e => by
    unfold RepL at r
    obtain ⟨v, rr, ev, q, q'⟩ := r
    subst ev
    rw [List.all_cons, Bool.and_eq_true] at e
    rw [List.all_cons, Bool.and_eq_true]
    exact ⟨sc_flat q e.1, all_flat q' e.2⟩

theorem op_cmp (o : CmpOp) : OpR X (compareOp o) (rCmp cA o) := by
  intro pins s st H x y v u Q I rx ry h
  obtain ⟨G, tx, ty, b, bs, sx, sy, e, q⟩ := h
  unfold cmpP at e
  split at e
  · cases e
    exact op_lt pins s st H x y v u Q I rx ry ⟨_, _, seesI sx, seesI sy, q⟩
  · cases e
    exact op_le pins s st H x y v u Q I rx ry ⟨_, _, seesI sx, seesI sy, q⟩
  · cases e
    exact op_gt pins s st H x y v u Q I rx ry ⟨_, _, seesI sx, seesI sy, q⟩
  · cases e
    exact op_ge pins s st H x y v u Q I rx ry ⟨_, _, seesI sx, seesI sy, q⟩
  · obtain ⟨h1, h2⟩ := eqFlat_ok sx sy e
    exact op_eq pins s st H x y v u Q I rx ry ⟨h1, by rw [h2]; exact q⟩
  · rw [Option.map_eq_some_iff] at e
    obtain ⟨c, e, ec⟩ := e
    obtain ⟨h1, h2⟩ := eqFlat_ok sx sy e
    exact op_ne pins s st H x y v u Q I rx ry ⟨h1, by rw [h2, ec]; exact q⟩
  · cases e
    exact op_isBl pins s st H x y v u Q I rx ry ⟨_, _, seesB sx, seesB sy, q⟩
  · cases e
    exact op_notBl pins s st H x y v u Q I rx ry ⟨_, _, seesB sx, seesB sy, q⟩
  · refine op_isN pins s st H x y v u Q I rx ry ⟨seesN sy, ?_⟩
    have : decide (x = .non) = b := by
      cases e
      cases tx with
      | non => rw [seesN sx]; rfl
      | bl _ => rw [seesB sx]; rfl
      | int _ => rw [seesI sx]; rfl
      | str _ => rw [seesS sx]; rfl
      | ty _ => unfold Sees Rep at sx; rw [sx]; rfl
      | lst _ => obtain ⟨a, _, ea, _⟩ := sx; rw [ea]; rfl
      | tup _ => obtain ⟨a, _, ea, _⟩ := seesT bs.sb sx; rw [ea]; rfl
      | dct _ => obtain ⟨a, _, ea, _⟩ := sx; rw [ea]; rfl
      | ins _ _ => obtain ⟨a, _, _, ea, _⟩ := sx; rw [ea]; rfl
      | scr _ => unfold Sees Rep at sx; obtain ⟨a, ea, _⟩ := sx; rw [ea]; rfl
    rw [this]; exact q
  · refine op_notN pins s st H x y v u Q I rx ry ⟨seesN sy, ?_⟩
    have : (!decide (x = .non)) = b := by
      cases e
      cases tx with
      | non => rw [seesN sx]; rfl
      | bl _ => rw [seesB sx]; rfl
      | int _ => rw [seesI sx]; rfl
      | str _ => rw [seesS sx]; rfl
      | ty _ => unfold Sees Rep at sx; rw [sx]; rfl
      | lst _ => obtain ⟨a, _, ea, _⟩ := sx; rw [ea]; rfl
      | tup _ => obtain ⟨a, _, ea, _⟩ := seesT bs.sb sx; rw [ea]; rfl
      | dct _ => obtain ⟨a, _, ea, _⟩ := sx; rw [ea]; rfl
      | ins _ _ => obtain ⟨a, _, _, ea, _⟩ := sx; rw [ea]; rfl
      | scr _ => unfold Sees Rep at sx; obtain ⟨a, ea, _⟩ := sx; rw [ea]; rfl
    rw [this]; exact q
  · split at e
    · rename_i hz
      rw [Bool.and_eq_true] at hz
      obtain ⟨a, vs, ea, ha, ra⟩ := sy
      have rx' := sees_sc sx hz.1
      have z := inP_ok rx' ra e
      exact op_in_seq pins s st H x y v u Q I rx ry ⟨a, vs, ea, .inl (.of ha), sc_flat rx' hz.1, all_flat ra hz.2, by rw [z]; exact q⟩
    · cases e
  · split at e
    · rename_i hz
      rw [Bool.and_eq_true] at hz
      obtain ⟨a, vs, ea, ha, ra⟩ := sy
      have rx' := sees_sc sx hz.1
      have z := inP_ok rx' ra e
      exact op_notIn_seq pins s st H x y v u Q I rx ry ⟨a, vs, ea, .inl (.of ha), sc_flat rx' hz.1, all_flat ra hz.2, by rw [z]; exact q⟩
    · cases e
  · split at e
    · rename_i hz
      rw [Bool.and_eq_true] at hz
      obtain ⟨a, vs, ea, ha, ga, ra⟩ := seesT bs.sb sy
      have rx' := sees_sc sx hz.1
      have z := inP_ok rx' ra e
      exact op_in_seq pins s st H x y v u Q I rx ry ⟨a, vs, ea, .inr (.of ha), sc_flat rx' hz.1, all_flat ra hz.2, by rw [z]; exact q⟩
    · cases e
  · split at e
    · rename_i hz
      rw [Bool.and_eq_true] at hz
      obtain ⟨a, vs, ea, ha, ga, ra⟩ := seesT bs.sb sy
      have rx' := sees_sc sx hz.1
      have z := inP_ok rx' ra e
      exact op_notIn_seq pins s st H x y v u Q I rx ry ⟨a, vs, ea, .inr (.of ha), sc_flat rx' hz.1, all_flat ra hz.2, by rw [z]; exact q⟩
    · cases e
  · cases e

/-- truth -/
theorem tru_sees {K : PySem.W.Frag} {t : T} {v : V} {b : Bool} (sb : Sb G H) (h : Sees cA G H t v) (e : tru t = some b) : TruV K v H b := by
  cases t with
  | non => rw [seesN h]; cases e; rfl
  | bl _ => rw [seesB h]; cases e; rfl
  | int _ => rw [seesI h]; cases e; rfl
  | str x =>
    rw [seesS h]
    simp only [tru] at e
    split at e
    · cases e
      rename_i hz
      exact ⟨hz, rfl⟩
    · cases e
  | lst xs =>
    obtain ⟨a, vs, ea, ha, ra⟩ := h
    subst ea
    cases e
    refine .inl ⟨vs, .of ha, ?_⟩
    have := ra.length
    cases xs <;> cases vs <;> first | rfl | (simp at this)
  | tup xs =>
    obtain ⟨a, vs, ea, ha, ga, ra⟩ := seesT sb h
    subst ea
    cases e
    refine .inr (.inl ⟨vs, .of ha, ?_⟩)
    have := ra.length
    cases xs <;> cases vs <;> first | rfl | (simp at this)
  | dct xs =>
    obtain ⟨a, vs, ea, ha, ra⟩ := h
    subst ea
    cases e
    refine .inr (.inr ⟨vs, ha, ?_⟩)
    cases xs with
    | nil => unfold RepD at ra; subst ra; rfl
    | cons p r =>
      obtain ⟨k, x⟩ := p
      unfold RepD at ra
      obtain ⟨_, _, ea, _⟩ := ra
      subst ea; rfl
  | _ => cases e
end
end Tw
namespace Tw
open PySem L2

/-! ## built-in functions on values -/
section
variable {cA : CA} {X : Cx} {G H : Hp}
def SeesL (cA : CA) (G H : Hp) : List T → List V → Prop
  | [], vs => vs = []
  | x :: xs, vs => ∃ v r, vs = v :: r ∧ Sees cA G H x v ∧ SeesL cA G H xs r
theorem SeesL.nil {vs : List V} (h : SeesL cA G H [] vs) : vs = [] := h
theorem SeesL.one {x : T} {vs : List V} (h : SeesL cA G H [x] vs) : ∃ v, vs = [v] ∧ Sees cA G H x v := by
  obtain ⟨v, r, e, s, h⟩ := h
  rw [SeesL.nil h] at e
  exact ⟨v, e, s⟩
theorem SeesL.two {x y : T} {vs : List V} (h : SeesL cA G H [x, y] vs) : ∃ v u, vs = [v, u] ∧ Sees cA G H x v ∧ Sees cA G H y u := by
  obtain ⟨v, r, e, s, h⟩ := h
  obtain ⟨u, e2, s2⟩ := SeesL.one h
  rw [e2] at e
  exact ⟨v, u, e, s, s2⟩

theorem _root_.Tw.RepD.length : ∀ {xs : List (Key × T)} {vs : List (Key × V)}, RepD cA G xs vs → vs.length = xs.length
  | [], _, r => by unfold RepD at r; subst r; rfl
  | (k, x) :: xs, _, r => by
    unfold RepD at r
    obtain ⟨v, rr, e, q, q'⟩ := r
    subst e
    simp [RepD.length q']
theorem allB_ok : ∀ {xs : List T} {vs : List V} {t : T}, RepL cA G xs vs → bltP.allB xs = some t → ∃ bs : List Bool, vs = bs.map V.bl ∧ t = .bl (bs.all id)
  | [], vs, t, r, e => by
    unfold RepL at r; subst r
    unfold bltP.allB at e; cases e
    exact ⟨[], rfl, rfl⟩
  | x :: xs, vs, t, r, e => by
    unfold RepL at r
    obtain ⟨v, rr, ev, q, q'⟩ := r
    cases x with
    | bl b =>
      unfold bltP.allB at e
      rw [Option.bind_eq_some_iff] at e
      obtain ⟨u, h1, h2⟩ := e
      obtain ⟨bs, e1, e2⟩ := allB_ok q' h1
      subst e2
      simp only [Option.some.injEq] at h2
      unfold Rep at q
      subst q; subst e1; subst ev; subst h2
      exact ⟨b :: bs, rfl, rfl⟩
    | _ => unfold bltP.allB at e; cases e
theorem anyB_ok : ∀ {xs : List T} {vs : List V} {t : T}, RepL cA G xs vs → bltP.anyB xs = some t → ∃ bs : List Bool, vs = bs.map V.bl ∧ t = .bl (bs.any id)
  | [], vs, t, r, e => by
    unfold RepL at r; subst r
    unfold bltP.anyB at e; cases e
    exact ⟨[], rfl, rfl⟩
  | x :: xs, vs, t, r, e => by
    unfold RepL at r
    obtain ⟨v, rr, ev, q, q'⟩ := r
    cases x with
    | bl b =>
      unfold bltP.anyB at e
      rw [Option.bind_eq_some_iff] at e
      obtain ⟨u, h1, h2⟩ := e
      obtain ⟨bs, e1, e2⟩ := anyB_ok q' h1
      subst e2
      simp only [Option.some.injEq] at h2
      unfold Rep at q
      subst q; subst e1; subst ev; subst h2
      exact ⟨b :: bs, rfl, rfl⟩
    | _ => unfold bltP.anyB at e; cases e
theorem sumI_ok : ∀ {xs : List T} {vs : List V} {t : T}, RepL cA G xs vs → bltP.sumI xs = some t → ∃ bs : List Int, vs = bs.map V.int ∧ t = .int bs.sum
  | [], vs, t, r, e => by
    unfold RepL at r; subst r
    unfold bltP.sumI at e; cases e
    exact ⟨[], rfl, rfl⟩
  | x :: xs, vs, t, r, e => by
    unfold RepL at r
    obtain ⟨v, rr, ev, q, q'⟩ := r
    cases x with
    | int b =>
      unfold bltP.sumI at e
      rw [Option.bind_eq_some_iff] at e
      obtain ⟨u, h1, h2⟩ := e
      obtain ⟨bs, e1, e2⟩ := sumI_ok q' h1
      subst e2
      simp only [Option.some.injEq] at h2
      unfold Rep at q
      subst q; subst e1; subst ev; subst h2
      exact ⟨b :: bs, rfl, by rw [List.sum_cons]⟩
    | _ => unfold bltP.sumI at e; cases e

/-- how a built-in is called: by its name, as a type; gcd is a name of the module -/
def bltV : Blt → Value
  | .len => .builtin "len" | .abs => .builtin "abs" | .max => .builtin "max" | .min => .builtin "min" | .int => .type "int" | .bool => .type "bool"
  | .str => .type "str" | .repr => .builtin "repr" | .divmod => .builtin "divmod" | .sum => .builtin "sum" | .any => .builtin "any" | .all => .builtin "all"
  | .list => .type "list" | .tuple => .type "tuple" | .gcd => .builtin "math.gcd" | .lcm => .builtin "math.lcm"

def isMath : Blt → Bool
  | .gcd => true | .lcm => true | _ => false
def rBlt (cA : CA) (b : Blt) : List V → Hp → VK → Prop := fun vs H Q => ∃ G ts t, Bs G H ∧ SeesL cA G H ts vs ∧ bltP b ts = some t ∧ Give cA G H t Q

theorem sq_scr {K : PySem.W.Frag} (hkl : ∀ a ns, cA.kl a ns → ∀ H, SqL K H a (ns.map V.int)) {ns : List Int} {v : V} (sb : Sb G H) (h : Sees cA G H (.scr ns) v) : ∃ a, v = .ref a ∧ SqL K H a (ns.map V.int) := by
  have h : Rep cA G (.scr ns) v := h
  unfold Rep at h
  obtain ⟨a, e, ⟨o, z⟩ | z⟩ := h
  · exact ⟨a, e, .inl (.inr ⟨o, sb _ _ z⟩)⟩
  · exact ⟨a, e, hkl a ns z H⟩
def rLcm : List V → Hp → VK → Prop := fun vs H Q => ∃ a b : Int, vs = [.int a, .int b] ∧ a.natAbs.log2 < 9000 ∧ b.natAbs.log2 < 9000 ∧ Q (.int ((Nat.lcm a.natAbs b.natAbs : Nat) : Int)) H
theorem lcm_log2 (m n : Nat) (h1 : m.log2 < 9000) (h2 : n.log2 < 9000) : (m.lcm n).log2 < 134217728 := by
  by_cases z : m.lcm n = 0
  · rw [z]; decide
  · have hm : m ≠ 0 := fun e => z (by rw [e]; simp)
    have hn : n ≠ 0 := fun e => z (by rw [e]; simp)
    have a1 := (Nat.log2_lt hm).mp h1
    have a2 := (Nat.log2_lt hn).mp h2
    have a3 : m.lcm n ≤ m * n := Nat.div_le_self _ _
    rw [Nat.log2_lt z]
    have a4 : m * n < 2 ^ 9000 * 2 ^ 9000 := Nat.mul_lt_mul'' a1 a2
    rw [← Nat.pow_add] at a4
    exact Nat.lt_of_le_of_lt a3 (Nat.lt_of_lt_of_le a4 (Nat.pow_le_pow_right (by decide) (by decide)))
theorem cr_lcm {X : Cx} : CallR X (.builtin "math.lcm") rLcm := by
  intro pins s st H vs us Q I r h
  obtain ⟨a, b, rfl, h1, h2, q⟩ := h
  obtain ⟨t, u, rfl⟩ := Vals.int2 r
  have l1 : ∀ n : Nat, n.log2 < 9000 → ¬ (max 1 n).log2 / 30 + 1 > 450 := fun n hn => by
    have : (max 1 n).log2 < 9000 := by
      rcases Nat.le_total 1 n with h | h
      · rw [Nat.max_eq_right h]; exact hn
      · rw [Nat.max_eq_left h]; decide
    omega
  have e1 : Nat.lcm 1 a.natAbs = a.natAbs := by simp [Nat.lcm]
  have go := PySem.W.mg_run_lcm a t b u (l1 _ h1) (by
    have : (max a.natAbs b.natAbs).log2 < 9000 := by
      rcases Nat.le_total a.natAbs b.natAbs with h | h
      · rw [Nat.max_eq_right h]; exact h2
      · rw [Nat.max_eq_left h]; exact h1
    omega) (by rw [e1]; exact lcm_log2 _ _ h1 h2)
  rw [e1] at go
  exact call_function_meets PySem.W.MGF.kind_lcm PySem.W.MGF.plain_lcm PySem.W.MGF.entry_lcm (PySem.W.MGF.args_lcm _ _) go.meets ⟨.int _, H, I.tok _, ⟨_, rfl⟩, q⟩
theorem call_blt (hc : X.calm = true) (hkl : ∀ a ns, cA.kl a ns → ∀ H, SqL X.K H a (ns.map V.int)) (b : Blt) : CallR X (bltV b) (rBlt cA b) := by
  intro pins s st H xs us Q I r h
  obtain ⟨G, ts, t, bs, se, e, g⟩ := h
  unfold bltP at e
  split at e
  · cases e
    obtain ⟨v, rfl, a, vs, rfl, ha, ra⟩ := se.one
    exact call_len pins s st H _ us Q I r ⟨_, _, rfl, .inl ⟨vs, .of ha, rfl⟩, by rw [ra.length]; exact g.val repI⟩
  · cases e
    obtain ⟨v, rfl, sv⟩ := se.one
    obtain ⟨a, vs, rfl, ha, ga, ra⟩ := seesT bs.sb sv
    exact call_len pins s st H _ us Q I r ⟨_, _, rfl, .inr ⟨vs, .of ha, rfl⟩, by rw [ra.length]; exact g.val repI⟩
  · cases e
    obtain ⟨v, rfl, sv⟩ := se.one
    obtain ⟨a, rfl, sq⟩ := sq_scr hkl bs.sb sv
    exact call_len pins s st H _ us Q I r ⟨_, _, rfl, .inl ⟨_, sq, rfl⟩, by rw [List.length_map]; exact g.val repI⟩
  · cases e
    obtain ⟨v, rfl, a, vs, rfl, ha, ra⟩ := se.one
    exact call_lenD pins s st H _ us Q I r ⟨a, vs, rfl, ha, by rw [ra.length]; exact g.val repI⟩
  · split at e
    · cases e
      rename_i hz
      obtain ⟨v, rfl, sv⟩ := se.one
      rw [seesS sv] at r
      exact call_len pins s st H _ us Q I r ⟨_, _, rfl, ⟨hz, rfl⟩, g.val repI⟩
    · cases e
  · cases e
    obtain ⟨v, rfl, sv⟩ := se.one
    rw [seesI sv] at r
    exact call_abs pins s st H _ us Q I r ⟨_, rfl, g.val repI⟩
  · cases e
    obtain ⟨v, u, rfl, sv, su⟩ := se.two
    rw [seesI sv, seesI su] at r
    exact call_max2 hc pins s st H _ us Q I r ⟨_, _, rfl, g.val repI⟩
  · cases e
    obtain ⟨v, u, rfl, sv, su⟩ := se.two
    rw [seesI sv, seesI su] at r
    exact call_min2 hc pins s st H _ us Q I r ⟨_, _, rfl, g.val repI⟩
  · cases e
    obtain ⟨v, rfl, sv⟩ := se.one
    rw [seesI sv] at r
    exact call_int1 pins s st H _ us Q I r (.inl ⟨_, rfl, g.val repI⟩)
  · cases e
    obtain ⟨v, rfl, sv⟩ := se.one
    rw [seesB sv] at r
    exact call_int1 pins s st H _ us Q I r (.inr ⟨_, rfl, g.val repI⟩)
  · cases e
    obtain ⟨v, rfl, sv⟩ := se.one
    rw [seesI sv] at r
    exact call_bool1 pins s st H _ us Q I r (.inl ⟨_, rfl, g.val repB⟩)
  · cases e
    obtain ⟨v, rfl, sv⟩ := se.one
    rw [seesB sv] at r
    exact call_bool1 pins s st H _ us Q I r (.inr ⟨_, rfl, g.val repB⟩)
  · split at e
    · cases e
      rename_i hz
      obtain ⟨v, rfl, sv⟩ := se.one
      rw [seesI sv] at r
      exact call_str_int pins s st H _ us Q I r ⟨_, rfl, hz, g.val repS⟩
    · cases e
  · split at e
    · cases e
      rename_i hz
      simp only [Bool.and_eq_true, decide_eq_true_eq] at hz
      obtain ⟨v, u, rfl, sv, su⟩ := se.two
      rw [seesI sv, seesI su] at r
      exact call_divmod pins s st H _ us Q I r ⟨_, _, rfl, hz, g.tup bs.gn (.cons repI (.cons repI .nil))⟩
    · cases e
  · cases e
    obtain ⟨v, u, rfl, sv, su⟩ := se.two
    rw [seesI sv, seesI su] at r
    exact cr_gcd pins s st H _ us Q I r ⟨_, _, rfl, g.val repI⟩
  · split at e
    · cases e
      rename_i hz
      obtain ⟨v, u, rfl, sv, su⟩ := se.two
      rw [seesI sv, seesI su] at r
      exact cr_lcm pins s st H _ us Q I r ⟨_, _, rfl, hz.1, hz.2, g.val repI⟩
    · cases e
  · cases e
    obtain ⟨v, rfl, a, vs, rfl, ha, ra⟩ := se.one
    exact call_tuple_of pins s st H _ us Q I r ⟨a, vs, rfl, .inl ⟨.of ha, g.tup bs.gn ra⟩⟩
  · cases e
    obtain ⟨v, rfl, sv⟩ := se.one
    obtain ⟨a, vs, rfl, ha, ga, ra⟩ := seesT bs.sb sv
    exact call_tuple_of pins s st H _ us Q I r ⟨a, vs, rfl, .inr ⟨.of ha, g.val (by unfold Rep; exact ⟨a, vs, rfl, ga, ra⟩)⟩⟩
  · cases e
    obtain ⟨v, rfl, a, vs, rfl, ha, ra⟩ := se.one
    exact call_list_of pins s st H _ us Q I r ⟨a, vs, rfl, .inl (.of ha), g.lst bs.gn ra⟩
  · cases e
    obtain ⟨v, rfl, sv⟩ := se.one
    obtain ⟨a, vs, rfl, ha, ga, ra⟩ := seesT bs.sb sv
    exact call_list_of pins s st H _ us Q I r ⟨a, vs, rfl, .inr (.of ha), g.lst bs.gn ra⟩
  · obtain ⟨v, rfl, a, vs, rfl, ha, ra⟩ := se.one
    obtain ⟨bl, rfl, rfl⟩ := allB_ok ra e
    exact cr_all hc pins s st H _ us Q I r ⟨a, bl, rfl, .of ha, g.val repB⟩
  · obtain ⟨v, rfl, a, vs, rfl, ha, ra⟩ := se.one
    obtain ⟨bl, rfl, rfl⟩ := anyB_ok ra e
    exact cr_any hc pins s st H _ us Q I r ⟨a, bl, rfl, .of ha, g.val repB⟩
  · obtain ⟨v, rfl, a, vs, rfl, ha, ra⟩ := se.one
    obtain ⟨ns, rfl, rfl⟩ := sumI_ok ra e
    exact cr_sum hc pins s st H _ us Q I r ⟨a, ns, rfl, .of ha, g.val repI⟩
  · cases e
theorem seesL_of {al : List Addr} {s : Store} (r : Rl cA al G s H) : ∀ {ys : List VV} {vs : List V} {ts : List T}, RepVs cA al G ys vs → ys.mapM (rd s) = some ts → SeesL cA G H ts vs
  | [], vs, ts, q, e => by
    simp at e; subst e
    exact q
  | y :: ys, vs, ts, ⟨v, rr, ev, q, q'⟩, e => by
    rw [List.mapM_cons] at e
    cases h1 : rd s y with
    | none => rw [h1] at e; cases e
    | some x =>
      rw [h1] at e
      cases h2 : ys.mapM (rd s) with
      | none => rw [h2] at e; cases e
      | some xs =>
        rw [h2] at e
        cases e
        exact ⟨v, rr, ev, r.sees q h1, seesL_of r q' h2⟩

/-! ### isinstance -/
def tyT (cA : CA) : T → Value
  | .non => .type "NoneType" | .bl _ => .type "bool" | .int _ => .type "int" | .str _ => .type "str" | .ty _ => .type "type"
  | .lst _ => .type "list" | .tup _ => .type "tuple" | .dct _ => .type "dict" | .ins c _ => .ref (cA c) | .scr _ => .type "list"
def crV (cA : CA) : CR → V
  | .ty n => .ty n
  | .cl c => .ref (cA c)
def crU (cA : CA) : CR → Value
  | .ty n => .type n
  | .cl c => .ref (cA c)
theorem crV_cls (c : CR) : ClsV (crV cA c) (crU cA c) := by
  cases c with
  | ty n => exact .ty n
  | cl c => exact .own _
/-- what the walk asks of a class for isinstance -/
structure InsTy (K : PySem.W.Frag) (C : Addr) : Prop where
  cl : Cls K C
  ha : PySem.W.findIn K (.ref C) "__class__" = some (some (.builtin "object.__class__"))
  hn : PySem.W.specialIn K (.builtin "object.__class__") "__get__" = some (some (.builtin "getset_descriptor.__get__"))
  htk : PySem.W.takesIn K (.builtin "object.__class__") = some true
  hm : PySem.W.mroIn K C (.type "object") = some true
theorem tyX_of {K : PySem.W.Frag} {t : T} {v : V} (sb : Sb G H) (h : Sees cA G H t v) (n : (∀ x, t ≠ .ty x) ∧ ∀ x, t ≠ .scr x) (hI : ∀ c fs, t = .ins c fs → InsTy K (cA c)) : TyX K H v (tyT cA t) := by
  refine .base ?_
  cases t with
  | non => rw [seesN h]; exact .non
  | bl _ => rw [seesB h]; exact .bl _
  | int _ => rw [seesI h]; exact .int _
  | str _ => rw [seesS h]; exact .str _
  | ty x => exact absurd rfl (n.1 x)
  | scr x => exact absurd rfl (n.2 x)
  | lst _ => obtain ⟨a, vs, rfl, ha, _⟩ := h; exact .lst ha
  | tup _ => obtain ⟨a, vs, rfl, ha, _⟩ := seesT sb h; exact .tup ha
  | dct _ => obtain ⟨a, vs, rfl, ha, _⟩ := h; exact .dK ha
  | ins c fs =>
    obtain ⟨a, dx, gs, rfl, ha, _⟩ := h
    have z := hI c fs rfl
    exact .ins ha z.cl z.ha z.hn z.htk z.hm
end
end Tw
set_option maxHeartbeats 4000000
namespace Tw
open PySem L2

/-! ## plain facts of the syntax -/
def notStar : Expr → Bool
  | .Starred .. => false
  | _ => true
theorem star_cons {env : Env} {e : Expr} {es : List Expr} (h : notStar e = true) : starEach (e :: es) env = (false, eval e env) :: starEach es env := by
  cases e <;> first | rfl | cases h
theorem star_plain {env : Env} : ∀ {es : List Expr}, es.all notStar = true → (starEach es env).any (·.1) = false
  | [], _ => rfl
  | e :: es, h => by
    rw [List.all_cons, Bool.and_eq_true] at h
    rw [star_cons h.1, List.any_cons, star_plain h.2]; rfl
theorem back_any {pos : Pos} {l : List (Bool × Sem Value)} : (backTo pos l).any (·.1) = l.any (·.1) := by
  unfold backTo
  rw [List.any_map]; rfl
theorem plain_back {env : Env} {pos : Pos} {es : List Expr} (h : es.all notStar = true) : (backTo pos (starEach es env)).any (·.1) = false := by
  rw [back_any]; exact star_plain h

/-- an expression whose attribute is no super's -/
def notSuper : Expr → Bool
  | .Call (.Name _ _) [] [] _ => false
  | _ => true
theorem base_plain {env : Env} {o : Expr} {f : Str} {m : Sem Value} (h : notSuper o = true) : attributeBase o f env m = m := by
  unfold attributeBase
  split
  · cases h
  · rfl
theorem few_plain {env : Env} {pos : Pos} {es : List Expr} (h : es.all notStar = true) (hl : es.length < 29) :
    ((backTo pos (starEach es env)).all (fun x => !x.1) && (backToKw pos (keywordEach [] env)).all (fun x => x.1.isSome)
      && decide (es.length + ([] : List Keyword).length + (if ([] : List Keyword).isEmpty then 0 else 1) < 30)) = true := by
  have h1 : (backTo pos (starEach es env)).all (fun x => !x.1) = true := by
    have := plain_back (env := env) (pos := pos) h
    rw [List.all_eq_true]
    intro x hx
    rw [List.any_eq_false] at this
    have := this x hx
    simpa using this
  rw [h1]
  simp [keywordEach, backToKw]; omega
theorem meth_eval {env : Env} {o : Expr} {m : Str} {apos pos : Pos} {es : List Expr} (h : es.all notStar = true) (hl : es.length < 29) (ho : notSuper o = true) (hp : (apos.endLine == pos.line) = true) :
    eval (.Call (.Attribute o m apos) es [] pos) env = (do
      let ov ← eval o env
      standAt apos.atName
      let (f, first) ← holding [ov] (getMethod ov m (do return (← importBound o env).getD true))
      callWith pos f first (backTo pos (starEach es env)) (backToKw pos (keywordEach [] env))) := by
  have few : methodCallForm (es.length + ([] : List Keyword).length) (backTo pos (starEach es env)) (backToKw pos (keywordEach [] env)) = true := by
    have e0 : backToKw pos (keywordEach [] env) = [] := rfl
    have z := few_plain (env := env) (pos := pos) h hl
    unfold methodCallForm
    rw [e0] at z ⊢
    exact z
  have e1 : eval (.Call (.Attribute o m apos) es [] pos) env = (do
      let ov ← attributeBase o m env (eval o env)
      standAt apos.atName
      methodCall o m apos pos env ov (es.length + ([] : List Keyword).length) (backTo pos (starEach es env)) (backToKw pos (keywordEach [] env))) := rfl
  rw [e1, base_plain ho]
  have e2 : ∀ ov, methodCall o m apos pos env ov (es.length + ([] : List Keyword).length) (backTo pos (starEach es env)) (backToKw pos (keywordEach [] env)) =
      (do let (f, first) ← holding [ov] (getMethod ov m (do return (← importBound o env).getD true))
          callWith pos f first (backTo pos (starEach es env)) (backToKw pos (keywordEach [] env))) := fun ov => by
    unfold methodCall
    rw [few]
    have e3 : methodCallPos true o env apos pos = pure pos := by
      unfold methodCallPos
      rw [hp]; rfl
    rw [e3]
    rfl
  simp only [e2]

/-- an index that is no slice -/
def ixPlain : Expr → Bool
  | .Slice .. => false
  | .Tuple .. => false
  | _ => true
/-- an expression whose test is its value's -/
def testPlain : Expr → Bool
  | .UnaryOp .Not _ _ => false
  | .BoolOp .. => false
  | .IfExp .. => false
  | .Compare .. => false
  | _ => true
theorem test_plain {a : Expr} (h : testPlain a = true) (env : Env) (whole : Sem Value) : isTrue a env whole = (do let v ← whole; standAt a.pos; holding [v] (truthy v)) := by
  cases a with
  | UnaryOp op x pos => cases op <;> first | rfl | cases h
  | BoolOp _ _ _ => cases h
  | IfExp _ _ _ _ => cases h
  | Compare _ _ _ _ => cases h
  | _ => rfl

/-! ## contexts -/
def visB (sc : Scope) (x : Str) : Bool :=
  (match sc.names.lookup x with | some .local => true | some .cell => true | some .free => true | _ => false) && !(x == ("__debug__" : Str)) && !(x == ("__classdict__" : Str))
def glB (sc : Scope) (x : Str) : Bool :=
  (match sc.names.lookup x with | some .globalImplicit => true | _ => false) && !(x == ("__debug__" : Str)) && !(x == ("__name__" : Str))
structure Cok (X : Cx) (N : List Str) (sc : Scope) (W : WX) : Prop where
  hN : X.N = N
  nd : N.Nodup
  hs : X.env.scope = sc
  calm : X.calm = true
  tk : Takes X W
section
variable {X : Cx} {N : List Str} {sc : Scope} {W : WX}
theorem vis_of (c : Cok X N sc W) {x : Str} (h : visB sc x = true) : Vis X.env.scope x ∧ (x == ("__debug__" : Str)) = false ∧ (x == ("__classdict__" : Str)) = false := by
  unfold visB at h
  simp only [Bool.and_eq_true, Bool.not_eq_true'] at h
  refine ⟨?_, h.1.2, h.2⟩
  rw [c.hs]
  have h1 := h.1.1
  unfold Vis
  split at h1 <;> first
    | (rename_i z; exact .inl z)
    | (rename_i z; exact .inr (.inl z))
    | (rename_i z; exact .inr (.inr z))
    | cases h1
theorem gl_of (c : Cok X N sc W) {x : Str} (h : glB sc x = true) : Gl X x ∧ (x == ("__debug__" : Str)) = false ∧ x ≠ "__name__" := by
  unfold glB at h
  simp only [Bool.and_eq_true, Bool.not_eq_true'] at h
  refine ⟨?_, h.1.2, fun e => by have := h.2; simp [e] at this⟩
  have h1 := h.1.1
  show X.env.scope.names.lookup x = _
  rw [c.hs]
  split at h1
  · assumption
  · cases h1
end

/-! ## simple expressions -/
section
variable {cA : CA} {X : Cx} {N : List Str} {sc : Scope} {W : WX}
theorem s_var {i : Nat} {x : Str} {pos : Pos} (c : Cok X N sc W) (h1 : N[i]? = some x) (h2 : visB sc x = true) :
    PE X (.Name x pos) (TEv cA W fun loc s => match loc[i]? with | some (some y) => .ok y s | _ => .bad) := by
  obtain ⟨v, d, e⟩ := vis_of c h2
  refine pe_weak (pe_var (i := i) (by rw [c.hN]; exact h1) v d e) fun st H Q q => ?_
  obtain ⟨al, G, loc, s, r, S, p⟩ := q
  cases hl : loc[i]? with
  | none => simp only [hl] at p; exact p.elim
  | some o =>
    cases o with
    | none => simp only [hl] at p; exact p.elim
    | some y =>
      simp only [hl] at p
      obtain ⟨v, hv, rv⟩ := S.get i y hl
      exact ⟨v, hv, p.hereV r rv⟩
theorem s_const {e : Expr} {v : V} {t : T} (h : PE X e (tC v)) (ht : ∀ G, Rep cA G t v) : PE X e (TEv cA W fun _ s => .ok (.t t) s) :=
  pe_weak h fun st H Q ⟨al, G, loc, s, r, S, p⟩ => p.hereT r (ht G)
/-- a value's truth as the answer of a test -/
theorem truth_go {al : List Addr} {G H : Hp} {st : L2.St} {s : Store} {y : VV} {v : V} {β : Type} {k : β → Store → List Addr → Hp → Hp → Prop} {f : Option Bool → Out β}
    (r : Rl cA al G s H) (rv : RepV cA al G y v) (p : Po cA W al G st k (f ((rd s y).bind tru))) (hf : ∀ b, Po cA W al G st k (f b) → b ≠ none) :
    ∃ b, TruV X.K v H b ∧ Po cA W al G st k (f (some b)) := by
  cases h : (rd s y).bind tru with
  | none => rw [h] at p; exact absurd rfl (hf _ p)
  | some b =>
    rw [h] at p
    rw [Option.bind_eq_some_iff] at h
    obtain ⟨t, h1, h2⟩ := h
    exact ⟨b, tru_sees r.sub (r.sees rv h1) h2, p⟩
theorem s_truth {a : Expr} {ma : Loc → Store → Out VV} (ha : PE X a (TEv cA W ma)) (h : testPlain a = true) :
    PT X a (TTv cA W fun loc s => (ma loc s).bind fun y s1 => ofO s1 ((rd s1 y).bind tru)) := by
  refine pt_weak (pt_truth ha (test_plain h X.env)) fun st H Q q => ?_
  obtain ⟨al, G, loc, s, r, S, p⟩ := q
  refine TEv.go r S p fun y s1 al1 G1 H1 v x1 r1 S1 rv p1 => ?_
  obtain ⟨b, h1, h2⟩ := truth_go (X := X) (f := fun o => ofO s1 o) r1 rv p1 fun o q => by cases o with | none => exact q.elim | some b => simp
  exact ⟨b, h1, h2.here r1⟩
theorem s_not {a : Expr} {ma : Loc → Store → Out VV} {pos : Pos} (ha : PE X a (TEv cA W ma)) :
    PE X (.UnaryOp .Not a pos) (TEv cA W fun loc s => (ma loc s).bind fun y s1 => match (rd s1 y).bind tru with
      | some b => .ok (.t (.bl (!b))) s1
      | _ => .bad) := by
  refine pe_weak (pe_notT ha) fun st H Q q => ?_
  obtain ⟨al, G, loc, s, r, S, p⟩ := q
  refine TEv.go r S p fun y s1 al1 G1 H1 v x1 r1 S1 rv p1 => ?_
  obtain ⟨b, h1, h2⟩ := truth_go (X := X) (f := fun o => match o with | some b => Out.ok (VV.t (T.bl (!b))) s1 | _ => Out.bad) r1 rv p1 fun o q => by cases o with | none => exact q.elim | some b => simp
  exact ⟨b, h1, h2.hereT r1 repB⟩
theorem s_and {a b : Expr} {rest : List Expr} {ma mb : Loc → Store → Out VV} {pos : Pos} (ha : PE X a (TEv cA W ma)) (hb : PE X (.BoolOp .And (b :: rest) pos) (TEv cA W mb)) :
    PE X (.BoolOp .And (a :: b :: rest) pos) (TEv cA W fun loc s => (ma loc s).bind fun y s1 => match (rd s1 y).bind tru with
      | some true => mb loc s1
      | some false => .ok y s1
      | none => .bad) := by
  refine pe_weak (pe_andT ha hb) fun st H Q q => ?_
  obtain ⟨al, G, loc, s, r, S, p⟩ := q
  refine TEv.go r S p fun y s1 al1 G1 H1 v x1 r1 S1 rv p1 => ?_
  obtain ⟨b, h1, h2⟩ := truth_go (X := X) (f := fun o => match o with | some true => mb loc s1 | some false => Out.ok y s1 | none => Out.bad) r1 rv p1 fun o q => by cases o with | none => exact q.elim | some b => simp
  refine ⟨b, h1, ?_⟩
  cases b with
  | true => exact ⟨al1, G1, loc, s1, r1, S1, h2⟩
  | false => exact h2.hereV r1 rv
theorem s_or {a b : Expr} {rest : List Expr} {ma mb : Loc → Store → Out VV} {pos : Pos} (ha : PE X a (TEv cA W ma)) (hb : PE X (.BoolOp .Or (b :: rest) pos) (TEv cA W mb)) :
    PE X (.BoolOp .Or (a :: b :: rest) pos) (TEv cA W fun loc s => (ma loc s).bind fun y s1 => match (rd s1 y).bind tru with
      | some true => .ok y s1
      | some false => mb loc s1
      | none => .bad) := by
  refine pe_weak (pe_orT ha hb) fun st H Q q => ?_
  obtain ⟨al, G, loc, s, r, S, p⟩ := q
  refine TEv.go r S p fun y s1 al1 G1 H1 v x1 r1 S1 rv p1 => ?_
  obtain ⟨b, h1, h2⟩ := truth_go (X := X) (f := fun o => match o with | some true => Out.ok y s1 | some false => mb loc s1 | none => Out.bad) r1 rv p1 fun o q => by cases o with | none => exact q.elim | some b => simp
  refine ⟨b, h1, ?_⟩
  cases b with
  | true => exact h2.hereV r1 rv
  | false => exact ⟨al1, G1, loc, s1, r1, S1, h2⟩
/-! ### tests -/
theorem bind_assoc {α β γ : Type} (x : Out α) (f : α → Store → Out β) (g : β → Store → Out γ) : (x.bind f).bind g = x.bind fun a s => (f a s).bind g := by
  cases x <;> rfl
theorem s_notT {a : Expr} {ma : Loc → Store → Out Bool} {pos : Pos} (ha : PT X a (TTv cA W ma)) :
    PT X (.UnaryOp .Not a pos) (TTv cA W fun loc s => (ma loc s).bind fun b s1 => .ok (!b) s1) := by
  refine pt_weak (pt_not ha) fun st H Q q => ?_
  obtain ⟨al, G, loc, s, r, S, p⟩ := q
  exact TTv.go r S p fun b s1 al1 G1 H1 x1 r1 S1 p1 => p1.here r1
theorem s_andT {a b : Expr} {rest : List Expr} {ma mb : Loc → Store → Out Bool} {pos : Pos} (ha : PT X a (TTv cA W ma)) (hb : PW X (.BoolOp .And (b :: rest) pos) (TTv cA W mb)) :
    PW X (.BoolOp .And (a :: b :: rest) pos) (TTv cA W fun loc s => (ma loc s).bind fun b s1 => if b then mb loc s1 else .ok false s1) := by
  refine ⟨fun whole pins s st H Q I q => (pw_and ha hb).run whole pins s st H Q I ?_⟩
  obtain ⟨al, G, loc, s, r, S, p⟩ := q
  refine TTv.go r S p fun b s1 al1 G1 H1 x1 r1 S1 p1 => ?_
  cases b with
  | true => exact ⟨al1, G1, loc, s1, r1, S1, p1⟩
  | false => exact p1.here r1
theorem s_orT {a b : Expr} {rest : List Expr} {ma mb : Loc → Store → Out Bool} {pos : Pos} (ha : PT X a (TTv cA W ma)) (hb : PW X (.BoolOp .Or (b :: rest) pos) (TTv cA W mb)) :
    PW X (.BoolOp .Or (a :: b :: rest) pos) (TTv cA W fun loc s => (ma loc s).bind fun b s1 => if b then .ok true s1 else mb loc s1) := by
  refine ⟨fun whole pins s st H Q I q => (pw_or ha hb).run whole pins s st H Q I ?_⟩
  obtain ⟨al, G, loc, s, r, S, p⟩ := q
  refine TTv.go r S p fun b s1 al1 G1 H1 x1 r1 S1 p1 => ?_
  cases b with
  | true => exact p1.here r1
  | false => exact ⟨al1, G1, loc, s1, r1, S1, p1⟩
end
end Tw
set_option maxHeartbeats 4000000
namespace Tw
open PySem L2

section
variable {cA : CA} {W : WX} {al : List Addr} {G H : Hp} {st : L2.St} {s : Store} {Q : VK}
/-- a new list as a cell -/
theorem Po.hereC {xs : List T} {vs : List V} (h : Po cA W al G st (kV cA Q) (.ok (.c s.length) (s ++ [.lst xs]))) (r : Rl cA al G s H) (q : RepL cA G xs vs) :
    ∀ p, H p = none → Q (.ref p) (upd H p (.lst vs)) := fun p hp => by
  have r' : Rl cA (al ++ [p]) G (s ++ [.lst xs]) (upd H p (.lst vs)) := r.newC hp ⟨r.gnone hp, vs, upd_same, q⟩
  refine h (al ++ [p]) G _ ⟨⟨[p], rfl⟩, Sb.rfl'⟩ r' (.ref p) ⟨p, ?_, rfl⟩
  rw [← r.len]; simp
theorem Po.hereL {m : Bool} {xs : List T} {vs : List V} (h : Po cA W al G st (kV cA Q) (if m then .ok (.c s.length) (s ++ [.lst xs]) else .ok (.t (.lst xs)) s)) (r : Rl cA al G s H) (q : RepL cA G xs vs) :
    ∀ p, H p = none → Q (.ref p) (upd H p (.lst vs)) := by
  cases m with
  | true => exact Po.hereC h r q
  | false => exact (Give.of h r).lst (Bs.gn ⟨r.sub⟩) q
/-- the embedding of several values -/
theorem emb_go {ys : List VV} {vs : List V} {β : Type} {k : β → Store → List Addr → Hp → Hp → Prop} {f : List T → Store → Out β}
    (p : Po cA W al G st k ((embLM s ys).bind f)) (r : Rl cA al G s H) (q : RepVs cA al G ys vs) :
    ∃ xs s' G', Sb G G' ∧ Rl cA al G' s' H ∧ RepL cA G' xs vs ∧ Po cA W al G' st k (f xs s') := by
  unfold embLM at p
  cases h : embL s ys with
  | none => rw [h] at p; exact p.elim
  | some z =>
    obtain ⟨xs, s'⟩ := z
    rw [h] at p
    obtain ⟨G', sb, r', q'⟩ := r.embL q h
    exact ⟨xs, s', G', sb, r', q', Po.mono (x := f xs s') p (Xt.ofSb sb)⟩
end

section
variable {cA : CA} {X : Cx} {W : WX}
theorem s_nil : PA X [] (TAv cA W fun _ s => .ok [] s) := by
  refine pa_weak pa_nil fun st H Q q => ?_
  obtain ⟨al, G, loc, s, r, S, p⟩ := q
  exact p.here r [] rfl
theorem s_cons {e : Expr} {es : List Expr} {ma : Loc → Store → Out VV} {ms : Loc → Store → Out (List VV)} (ha : PE X e (TEv cA W ma)) (hs : PA X es (TAv cA W ms)) (h : notStar e = true) :
    PA X (e :: es) (TAv cA W fun loc s => (ma loc s).bind fun y s1 => (ms loc s1).bind fun ys s2 => .ok (y :: ys) s2) := by
  refine pa_weak (pa_cons ha hs (star_cons h)) fun st H Q q => ?_
  obtain ⟨al, G, loc, s, r, S, p⟩ := q
  refine TEv.go r S p fun y s1 al1 G1 H1 v x1 r1 S1 rv p1 => ?_
  refine TAv.go r1 S1 p1 fun z s2 al2 G2 H2 u x2 r2 S2 ru p2 => ?_
  exact p2.here r2 (v :: u) ⟨v, u, rfl, rv.mono x2, ru⟩
theorem s_lst {m : Bool} {es : List Expr} {ms : Loc → Store → Out (List VV)} {pos : Pos} (hs : PA X es (TAv cA W ms)) :
    PE X (.List es pos) (TEv cA W fun loc s => (ms loc s).bind fun ys s1 => (embLM s1 ys).bind fun xs s2 =>
      if xs.length ≤ sizeLine then (if m then .ok (.c s2.length) (s2 ++ [.lst xs]) else .ok (.t (.lst xs)) s2) else .bad) := by
  refine pe_weak (pe_lst hs) fun st H Q q => ?_
  obtain ⟨al, G, loc, s, r, S, p⟩ := q
  refine TAv.go r S p fun ys s1 al1 G1 H1 vs x1 r1 S1 rv p1 => ?_
  obtain ⟨xs, s2, G2, sb, r2, rl, p2⟩ := emb_go p1 r1 rv
  split at p2
  · rename_i hz
    exact ⟨by rw [rl.length]; exact hz, p2.hereL r2 rl⟩
  · exact p2.elim
theorem s_tup {es : List Expr} {ms : Loc → Store → Out (List VV)} {k : Nat} {pos : Pos} (hs : PA X es (TAv cA W ms)) :
    PE X (.Tuple es k pos) (TEv cA W fun loc s => (ms loc s).bind fun ys s1 => (embLM s1 ys).bind fun xs s2 =>
      if xs.length ≤ sizeLine then .ok (.t (.tup xs)) s2 else .bad) := by
  refine pe_weak (pe_tup hs) fun st H Q q => ?_
  obtain ⟨al, G, loc, s, r, S, p⟩ := q
  refine TAv.go r S p fun ys s1 al1 G1 H1 vs x1 r1 S1 rv p1 => ?_
  obtain ⟨xs, s2, G2, sb, r2, rl, p2⟩ := emb_go p1 r1 rv
  split at p2
  · rename_i hz
    exact ⟨by rw [rl.length]; exact hz, (Give.of p2 r2).tup (Bs.gn ⟨r2.sub⟩) rl⟩
  · exact p2.elim

/-! ### items, slices -/
theorem atI_rep {G : Hp} {xs : List T} {vs : List V} {i : Int} {x : T} (r : RepL cA G xs vs) (h : atI xs i = some x) : ∃ v, atI vs i = some v ∧ Rep cA G x v := by
  unfold atI at h ⊢
  rw [Option.bind_eq_some_iff] at h
  obtain ⟨k, h1, h2⟩ := h
  obtain ⟨v, hv, rv⟩ := r.get h2
  refine ⟨v, ?_, rv⟩
  rw [r.length, h1]
  exact hv
theorem s_ix {a i : Expr} {ma mi : Loc → Store → Out VV} {pos : Pos} (ha : PE X a (TEv cA W ma)) (hi : PE X i (TEv cA W mi)) (hp : PlainIx i) (hkl : ∀ a ns, cA.kl a ns → ∀ H, SqL X.K H a (ns.map V.int)) :
    PE X (.Subscript a i pos) (TEv cA W fun loc s => (ma loc s).bind fun y s1 => (mi loc s1).bind fun z s2 => match rd s2 y, rd s2 z with
      | some x, some w => ofT s2 (itemP x w)
      | _, _ => .bad) := by
  have hr : IxR X (fun x y H Q => rIxL X.K x y H Q ∨ rIxT X.K x y H Q) := fun value slice pins s st H x y v u Q I rx ry h hs => by
    rcases h with h | h
    · exact ix_list value slice pins s st H x y v u Q I rx ry h hs
    · exact ix_tup value slice pins s st H x y v u Q I rx ry h hs
  refine pe_weak (pe_ix hr ha hi hp) fun st H Q q => ?_
  obtain ⟨al, G, loc, s, r, S, p⟩ := q
  refine TEv.go r S p fun y s1 al1 G1 H1 v x1 r1 S1 rv p1 => ?_
  refine TEv.go r1 S1 p1 fun z s2 al2 G2 H2 u x2 r2 S2 ru p2 => ?_
  split at p2
  · rename_i tx ty h1 h2
    have sx := r2.sees (rv.mono x2) h1
    have sy := r2.sees ru h2
    unfold itemP at p2
    split at p2
    · rename_i xs i
      cases hz : atI xs i with
      | none => rw [hz] at p2; exact p2.elim
      | some t =>
        rw [hz] at p2
        obtain ⟨b, vs, rfl, hb, rb⟩ := sx
        obtain ⟨w, hw, rw'⟩ := atI_rep rb hz
        exact .inl ⟨b, vs, i, w, rfl, seesI sy, .of hb, hw, p2.hereT r2 rw'⟩
    · rename_i xs i
      cases hz : atI xs i with
      | none => rw [hz] at p2; exact p2.elim
      | some t =>
        rw [hz] at p2
        obtain ⟨b, vs, rfl, hb, gb, rb⟩ := seesT r2.sub sx
        obtain ⟨w, hw, rw'⟩ := atI_rep rb hz
        exact .inr ⟨b, vs, i, w, rfl, seesI sy, .of hb, hw, p2.hereT r2 rw'⟩
    · rename_i ns i
      cases hz : atI ns i with
      | none => rw [hz] at p2; exact p2.elim
      | some j =>
        rw [hz] at p2
        obtain ⟨b, rfl, sq⟩ := sq_scr hkl r2.sub sx
        refine .inl ⟨b, _, i, .int j, rfl, seesI sy, sq, ?_, p2.hereT r2 repI⟩
        unfold atI at hz ⊢
        rw [List.length_map]
        rw [Option.bind_eq_some_iff] at hz ⊢
        obtain ⟨k, h1, h2⟩ := hz
        exact ⟨k, h1, by rw [List.getElem?_map, h2]; rfl⟩
    · exact p2.elim
  · exact p2.elim
theorem repL_ints {G : Hp} : ∀ ns : List Int, RepL cA G (ns.map T.int) (ns.map V.int)
  | [] => by unfold RepL; rfl
  | i :: ns => by
    unfold RepL
    exact ⟨.int i, _, rfl, by unfold Rep; rfl, repL_ints ns⟩
theorem cut_rep {G : Hp} {xs : List T} {vs : List V} {lo hi : Option Int} (r : RepL cA G xs vs) : RepL cA G (cutT xs lo hi) (cutV vs lo hi) := by
  unfold cutT cutV
  rw [r.length]
  exact (r.drop _).take _

/-- a part of a slice -/
def TOv (cA : CA) (W : WX) (m : Loc → Store → Out (Option Int)) : TO := fun st H Q =>
  ∃ al G loc s, Rl cA al G s H ∧ RepS cA al G loc st ∧ Po cA W al G st (fun o _ _ _ H' => Q o H') (m loc s)
theorem po_weak {e : Option Expr} {t t' : TO} (h : PO X e t) (w : ∀ st H Q, t' st H Q → t st H Q) : PO X e t' :=
  ⟨fun pins s st H Q I q => h.run pins s st H Q I (w st H Q q)⟩
theorem s_omit : PO X none (TOv cA W fun _ s => .ok none s) := by
  refine po_weak po_none fun st H Q q => ?_
  obtain ⟨al, G, loc, s, r, S, p⟩ := q
  exact p.here r
theorem s_part {e : Expr} {m : Loc → Store → Out VV} (h : PE X e (TEv cA W m)) : PO X (some e) (TOv cA W fun loc s => (m loc s).bind fun y s1 => optI s1 y) := by
  refine po_weak (po_some h) fun st H Q q => ?_
  obtain ⟨al, G, loc, s, r, S, p⟩ := q
  refine TEv.go r S p fun y s1 al1 G1 H1 v x1 r1 S1 rv p1 => ?_
  unfold optI at p1
  split at p1
  · rename_i i h1
    exact ⟨i, seesI (r1.sees rv h1), p1.here r1⟩
  · exact p1.elim
theorem TOv.go {al : List Addr} {G H : Hp} {st : L2.St} {β : Type} {loc : Loc} {s : Store} {m : Loc → Store → Out (Option Int)} {f : Option Int → Store → Out β} {k : β → Store → List Addr → Hp → Hp → Prop} {Q' : Option Int → Hp → Prop}
    (r : Rl cA al G s H) (S : RepS cA al G loc st) (h : Po cA W al G st k ((m loc s).bind f))
    (c : ∀ b s1 al1 G1 H1, Xt al G al1 G1 → Rl cA al1 G1 s1 H1 → RepS cA al1 G1 loc st → Po cA W al1 G1 st k (f b s1) → Q' b H1) : TOv cA W m st H Q' :=
  ⟨al, G, loc, s, r, S, h.bind.imp fun y s1 al1 G1 H1 x r1 p => c y s1 al1 G1 H1 x r1 (S.mono x) p⟩
theorem s_sl {a : Expr} {lo hi : Option Expr} {ma : Loc → Store → Out VV} {ml mh : Loc → Store → Out (Option Int)} {p2 pos : Pos} (ha : PE X a (TEv cA W ma)) (hl : PO X lo (TOv cA W ml)) (hh : PO X hi (TOv cA W mh)) (hkl : ∀ a ns, cA.kl a ns → ∀ H, SqL X.K H a (ns.map V.int)) :
    PE X (.Subscript a (.Slice lo hi none p2) pos) (TEv cA W fun loc s => (ma loc s).bind fun y s1 => (ml loc s1).bind fun i s2 => (mh loc s2).bind fun j s3 => slV y i j s3) := by
  refine pe_weak (pe_slice (SlR.or sl_list sl_tupA) ha hl hh) fun st H Q q => ?_
  obtain ⟨al, G, loc, s, r, S, p⟩ := q
  refine TEv.go r S p fun y s1 al1 G1 H1 v x1 r1 S1 rv p1 => ?_
  refine TOv.go r1 S1 p1 fun i s2 al2 G2 H2 x2 r2 S2 p2 => ?_
  refine TOv.go r2 S2 p2 fun j s3 al3 G3 H3 x3 r3 S3 p3 => ?_
  unfold slV at p3
  split at p3
  · rename_i xs h1
    obtain ⟨b, vs, rfl, hb, rb⟩ := r3.sees (rv.mono (x2.trans x3)) h1
    exact .inl ⟨b, vs, rfl, .of hb, (Give.of p3 r3).lst (Bs.gn ⟨r3.sub⟩) (cut_rep rb)⟩
  · rename_i xs h1
    obtain ⟨b, vs, rfl, hb, gb, rb⟩ := seesT r3.sub (r3.sees (rv.mono (x2.trans x3)) h1)
    refine .inr ⟨b, vs, rfl, .of hb, fun z => ?_, fun z => (Give.of p3 r3).tup (Bs.gn ⟨r3.sub⟩) (cut_rep rb)⟩
    have e : cutT xs i j = xs := by
      rw [rb.length] at z
      unfold cutT
      rw [z.1, z.2]; simp
    rw [e] at p3
    exact p3.hereT r3 (by unfold Rep; exact ⟨b, vs, rfl, gb, rb⟩)
  · rename_i ns h1
    obtain ⟨b, rfl, sq⟩ := sq_scr hkl r3.sub (r3.sees (rv.mono (x2.trans x3)) h1)
    exact .inl ⟨b, _, rfl, sq, (Give.of p3 r3).lst (Bs.gn ⟨r3.sub⟩) (cut_rep (repL_ints ns))⟩
  · exact p3.elim
end
end Tw
set_option maxHeartbeats 4000000
namespace Tw
open PySem L2

/-! ## the program's facts -/
structure Nms where
  /-- the global name of a function, of a class -/
  fnm : Nat → Option Str
  cnm : Nat → Option Str
  gint : Str → Option Int
  gcd : Blt → Bool
  /-- whether no repr is under way around -/
  gd : Bool
  /-- calls by keywords alone: the def, the names as written, for each parameter the place of its value -/
  kws : Nat → List Str → List Nat → Bool

def bltNm : Blt → Str
  | .len => "len" | .abs => "abs" | .max => "max" | .min => "min" | .int => "int" | .bool => "bool" | .str => "str" | .repr => "repr" | .divmod => "divmod"
  | .sum => "sum" | .any => "any" | .all => "all" | .list => "list" | .tuple => "tuple" | .gcd => "gcd" | .lcm => "lcm"
def bnames : List Str := ["len", "abs", "max", "min", "int", "bool", "str", "repr", "divmod", "sum", "any", "all", "list", "tuple", "isinstance", "range", "zip", "enumerate", "dict"]

def PoC (cA : CA) (al : List Addr) (G : Hp) (Q : VK) (E : XK) : Out VV → Prop
  | .ok y s' => ∀ al' G' H' v, Xt al G al' G' → Rl cA al' G' s' H' → RepV cA al' G' y v → Q v H'
  | .ex e s' => ∀ al' G' H' cl d, Xt al G al' G' → Rl cA al' G' s' H' → RepX cA G' H' e cl d → E cl d H'
  | .bad => False
def spF (cA : CA) (cf : CF) (f : Nat) (np : Nat) : Sp := fun vs H Q E =>
  ∃ al G args s, Rl cA al G s H ∧ RepVs cA al G args vs ∧ vs.length = np ∧ PoC cA al G Q E (cf f args s)
theorem PoC.of {cA : CA} {W : WX} {al : List Addr} {G : Hp} {st : L2.St} {Q : VK} {x : Out VV} (h : Po cA W al G st (kV cA Q) x) : PoC cA al G Q (fun cl d H => W cl d st H) x := by
  cases x with
  | ok y s => exact fun al' G' H' v e r q => h al' G' H' e r v q
  | ex u s => exact fun al' G' H' cl d e r q => h al' G' H' cl d e r q
  | bad => exact h
/-- what is told of a def: HandS's FnOk, where g is set only for a world in which no repr is under way -/
structure FnG (P : Program) (w : World) (K : PySem.W.Frag) (mg : Str → Option Value) (base : Heap) (g : Bool) (k : Nat) (f : Addr) (fd : FuncData) (ps : List Str) (sp : Sp) : Prop where
  len : ∀ xs H Q E, sp xs H Q E → xs.length = ps.length
  run : ∀ (A : Around) (outer : List Env) (s : Shared) (H : Hp) (args : Args) (us : List Value) (xs : List V) (Q : VK) (E : XK), Room k A → (g = true → A.guards = some []) →
    Env0 P w K mg base A outer s H → BindsTo s fd args (ps.zip us) → Vals xs us → sp xs H Q E → codeAny (model P w) A (.call (.ref f) args) (L2.CR (L2.CX P w) outer P w H s Q E) s
theorem FnG.of {P : Program} {w : World} {K : PySem.W.Frag} {mg : Str → Option Value} {base : Heap} {g : Bool} {k : Nat} {f : Addr} {fd : FuncData} {ps : List Str} {sp : Sp} (F : FnOk P w K mg base (L2.CX P w) k f fd ps sp) : FnG P w K mg base g k f fd ps sp :=
  ⟨F.len, fun A outer s H args us xs Q E hr _ => F.run A outer s H args us xs Q E hr⟩
/-- what own operators ask of the class at C -/
structure OwnK (K : PySem.W.Frag) (C : Addr) : Prop where
  cls : Cls K C
  first : PySem.W.selfFirst K C = true
  both : ∀ nm, nm ∈ ["add", "sub", "mul"] → ∀ g : Addr, PySem.W.findIn K (.ref C) (dunderR nm) = some (some (.ref g)) → ∃ g : Addr, PySem.W.findIn K (.ref C) (PySem.dunder nm) = some (some (.ref g))
  ra : ∀ nm, nm ∈ ["add", "sub", "mul"] → ∃ rc, PySem.W.findIn K (.ref C) (dunderR nm) = some rc ∧ (rc = none ∨ ∃ g : Addr, rc = some (.ref g))
  ia : ∀ nm, nm ∈ ["add", "sub", "mul"] → ∃ fo ro, PySem.W.findIn K (.type "int") (PySem.dunder nm) = some fo ∧ PySem.W.findIn K (.type "int") (dunderR nm) = some ro
  sub : ∀ T, T ∈ ["int", "list", "tuple", "str", "bool", "NoneType"] → PySem.W.subIn K (.type T) (.ref C) = some false
  int : PySem.W.mroIn K C (.type "int") = some false
  ne : PySem.W.findIn K (.ref C) "__ne__" = some (some (.builtin "object.__ne__"))
  obj : PySem.W.mroIn K C (.type "object") = some true
/-- a property at the class: its getter -/
def PropAt (K : PySem.W.Frag) (C : Addr) (f : Str) (g : Addr) : Prop := ∃ p, PropOf K C f p g
structure Pf (P : Program) (w : World) (K : PySem.W.Frag) (mg : Str → Option Value) (base : Heap) (A : Around) (D : Defs) (M : Nms) (cA : CA) (fA : Nat → Addr) (fdA : Nat → FuncData) (psA : Nat → List Str) (k : Nat) (cf : CF) : Prop where
  room : Room (k + 1) A
  bn : ∀ x, x ∈ bnames → mg x = none
  gi : ∀ x i, M.gint x = some i → ∃ t, mg x = some (.int i t)
  gg : ∀ b, isMath b = true → M.gcd b = true → mg (bltNm b) = some (bltV b)
  fld : ∀ c f, D.fld c f = true → Cls K (cA c) ∧ NoAttr K (cA c) f
  fn : ∀ f d, D.fn f = some d → FnG P w K mg base M.gd k (fA f) (fdA f) (psA f) (spF cA cf f d.np)
  ps : ∀ f d, D.fn f = some d → (psA f).length = d.np
  bd : ∀ f d, D.fn f = some d → Binds K (fdA f) (psA f) []
  bdd : ∀ f d n, D.fn f = some d → 0 < n → n ≤ (D.dfl f).length → ∃ ds vs, Binds K (fdA f) (psA f) ds ∧ Vals vs ds ∧ (∀ G, RepL cA G ((D.dfl f).drop ((D.dfl f).length - n)) vs)
  gf : ∀ f x, M.fnm f = some x → mg x = some (.ref (fA f)) ∧ PySem.W.keepIn K (.ref (fA f)) = true
  gc : ∀ c x f, M.cnm c = some x → D.ini c = some f → mg x = some (.ref (cA c)) ∧ Mk K (cA c) (fA f)
  gcc : ∀ c x, M.cnm c = some x → mg x = some (.ref (cA c))
  kit : ∀ c t, D.kit c t = true → PySem.W.kitOne K (tyT cA t) (crU cA c) = some (isiP D.sub c t)
  ity : ∀ c, D.cls c = true → InsTy K (cA c)
  mt : ∀ c m f, D.om c m = some f → Cls K (cA c) ∧ Meth K (cA c) m (fA f)
  gd : M.gd = true → A.guards = some []
  ow : ∀ c, D.own c = true → OwnK K (cA c)
  oe : ∀ c, D.om c Str.empty = none
  pr : ∀ c m f, D.pr c m = some f → Cls K (cA c) ∧ PropAt K (cA c) m (fA f)
  kb : ∀ f d ks pm, D.fn f = some d → M.kws f ks pm = true → pm.length = d.np ∧ ∀ (s : Shared) (ws zs : List Value), K.In s.heap → ws.length = ks.length → pick pm ws = some zs → BindsTo s (fdA f) ⟨[], ks.zip ws⟩ ((psA f).zip zs)
  kl : ∀ a ns, cA.kl a ns → ∀ H, SqL K H a (ns.map V.int)

theorem isiOk_iff {kit : CR → T → Bool} {cls : Nat → Bool} {cs : List CR} {t : T} : isiOk kit cls cs t = true ↔ (cs.all fun c => kit c t) = true ∧ ((∀ x, t ≠ .ty x) ∧ ∀ x, t ≠ .scr x) ∧ ∀ c fs, t = .ins c fs → cls c = true := by
  unfold isiOk
  rw [Bool.and_eq_true]
  refine and_congr Iff.rfl ?_
  cases t with
  | ty x => simp
  | scr x => simp
  | ins c fs => simp
  | _ => simp

section
variable {cA : CA} {X : Cx} {N : List Str} {sc : Scope} {W : WX}
theorem s_ite {c a b : Expr} {mc : Loc → Store → Out Bool} {ma mb : Loc → Store → Out VV} {pos : Pos} (hc : PT X c (TTv cA W mc)) (ha : PE X a (TEv cA W ma)) (hb : PE X b (TEv cA W mb)) :
    PE X (.IfExp c a b pos) (TEv cA W fun loc s => (mc loc s).bind fun t s1 => if t then ma loc s1 else mb loc s1) := by
  refine pe_weak (pe_ifExp hc ha hb) fun st H Q q => ?_
  obtain ⟨al, G, loc, s, r, S, p⟩ := q
  refine TTv.go r S p fun t s1 al1 G1 H1 x1 r1 S1 p1 => ?_
  cases t with
  | true => exact ⟨al1, G1, loc, s1, r1, S1, p1⟩
  | false => exact ⟨al1, G1, loc, s1, r1, S1, p1⟩
theorem s_cmp2 {o p : CmpOp} {a b c : Expr} {ma mb mc : Loc → Store → Out VV} {pos : Pos} (ha : PE X a (TEv cA W ma)) (hb : PE X b (TEv cA W mb)) (hc : PE X c (TEv cA W mc)) (hm : lastMarks [o, p] [b, c] = false) :
    PE X (.Compare a [o, p] [b, c] pos) (TEv cA W fun loc s => (ma loc s).bind fun y s1 => (mb loc s1).bind fun z s2 => match rd s2 y, rd s2 z with
      | some x, some w => match cmpP o x w with
        | some true => (mc loc s2).bind fun u s3 => match rd s3 z, rd s3 u with
          | some w', some v => ofT s3 ((cmpP p w' v).map .bl)
          | _, _ => .bad
        | some false => .ok (.t (.bl false)) s2
        | none => .bad
      | _, _ => .bad) := by
  refine pe_weak (pe_chain (op_cmp (cA := cA) o) (op_cmp (cA := cA) p) ha hb hc hm) fun st H Q q => ?_
  obtain ⟨al, G, loc, s, r, S, pp⟩ := q
  refine TEv.go r S pp fun y s1 al1 G1 H1 v x1 r1 S1 rv p1 => ?_
  refine TEv.go r1 S1 p1 fun z s2 al2 G2 H2 u x2 r2 S2 ru p2 => ?_
  split at p2
  · rename_i tx ty h1 h2
    split at p2
    · rename_i hz
      refine ⟨G2, tx, ty, true, ⟨r2.sub⟩, r2.sees (rv.mono x2) h1, r2.sees ru h2, hz, true, rfl, ?_⟩
      rw [if_pos rfl]
      refine TEv.go r2 S2 p2 fun e s3 al3 G3 H3 vv x3 r3 S3 re p3 => ?_
      split at p3
      · rename_i tw tv h3 h4
        cases hz : cmpP p tw tv with
        | none => rw [hz] at p3; exact p3.elim
        | some b =>
          rw [hz] at p3
          exact ⟨G3, tw, tv, b, ⟨r3.sub⟩, r3.sees (ru.mono x3) h3, r3.sees re h4, hz, p3.hereT r3 repB⟩
      · exact p3.elim
    · rename_i hz
      refine ⟨G2, tx, ty, false, ⟨r2.sub⟩, r2.sees (rv.mono x2) h1, r2.sees ru h2, hz, false, rfl, ?_⟩
      rw [if_neg Bool.false_ne_true]
      exact p2.hereT r2 repB
    · exact p2.elim
  · exact p2.elim
variable {D : Defs} {M : Nms} {fA : Nat → Addr} {fdA : Nat → FuncData} {psA : Nat → List Str} {k : Nat} {cf : CF}
abbrev PfX (X : Cx) (D : Defs) (M : Nms) (cA : CA) (fA : Nat → Addr) (fdA : Nat → FuncData) (psA : Nat → List Str) (k : Nat) (cf : CF) : Prop := Pf X.prog X.w X.K X.mg X.base X.A D M cA fA fdA psA k cf
theorem s_att {a : Expr} {ma : Loc → Store → Out VV} {f : Str} {pos : Pos} (F : PfX X D M cA fA fdA psA k cf) (ha : PE X a (TEv cA W ma)) (hb : notSuper a = true) :
    PE X (.Attribute a f pos) (TEv cA W fun loc s => (ma loc s).bind fun y s1 => attV D f y s1) := by
  refine pe_weak (pe_fld ha (base_plain hb)) fun st H Q q => ?_
  obtain ⟨al, G, loc, s, r, S, p⟩ := q
  refine TEv.go r S p fun y s1 al1 G1 H1 v x1 r1 S1 rv p1 => ?_
  unfold attV at p1
  split at p1
  · rename_i c fs h1
    split at p1
    · rename_i hf
      obtain ⟨b, dx, gs, rfl, hb, rb⟩ := r1.sees rv h1
      obtain ⟨hc, hn⟩ := F.fld c f hf
      cases hl : fs.lookup f with
      | none => rw [hl] at p1; exact p1.elim
      | some t =>
        rw [hl] at p1
        obtain ⟨w, hw, rw'⟩ := rb.lookup hl
        exact ⟨b, _, dx, gs, w, rfl, hb, hc, hn, hw, p1.hereT r1 rw'⟩
    · exact p1.elim
  · exact p1.elim
/-! ### built-ins by name -/
theorem s_gint (F : PfX X D M cA fA fdA psA k cf) (c : Cok X N sc W) {x : Str} {i : Int} {pos : Pos} (h : M.gint x = some i) (hg : glB sc x = true) : PE X (.Name x pos) (TEv cA W fun _ s => .ok (.t (.int i)) s) := by
  obtain ⟨g, d, n⟩ := gl_of c hg
  obtain ⟨t, e⟩ := F.gi x i h
  exact s_const (pe_glob (v := .int i) g e ⟨t, rfl⟩ d) fun G => repI
theorem boot_blt (b : Blt) (h : isMath b = false) : bootBuiltins (bltNm b) = some (bltV b) := by
  cases b <;> first | cases h; done | decide +kernel
theorem bn_blt (b : Blt) (h : isMath b = false) : bltNm b ∈ bnames := by
  cases b <;> first | cases h; done | decide +kernel
theorem pe_blt (F : PfX X D M cA fA fdA psA k cf) (c : Cok X N sc W) {b : Blt} {r : List V → Hp → VK → Prop} {e : Expr} {es : List Expr} {t : TA} {p pos : Pos} (hr : CallR X (bltV b) r) (hg : glB sc (bltNm b) = true) (hgc : isMath b = true → M.gcd b = true)
    (ha : PA X (e :: es) t) (hs : (e :: es).all notStar = true) : PE X (.Call (.Name (bltNm b) p) (e :: es) [] pos) (tCB r t) := by
  obtain ⟨g, d, n⟩ := gl_of c hg
  rw [List.all_cons, Bool.and_eq_true] at hs
  have st := star_cons (env := X.env) (es := es) hs.1
  have pl := plain_back (env := X.env) (pos := pos) hs.2
  by_cases hb : isMath b = true
  · have hm := F.gg b hb (hgc hb)
    cases b <;> first
      | cases hb; done
      | exact pe_callBfun hr g hm ha d st pl
  · have hb : isMath b = false := by simpa using hb
    have h1 := F.bn _ (bn_blt b hb)
    have h2 := boot_blt b hb
    cases b <;> first
      | cases hb; done
      | exact pe_callB hr g h1 h2 ha n d st pl
      | exact pe_callTy hr g h1 h2 ha n d st pl
theorem s_blt (F : PfX X D M cA fA fdA psA k cf) (c : Cok X N sc W) {b : Blt} {e : Expr} {es : List Expr} {ms : Loc → Store → Out (List VV)} {p pos : Pos} (hg : glB sc (bltNm b) = true) (hgc : isMath b = true → M.gcd b = true)
    (ha : PA X (e :: es) (TAv cA W ms)) (hs : (e :: es).all notStar = true) :
    PE X (.Call (.Name (bltNm b) p) (e :: es) [] pos) (TEv cA W fun loc s => (ms loc s).bind fun ys s1 => match ys.mapM (rd s1) with
      | some xs => ofT s1 (bltP b xs)
      | none => .bad) := by
  refine pe_weak (pe_blt F c (call_blt (cA := cA) c.calm F.kl b) hg hgc ha hs) fun st H Q q => ?_
  obtain ⟨al, G, loc, s, r, S, pp⟩ := q
  refine TAv.go r S pp fun ys s1 al1 G1 H1 vs x1 r1 S1 rv p1 => ?_
  split at p1
  · rename_i xs h1
    cases hz : bltP b xs with
    | none => rw [hz] at p1; exact p1.elim
    | some t =>
      rw [hz] at p1
      exact ⟨G1, xs, t, ⟨r1.sub⟩, seesL_of r1 rv h1, hz, Give.of p1 r1⟩
  · exact p1.elim
/-! ### texts put together -/
theorem s_fmt {a : Expr} {ma : Loc → Store → Out VV} {pos : Pos} (ha : PE X a (TEv cA W ma)) :
    PE X (.FormattedValue a (-1) none pos) (TEv cA W fun loc s => (ma loc s).bind fun y s1 => match rd s1 y with
      | some (.str x) => if x.length ≤ sizeLine then .ok (.t (.str x)) s1 else .bad
      | some (.int i) => if i.natAbs.log2 < 1920 then .ok (.t (.str (toString i))) s1 else .bad
      | _ => .bad) := by
  refine pe_weak (pe_fmt ha) fun st H Q q => ?_
  obtain ⟨al, G, loc, s, r, S, p⟩ := q
  refine TEv.go r S p fun y s1 al1 G1 H1 v x1 r1 S1 rv p1 => ?_
  split at p1
  · rename_i x h1
    split at p1
    · rename_i hz
      exact .inl ⟨x, seesS (r1.sees rv h1), hz, p1.hereT r1 repS⟩
    · exact p1.elim
  · rename_i i h1
    split at p1
    · rename_i hz
      exact .inr ⟨i, seesI (r1.sees rv h1), hz, p1.hereT r1 repS⟩
    · exact p1.elim
  · exact p1.elim
/-- the parts of a joined text, from an accumulated one -/
def TFv (cA : CA) (W : WX) (m : Loc → Store → Str → Out Str) : Str → L2.St → Hp → (Str → Hp → Prop) → Prop := fun acc st H Q =>
  ∃ al G loc s, Rl cA al G s H ∧ RepS cA al G loc st ∧ Po cA W al G st (fun x _ _ _ H' => Q x H') (m loc s acc)
def PFs (cA : CA) (W : WX) (X : Cx) (es : List Expr) (m : Loc → Store → Str → Out Str) : Prop :=
  ∃ ts, PJ X es ts ∧ ∀ acc st H Q, TFv cA W m acc st H Q → tJs ts acc st H Q
theorem f_nil : PFs cA W X [] (fun _ s acc => .ok acc s) := by
  refine ⟨[], .nil, fun acc st H Q q => ?_⟩
  obtain ⟨al, G, loc, s, r, S, p⟩ := q
  exact p.here r
theorem f_cons {e : Expr} {es : List Expr} {ma : Loc → Store → Out VV} {ms : Loc → Store → Str → Out Str} (ha : PE X e (TEv cA W ma)) (hs : PFs cA W X es ms) :
    PFs cA W X (e :: es) (fun loc s acc => (ma loc s).bind fun y s1 => match rd s1 y with
      | some (.str x) => if (acc ++ x).length ≤ sizeLine then ms loc s1 (acc ++ x) else .bad
      | _ => .bad) := by
  obtain ⟨ts, h1, h2⟩ := hs
  refine ⟨_ :: ts, .cons ha h1, fun acc st H Q q => ?_⟩
  obtain ⟨al, G, loc, s, r, S, p⟩ := q
  show TEv cA W ma st H _
  refine TEv.go r S p fun y s1 al1 G1 H1 v x1 r1 S1 rv p1 => ?_
  split at p1
  · rename_i x h3
    split at p1
    · rename_i hz
      refine ⟨x, seesS (r1.sees rv h3), hz, h2 _ st H1 Q ⟨al1, G1, loc, s1, r1, S1, p1⟩⟩
    · exact p1.elim
  · exact p1.elim
theorem s_fst {a b : Expr} {es : List Expr} {ms : Loc → Store → Str → Out Str} {pos : Pos} (h : PFs cA W X (a :: b :: es) ms) :
    PE X (.JoinedStr (a :: b :: es) pos) (TEv cA W fun loc s => (ms loc s Str.empty).bind fun x s1 => .ok (.t (.str x)) s1) := by
  obtain ⟨ts, h1, h2⟩ := h
  refine pe_weak (pe_joined h1) fun st H Q q => ?_
  obtain ⟨al, G, loc, s, rl, S, p⟩ := q
  exact h2 _ st H _ ⟨al, G, loc, s, rl, S, p.bind.imp fun x s1 al1 G1 H1 x1 r1 q => q.hereT r1 repS⟩

/-! ### isinstance -/
def crN : CR → Option Str → Bool
  | .ty _, _ => true
  | .cl _, some _ => true
  | .cl _, none => false
/-- a class, read as a value -/
theorem s_cr (F : PfX X D M cA fA fdA psA k cf) (c : Cok X N sc W) {r : CR} {x : Str} {pos : Pos} (hg : glB sc x = true)
    (h : match r with | .ty n => x ∈ bnames ∧ bootBuiltins x = some (.type n) | .cl d => M.cnm d = some x) : PE X (.Name x pos) (tC (crV cA r)) := by
  obtain ⟨g, d, n⟩ := gl_of c hg
  cases r with
  | ty T => exact pe_bltn g (F.bn x h.1) h.2 rfl n d
  | cl C => exact pe_glob g (F.gcc C x h) rfl d
theorem paired_cr : ∀ rs : List CR, Paired ClsV (rs.map (crV cA)) (rs.map (crU cA))
  | [] => .nil
  | r :: rs => .cons (crV_cls r) (paired_cr rs)
theorem any_kit (F : PfX X D M cA fA fdA psA k cf) {t : T} : ∀ {cs : List CR}, (cs.all fun c => D.kit c t) = true →
    PySem.W.kitAny X.K (tyT cA t) (cs.map (crU cA)) = some (cs.any fun c => isiP D.sub c t)
  | [], _ => rfl
  | c :: cs, h => by
    rw [List.all_cons, Bool.and_eq_true] at h
    show (match PySem.W.kitOne X.K (tyT cA t) (crU cA c) with | some true => some true | some false => PySem.W.kitAny X.K (tyT cA t) (cs.map (crU cA)) | none => none) = _
    rw [F.kit c t h.1, List.any_cons]
    cases isiP D.sub c t with
    | true => rfl
    | false => exact any_kit F h.2
theorem s_isi1 (F : PfX X D M cA fA fdA psA k cf) (c : Cok X N sc W) {a e : Expr} {ma : Loc → Store → Out VV} {r : CR} {p pos : Pos} (ha : PE X a (TEv cA W ma)) (hg : glB sc "isinstance" = true) (he : PE X e (tC (crV cA r)))
    (hs : [a, e].all notStar = true) :
    PE X (.Call (.Name "isinstance" p) [a, e] [] pos) (TEv cA W fun loc s => (ma loc s).bind fun y s1 => match rd s1 y with
      | some x => if isiOk D.kit D.cls [r] x then .ok (.t (.bl ([r].any fun c => isiP D.sub c x))) s1 else .bad
      | _ => .bad) := by
  obtain ⟨g, d, n⟩ := gl_of c hg
  rw [List.all_cons, Bool.and_eq_true] at hs
  have pa : PA X [a, e] (tCons (TEv cA W ma) (tCons (tC (crV cA r)) tNil)) := pa_cons ha (pa_cons he pa_nil (star_cons (by have := hs.2; simpa using this))) (star_cons hs.1)
  refine pe_weak (pe_callB call_isi g (F.bn _ (by decide +kernel)) PyProof.Rows.boot_isinstance pa n d (star_cons hs.1) (plain_back hs.2)) fun st H Q q => ?_
  obtain ⟨al, G, loc, s, r', S, pp⟩ := q
  refine TEv.go r' S pp fun y s1 al1 G1 H1 v x1 r1 S1 rv p1 => ?_
  split at p1
  · rename_i x h1
    split at p1
    · rename_i hk
      obtain ⟨hk1, hk2, hk3⟩ := isiOk_iff.mp hk
      have sv := r1.sees rv h1
      refine ⟨v, crV cA r, tyT cA x, crU cA r, isiP D.sub r x, rfl, crV_cls r, tyX_of r1.sub sv hk2 (fun C fs e => F.ity C (hk3 C fs e)), F.kit r x (by simpa using hk1), ?_⟩
      have e0 : ([r].any fun c => isiP D.sub c x) = isiP D.sub r x := by simp
      rw [e0] at p1
      exact p1.hereT r1 repB
    · exact p1.elim
  · exact p1.elim
theorem s_isiT (F : PfX X D M cA fA fdA psA k cf) (c : Cok X N sc W) {a : Expr} {es : List Expr} {ma : Loc → Store → Out VV} {rs : List CR} {p pos pt : Pos} {kt : Nat} (ha : PE X a (TEv cA W ma)) (hg : glB sc "isinstance" = true)
    (hes : ∃ t, PA X es t ∧ ∀ st H (Q : List V → Hp → Prop), Q (rs.map (crV cA)) H → t st H Q) (hl : rs.length ≤ 100) (hs : [a].all notStar = true) :
    PE X (.Call (.Name "isinstance" p) [a, .Tuple es kt pt] [] pos) (TEv cA W fun loc s => (ma loc s).bind fun y s1 => match rd s1 y with
      | some x => if isiOk D.kit D.cls rs x then .ok (.t (.bl (rs.any fun c => isiP D.sub c x))) s1 else .bad
      | _ => .bad) := by
  obtain ⟨g, d, n⟩ := gl_of c hg
  obtain ⟨t, pe, ht⟩ := hes
  rw [List.all_cons, Bool.and_eq_true] at hs
  have pa : PA X [a, .Tuple es kt pt] (tCons (TEv cA W ma) (tCons (tTup t) tNil)) := pa_cons ha (pa_cons (pe_tup pe) pa_nil (star_cons rfl)) (star_cons hs.1)
  refine pe_weak (pe_callB call_isiT g (F.bn _ (by decide +kernel)) PyProof.Rows.boot_isinstance pa n d (star_cons hs.1) (plain_back rfl)) fun st H Q q => ?_
  obtain ⟨al, G, loc, s, r', S, pp⟩ := q
  refine TEv.go r' S pp fun y s1 al1 G1 H1 v x1 r1 S1 rv p1 => ?_
  refine ht st H1 _ ⟨?_, fun q hq => ?_⟩
  · rw [List.length_map]; exact Nat.le_trans hl (by decide)
  split at p1
  · rename_i x h1
    split at p1
    · rename_i hk
      obtain ⟨hk1, hk2, hk3⟩ := isiOk_iff.mp hk
      have r2 := r1.newX (o := .tup (rs.map (crV cA))) hq
      have sv := r2.sees rv h1
      have pc : Paired ClsV (rs.map (crV cA)) (rs.map (crU cA)) := paired_cr rs
      exact ⟨v, q, rs.map (crV cA), tyT cA x, rs.map (crU cA), rs.any fun c => isiP D.sub c x, rfl, upd_same, pc, tyX_of r2.sub sv hk2 (fun C fs e => F.ity C (hk3 C fs e)), any_kit F hk1, p1.hereT r2 repB⟩
    · exact p1.elim
  · exact p1.elim
end
end Tw
set_option maxHeartbeats 4000000
namespace Tw
open PySem L2

section
variable {cA : CA} {al l : List Addr} {G H : Hp} {s : Store}
/-- the first cells alone -/
theorem Rl.front (r : Rl cA (al ++ l) G s H) : Rl cA al G (s.take al.length) H := by
  have hl := r.len
  rw [List.length_append] at hl
  refine ⟨r.sub, ?_, (List.nodup_append.mp r.nd).1, fun k a c ha hc => ?_⟩
  · rw [List.length_take]; omega
  · have hk := (List.getElem?_eq_some_iff.mp ha).1
    rw [List.getElem?_take_of_lt hk] at hc
    exact r.cell k a c (by rw [List.getElem?_append_left hk]; exact ha) hc
theorem Rl.front1 (r : Rl cA (al ++ l) G s H) {k : Nat} {a : Addr} {c : Cell} (hk : al.length ≤ k) (ha : (al ++ l)[k]? = some a) (hc : s[k]? = some c) : Rl cA (al ++ [a]) G (s.take al.length ++ [c]) H := by
  have hl := r.len
  rw [List.length_append] at hl
  have f := r.front
  have htl : (s.take al.length).length = al.length := by rw [List.length_take]; omega
  refine ⟨r.sub, by rw [List.length_append, List.length_append, htl]; rfl, ?_, fun j b d hb hd => ?_⟩
  · rw [List.nodup_append]
    refine ⟨f.nd, by simp, fun x hx y hy => ?_⟩
    simp at hy; subst hy
    rw [List.getElem?_append_right hk] at ha
    have hm := List.mem_of_getElem? ha
    exact (List.nodup_append.mp r.nd).2.2 x hx y hm
  · by_cases hj : j < al.length
    · rw [List.getElem?_append_left hj] at hb
      rw [List.getElem?_append_left (by rw [htl]; exact hj)] at hd
      exact f.cell j b d hb hd
    · have hj' : j = al.length := by
        have := (List.getElem?_eq_some_iff.mp hb).1
        simp at this; omega
      subst hj'
      simp at hb
      rw [List.getElem?_append_right (by omega), htl] at hd
      simp at hd
      subst hb; subst hd
      exact r.cell k a c ha hc
theorem finT_ok {y' : VV} {v : V} {s' : Store} {n k : Nat} (hn : n = al.length) (r : Rl cA (al ++ l) G s H) (e : finT n k s = .ok y' s') (q : RepV cA (al ++ l) G (.c k) v) (hk : ¬ k < n) :
    ∃ G', Sb G G' ∧ Rl cA al G' s' H ∧ RepV cA al G' y' v := by
  subst hn
  unfold finT at e
  obtain ⟨a, ha, ev⟩ := q
  cases hc : s[k]? with
  | none => rw [hc] at e; cases e
  | some c =>
    rw [hc] at e
    cases e
    obtain ⟨G', sb, r', q'⟩ := r.freeze ha hc
    have z := r'.front
    rw [List.take_set_of_le (by omega)] at z
    subst ev
    exact ⟨G', sb, z, q'⟩
theorem fin_ok {y y' : VV} {v : V} {s' : Store} {n : Nat} (hn : n = al.length) (r : Rl cA (al ++ l) G s H) (e : fin n y s = .ok y' s') (q : RepV cA (al ++ l) G y v) :
    ∃ al', Xt al G al' G ∧ Rl cA al' G s' H ∧ RepV cA al' G y' v := by
  subst hn
  unfold fin at e
  cases y with
  | t x =>
    cases e
    exact ⟨al, Xt.rfl', r.front, q⟩
  | c k =>
    obtain ⟨a, ha, ev⟩ := q
    simp only at e
    split at e
    · rename_i hk
      cases e
      rw [List.getElem?_append_left hk] at ha
      exact ⟨al, Xt.rfl', r.front, a, ha, ev⟩
    · rename_i hk
      split at e
      · rename_i x hc
        cases e
        subst ev
        exact ⟨al, Xt.rfl', r.front, (r.cell k a _ ha hc).1⟩
      · rename_i c hc
        cases e
        exact ⟨al ++ [a], ⟨⟨[a], rfl⟩, Sb.rfl'⟩, r.front1 (by omega) ha hc, a, by simp, ev⟩
      · cases e
theorem RepVs.append : ∀ {xs ys : List VV} {vs us : List V}, RepVs cA al G xs vs → RepVs cA al G ys us → RepVs cA al G (xs ++ ys) (vs ++ us)
  | [], _, vs, _, r, q => by have e : vs = [] := r; subst e; exact q
  | x :: xs, ys, _, us, ⟨v, rr, e, h1, h2⟩, q => by
    subst e
    exact ⟨v, rr ++ us, rfl, h1, RepVs.append h2 q⟩
theorem RepVs.ofL : ∀ {xs : List T} {vs : List V}, RepL cA G xs vs → RepVs cA al G (xs.map VV.t) vs
  | [], vs, r => by unfold RepL at r; exact r
  | x :: xs, vs, r => by
    unfold RepL at r
    obtain ⟨v, rr, e, h1, h2⟩ := r
    exact ⟨v, rr, e, h1, RepVs.ofL h2⟩
end

section
variable {X : Cx} {gd : Bool} {k : Nat} {f C : Addr} {fd : FuncData} {ps : List Str} {sp : Sp} {dvs : List V} {ds : List Value} {E : L2.St → XK} {x m : Str} {p apos pos : Pos} {e : Expr} {es : List Expr} {t : TA}
theorem guards_make {A : Around} {C : Addr} {us : List Value} {kw : List (Str × Value)} (h : A.guards = some []) : (A.under (.builtin "type.__call__" ⟨.ref C :: us, kw⟩)).guards = some [] := by
  have e : (Code.builtin "type.__call__" ⟨.ref C :: us, kw⟩).guards = [] := by
    first | rfl | simp [Code.guards, Code.isGuard, guardIds]
  unfold Around.under
  simp only [e, pushGuards, h]
theorem run_fnG {pins : List (Addr × Obj)} {st : L2.St} {H : Hp} {s : Shared} {Q : VK} {us : List Value} {vs : List V} (F : FnG X.prog X.w X.K X.mg X.base gd k f fd ps sp) (hgd : gd = true → X.A.guards = some []) (hr : Room k X.A) (hb : Binds X.K fd ps ds) (hd : Vals dvs ds) (hx : PassesAt (L2.CX X.prog X.w) X st (E st))
    (I : Inv X pins st H s) (r : Vals vs us) (h : sp (vs ++ dvs) H Q (E st)) : wpAny (model X.prog X.w) X.A (call (.ref f) us) (EP X pins st Q) X.xe s := by
  have both : Vals (vs ++ dvs) (us ++ ds) := Vals.append r hd
  have same : (us ++ ds).length = ps.length := both.length.symm.trans (F.len _ _ _ _ h)
  have go := F.run X.A X.stack s H ⟨us, []⟩ _ _ Q (E st) hr hgd I.env0 (hb s us I.kIn same) both h
  refine wpAny_call (codeAny_mono go fun res s2 hres => ?_)
  match res, hres with
  | .error e, hres => exact hx pins H s e s2 I hres
  | .ok (.ret u), hres => exact I.after hres
  | .ok .next, hres => exact hres.elim
  | .ok .brk, hres => exact hres.elim
  | .ok .cont, hres => exact hres.elim
theorem pe_callG (F : FnG X.prog X.w X.K X.mg X.base gd k f fd ps sp) (hgd : gd = true → X.A.guards = some []) (hr : Room k X.A) (hg : Gl X x) (hm : X.mg x = some (.ref f)) (hk : PySem.W.keepIn X.K (.ref f) = true) (hb : Binds X.K fd ps ds) (hd : Vals dvs ds)
    (hx : ∀ st, PassesAt (L2.CX X.prog X.w) X st (E st)) (ha : PA X (e :: es) t) (hdb : (x == ("__debug__" : Str)) = false) (h1 : (e :: es).all notStar = true) :
    PE X (.Call (.Name x p) (e :: es) [] pos) (fun st H Q => t st H fun vs H1 => sp (vs ++ dvs) H1 Q (E st)) := by
  rw [List.all_cons, Bool.and_eq_true] at h1
  refine ⟨fun pins s st H Q I h => wpAny_Call_Name_kw (ld_glob I hg hm ?_ hdb)⟩
  exact PySem.W.callWith_K (h₀ := X.base) I.ok.mod.kin hk (thn (ha.run pos pins s st H _ I h) fun us s1 ⟨vs, H1, J, r, q⟩ => ⟨J.kIn, run_fnG F hgd hr hb hd (hx st) J r q⟩) (star_cons h1.1) (plain_back h1.2)
theorem pe_call0D (F : FnG X.prog X.w X.K X.mg X.base gd k f fd ps sp) (hgd : gd = true → X.A.guards = some []) (hr : Room k X.A) (hg : Gl X x) (hm : X.mg x = some (.ref f)) (hk : PySem.W.keepIn X.K (.ref f) = true) (hb : Binds X.K fd ps ds) (hd : Vals dvs ds)
    (hx : ∀ st, PassesAt (L2.CX X.prog X.w) X st (E st)) (hdb : (x == ("__debug__" : Str)) = false) : PE X (.Call (.Name x p) [] [] pos) (fun st H Q => sp ([] ++ dvs) H Q (E st)) := by
  refine ⟨fun pins s st H Q I h => ?_⟩
  refine PySem.wpAny_Call_Name_kw (ld_glob I hg hm ?_ hdb)
  exact PySem.W.callWith_K0 (first := []) I.kIn hk (run_fnG (us := []) (vs := []) F hgd hr hb hd (hx st) I .nil h)
/-- a method of an instance of the class at C -/
def tMethS (C : Addr) (m : Str) (sp : Sp) (dvs : List V) (E : L2.St → XK) (ta : TE) (t : TA) : TE := fun st H Q =>
  ta st H fun x H1 => ∃ a dx fs, x = .ref a ∧ H1 a = some (.ins C dx fs) ∧ fs.lookup m = none ∧ t st H1 fun vs H2 => sp ((x :: vs) ++ dvs) H2 Q (E st)
theorem pe_methS {o : Expr} {ta : TE} (he : PE X o ta) (c : Cls X.K C) (hm : Meth X.K C m f) (F : FnG X.prog X.w X.K X.mg X.base gd k f fd ps sp) (hgd : gd = true → X.A.guards = some []) (hr : Room k X.A) (hb : Binds X.K fd ps ds) (hd : Vals dvs ds)
    (hx : ∀ st, PassesAt (L2.CX X.prog X.w) X st (E st)) (ha : PA X (e :: es) t) (h1 : (e :: es).all notStar = true) (h2 : (e :: es).length < 29) (h3 : notSuper o = true) (h4 : (apos.endLine == pos.line) = true) :
    PE X (.Call (.Attribute o m apos) (e :: es) [] pos) (tMethS C m sp dvs E ta t) := by
  refine ⟨fun pins s st H Q I h => ?_⟩
  refine PySem.W.methodCall_KW (thn (he.run pins s st H _ I h) fun u s1 ⟨x, H1, I1, rx, a, dx, fs, ex, ea, l, q⟩ => ?_) (meth_eval h1 h2 h3 h4)
  subst ex
  have eu : u = Value.ref a := rx
  subst eu
  refine getmeth_ok I1 ea c hm l ?_
  rw [List.all_cons, Bool.and_eq_true] at h1
  refine PySem.W.callWith_K (first := [.ref a]) (h₀ := X.base) I.ok.mod.kin hm.kp (thn (ha.run pos pins s1 st H1 _ I1 q) fun us s2 ⟨vs, H2, I2, r, q2⟩ => ⟨I2.kIn, ?_⟩) (star_cons h1.1) (plain_back h1.2)
  exact run_fnG (us := .ref a :: us) (vs := .ref a :: vs) F hgd hr hb hd (hx st) I2 (.cons rfl r) q2
theorem pe_methS0 {o : Expr} {ta : TE} (he : PE X o ta) (c : Cls X.K C) (hm : Meth X.K C m f) (F : FnG X.prog X.w X.K X.mg X.base gd k f fd ps sp) (hgd : gd = true → X.A.guards = some []) (hr : Room k X.A) (hb : Binds X.K fd ps ds) (hd : Vals dvs ds)
    (hx : ∀ st, PassesAt (L2.CX X.prog X.w) X st (E st)) (h3 : notSuper o = true) (h4 : (apos.endLine == pos.line) = true) :
    PE X (.Call (.Attribute o m apos) [] [] pos) (fun st H Q => ta st H fun x H1 => ∃ a dx fs, x = .ref a ∧ H1 a = some (.ins C dx fs) ∧ fs.lookup m = none ∧ sp ([x] ++ dvs) H1 Q (E st)) := by
  refine ⟨fun pins s st H Q I h => ?_⟩
  refine PySem.W.methodCall_KW (thn (he.run pins s st H _ I h) fun u s1 ⟨x, H1, I1, rx, a, dx, fs, ex, ea, l, q⟩ => ?_) (meth_eval rfl (by decide) h3 h4)
  subst ex
  have eu : u = Value.ref a := rx
  subst eu
  refine getmeth_ok I1 ea c hm l ?_
  exact PySem.W.callWith_K0 (first := [.ref a]) I1.kIn hm.kp (run_fnG (us := [.ref a]) (vs := [.ref a]) F hgd hr hb hd (hx st) I1 (.cons rfl .nil) q)
/-- a new instance and its __init__ -/
theorem run_mkS {pins : List (Addr × Obj)} {st : L2.St} {H : Hp} {s : Shared} {Q : VK} {us : List Value} {vs : List V} {E : XK} (M : Mk X.K C f) (F : FnG X.prog X.w X.K X.mg X.base gd k f fd ps sp) (hgd : gd = true → X.A.guards = some []) (hr : Room (k + 1) X.A)
    (hb : Binds X.K fd ps ds) (hd : Vals dvs ds) (hx : PassesAt (L2.CX X.prog X.w) X st E) (I : Inv X pins st H s) (r : Vals vs us)
    (h : ∀ x dx, H x = none → H dx = none → dx ≠ x → sp ((.ref x :: vs) ++ dvs) (upd (upd H dx (.own x)) x (.ins C dx [])) (fun v H2 => v = .non ∧ Q (.ref x) H2) E) :
    wpAny (model X.prog X.w) X.A (call (.ref C) us) (EP X pins st Q) X.xe s := by
  have n0 : H (s.heap.objs.size + 1) = none := I.hok.fresh (Nat.le_succ _)
  have n1 : H s.heap.objs.size = none := I.hok.fresh (Nat.le_refl _)
  have hq := h _ _ n0 n1 (Nat.ne_of_lt (Nat.lt_succ_self _))
  have J := Inv.made (C := C) I
  have rs : Vals ((V.ref (s.heap.objs.size + 1) :: vs) ++ dvs) ((Value.ref (s.heap.objs.size + 1) :: us) ++ ds) := Vals.append (.cons rfl r) hd
  have hl : ((Value.ref (s.heap.objs.size + 1) :: us) ++ ds).length = ps.length := by
    have e := rs.length
    rw [F.len _ _ _ _ hq] at e
    exact e.symm
  have body := F.run _ X.stack _ _ ⟨Value.ref (s.heap.objs.size + 1) :: us, []⟩ _ _ _ E (hr.make C us []) (fun z => guards_make (hgd z)) (J.env0.make C us []) (hb _ (Value.ref (s.heap.objs.size + 1) :: us) J.kIn hl) rs hq
  refine wpAny_call (make_map (f := f) I.kIn M.makes M.init (beq_iff_eq.mp M.fn) (codeAny_mono body fun res s' hres => ?_))
  cases res with
  | error e =>
    exact hx pins _ _ e s' J hres
  | ok fl =>
    cases fl with
    | ret u =>
      obtain ⟨v, H', J', rv, ev, q'⟩ := J.after hres
      subst ev
      exact ⟨rv, ⟨V.ref (s.heap.objs.size + 1), H', J', rfl, q'⟩⟩
    | next => exact False.elim hres
    | brk => exact False.elim hres
    | cont => exact False.elim hres
end
end Tw
set_option maxHeartbeats 4000000
namespace Tw
open PySem L2

section
variable {cA : CA} {X : Cx} {N : List Str} {sc : Scope} {W : WX}
variable {D : Defs} {M : Nms} {fA : Nat → Addr} {fdA : Nat → FuncData} {psA : Nat → List Str} {k : Nat} {cf : CF}

/-- how the arguments of a call with n written ones come to the def -/
structure Fills (X : Cx) (D : Defs) (cA : CA) (fdA : Nat → FuncData) (psA : Nat → List Str) (f n : Nat) (d : FD) (ds : List Value) (dvs : List V) : Prop where
  b : Binds X.K (fdA f) (psA f) ds
  v : Vals dvs ds
  len : n + dvs.length = d.np
  fill : ∀ (al : List Addr) (G : Hp) (ys : List VV) (vs : List V), ys.length = n → RepVs cA al G ys vs → RepVs cA al G (fill D f ys) (vs ++ dvs)
def fillOk (D : Defs) (f n : Nat) : Bool := match D.fn f with
  | some d => decide (n ≤ d.np) && decide (d.np ≤ n + (D.dfl f).length)
  | none => false
theorem fills_of (F : PfX X D M cA fA fdA psA k cf) {f n : Nat} {d : FD} (hd : D.fn f = some d) (h : fillOk D f n = true) : ∃ ds dvs, Fills X D cA fdA psA f n d ds dvs := by
  unfold fillOk at h
  rw [hd] at h
  simp only [Bool.and_eq_true, decide_eq_true_eq] at h
  obtain ⟨h1, h2⟩ := h
  by_cases e : n = d.np
  · subst e
    refine ⟨[], [], F.bd f d hd, .nil, by simp, fun al G ys vs hl r => ?_⟩
    unfold fill
    rw [hd]
    simp only
    rw [if_neg (by omega), List.append_nil]
    exact r
  · obtain ⟨ds, vs, hb, hv, hr⟩ := F.bdd f d (d.np - n) hd (by omega) (by omega)
    have hz := (hr (fun _ => none)).length
    rw [List.length_drop] at hz
    refine ⟨ds, vs, hb, hv, by omega, fun al G ys us hl r => ?_⟩
    unfold fill
    rw [hd]
    simp only
    rw [if_pos (by omega), hl]
    exact r.append (.ofL (hr G))

theorem spF_of {al : List Addr} {G H : Hp} {st : L2.St} {s : Store} {Q : VK} {f : Nat} {d : FD} {ys : List VV} {vs : List V} (r : Rl cA al G s H) (q : RepVs cA al G ys vs) (hl : vs.length = d.np)
    (p : Po cA W al G st (kV cA Q) (cf f ys s)) : spF cA cf f d.np vs H Q (WE W st) := ⟨al, G, ys, s, r, q, hl, PoC.of p⟩

theorem TAv.goE {al : List Addr} {G H : Hp} {st : L2.St} {β : Type} {loc : Loc} {s : Store} {m : Loc → Store → Out (List VV)} {f : List VV → Store → Out β} {k : β → Store → List Addr → Hp → Hp → Prop} {Q' : List V → Hp → Prop}
    (r : Rl cA al G s H) (S : RepS cA al G loc st) (h : Po cA W al G st k ((m loc s).bind f))
    (c : ∀ y s1 al1 G1 H1 v, m loc s = .ok y s1 → Xt al G al1 G1 → Rl cA al1 G1 s1 H1 → RepS cA al1 G1 loc st → RepVs cA al1 G1 y v → Po cA W al1 G1 st k (f y s1) → Q' v H1) : TAv cA W m st H Q' := by
  refine ⟨al, G, loc, s, r, S, ?_⟩
  have b := h.bind
  cases hm : m loc s with
  | bad => rw [hm] at b; exact b
  | ex e s1 => rw [hm] at b; exact b
  | ok y s1 =>
    rw [hm] at b
    exact fun al1 G1 H1 x r1 v q => c y s1 al1 G1 H1 v hm x r1 (S.mono x) q (b al1 G1 H1 x r1)

theorem s_cal (F : PfX X D M cA fA fdA psA k cf) (c : Cok X N sc W) {f n : Nat} {x : Str} {es : List Expr} {ms : Loc → Store → Out (List VV)} {p pos : Pos} (hf : M.fnm f = some x) (hg : glB sc x = true) (hn : fillOk D f n = true)
    (ha : PA X es (TAv cA W ms)) (hs : es.all notStar = true) (hl : ∀ loc s ys s', ms loc s = .ok ys s' → ys.length = n) (he : es = [] → ∀ loc s, ms loc s = .ok [] s) :
    PE X (.Call (.Name x p) es [] pos) (TEv cA W fun loc s => (ms loc s).bind fun ys s1 => cf f (fill D f ys) s1) := by
  obtain ⟨g, dd, _⟩ := gl_of c hg
  obtain ⟨hm, hk⟩ := F.gf f x hf
  cases hd : D.fn f with
  | none => unfold fillOk at hn; rw [hd] at hn; cases hn
  | some d =>
    obtain ⟨ds, dvs, fl⟩ := fills_of F hd hn
    have fin : ∀ {al : List Addr} {G H : Hp} {st : L2.St} {s : Store} {Q : VK} {ys : List VV} {vs : List V}, Rl cA al G s H → ys.length = n → RepVs cA al G ys vs →
        Po cA W al G st (kV cA Q) (cf f (fill D f ys) s) → spF cA cf f d.np (vs ++ dvs) H Q (WE W st) := fun {al G H st s Q ys vs} r hy q pp => by
      refine spF_of r (fl.fill al G ys vs hy q) ?_ pp
      rw [List.length_append, q.length, hy]; exact fl.len
    cases es with
    | nil =>
      refine pe_weak (pe_call0D (F.fn f d hd) F.gd (F.room.mono (by omega)) g hm hk fl.b fl.v (fun st => passAt c.tk st) dd) fun st H Q q => ?_
      obtain ⟨al, G, loc, s, r, S, pp⟩ := q
      have e0 := he rfl loc s
      simp only [e0] at pp
      exact fin (ys := []) (vs := []) r (hl loc s [] s e0) rfl pp
    | cons e es =>
      rw [List.all_cons, Bool.and_eq_true] at hs
      refine pe_weak (pe_callG (F.fn f d hd) F.gd (F.room.mono (by omega)) g hm hk fl.b fl.v (fun st => passAt c.tk st) ha dd (by simp [hs.1, hs.2])) fun st H Q q => ?_
      obtain ⟨al, G, loc, s, r, S, pp⟩ := q
      exact TAv.goE r S pp fun ys s1 al1 G1 H1 vs hms x1 r1 S1 rv p1 => fin r1 (hl loc s ys s1 hms) rv p1
theorem s_mth (F : PfX X D M cA fA fdA psA k cf) (c : Cok X N sc W) {C n g : Nat} {o : Expr} {m : Str} {es : List Expr} {mo : Loc → Store → Out VV} {ms : Loc → Store → Out (List VV)} {apos pos : Pos} (hom : D.om C m = some g) (hf : M.fnm g = none)
    (hn : fillOk D g (n + 1) = true) (ho : PE X o (TEv cA W mo)) (ha : PA X es (TAv cA W ms)) (hs : es.all notStar = true) (h29 : es.length < 29) (hsup : notSuper o = true) (hline : (apos.endLine == pos.line) = true)
    (hl : ∀ loc s ys s', ms loc s = .ok ys s' → ys.length = n) (he : es = [] → ∀ loc s, ms loc s = .ok [] s) :
    PE X (.Call (.Attribute o m apos) es [] pos) (TEv cA W fun loc s => (mo loc s).bind fun y s1 => match mthOk D C m y s1 with
      | some g => (ms loc s1).bind fun ys s2 => cf g (fill D g (y :: ys)) s2
      | none => .bad) := by
  obtain ⟨hc, hm⟩ := F.mt C m g hom
  cases hd : D.fn g with
  | none => unfold fillOk at hn; rw [hd] at hn; cases hn
  | some d =>
    obtain ⟨ds, dvs, fl⟩ := fills_of F hd hn
    have fin : ∀ {al : List Addr} {G H : Hp} {st : L2.St} {s : Store} {Q : VK} {ys : List VV} {vs : List V}, Rl cA al G s H → ys.length = n + 1 → RepVs cA al G ys vs →
        Po cA W al G st (kV cA Q) (cf g (fill D g ys) s) → spF cA cf g d.np (vs ++ dvs) H Q (WE W st) := fun {al G H st s Q ys vs} r hy q pp => by
      refine spF_of r (fl.fill al G ys vs hy q) ?_ pp
      rw [List.length_append, q.length, hy]; exact fl.len
    cases es with
    | nil =>
      refine pe_weak (pe_methS0 ho hc hm (F.fn g d hd) F.gd (F.room.mono (by omega)) fl.b fl.v (fun st => passAt c.tk st) hsup hline) fun st H Q q => ?_
      obtain ⟨al, G, loc, s, r, S, pp⟩ := q
      refine TEv.go r S pp fun y s1 al1 G1 H1 v x1 r1 S1 rv p1 => ?_
      split at p1
      · rename_i g' hg
        obtain ⟨fs, h1, h2, hz2⟩ := mthOk_of D hg
        rw [hom] at h2
        cases h2
        · skip
          have e0 := he rfl loc s1
          simp only [e0] at p1
          obtain ⟨b, dx, gs, rfl, hb, rb⟩ := r1.sees rv h1
          refine ⟨b, dx, gs, rfl, hb, rb.lookup_none hz2, ?_⟩
          exact fin (ys := [y]) (vs := [V.ref b]) r1 (by have := hl loc s1 [] s1 e0; simp at this; simp [← this]) ⟨_, _, rfl, rv, rfl⟩ p1
      · exact p1.elim
    | cons e es =>
      refine pe_weak (pe_methS ho hc hm (F.fn g d hd) F.gd (F.room.mono (by omega)) fl.b fl.v (fun st => passAt c.tk st) ha hs h29 hsup hline) fun st H Q q => ?_
      obtain ⟨al, G, loc, s, r, S, pp⟩ := q
      refine TEv.go r S pp fun y s1 al1 G1 H1 v x1 r1 S1 rv p1 => ?_
      split at p1
      · rename_i g' hg
        obtain ⟨fs, h1, h2, hz2⟩ := mthOk_of D hg
        rw [hom] at h2
        cases h2
        · skip
          obtain ⟨b, dx, gs, rfl, hb, rb⟩ := r1.sees rv h1
          refine ⟨b, dx, gs, rfl, hb, rb.lookup_none hz2, ?_⟩
          exact TAv.goE r1 S1 p1 fun ys s2 al2 G2 H2 vs hms x2 r2 S2 rvs p2 => fin (ys := y :: ys) (vs := V.ref b :: vs) r2 (by rw [List.length_cons, hl loc s1 ys s2 hms]) ⟨_, _, rfl, rv.mono x2, rvs⟩ p2
      · exact p1.elim

/-! ### a new instance -/
theorem pe_mkS {C f : Addr} {k : Nat} {fd : FuncData} {ps : List Str} {sp : Sp} {dvs : List V} {ds : List Value} {E : L2.St → XK} {x : Str} {p pos : Pos} {e : Expr} {es : List Expr} {t : TA} {gd : Bool} (Mm : Mk X.K C f) (F : FnG X.prog X.w X.K X.mg X.base gd k f fd ps sp) (hgd : gd = true → X.A.guards = some []) (hr : Room (k + 1) X.A)
    (hg : Gl X x) (hm : X.mg x = some (.ref C)) (hb : Binds X.K fd ps ds) (hd : Vals dvs ds) (hx : ∀ st, PassesAt (L2.CX X.prog X.w) X st (E st)) (ha : PA X (e :: es) t) (hdb : (x == ("__debug__" : Str)) = false) (hs : (e :: es).all notStar = true) :
    PE X (.Call (.Name x p) (e :: es) [] pos) (fun st H Q => t st H fun vs H1 => ∀ y dx, H1 y = none → H1 dx = none → dx ≠ y → sp ((.ref y :: vs) ++ dvs) (upd (upd H1 dx (.own y)) y (.ins C dx [])) (fun v H2 => v = .non ∧ Q (.ref y) H2) (E st)) := by
  refine ⟨fun pins s st H Q I h => ?_⟩
  rw [List.all_cons, Bool.and_eq_true] at hs
  refine PySem.wpAny_Call_Name_kw (ld_glob I hg hm ?_ hdb)
  refine PySem.W.callWith_K (first := []) (h₀ := X.base) I.ok.mod.kin Mm.kp (thn (ha.run pos pins s st H _ I h) fun us s1 ⟨vs, H1, I1, r, q⟩ => ⟨I1.kIn, ?_⟩) (star_cons hs.1) (plain_back hs.2)
  exact run_mkS Mm F hgd hr hb hd (hx st) I1 r q
theorem s_mk (F : PfX X D M cA fA fdA psA k cf) (c : Cok X N sc W) {C n f : Nat} {x : Str} {e : Expr} {es : List Expr} {ms : Loc → Store → Out (List VV)} {p pos : Pos} (hi : D.ini C = some f) (hx : M.cnm C = some x) (hg : glB sc x = true)
    (hn : fillOk D f (n + 1) = true) (ha : PA X (e :: es) (TAv cA W ms)) (hs : (e :: es).all notStar = true) (hl : ∀ loc s ys s', ms loc s = .ok ys s' → ys.length = n) :
    PE X (.Call (.Name x p) (e :: es) [] pos) (TEv cA W fun loc s => (ms loc s).bind fun ys s1 => match D.ini C with
      | some f => (cf f (fill D f (.c s1.length :: ys)) (s1 ++ [.ins C []])).bind fun y s2 => mkEnd s1.length y s2
      | none => .bad) := by
  obtain ⟨g, dd, _⟩ := gl_of c hg
  obtain ⟨hm, hM⟩ := F.gc C x f hx hi
  cases hd : D.fn f with
  | none => unfold fillOk at hn; rw [hd] at hn; cases hn
  | some d =>
    obtain ⟨ds, dvs, fl⟩ := fills_of F hd hn
    refine pe_weak (pe_mkS hM (F.fn f d hd) F.gd (F.room.mono (by omega)) g hm fl.b fl.v (fun st => passAt c.tk st) ha dd hs) fun st H Q q => ?_
    obtain ⟨al, G, loc, s, r, S, pp⟩ := q
    refine TAv.goE r S pp fun ys s1 al1 G1 H1 vs hms x1 r1 S1 rv p1 => ?_
    intro y dx ny ndx nex
    rw [hi] at p1
    simp only at p1
    have hsl : s1.length = al1.length := r1.len.symm
    have r2 : Rl cA al1 G1 s1 (upd H1 dx (.own y)) := r1.newX ndx
    have ny2 : (upd H1 dx (.own y)) y = none := by rw [upd_ne (Ne.symm nex)]; exact ny
    have r3 : Rl cA (al1 ++ [y]) G1 (s1 ++ [.ins C []]) (upd (upd H1 dx (.own y)) y (.ins (cA C) dx [])) :=
      r2.newC ny2 ⟨r1.gnone ny, dx, [], upd_same, by unfold RepF; rfl⟩
    have x3 : Xt al1 G1 (al1 ++ [y]) G1 := ⟨⟨[y], rfl⟩, Sb.rfl'⟩
    have args : RepVs cA (al1 ++ [y]) G1 (.c s1.length :: ys) (.ref y :: vs) := ⟨_, _, rfl, ⟨y, by rw [hsl]; simp, rfl⟩, rv.mono x3⟩
    have a2 := fl.fill _ _ _ _ (by rw [List.length_cons, hl loc s ys s1 hms]) args
    refine ⟨al1 ++ [y], G1, _, _, r3, a2, ?_, ?_⟩
    · have := a2.length
      rw [List.length_append, List.length_cons, rv.length, hl loc s ys s1 hms]
      have := fl.len
      omega
    · cases hc : cf f (fill D f (.c s1.length :: ys)) (s1 ++ [.ins C []]) with
      | bad => rw [hc] at p1; exact p1.elim
      | ex e s2 =>
        rw [hc] at p1
        exact fun al' G' H' cl d x' r' q' => p1 al' G' H' cl d (x3.trans x') r' q'
      | ok z s2 =>
        rw [hc] at p1
        have p2 : Po cA W al1 G1 st (kV cA Q) (mkEnd s1.length z s2) := p1
        unfold mkEnd at p2
        intro al' G' H' v x' r' q'
        obtain ⟨⟨l2, el⟩, sb⟩ := x'
        subst el
        rw [List.append_assoc] at r'
        split at p2
        · refine ⟨by unfold RepV Rep at q'; exact q', ?_⟩
          cases hf : finT s1.length s1.length s2 with
          | bad => rw [hf] at p2; exact p2.elim
          | ex e s3 => unfold finT at hf; split at hf <;> cases hf
          | ok y' s3 =>
            rw [hf] at p2
            obtain ⟨G'', sb'', r'', q''⟩ := finT_ok hsl r' hf (v := .ref y) ⟨y, by rw [hsl]; simp, rfl⟩ (by omega)
            exact p2 al1 G'' H' (Xt.ofSb (sb.trans sb'')) r'' _ q''
        · exact p2.elim
end
end Tw
set_option maxHeartbeats 4000000
/-! ## operators of own classes -/
namespace PySem.W
open PySem PySem.Calls PyProof.Rows
section
variable {prog : Program} {w : World} {A : Around} {E : Value → Shared → Prop} {s : Shared} {K : Frag} {x y C f : Addr} {ox oy : Obj} {od od' : Option Obj}
/-- x op y of two instances of one class -/
theorem tw_bin2 {op : Operator} {Q : Value → Shared → Prop} (X : K.In s.heap) (I : InstAt s.heap x ox C od) (I' : InstAt s.heap y oy C od') (hc : selfFirst K C = true)
    (hs : findIn K (.ref C) (PySem.dunder op.info.2) = some (some (.ref f))) (hf : isFn K (.ref f) = true)
    (h : wpAny (model prog w) A (call (.ref f) [.ref x, .ref y]) (CmpBack Q) E s) : wpAny (model prog w) A (binaryOp op (.ref x) (.ref y)) Q E s := by
  obtain ⟨cd, rest, hcd, hm⟩ := ksp_first hc
  rcases hi : op.info with ⟨sym, nm'⟩
  rw [hi] at hs
  dsimp only at hs
  have one := ksp_try X I hs hf h
  obtain ⟨hh, g, d, tt, os⟩ := s
  have L1 : Looks (model prog w) hh (typeOf (.ref x)) (.ref C) := I.type
  have L2 : Looks (model prog w) hh (typeOf (.ref y)) (.ref C) := I'.type
  have L3 : Looks (model prog w) hh (fillsNumberSlot (.ref C) nm') true := fills_K X hcd hm hs
  have heq : (Value.ref C == Value.ref C) = true := by simp
  simp only [binaryOp, hi]
  refine wpAny_holding (wpAny_bind ?_)
  unfold binaryOp1
  refine wpAny_bind (L1.at (wpAny_bind (L2.at (wpAny_bind (L3.at ?_)))))
  simp only [heq, if_true]
  ksp_lk
  refine wpAny_mono one (fun r s' hr' => ?_) fun _ _ e => e
  obtain ⟨v, rfl, hq⟩ := hr'
  ksp_lk
  exact hq
/-- int op instance: the int declines, the class's own reflected def answers -/
theorem tw_rbin {op : Operator} {i : Int} {t : Tok} {idl : String} {Q : Value → Shared → Prop} (X : K.In s.heap) (I : InstAt s.heap x ox C od) (hc : selfFirst K C = true)
    (hs0 : ∃ g : Addr, findIn K (.ref C) (PySem.dunder op.info.2) = some (some (.ref g)))
    (hs : findIn K (.ref C) (dunderR op.info.2) = some (some (.ref f))) (hf : isFn K (.ref f) = true) (hsub : mroIn K C (.type "int") = some false) (hl : PySem.Slot "int" (PySem.dunder op.info.2) idl)
    (fT : fillsNumberSlot (.type "int") op.info.2 = pure true)
    (hd : ∀ Q' : Value → Shared → Prop, Q' .notImplemented s → wpAny (model prog w) A (call (.builtin idl) [.int i t, .ref x]) Q' E s)
    (h : wpAny (model prog w) A (call (.ref f) [.ref x, .int i t]) (CmpBack Q) E s) : wpAny (model prog w) A (binaryOp op (.int i t) (.ref x)) Q E s := by
  obtain ⟨cd, rest, hcd, hm⟩ := ksp_first hc
  obtain ⟨g0, hs0⟩ := hs0
  rcases hi : op.info with ⟨sym, nm'⟩
  rw [hi] at hs hs0 hl fT
  dsimp only at hs hs0 hl fT
  have one := ksp_try X I hs hf h
  have L1 : Looks (model prog w) s.heap (typeOf (.int i t)) (.type "int") := Looks.of_pure rfl
  have L2 : Looks (model prog w) s.heap (typeOf (.ref x)) (.ref C) := I.type
  have L3 : Looks (model prog w) s.heap (fillsNumberSlot (.type "int") nm') true := Looks.of_pure fT
  have L4 : Looks (model prog w) s.heap (fillsNumberSlot (.ref C) nm') true := fills_K X hcd hm hs0
  have L5 : Looks (model prog w) s.heap (isSubtype (.ref C) (.type "int")) false := looks_mroIn X hsub
  have hne : (Value.type "int" == Value.ref C) = false := Bool.eq_false_iff.mpr fun q => by cases beq_iff_eq.mp q
  have hpy : numberSlotInPython (.type "int") nm' = pure false := rfl
  simp only [binaryOp, hi]
  refine wpAny_holding (wpAny_bind ?_)
  unfold binaryOp1
  refine wpAny_bind (L1.here (wpAny_bind (L2.here (wpAny_bind (L3.here ?_)))))
  simp only [hne, Bool.false_eq_true, if_false]
  refine wpAny_bind (L4.here ?_)
  simp only [Bool.and_self, if_true]
  refine wpAny_bind (L5.here ?_)
  simp only [Bool.false_eq_true, if_false, pure_bind, Bool.not_false, Bool.and_self, if_true, hpy]
  refine wpAny_bind (m := tryMethod (.int i t) _ (.ref x)) ?_
  · unfold tryMethod
    refine wpAny_bind (wpAny_callSpecial?_slot (typeIs_int s i t) hl (hd _ ?_))
    refine wpAny_pure ?_
    refine wpAny_bind (wpAny_mono one (fun r s' hr' => ?_) fun _ _ e => e)
    obtain ⟨v, rfl, hq⟩ := hr'
    exact wpAny_bind (wpAny_rule (wpAny_pure (wpAny_pure hq)))
open PySem.SeqAt in
theorem tw_int_add_dec (b : Int) (u : Tok) (l : Addr) (c : Value) (dd : Option Addr) (sl : Array (Option Value)) :
    Meets (Builtin.«int.__add__» ⟨[.int b u, .ref l], []⟩) (fun _ R s => s.heap.get? l = some { cls := c, dict := dd, data := .plain, slots := sl } ∧ R (.ok (.ret .notImplemented)) s) :=
  .of_wp fun prog w A R s h => by obtain ⟨hp, g, d, tk, os⟩ := s; obtain ⟨hl, h⟩ := h; wp_walk using AutoSeq1.wpAny_loadPart' hl, wpAny_load hl; exact ⟨_, rfl, h⟩
theorem tw_int_sub_dec (b : Int) (u : Tok) (l : Addr) (c : Value) (dd : Option Addr) (sl : Array (Option Value)) :
    Meets (Builtin.«int.__sub__» ⟨[.int b u, .ref l], []⟩) (fun _ R s => s.heap.get? l = some { cls := c, dict := dd, data := .plain, slots := sl } ∧ R (.ok (.ret .notImplemented)) s) :=
  .of_wp fun prog w A R s h => by obtain ⟨hp, g, d, tk, os⟩ := s; obtain ⟨hl, h⟩ := h; wp_walk using AutoSeq1.wpAny_loadPart' hl, wpAny_load hl; exact ⟨_, rfl, h⟩
theorem tw_int_mul_dec (b : Int) (u : Tok) (l : Addr) (c : Value) (dd : Option Addr) (sl : Array (Option Value)) :
    Meets (Builtin.«int.__mul__» ⟨[.int b u, .ref l], []⟩) (fun _ R s => s.heap.get? l = some { cls := c, dict := dd, data := .plain, slots := sl } ∧ R (.ok (.ret .notImplemented)) s) :=
  .of_wp fun prog w A R s h => by obtain ⟨hp, g, d, tk, os⟩ := s; obtain ⟨hl, h⟩ := h; wp_walk using AutoSeq1.wpAny_loadPart' hl, wpAny_load hl; exact ⟨_, rfl, h⟩
end
end PySem.W
namespace Tw
open PySem PySem.Spec PyProof.Rows L2
section
variable {cA : CA} {X : Cx} {N : List Str} {sc : Scope} {W : WX}
variable {D : Defs} {M : Nms} {fA : Nat → Addr} {fdA : Nat → FuncData} {psA : Nat → List Str} {k : Nat} {cf : CF}
theorem omN_of {c n g : Nat} {m : Str} (h : omN D c m n = some g) : D.own c = true ∧ D.om c m = some g ∧ ∃ d, D.fn g = some d ∧ d.np = n := by
  unfold omN at h
  split at h
  · rename_i h1
    split at h
    · rename_i g' h2
      split at h
      · rename_i d h3
        split at h
        · rename_i h4
          cases h
          exact ⟨h1, h2, d, h3, h4⟩
        · cases h
      · cases h
    · cases h
  · cases h
/-- a def is called with n values -/
theorem call_own (F : PfX X D M cA fA fdA psA k cf) (c : Cok X N sc W) {g n : Nat} {d : FD} {al : List Addr} {G H : Hp} {st : L2.St} {s : Store} {pins : List (Addr × Obj)} {sh : Shared} {Q : VK} {ys : List VV} {vs : List V} {us : List Value}
    (hd : D.fn g = some d) (hn : d.np = n) (I : Inv X pins st H sh) (r : Rl cA al G s H) (q : RepVs cA al G ys vs) (hl : vs.length = n) (rv : Vals vs us) (p : Po cA W al G st (kV cA Q) (cf g ys s)) :
    wpAny (model X.prog X.w) X.A (call (.ref (fA g)) us) (PySem.W.CmpBack (EP X pins st Q)) X.xe sh := by
  have sp := spF_of r q (d := d) (by rw [hl, hn]) p
  refine wpAny_mono (run_fnG (ds := []) (dvs := []) (E := WE W) (F.fn g d hd) F.gd (F.room.mono (by omega)) (F.bd g d hd) .nil (passAt c.tk st) I rv (by rw [List.append_nil]; exact sp)) (fun v s' z => ?_) fun _ _ e => e
  obtain ⟨z', H', I', rz, qz⟩ := z
  exact SlX.cmpback rz ⟨z', H', I', rz, qz⟩
theorem ops_of {ci g : Nat} {o : Operator} (h : omN D ci (opNm o) 2 = some g) (h0 : D.om ci Str.empty = none) : o.info.2 ∈ ["add", "sub", "mul"] ∧ opNm o = PySem.dunder o.info.2 ∧ opRNm o = dunderR o.info.2 := by
  obtain ⟨_, h2, _⟩ := omN_of h
  cases o <;> first
    | (rw [show opNm _ = Str.empty from rfl, h0] at h2; cases h2; done)
    | exact ⟨by decide, by decide +kernel, by decide +kernel⟩
theorem opsR_of {ci g : Nat} {o : Operator} (h : omN D ci (opRNm o) 2 = some g) (h0 : D.om ci Str.empty = none) : o.info.2 ∈ ["add", "sub", "mul"] ∧ opNm o = PySem.dunder o.info.2 ∧ opRNm o = dunderR o.info.2 ∧
    ∀ (i : Int) (t : Tok) (l C dx : Addr) (A : Around) (P : Program) (w : World) (E : Value → Shared → Prop) (s : Shared), s.heap.get? l = some (PySem.W.instObj C dx) → ∃ idl, PySem.Slot "int" (PySem.dunder o.info.2) idl ∧ fillsNumberSlot (.type "int") o.info.2 = pure true ∧
      ∀ Q' : Value → Shared → Prop, Q' .notImplemented s → wpAny (model P w) A (call (.builtin idl) [.int i t, .ref l]) Q' E s := by
  obtain ⟨_, h2, _⟩ := omN_of h
  cases o <;> first
    | (rw [show opRNm _ = Str.empty from rfl, h0] at h2; cases h2; done)
    | exact ⟨by decide, by decide +kernel, by decide +kernel, fun i t l C dx A P w E s hl => ⟨_, PySem.F.slot_int_add, PySem.F.fills_int_add, fun Q' hq => call_meets PySem.F.slot_int_add (typeIs_int s i t) PySem.F.entry_int_add (PySem.F.args_int_add_2 _ _) (PySem.W.tw_int_add_dec i t l _ _ _) ⟨hl, hq⟩⟩⟩
    | exact ⟨by decide, by decide +kernel, by decide +kernel, fun i t l C dx A P w E s hl => ⟨_, PySem.F.slot_int_sub, PySem.F.fills_int_sub, fun Q' hq => call_meets PySem.F.slot_int_sub (typeIs_int s i t) PySem.F.entry_int_sub (PySem.F.args_int_sub_2 _ _) (PySem.W.tw_int_sub_dec i t l _ _ _) ⟨hl, hq⟩⟩⟩
    | exact ⟨by decide, by decide +kernel, by decide +kernel, fun i t l C dx A P w E s hl => ⟨_, PySem.F.slot_int_mul, PySem.F.fills_int_mul, fun Q' hq => call_meets PySem.F.slot_int_mul (typeIs_int s i t) PySem.F.entry_int_mul (PySem.F.args_int_mul_2 _ _) (PySem.W.tw_int_mul_dec i t l _ _ _) ⟨hl, hq⟩⟩⟩
theorem own_bin (F : PfX X D M cA fA fdA psA k cf) (c : Cok X N sc W) {o : Operator} {al : List Addr} {G H : Hp} {st : L2.St} {s : Store} {pins : List (Addr × Obj)} {sh : Shared} {Q : VK} {y z : VV} {a b : T} {v u : V} {x1 x2 : Value}
    (I : Inv X pins st H sh) (r : Rl cA al G s H) (rv : RepV cA al G y v) (ru : RepV cA al G z u) (h1 : rd s y = some a) (h2 : rd s z = some b) (e1 : RelV v x1) (e2 : RelV u x2) (p : Po cA W al G st (kV cA Q) (ownBin D cf o a b y z s)) :
    wpAny (model X.prog X.w) X.A (binaryOp o x1 x2) (EP X pins st Q) X.xe sh := by
  unfold ownBin at p
  split at p
  · rename_i ci fs ci' fs'
    split at p
    · rename_i hcc
      subst hcc
      split at p
      · rename_i g hg
        obtain ⟨ho, hom, d, hd, hn⟩ := omN_of hg
        have ow := F.ow ci ho
        obtain ⟨hmem, hnm, _⟩ := ops_of hg (F.oe ci)
        obtain ⟨hcl, hme⟩ := F.mt ci _ g hom
        obtain ⟨xa, dx, gs, rfl, hb, rb⟩ := r.sees rv h1
        obtain ⟨xb, dx', gs', rfl, hb', rb'⟩ := r.sees ru h2
        cases e1
        cases e2
        obtain ⟨mA, O, _⟩ := ins_get I.hok hb
        obtain ⟨mB, O', _⟩ := ins_get I.hok hb'
        obtain ⟨od, J, _⟩ := O.look
        obtain ⟨od', J', _⟩ := O'.look
        exact PySem.W.tw_bin2 I.kIn J J' ow.first (by rw [← hnm]; exact hme.at_) hme.fn (call_own F c hd hn I r (ys := [y, z]) (vs := [.ref xa, .ref xb]) ⟨_, _, rfl, rv, _, _, rfl, ru, rfl⟩ rfl (.cons rfl (.cons rfl .nil)) p)
      · exact p.elim
    · exact p.elim
  · rename_i ci fs j
    split at p
    · rename_i g hg
      obtain ⟨ho, hom, d, hd, hn⟩ := omN_of hg
      have ow := F.ow ci ho
      obtain ⟨hmem, hnm, hnr⟩ := ops_of hg (F.oe ci)
      obtain ⟨hcl, hme⟩ := F.mt ci _ g hom
      obtain ⟨xa, dx, gs, rfl, hb, rb⟩ := r.sees rv h1
      have eu := seesI (r.sees ru h2)
      subst eu
      cases e1
      obtain ⟨t, rfl⟩ := (show ∃ t, x2 = Value.int j t from e2)
      obtain ⟨mA, O, _⟩ := ins_get I.hok hb
      obtain ⟨od, J, _⟩ := O.look
      obtain ⟨m, hF⟩ := I.fr
      obtain ⟨rc, hrc, hrp⟩ := ow.ra _ hmem
      obtain ⟨fo, ro, hfo, hro⟩ := ow.ia _ hmem
      exact PySem.W.ksp_binT hF I.ok.mod.kin J rfl ow.first (by rw [← hnm]; exact hme.at_) hme.fn hrc hrp hfo hro (ow.sub "int" (by decide)) (call_own F c hd hn I r (ys := [y, z]) (vs := [.ref xa, .int j]) ⟨_, _, rfl, rv, _, _, rfl, ru, rfl⟩ rfl (.cons rfl (.cons ⟨t, rfl⟩ .nil)) p)
    · exact p.elim
  · rename_i j ci fs
    split at p
    · rename_i g hg
      obtain ⟨ho, hom, d, hd, hn⟩ := omN_of hg
      have ow := F.ow ci ho
      obtain ⟨hmem, hnm, hnr, dec⟩ := opsR_of hg (F.oe ci)
      obtain ⟨hcl, hme⟩ := F.mt ci _ g hom
      obtain ⟨xa, dx, gs, rfl, hb, rb⟩ := r.sees ru h2
      have eu := seesI (r.sees rv h1)
      subst eu
      cases e2
      obtain ⟨t, rfl⟩ := (show ∃ t, x1 = Value.int j t from e1)
      obtain ⟨mA, O, _⟩ := ins_get I.hok hb
      obtain ⟨od, J, _⟩ := O.look
      obtain ⟨idl, hsl, hft, hdec⟩ := dec j t xa (cA ci) dx X.A X.prog X.w X.xe sh O.obj
      exact PySem.W.tw_rbin I.kIn J ow.first (ow.both _ hmem _ (by rw [← hnr]; exact hme.at_)) (by rw [← hnr]; exact hme.at_) hme.fn ow.int hsl hft hdec (call_own F c hd hn I r (ys := [z, y]) (vs := [.ref xa, .int j]) ⟨_, _, rfl, ru, _, _, rfl, rv, rfl⟩ rfl (.cons rfl (.cons ⟨t, rfl⟩ .nil)) p)
    · exact p.elim
  · exact p.elim
/-! ### the rules -/
/-- an operator's two operands, as values of the little language -/
def rBin2 (cA : CA) (W : WX) (D : Defs) (cf : CF) (o : Operator) (x y : V) (st : L2.St) (H : Hp) (Q : VK) : Prop := ∃ al G s y' z', Rl cA al G s H ∧ RepV cA al G y' x ∧ RepV cA al G z' y ∧ Po cA W al G st (kV cA Q) (binV D cf o y' z' s)
theorem bin_run (F : PfX X D M cA fA fdA psA k cf) (c : Cok X N sc W) {o : Operator} {st : L2.St} {H : Hp} {pins : List (Addr × Obj)} {sh : Shared} {Q : VK} {v u : V} {x1 x2 : Value}
    (I : Inv X pins st H sh) (e1 : RelV v x1) (e2 : RelV u x2) (h : rBin2 cA W D cf o v u st H Q) : wpAny (model X.prog X.w) X.A (binaryOp o x1 x2) (EP X pins st Q) X.xe sh := by
  obtain ⟨al, G, s, y, z, r, rv, ru, p⟩ := h
  unfold binV at p
  split at p
  · rename_i tx ty h1 h2
    split at p
    · rename_i tz hz
      exact op_bin (cA := cA) o pins sh st H v u x1 x2 Q I e1 e2 ⟨G, tx, ty, tz, ⟨r.sub⟩, r.sees rv h1, r.sees ru h2, hz, Give.of p r⟩
    · exact own_bin F c I r rv ru h1 h2 e1 e2 p
  · exact p.elim
theorem s_bin (F : PfX X D M cA fA fdA psA k cf) (c : Cok X N sc W) {o : Operator} {a b : Expr} {ma mb : Loc → Store → Out VV} {pos : Pos} (ha : PE X a (TEv cA W ma)) (hb : PE X b (TEv cA W mb)) :
    PE X (.BinOp a o b pos) (TEv cA W fun loc s => (ma loc s).bind fun y s1 => (mb loc s1).bind fun z s2 => binV D cf o y z s2) := by
  refine ⟨fun pins s st H Q I h => ?_⟩
  obtain ⟨al, G, loc, s0, r, S, p⟩ := h
  refine wpAny_BinOp (binT ha hb (R := fun v u H2 => rBin2 cA W D cf o v u st H2 Q) I ?_ fun x1 x2 sh2 v u H2 I2 e1 e2 q => bin_run F c I2 e1 e2 q)
  refine TEv.go r S p fun y s1 al1 G1 H1 v x1 r1 S1 rv p1 => ?_
  exact TEv.go r1 S1 p1 fun z s2 al2 G2 H2 u x2 r2 S2 ru p2 => ⟨al2, G2, s2, y, z, r2, rv.mono x2, ru, p2⟩
theorem s_neg (F : PfX X D M cA fA fdA psA k cf) (c : Cok X N sc W) {a : Expr} {ma : Loc → Store → Out VV} {pos : Pos} (ha : PE X a (TEv cA W ma)) :
    PE X (.UnaryOp .USub a pos) (TEv cA W fun loc s => (ma loc s).bind fun y s1 => negV D cf y s1) := by
  refine ⟨fun pins s st H Q I h => ?_⟩
  obtain ⟨al, G, loc, s0, r, S, p⟩ := h
  refine UnaryOp_ (thn (ha.run pins s st H (fun v H1 => ∃ al1 G1 y s1, Rl cA al1 G1 s1 H1 ∧ RepV cA al1 G1 y v ∧ Po cA W al1 G1 st (kV cA Q) (negV D cf y s1)) I ?_) fun x1 sh1 ⟨v, H1, I1, e1, al1, G1, y, s1, r1, rv, p1⟩ => ?_)
  · exact TEv.go r S p fun y s1 al1 G1 H1 v x1 r1 S1 rv p1 => ⟨al1, G1, y, s1, r1, rv, p1⟩
  · unfold negV at p1
    split at p1
    · rename_i i h1
      exact un_neg pins sh1 st H1 v x1 Q I1 e1 ⟨i, seesI (r1.sees rv h1), p1.hereT r1 repI⟩
    · rename_i ci fs h1
      split at p1
      · rename_i g hg
        obtain ⟨ho, hom, d, hd, hn⟩ := omN_of hg
        obtain ⟨hcl, hme⟩ := F.mt ci _ g hom
        obtain ⟨xa, dx, gs, rfl, hb, rb⟩ := r1.sees rv h1
        cases e1
        obtain ⟨mA, O, _⟩ := ins_get I1.hok hb
        obtain ⟨od, J, _⟩ := O.look
        obtain ⟨m, hF⟩ := I1.fr
        refine PySem.W.ksp_neg hF I1.ok.mod.kin J hme.at_ hme.fn (wpAny_mono (call_own F c hd hn I1 r1 (ys := [y]) (vs := [.ref xa]) ⟨_, _, rfl, rv, rfl⟩ rfl (.cons rfl .nil) p1) (fun v s' z => ?_) fun _ _ e => e)
        cases v <;> first | exact z | exact z.elim
      · exact p1.elim
    · exact p1.elim
end
end Tw
set_option maxHeartbeats 4000000
/-! ## == and != of lists, tuples, instances -/
namespace Tw.Q
open PySem PySem.SeqAt
open AutoSeq1 (wpAny_loadPart')
open MeetsSeq MeetsSeq2 MeetsSeq3 SeqRoads2
section
variable {prog : Program} {w : World} {A : Around} {R : Result → Shared → Prop}
def LLook (l b : Addr) (N : Nat) (s : Shared) (P : Array Value → Array Value → Prop) : Prop :=
  ∃ (items items2 : Array Value) (n n2 : Nat), s.heap.get? l = some { cls := .type "list", data := .seq items n } ∧ s.heap.get? b = some { cls := .type "list", data := .seq items2 n2 } ∧ items.size = N ∧ items2.size = N ∧ P items items2
def Turn (prog : Program) (w : World) (A : Around) (E : Value → Shared → Prop) (I : Nat → Shared → Prop) (J : Shared → Prop) (i : Nat) (s : Shared) (items items2 : Array Value) : Prop :=
  ∀ (h1 : i < items.size) (h2 : i < items2.size), wpAny (model prog w) A.in1 (eqBool items[i] items2[i]) (fun r s' => (r = true ∧ I (i + 1) s') ∨ (r = false ∧ J s')) E s
theorem eq_loopE (l b : Addr) (N : Nat) (I : Nat → Shared → Prop) (J : Shared → Prop) (hl : ∀ i s, I i s → LLook l b N s (Turn prog w A (fun e s' => R (.error e) s') I J i s)) (hj : ∀ s, J s → LLook l b N s fun _ _ => True)
    (fin : ∀ s, I N s → R (.ok (.ret (.bool true))) s) (finJ : ∀ s, J s → R (.ok (.ret (.bool false))) s) (k : Nat) :
    ∀ i : Nat, N - i = k → i ≤ N → ∀ s, I i s →
      wpAny (model prog w) A.in1 (Builtin.«list.__eq__.loop» ⟨[.ref l, .ref b, rawInt i, rawInt 2], []⟩) (GQ.FinOf prog w A R) (fun e s' => R (.error e) s') s := by
  induction k with
  | zero =>
    intro i hk hi s h
    obtain ⟨items, items2, n, n2, hl1, hb1, hs1, hs2, _⟩ := hl _ _ h
    have hi' : i = N := by omega
    have hR : R (.ok (.ret (.bool true))) s := fin s (hi' ▸ h)
    obtain ⟨hp, g, d, tk, os⟩ := s
    wp_walk using wpAny_loadPart' hl1, wpAny_loadPart' hb1
    have hi1 : items[((i : Nat) : Int).toNat]? = none := by simp; omega
    have hi2 : items2[((i : Nat) : Int).toNat]? = none := by simp; omega
    rw [hi1, hi2]
    wp_walk using wpAny_loadPart' hl1, wpAny_loadPart' hb1
    show R (.ok (.ret (.bool (items.size == items2.size)))) _
    rw [hs1, hs2]
    simpa using hR
  | succ k ih =>
    intro i hk hi s h
    obtain ⟨items, items2, n, n2, hl1, hb1, hs1, hs2, turn⟩ := hl _ _ h
    have hlt : i < items.size := by omega
    have hlt2 : i < items2.size := by omega
    have ht := turn hlt hlt2
    obtain ⟨hp, g, d, tk, os⟩ := s
    wp_walk using wpAny_loadPart' hl1, wpAny_loadPart' hb1
    have hi1 : items[((i : Nat) : Int).toNat]? = some items[i] := by simp [hlt]
    have hi2 : items2[((i : Nat) : Int).toNat]? = some items2[i] := by simp [hlt2]
    have hc : ((i : Int) + 1) = ((i + 1 : Nat) : Int) := by omega
    rw [hi1, hi2]
    refine wpAny_bind (wpAny_mono ht (fun r s2 h2 => ?_) fun _ _ x => x)
    rcases h2 with ⟨hr, h2⟩ | ⟨hr, h2⟩
    · subst hr
      have hrec := ih (i + 1) (by omega) (by omega) s2 h2
      obtain ⟨hp2, g2, d2, tk2, os2⟩ := s2
      wp_walk
      rw [hc]
      exact ⟨plainId_quiet plain_eq_loop _, codeAny_builtin entry_eq_loop (by
        rw [Around.under_plainId plain_eq_loop _]
        exact hrec)⟩
    · subst hr
      obtain ⟨it3, it4, n3, n4, hl3, hb3, hs3, hs4, _⟩ := hj _ h2
      have hR := finJ _ h2
      obtain ⟨hp2, g2, d2, tk2, os2⟩ := s2
      wp_walk using wpAny_loadPart' hl3, wpAny_loadPart' hb3
      have hi3 : it3[((i : Nat) : Int).toNat]? = some (it3[i]'(by omega)) := by simp [show i < it3.size by omega]
      have hi4 : it4[((i : Nat) : Int).toNat]? = some (it4[i]'(by omega)) := by simp [show i < it4.size by omega]
      rw [hi3, hi4]
      wp_walk
      exact hR
theorem ne_loopE (l b : Addr) (N : Nat) (I : Nat → Shared → Prop) (J : Shared → Prop) (hl : ∀ i s, I i s → LLook l b N s (Turn prog w A (fun e s' => R (.error e) s') I J i s)) (hj : ∀ s, J s → LLook l b N s fun _ _ => True)
    (fin : ∀ s, I N s → R (.ok (.ret (.bool false))) s) (finJ : ∀ s, J s → R (.ok (.ret (.bool true))) s) (k : Nat) :
    ∀ i : Nat, N - i = k → i ≤ N → ∀ s, I i s →
      wpAny (model prog w) A.in1 (Builtin.«list.__eq__.loop» ⟨[.ref l, .ref b, rawInt i, rawInt 3], []⟩) (GQ.FinOf prog w A R) (fun e s' => R (.error e) s') s := by
  induction k with
  | zero =>
    intro i hk hi s h
    obtain ⟨items, items2, n, n2, hl1, hb1, hs1, hs2, _⟩ := hl _ _ h
    have hi' : i = N := by omega
    have hR : R (.ok (.ret (.bool false))) s := fin s (hi' ▸ h)
    obtain ⟨hp, g, d, tk, os⟩ := s
    wp_walk using wpAny_loadPart' hl1, wpAny_loadPart' hb1
    have hi1 : items[((i : Nat) : Int).toNat]? = none := by simp; omega
    have hi2 : items2[((i : Nat) : Int).toNat]? = none := by simp; omega
    rw [hi1, hi2]
    wp_walk using wpAny_loadPart' hl1, wpAny_loadPart' hb1
    show R (.ok (.ret (.bool (items.size != items2.size)))) _
    rw [hs1, hs2]
    simpa using hR
  | succ k ih =>
    intro i hk hi s h
    obtain ⟨items, items2, n, n2, hl1, hb1, hs1, hs2, turn⟩ := hl _ _ h
    have hlt : i < items.size := by omega
    have hlt2 : i < items2.size := by omega
    have ht := turn hlt hlt2
    obtain ⟨hp, g, d, tk, os⟩ := s
    wp_walk using wpAny_loadPart' hl1, wpAny_loadPart' hb1
    have hi1 : items[((i : Nat) : Int).toNat]? = some items[i] := by simp [hlt]
    have hi2 : items2[((i : Nat) : Int).toNat]? = some items2[i] := by simp [hlt2]
    have hc : ((i : Int) + 1) = ((i + 1 : Nat) : Int) := by omega
    rw [hi1, hi2]
    refine wpAny_bind (wpAny_mono ht (fun r s2 h2 => ?_) fun _ _ x => x)
    rcases h2 with ⟨hr, h2⟩ | ⟨hr, h2⟩
    · subst hr
      have hrec := ih (i + 1) (by omega) (by omega) s2 h2
      obtain ⟨hp2, g2, d2, tk2, os2⟩ := s2
      wp_walk
      rw [hc]
      exact ⟨plainId_quiet plain_eq_loop _, codeAny_builtin entry_eq_loop (by
        rw [Around.under_plainId plain_eq_loop _]
        exact hrec)⟩
    · subst hr
      obtain ⟨it3, it4, n3, n4, hl3, hb3, hs3, hs4, _⟩ := hj _ h2
      have hR := finJ _ h2
      obtain ⟨hp2, g2, d2, tk2, os2⟩ := s2
      wp_walk using wpAny_loadPart' hl3, wpAny_loadPart' hb3
      have hi3 : it3[((i : Nat) : Int).toNat]? = some (it3[i]'(by omega)) := by simp [show i < it3.size by omega]
      have hi4 : it4[((i : Nat) : Int).toNat]? = some (it4[i]'(by omega)) := by simp [show i < it4.size by omega]
      rw [hi3, hi4]
      wp_walk
      exact hR
theorem list_eqE (l b : Addr) (N : Nat) (I : Nat → Shared → Prop) (J : Shared → Prop) (hl : ∀ i s, I i s → LLook l b N s (Turn prog w A (fun e s' => R (.error e) s') I J i s)) (hj : ∀ s, J s → LLook l b N s fun _ _ => True)
    (fin : ∀ s, I N s → R (.ok (.ret (.bool true))) s) (finJ : ∀ s, J s → R (.ok (.ret (.bool false))) s) {s : Shared} (h : I 0 s) :
    wpAny (model prog w) A.in1 (Builtin.«list.__eq__» ⟨[.ref l, .ref b], []⟩) (GQ.FinOf prog w A R) (fun e s' => R (.error e) s') s := by
  obtain ⟨items, items2, n, n2, hl1, hb1, hs1, hs2, _⟩ := hl _ _ h
  have hrec := eq_loopE (A := A) (R := R) l b N I J hl hj fin finJ _ 0 rfl (Nat.zero_le _) s h
  obtain ⟨hp, g, d, tk, os⟩ := s
  have f3 := AutoSeq1.sub_list_list
  have hne : ¬ (items.size != items2.size) = true := by simp [hs1, hs2]
  wp_walk using wpAny_loadPart' hl1, wpAny_loadPart' hb1
  exact ⟨plainId_quiet plain_eq_loop _, codeAny_builtin entry_eq_loop (by
    rw [Around.under_plainId plain_eq_loop _]
    exact hrec)⟩
theorem list_neE (l b : Addr) (N : Nat) (I : Nat → Shared → Prop) (J : Shared → Prop) (hl : ∀ i s, I i s → LLook l b N s (Turn prog w A (fun e s' => R (.error e) s') I J i s)) (hj : ∀ s, J s → LLook l b N s fun _ _ => True)
    (fin : ∀ s, I N s → R (.ok (.ret (.bool false))) s) (finJ : ∀ s, J s → R (.ok (.ret (.bool true))) s) {s : Shared} (h : I 0 s) :
    wpAny (model prog w) A.in1 (Builtin.«list.__ne__» ⟨[.ref l, .ref b], []⟩) (GQ.FinOf prog w A R) (fun e s' => R (.error e) s') s := by
  obtain ⟨items, items2, n, n2, hl1, hb1, hs1, hs2, _⟩ := hl _ _ h
  have hrec := ne_loopE (A := A) (R := R) l b N I J hl hj fin finJ _ 0 rfl (Nat.zero_le _) s h
  obtain ⟨hp, g, d, tk, os⟩ := s
  have f3 := AutoSeq1.sub_list_list
  have hne : ¬ (items.size != items2.size) = true := by simp [hs1, hs2]
  wp_walk using wpAny_loadPart' hl1, wpAny_loadPart' hb1
  exact ⟨plainId_quiet plain_eq_loop _, codeAny_builtin entry_eq_loop (by
    rw [Around.under_plainId plain_eq_loop _]
    exact hrec)⟩
/-- tuples: their items are read once; k: the pairs that are looked at -/
theorem tuple_eqE (l b : Addr) (items items2 : Array Value) (n n2 : Nat) (dd dd2 : Option Addr) (sl sl2 : Array (Option Value)) (I : Nat → Shared → Prop) (J : Shared → Prop)
    (turn : ∀ i s, I i s → Turn prog w A (fun e s' => R (.error e) s') I J i s items items2)
    (fin : ∀ s, I (min items.size items2.size) s → R (.ok (.ret (.bool (items.size == items2.size)))) s) (finJ : ∀ s, J s → R (.ok (.ret (.bool false))) s)
    {s : Shared} (hl1 : s.heap.get? l = some { cls := .type "tuple", dict := dd, data := .seq items n, slots := sl }) (hb1 : s.heap.get? b = some { cls := .type "tuple", dict := dd2, data := .seq items2 n2, slots := sl2 }) (h : I 0 s) :
    wpAny (model prog w) A.in1 (Builtin.«tuple.__eq__» ⟨[.ref l, .ref b], []⟩) (GQ.FinOf prog w A R) (fun e s' => R (.error e) s') s := by
  have f2 := AutoSeq1.sub_tuple_tuple
  have hZ : (items.toList.zip items2.toList).length = min items.size items2.size := by simp
  have h0 := h
  obtain ⟨hp, g, d, tk, os⟩ := s
  wp_walk using wpAny_loadPart' hl1, wpAny_loadPart' hb1, wpAny_forIn_list _ (fun rest b s' => b.1 = none ∧ ∃ i, rest = (items.toList.zip items2.toList).drop i ∧ i ≤ min items.size items2.size ∧ I i s') _
  case turn =>
    rintro ⟨y, x⟩ rest b s' ⟨hb', i, hz, hi, hI⟩
    have hlt : i < (items.toList.zip items2.toList).length := by
      rcases Nat.lt_or_ge i (items.toList.zip items2.toList).length with h' | h'
      · exact h'
      · rw [List.drop_of_length_le h'] at hz; cases hz
    have hm : i < min items.size items2.size := hZ ▸ hlt
    have h1 : i < items.size := Nat.lt_of_lt_of_le hm (Nat.min_le_left _ _)
    have h2 : i < items2.size := Nat.lt_of_lt_of_le hm (Nat.min_le_right _ _)
    rw [List.drop_eq_getElem_cons hlt] at hz
    injection hz with hyx hrest
    have hy : y = items[i] := by have := congrArg Prod.fst hyx; simpa using this
    have hx : x = items2[i] := by have := congrArg Prod.snd hyx; simpa using this
    subst hy hx
    refine wpAny_bind (wpAny_mono (turn i s' hI h1 h2) (fun r s2 q2 => ?_) fun _ _ x => x)
    rcases q2 with ⟨hr, q2⟩ | ⟨hr, q2⟩
    · subst hr
      wp_walk
      exact ⟨rfl, i + 1, hrest, hm, q2⟩
    · subst hr
      have := finJ _ q2
      wp_walk
      exact this
  case fin =>
    rintro ⟨b1, b2⟩ s' ⟨hb', i, hz, hi, hI⟩
    simp only at hb'
    subst hb'
    have hge : min items.size items2.size ≤ i := by
      rcases Nat.lt_or_ge i (items.toList.zip items2.toList).length with h' | h'
      · rw [List.drop_eq_getElem_cons h'] at hz; cases hz
      · exact hZ ▸ h'
    have hi' : i = min items.size items2.size := by omega
    have hR := fin s' (hi' ▸ hI)
    wp_walk
    simpa [Builtin.Tuple.tupleCompareSizes] using hR
  case h =>
    exact ⟨rfl, 0, rfl, Nat.zero_le _, h0⟩
theorem tuple_neE (l b : Addr) (items items2 : Array Value) (n n2 : Nat) (dd dd2 : Option Addr) (sl sl2 : Array (Option Value)) (I : Nat → Shared → Prop) (J : Shared → Prop)
    (turn : ∀ i s, I i s → Turn prog w A (fun e s' => R (.error e) s') I J i s items items2)
    (fin : ∀ s, I (min items.size items2.size) s → R (.ok (.ret (.bool (items.size != items2.size)))) s) (finJ : ∀ s, J s → R (.ok (.ret (.bool true))) s)
    {s : Shared} (hl1 : s.heap.get? l = some { cls := .type "tuple", dict := dd, data := .seq items n, slots := sl }) (hb1 : s.heap.get? b = some { cls := .type "tuple", dict := dd2, data := .seq items2 n2, slots := sl2 }) (h : I 0 s) :
    wpAny (model prog w) A.in1 (Builtin.«tuple.__ne__» ⟨[.ref l, .ref b], []⟩) (GQ.FinOf prog w A R) (fun e s' => R (.error e) s') s := by
  have f2 := AutoSeq1.sub_tuple_tuple
  have hZ : (items.toList.zip items2.toList).length = min items.size items2.size := by simp
  have h0 := h
  obtain ⟨hp, g, d, tk, os⟩ := s
  wp_walk using wpAny_loadPart' hl1, wpAny_loadPart' hb1, wpAny_forIn_list _ (fun rest b s' => b.1 = none ∧ ∃ i, rest = (items.toList.zip items2.toList).drop i ∧ i ≤ min items.size items2.size ∧ I i s') _
  case turn =>
    rintro ⟨y, x⟩ rest b s' ⟨hb', i, hz, hi, hI⟩
    have hlt : i < (items.toList.zip items2.toList).length := by
      rcases Nat.lt_or_ge i (items.toList.zip items2.toList).length with h' | h'
      · exact h'
      · rw [List.drop_of_length_le h'] at hz; cases hz
    have hm : i < min items.size items2.size := hZ ▸ hlt
    have h1 : i < items.size := Nat.lt_of_lt_of_le hm (Nat.min_le_left _ _)
    have h2 : i < items2.size := Nat.lt_of_lt_of_le hm (Nat.min_le_right _ _)
    rw [List.drop_eq_getElem_cons hlt] at hz
    injection hz with hyx hrest
    have hy : y = items[i] := by have := congrArg Prod.fst hyx; simpa using this
    have hx : x = items2[i] := by have := congrArg Prod.snd hyx; simpa using this
    subst hy hx
    refine wpAny_bind (wpAny_mono (turn i s' hI h1 h2) (fun r s2 q2 => ?_) fun _ _ x => x)
    rcases q2 with ⟨hr, q2⟩ | ⟨hr, q2⟩
    · subst hr
      wp_walk
      exact ⟨rfl, i + 1, hrest, hm, q2⟩
    · subst hr
      have := finJ _ q2
      wp_walk
      exact this
  case fin =>
    rintro ⟨b1, b2⟩ s' ⟨hb', i, hz, hi, hI⟩
    simp only at hb'
    subst hb'
    have hge : min items.size items2.size ≤ i := by
      rcases Nat.lt_or_ge i (items.toList.zip items2.toList).length with h' | h'
      · rw [List.drop_eq_getElem_cons h'] at hz; cases hz
      · exact hZ ▸ h'
    have hi' : i = min items.size items2.size := by omega
    have hR := fin s' (hi' ▸ hI)
    wp_walk
    simpa [Builtin.Tuple.tupleCompareSizes] using hR
  case h =>
    exact ⟨rfl, 0, rfl, Nat.zero_le _, h0⟩
end
/-! ### rich comparisons -/
section
variable {prog : Program} {w : World} {A : Around} {E : Value → Shared → Prop} {s : Shared}
theorem rc_listE {l b : Addr} {N : Nat} {Q : Value → Shared → Prop} (hu : A.units < cLine) (I : Nat → Shared → Prop) (J : Shared → Prop) (hl : ∀ i s, I i s → LLook l b N s (Turn prog w A E I J i s)) (hj : ∀ s, J s → LLook l b N s fun _ _ => True)
    (fin : ∀ s, I N s → Q (.bool true) s) (finJ : ∀ s, J s → Q (.bool false) s) (h : I 0 s) : wpAny (model prog w) A (richCompare .Eq (.ref l) (.ref b)) Q E s := by
  obtain ⟨items, items2, n, n2, hl1, hb1, _, _, _⟩ := hl _ _ h
  refine wpAny_richCompare_same_room (op := .Eq) ⟨_, hl1, rfl⟩ ⟨_, hb1, rfl⟩ F.slot_list_eq (GQ.call_here F.slot_list_eq ⟨_, hl1, rfl⟩ F.entry_list_eq (F.args_list_eq_2 _ _) ?_) hu
  exact list_eqE (R := wants (fun v s' => v ≠ .notImplemented ∧ Q v s') E) l b N I J hl hj (fun s' q => ⟨(fun x => nomatch x), fin s' q⟩) (fun s' q => ⟨(fun x => nomatch x), finJ s' q⟩) h
theorem rc_listN {l b : Addr} {N : Nat} {Q : Value → Shared → Prop} (hu : A.units < cLine) (I : Nat → Shared → Prop) (J : Shared → Prop) (hl : ∀ i s, I i s → LLook l b N s (Turn prog w A E I J i s)) (hj : ∀ s, J s → LLook l b N s fun _ _ => True)
    (fin : ∀ s, I N s → Q (.bool false) s) (finJ : ∀ s, J s → Q (.bool true) s) (h : I 0 s) : wpAny (model prog w) A (richCompare .NotEq (.ref l) (.ref b)) Q E s := by
  obtain ⟨items, items2, n, n2, hl1, hb1, _, _, _⟩ := hl _ _ h
  refine wpAny_richCompare_same_room (op := .NotEq) ⟨_, hl1, rfl⟩ ⟨_, hb1, rfl⟩ F.slot_list_ne (GQ.call_here F.slot_list_ne ⟨_, hl1, rfl⟩ F.entry_list_ne (F.args_list_ne_2 _ _) ?_) hu
  exact list_neE (R := wants (fun v s' => v ≠ .notImplemented ∧ Q v s') E) l b N I J hl hj (fun s' q => ⟨(fun x => nomatch x), fin s' q⟩) (fun s' q => ⟨(fun x => nomatch x), finJ s' q⟩) h
theorem rc_tupE {l b : Addr} {items items2 : Array Value} {Q : Value → Shared → Prop} (hu : A.units < cLine) (I : Nat → Shared → Prop) (J : Shared → Prop) (hl : s.heap.IsTuple l items) (hb : s.heap.IsTuple b items2)
    (turn : ∀ i s, I i s → Turn prog w A E I J i s items items2) (fin : ∀ s, I (min items.size items2.size) s → Q (.bool (items.size == items2.size)) s) (finJ : ∀ s, J s → Q (.bool false) s) (h : I 0 s) :
    wpAny (model prog w) A (richCompare .Eq (.ref l) (.ref b)) Q E s := by
  obtain ⟨⟨cls, dd, data, sl⟩, ho, hc, n, hd⟩ := id hl
  obtain ⟨⟨cls2, dd2, data2, sl2⟩, ho2, hc2, n2, hd2⟩ := id hb
  simp only at hc hd hc2 hd2
  subst hc hd hc2 hd2
  refine wpAny_richCompare_same_room (op := .Eq) ⟨_, ho, rfl⟩ ⟨_, ho2, rfl⟩ F.slot_tuple_eq (GQ.call_here F.slot_tuple_eq ⟨_, ho, rfl⟩ F.entry_tuple_eq (F.args_tuple_eq_2 _ _) ?_) hu
  exact tuple_eqE (R := wants (fun v s' => v ≠ .notImplemented ∧ Q v s') E) l b items items2 n n2 dd dd2 sl sl2 I J turn (fun s' q => ⟨(fun x => nomatch x), fin s' q⟩) (fun s' q => ⟨(fun x => nomatch x), finJ s' q⟩) ho ho2 h
theorem rc_tupN {l b : Addr} {items items2 : Array Value} {Q : Value → Shared → Prop} (hu : A.units < cLine) (I : Nat → Shared → Prop) (J : Shared → Prop) (hl : s.heap.IsTuple l items) (hb : s.heap.IsTuple b items2)
    (turn : ∀ i s, I i s → Turn prog w A E I J i s items items2) (fin : ∀ s, I (min items.size items2.size) s → Q (.bool (items.size != items2.size)) s) (finJ : ∀ s, J s → Q (.bool true) s) (h : I 0 s) :
    wpAny (model prog w) A (richCompare .NotEq (.ref l) (.ref b)) Q E s := by
  obtain ⟨⟨cls, dd, data, sl⟩, ho, hc, n, hd⟩ := id hl
  obtain ⟨⟨cls2, dd2, data2, sl2⟩, ho2, hc2, n2, hd2⟩ := id hb
  simp only at hc hd hc2 hd2
  subst hc hd hc2 hd2
  refine wpAny_richCompare_same_room (op := .NotEq) ⟨_, ho, rfl⟩ ⟨_, ho2, rfl⟩ F.slot_tuple_ne (GQ.call_here F.slot_tuple_ne ⟨_, ho, rfl⟩ F.entry_tuple_ne (F.args_tuple_ne_2 _ _) ?_) hu
  exact tuple_neE (R := wants (fun v s' => v ≠ .notImplemented ∧ Q v s') E) l b items items2 n n2 dd dd2 sl sl2 I J turn (fun s' q => ⟨(fun x => nomatch x), fin s' q⟩) (fun s' q => ⟨(fun x => nomatch x), finJ s' q⟩) ho ho2 h
/-- two values that are not one, of which the first is an object -/
theorem eqBool_ref {l : Addr} {v : Value} {Q : Bool → Shared → Prop} (hne : v ≠ .ref l) (h : wpAny (model prog w) A (richCompare .Eq (.ref l) v) (fun v s' => ∃ r, v = .bool r ∧ Q r s') E s) : wpAny (model prog w) A (eqBool (.ref l) v) Q E s := by
  unfold eqBool
  refine wpAny_holding ?_
  refine wpAny_ite_split (fun hab => absurd (eq_of_beq hab).symm hne) (fun _ => ?_)
  refine wpAny_bind (wpAny_mono h (fun v s' hv => ?_) fun _ _ x => x)
  obtain ⟨r, rfl, q⟩ := hv
  exact wpAny_truthy_bool q
end
end Tw.Q
namespace PySem.W
open PySem PySem.Calls PyProof.Rows
section
variable {prog : Program} {w : World} {A : Around} {E : Value → Shared → Prop} {s : Shared} {K : Frag} {x C L f : Addr} {h₀ : Heap} {m : Str → Option Value} {ox : Obj} {od : Option Obj} {b tb : Value}
theorem tw_objNe {Q : Fin → Shared → Prop} (hu : A.units < cLine) (X : K.In s.heap) (I : InstAt s.heap x ox C od) (hs : findIn K (.ref C) "__eq__" = some (some (.ref f))) (hf : isFn K (.ref f) = true)
    (h : wpAny (model prog w) A (call (.ref f) [.ref x, b]) (fun v s' => ∃ r : Bool, v = .bool r ∧ Q (.done (.ret (.bool (!r)))) s') E s) : wpAny (model prog w) A (Builtin.«object.__ne__» ⟨[.ref x, b], []⟩) Q E s := by
  unfold Builtin.«object.__ne__»
  repeat (first
    | with_reducible refine wpAny_cRoomFor hu ?_
    | (refine wpAny_bind (m := callSpecialIfBound? (.ref x) (Str.ofString "__eq__") [b])
        (ifBound_K X I hs hf (wpAny_mono h (fun r s' hr => by
          obtain ⟨b, rfl, hq⟩ := hr
          repeat (first | exact hq | exact wpAny_pure hq | exact wpAny_truthy_bool hq | (refine wpAny_bind (m := truthy (.bool _)) (wpAny_truthy_bool ?_)) | wp_step)) fun _ _ e => e)))
    | wp_step)
/-- x != b by object's __ne__ over the class's own __eq__ -/
theorem tw_ne {Q : Value → Shared → Prop} (hu : A.units + 2 < cLine) (X : K.In s.heap) (I : InstAt s.heap x ox C od) (hb : Looks (model prog w) s.heap (typeOf b) tb) (hn : notFirst K C tb = true)
    (hne : findIn K (.ref C) "__ne__" = some (some (.builtin "object.__ne__"))) (hs : findIn K (.ref C) "__eq__" = some (some (.ref f))) (hf : isFn K (.ref f) = true) (ho : mroIn K C (.type "object") = some true)
    (h : wpAny (model prog w) A.in1 (call (.ref f) [.ref x, b]) (fun v s' => ∃ r : Bool, v = .bool r ∧ Q (.bool (!r)) s') E s) : wpAny (model prog w) A (richCompare .NotEq (.ref x) b) Q E s := by
  have body : wpAny (model prog w) A (call (.builtin "object.__ne__") [.ref x, b]) (fun v s' => ∃ r : Bool, v = .bool r ∧ Q (.bool r) s') E s := by
    have hi : Looks (model prog w) s.heap (isInstance (.ref x) (.type "object")) true := I.type.andThen (looks_mroIn X ho)
    refine wpAny_call (codeAny_call_builtin F.slot_object_ne.plain F.cmpEntry_ne (check_slot F.cmpKind_ne F.cmpSplit_ne hi (F.cmpArgs_ne _ _) (tw_objNe (A := A.in1) (by show A.units + 1 < cLine; omega) X I hs hf (wpAny_mono h (fun v s' hv => ?_) fun _ _ e => e))))
    obtain ⟨r, rfl, q⟩ := hv
    exact ⟨r, rfl, !r, rfl, q⟩
  have one : wpAny (model prog w) A (tryCompare (.ref x) "__ne__" b) (fun r s' => ∃ v, r = some v ∧ Q v s') E s := by
    unfold tryCompare
    refine wpAny_bind (m := callSpecialIfBound? (.ref x) "__ne__" [b]) (wpAny_mono (Q := fun o s' => ∃ r : Bool, o = some (.bool r) ∧ Q (.bool r) s') ?_ (fun o s' ⟨r, e, q⟩ => ?_) fun _ _ e => e)
    · have fin : wpAny (model prog w) A (call (.builtin "object.__ne__") ([.ref x] ++ [b]) >>= fun v => pure (some v)) (fun o s' => ∃ r : Bool, o = some (.bool r) ∧ Q (.bool r) s') E s :=
        wpAny_bind (wpAny_mono body (fun v s' ⟨r, e, q⟩ => wpAny_pure ⟨r, by rw [e], q⟩) fun _ _ h' => h')
      have bd : bindSpecial (.builtin "object.__ne__") (.ref x) = pure (.builtin "object.__ne__", [.ref x]) := F.slot_object_ne.bind _
      simp only [callSpecialIfBound?, bindSpecialIfBound?]
      refine wpAny_holding (wpAny_bind (wpAny_bind (wpAny_bind (I.type.here ((looks_findIn X hne).here ?_)))))
      refine wpAny_bind (wpAny_askSetting (wpAny_ite ?_))
      split
      · exact wpAny_bind ((Looks.of_pure bd).here (wpAny_pure (by exact fin)))
      · exact wpAny_tryCatch (wpAny_bind ((Looks.of_pure bd).here (wpAny_pure (by exact fin))))
    · subst e
      exact wpAny_pure ⟨_, rfl, q⟩
  unfold richCompare
  simp only [oneThing_ref]
  refine wpAny_holding (wpAny_bind (wpAny_cRoomFor (by omega) ?_))
  refine wpAny_bind (I.type.here (wpAny_bind (hb.here ?_)))
  split
  · rename_i q
    have e : subIn K tb (.ref C) = some false := by
      rcases Bool.or_eq_true_iff.mp hn with e | e
      · rw [beq_iff_eq.mp e] at q; simp at q
      · exact beq_iff_eq.mp e
    refine wpAny_bind ((looks_subIn X e).here ?_)
    simp only [Bool.false_eq_true, if_false]
    refine wpAny_bind (wpAny_mono one (fun r s' z => ?_) fun _ _ e => e)
    obtain ⟨v, rfl, hq⟩ := z
    exact wpAny_pure hq
  · refine wpAny_bind (wpAny_pure ?_)
    simp only [Bool.false_eq_true, if_false]
    refine wpAny_bind (wpAny_mono one (fun r s' z => ?_) fun _ _ e => e)
    obtain ⟨v, rfl, hq⟩ := z
    exact wpAny_pure hq
end
end PySem.W
set_option maxHeartbeats 4000000
namespace Tw
open PySem PySem.Spec PyProof.Rows L2
/-- somewhere below the running body, with room -/
structure SubG (X : Cx) (k j : Nat) (A : Around) : Prop where
  hd : A.handled = none
  dp : A.depth + 3 * k + 5 < recursionLimit
  un : A.units + 16 * k + 200 + j < cLine
  fr : A.frames = X.A.frames
  gd : A.guards = X.A.guards
theorem SubG.in1 {X : Cx} {k j : Nat} {A : Around} (s : SubG X k (j + 1) A) : SubG X k j A.in1 := ⟨s.hd, s.dp, by have := s.un; show A.units + 1 + 16 * k + 200 + j < _; omega, s.fr, s.gd⟩
theorem SubG.mono {X : Cx} {k j i : Nat} {A : Around} (s : SubG X k j A) (h : i ≤ j) : SubG X k i A := ⟨s.hd, s.dp, by have := s.un; omega, s.fr, s.gd⟩
theorem SubG.room {X : Cx} {k j : Nat} {A : Around} (s : SubG X k j A) : Room k A := ⟨s.hd, s.dp, by have := s.un; omega⟩
theorem SubG.top {X : Cx} {k : Nat} (r : Room (k + 1) X.A) : SubG X k 16 X.A := ⟨r.hd, by have := r.dp; omega, by have := r.un; omega, rfl, rfl⟩
/-- the store stands as it stood -/
def Lp (X : Cx) (cA : CA) (al : List Addr) (st : L2.St) (pins : List (Addr × Obj)) (s : Store) (G : Hp) (sh : Shared) : Prop := ∃ G' H', Sb G G' ∧ Rl cA al G' s H' ∧ Inv X pins st H' sh
section
variable {cA : CA} {G : Hp}
mutual
theorem dif_ok : ∀ {t t' : T} {v : V}, dif t t' = true → Rep cA G t v → Rep cA G t' v → False
  | .lst xs, t', v, h, r, r' => by
    unfold Rep at r
    obtain ⟨a, vs, rfl, g, q⟩ := r
    cases t' with
    | lst ys =>
      unfold Rep at r'
      obtain ⟨b, us, e, g', q'⟩ := r'
      cases e
      rw [g] at g'; cases g'
      unfold dif at h
      exact difL_ok h q q'
    | tup ys => unfold Rep at r'; obtain ⟨b, us, e, g', q'⟩ := r'; cases e; rw [g] at g'; cases g'
    | _ => unfold dif at h; simp [eqFlat] at h
  | .tup xs, t', v, h, r, r' => by
    unfold Rep at r
    obtain ⟨a, vs, rfl, g, q⟩ := r
    cases t' with
    | tup ys =>
      unfold Rep at r'
      obtain ⟨b, us, e, g', q'⟩ := r'
      cases e
      rw [g] at g'; cases g'
      unfold dif at h
      exact difL_ok h q q'
    | lst ys => unfold Rep at r'; obtain ⟨b, us, e, g', q'⟩ := r'; cases e; rw [g] at g'; cases g'
    | _ => unfold dif at h; simp [eqFlat] at h
  | .ins c fs, t', v, h, r, r' => by
    unfold Rep at r
    obtain ⟨a, dx, vs, rfl, g, q⟩ := r
    cases t' with
    | ins c' gs =>
      unfold Rep at r'
      obtain ⟨b, dx', us, e, g', q'⟩ := r'
      cases e
      rw [g] at g'
      injection Option.some.inj g' with e4 e5 e6
      subst e6
      unfold dif at h
      exact difF_ok h q q'
    | lst ys => unfold Rep at r'; obtain ⟨b, us, e, g', q'⟩ := r'; cases e; rw [g] at g'; cases g'
    | tup ys => unfold Rep at r'; obtain ⟨b, us, e, g', q'⟩ := r'; cases e; rw [g] at g'; cases g'
    | _ => unfold dif at h; simp [eqFlat] at h
  | .non, t', v, h, r, r' => dif_flat rfl h r r'
  | .bl _, t', v, h, r, r' => dif_flat rfl h r r'
  | .int _, t', v, h, r, r' => dif_flat rfl h r r'
  | .str _, t', v, h, r, r' => dif_flat rfl h r r'
  | .ty _, t', v, h, r, r' => by unfold dif at h; simp [eqFlat] at h
  | .dct _, t', v, h, r, r' => by unfold dif at h; simp [eqFlat] at h
  | .scr _, t', v, h, r, r' => by unfold dif at h; simp [eqFlat] at h
theorem difL_ok : ∀ {xs ys : List T} {vs : List V}, difL xs ys = true → RepL cA G xs vs → RepL cA G ys vs → False
  | [], [], vs, h, r, r' => by unfold difL at h; cases h
  | x :: xs, y :: ys, vs, h, r, r' => by
    unfold RepL at r r'
    obtain ⟨v, rr, e, q, q'⟩ := r
    obtain ⟨u, uu, e', p, p'⟩ := r'
    subst e; cases e'
    unfold difL at h
    rcases Bool.or_eq_true_iff.mp h with h | h
    · exact dif_ok h q p
    · exact difL_ok h q' p'
  | [], y :: ys, vs, h, r, r' => by
    unfold RepL at r r'
    obtain ⟨u, uu, e', p, p'⟩ := r'
    subst e'; cases r
  | x :: xs, [], vs, h, r, r' => by
    unfold RepL at r r'
    obtain ⟨u, uu, e', p, p'⟩ := r
    subst e'; cases r'
theorem difF_ok : ∀ {xs ys : List (Str × T)} {vs : List (Str × V)}, difF xs ys = true → RepF cA G xs vs → RepF cA G ys vs → False
  | [], [], vs, h, r, r' => by unfold difF at h; cases h
  | (k, x) :: xs, (k', y) :: ys, vs, h, r, r' => by
    unfold RepF at r r'
    obtain ⟨v, rr, e, q, q'⟩ := r
    obtain ⟨u, uu, e', p, p'⟩ := r'
    subst e; cases e'
    unfold difF at h
    rcases Bool.or_eq_true_iff.mp h with h | h
    · exact dif_ok h q p
    · exact difF_ok h q' p'
  | [], (k, y) :: ys, vs, h, r, r' => by
    unfold RepF at r r'
    obtain ⟨u, uu, e', p, p'⟩ := r'
    subst e'; cases r
  | (k, x) :: xs, [], vs, h, r, r' => by
    unfold RepF at r r'
    obtain ⟨u, uu, e', p, p'⟩ := r
    subst e'; cases r'
theorem dif_flat : ∀ {t t' : T} {v : V}, isSc t = true → dif t t' = true → Rep cA G t v → Rep cA G t' v → False := fun {t t' v} hs h r r' => by
  have key : ∀ b, eqFlat t t' = some b → b = false → False := fun b e z => by
    have := eqFlat_V r r' e
    rw [z] at this
    cases t with
    | non => unfold Rep at r; subst r; cases this
    | bl x => unfold Rep at r; subst r; simp [eqV] at this
    | int x => unfold Rep at r; subst r; simp [eqV] at this
    | str x => unfold Rep at r; subst r; simp [eqV] at this
    | _ => cases hs
  have : ∃ b, eqFlat t t' = some b ∧ b = false := by
    cases t <;> first
      | (cases hs; done)
      | (cases t' <;> unfold dif at h <;> first
          | (simp [eqFlat] at h; done)
          | (simp only [eqFlat] at h ⊢; exact ⟨_, rfl, by simpa using h⟩))
  obtain ⟨b, e, z⟩ := this
  exact key b e z
end
end
section
variable {cA : CA} {X : Cx} {D : Defs} {M : Nms} {fA : Nat → Addr} {fdA : Nat → FuncData} {psA : Nat → List Str} {k j : Nat} {cf : CF} {al : List Addr} {st : L2.St} {pins : List (Addr × Obj)} {s : Store}
/-- an own == is asked, somewhere below -/
theorem call_at (F : PfX X D M cA fA fdA psA k cf) {A : Around} {g n : Nat} {d : FD} {G H : Hp} {sh : Shared} {ys : List VV} {vs : List V} {us : List Value} {b : Bool} (hd : D.fn g = some d) (hn : d.np = n) (sb : SubG X k j A)
    (I : Inv X pins st H sh) (r : Rl cA al G s H) (q : RepVs cA al G ys vs) (hl : vs.length = n) (rv : Vals vs us) (e : cf g ys s = .ok (.t (.bl b)) s) :
    wpAny (model X.prog X.w) A (call (.ref (fA g)) us) (fun v s' => v = .bool b ∧ Lp X cA al st pins s G s') X.xe sh := by
  have FF := F.fn g d hd
  have env0 : Env0 X.prog X.w X.K X.mg X.base A X.stack sh H := by
    have z0 := I.env0
    exact ⟨by rw [sb.fr]; exact z0.frames, z0.mod, z0.bs, z0.bsz, z0.funs, z0.frf, z0.hok, z0.bare⟩
  have sp : spF cA cf g d.np vs H (fun v H' => v = .bl b ∧ ∃ G', Sb G G' ∧ Rl cA al G' s H') (fun _ _ _ => False) := by
    refine ⟨al, G, ys, s, r, q, by rw [hl, hn], ?_⟩
    rw [e]
    intro al' G' H' v x r' rv'
    refine ⟨by unfold RepV Rep at rv'; exact rv', G', x.sub, ?_⟩
    obtain ⟨⟨l, el⟩, _⟩ := x
    have h1 := r.len
    have h2 := r'.len
    subst el
    rw [List.length_append] at h2
    have e0 : l = [] := List.length_eq_zero_iff.mp (by omega)
    subst e0
    rw [List.append_nil] at r'
    exact r'
  have hlen : us.length = (psA g).length := by rw [← rv.length]; exact FF.len _ _ _ _ sp
  have go := FF.run A X.stack sh H ⟨us, []⟩ us vs _ _ sb.room (fun h => by rw [sb.gd]; exact F.gd h) env0 (by
    have := F.bd g d hd sh us I.kIn (by rw [List.append_nil]; exact hlen)
    rw [List.append_nil] at this
    exact this) rv sp
  refine wpAny_call (codeAny_mono go fun res s3 hres => ?_)
  match res, hres with
  | .error er, ⟨_, _, _, _, _, _, _, _, _, _, _, _, zz⟩ => exact zz.elim
  | .ok (.ret uu), hres =>
    obtain ⟨v, H2, I2, rv, ev, G2, sb2, r2⟩ := I.after hres
    subst ev
    exact ⟨rv, G2, H2, sb2, r2, I2⟩
  | .ok .next, hres => exact hres.elim
  | .ok .brk, hres => exact hres.elim
  | .ok .cont, hres => exact hres.elim
def rcOp : Bool → CmpOp
  | false => .Eq
  | true => .NotEq
/-- items, by eqBool -/
def ItOk (X : Cx) (cA : CA) (k : Nat) (al : List Addr) (st : L2.St) (pins : List (Addr × Obj)) (s : Store) (j : Nat) (f : T → T → Option Bool) : Prop :=
  ∀ (A : Around) (G H : Hp) (sh : Shared) (t t' : T) (v v' : V) (u u' : Value) (b : Bool), SubG X k j A → Rl cA al G s H → Inv X pins st H sh → Rep cA G t v → Rep cA G t' v' → RelV v u → RelV v' u' → eqI f t t' = some b →
    wpAny (model X.prog X.w) A (eqBool u u') (fun r s' => r = b ∧ Lp X cA al st pins s G s') X.xe sh
theorem Lp.mono {G G' : Hp} {sh : Shared} (h : Lp X cA al st pins s G' sh) (e : Sb G G') : Lp X cA al st pins s G sh := by
  obtain ⟨G2, H2, e2, r, I⟩ := h
  exact ⟨G2, H2, e.trans e2, r, I⟩
theorem eqLs_drop {f : T → T → Option Bool} {xs ys : List T} {i : Nat} {b : Bool} (h : eqLs f (xs.drop i) (ys.drop i) = some b) (h1 : i < xs.length) (h2 : i < ys.length) :
    ∃ c, f xs[i] ys[i] = some c ∧ (c = true → eqLs f (xs.drop (i + 1)) (ys.drop (i + 1)) = some b) ∧ (c = false → b = false) := by
  rw [List.drop_eq_getElem_cons h1, List.drop_eq_getElem_cons h2] at h
  unfold eqLs at h
  split at h
  · rename_i e; exact ⟨true, e, fun _ => h, fun z => by cases z⟩
  · rename_i e; cases h; exact ⟨false, e, (fun z => by cases z), fun _ => rfl⟩
  · cases h
theorem eqLs_end {f : T → T → Option Bool} {xs ys : List T} {i : Nat} {b : Bool} (h : eqLs f (xs.drop i) (ys.drop i) = some b) (hi : xs.length ≤ i ∨ ys.length ≤ i) : b = true := by
  rcases hi with hi | hi
  · rw [List.drop_of_length_le hi] at h; unfold eqLs at h; cases h; rfl
  · rw [List.drop_of_length_le hi] at h
    cases hx : xs.drop i with
    | nil => rw [hx] at h; unfold eqLs at h; cases h; rfl
    | cons a l => rw [hx] at h; unfold eqLs at h; cases h; rfl
/-- one turn of a loop over two lists of items -/
theorem turn_at {f : T → T → Option Bool} (ih : ItOk X cA k al st pins s j f) {A : Around} (sb : SubG X k (j + 1) A) {G G1 H1 : Hp} {sh : Shared} {xs ys : List T} {vs us : List V} {its its2 : List Value} {i : Nat} {b : Bool}
    (e1 : Sb G G1) (r1 : Rl cA al G1 s H1) (I1 : Inv X pins st H1 sh) (hx : RepL cA G1 xs vs) (hy : RepL cA G1 ys us) (rx : Vals vs its) (ry : Vals us its2) (h : eqLs (eqI f) (xs.drop i) (ys.drop i) = some b) :
    Q.Turn X.prog X.w A X.xe (fun i sh' => Lp X cA al st pins s G sh' ∧ eqLs (eqI f) (xs.drop i) (ys.drop i) = some b) (fun sh' => Lp X cA al st pins s G sh' ∧ b = false) i sh its.toArray its2.toArray := by
  intro h1 h2
  have k1 : i < vs.length := by rw [rx.length]; simpa using h1
  have k2 : i < us.length := by rw [ry.length]; simpa using h2
  have l1 : i < xs.length := by rw [← hx.length]; exact k1
  have l2 : i < ys.length := by rw [← hy.length]; exact k2
  obtain ⟨c, hc, ht, hf⟩ := eqLs_drop h l1 l2
  obtain ⟨v, hv, rv⟩ := hx.get (List.getElem?_eq_getElem l1)
  obtain ⟨u, hu, ru⟩ := hy.get (List.getElem?_eq_getElem l2)
  obtain ⟨v', hv', rv'⟩ := rx.get hv
  obtain ⟨u', hu', ru'⟩ := ry.get hu
  have g1 : its[i]? = some its.toArray[i] := by
    have h1' : i < its.length := by simpa using h1
    rw [List.getElem?_eq_getElem h1'] <;> simp
  have g2 : its2[i]? = some its2.toArray[i] := by
    have h2' : i < its2.length := by simpa using h2
    rw [List.getElem?_eq_getElem h2'] <;> simp
  rw [g1] at hv'
  rw [g2] at hu'
  rw [Option.some.inj hv', Option.some.inj hu']
  refine wpAny_mono (ih A.in1 G1 H1 sh _ _ v u v' u' c sb.in1 r1 I1 rv ru rv' ru' hc) (fun r s' z => ?_) fun _ _ x => x
  obtain ⟨hr, lp⟩ := z
  subst hr
  cases r with
  | true => exact .inl ⟨rfl, lp.mono e1, ht rfl⟩
  | false => exact .inr ⟨rfl, lp.mono e1, hf rfl⟩
/-- two lists of one length -/
theorem rc_lists {f : T → T → Option Bool} (ih : ItOk X cA k al st pins s j f) {A : Around} (sb : SubG X k (j + 1) A) {G H : Hp} {sh : Shared} {xs ys : List T} {y z : VV} {v v' : V} {u u' : Value} {b : Bool} (ne : Bool)
    (r : Rl cA al G s H) (I : Inv X pins st H sh) (rv : RepV cA al G y v) (rw' : RepV cA al G z v') (h1 : rd s y = some (.lst xs)) (h2 : rd s z = some (.lst ys)) (e1 : RelV v u) (e2 : RelV v' u') (hl : xs.length = ys.length)
    (h : eqLs (eqI f) xs ys = some b) : wpAny (model X.prog X.w) A (richCompare (rcOp ne) u u') (fun r s' => r = .bool (xor ne b) ∧ Lp X cA al st pins s G s') X.xe sh := by
  obtain ⟨a, _, rfl, _, _⟩ := r.sees rv h1
  obtain ⟨a', _, rfl, _, _⟩ := r.sees rw' h2
  cases e1; cases e2
  have look : ∀ sh', Lp X cA al st pins s G sh' → ∀ (P : Array Value → Array Value → Prop), (∀ G1 H1 vs us its its2, Sb G G1 → Rl cA al G1 s H1 → Inv X pins st H1 sh' → RepL cA G1 xs vs → RepL cA G1 ys us → Vals vs its → Vals us its2 → P its.toArray its2.toArray) → Q.LLook a a' xs.length sh' P := by
    intro sh' lp P hp
    obtain ⟨G1, H1, sb1, r1, I1⟩ := lp
    obtain ⟨b1, vs, eb1, hb1, q1⟩ := r1.sees (rv.mono (Xt.ofSb sb1)) h1
    obtain ⟨b2, us, eb2, hb2, q2⟩ := r1.sees (rw'.mono (Xt.ofSb sb1)) h2
    cases eb1; cases eb2
    obtain ⟨z1, its, n1, rr1, g1⟩ := I1.hok a _ hb1
    obtain ⟨z2, its2, n2, rr2, g2⟩ := I1.hok a' _ hb2
    exact ⟨its.toArray, its2.toArray, n1, n2, g1, g2, by rw [List.size_toArray, ← rr1.length, q1.length], by rw [List.size_toArray, ← rr2.length, q2.length, hl], hp G1 H1 vs us its its2 sb1 r1 I1 q1 q2 rr1 rr2⟩
  have start : Lp X cA al st pins s G sh ∧ eqLs (eqI f) (xs.drop 0) (ys.drop 0) = some b := ⟨⟨G, H, Sb.rfl', r, I⟩, by simpa using h⟩
  have turn : ∀ i sh', (Lp X cA al st pins s G sh' ∧ eqLs (eqI f) (xs.drop i) (ys.drop i) = some b) → Q.LLook a a' xs.length sh' (Q.Turn X.prog X.w A X.xe (fun i sh' => Lp X cA al st pins s G sh' ∧ eqLs (eqI f) (xs.drop i) (ys.drop i) = some b) (fun sh' => Lp X cA al st pins s G sh' ∧ b = false) i sh') := fun i sh' hI =>
    look sh' hI.1 _ fun G1 H1 vs us its its2 sb1 r1 I1 q1 q2 rr1 rr2 => turn_at ih sb sb1 r1 I1 q1 q2 rr1 rr2 hI.2
  have lookJ : ∀ sh', (Lp X cA al st pins s G sh' ∧ b = false) → Q.LLook a a' xs.length sh' fun _ _ => True := fun sh' hJ => look sh' hJ.1 _ fun _ _ _ _ _ _ _ _ _ _ _ _ _ => trivial
  cases ne with
  | false =>
    refine Q.rc_listE sb.room.units0 _ _ turn lookJ (fun sh' hI => ?_) (fun sh' hJ => ?_) start
    · rw [eqLs_end hI.2 (.inl (Nat.le_refl _))]; exact ⟨rfl, hI.1⟩
    · rw [hJ.2]; exact ⟨rfl, hJ.1⟩
  | true =>
    refine Q.rc_listN sb.room.units0 _ _ turn lookJ (fun sh' hI => ?_) (fun sh' hJ => ?_) start
    · rw [eqLs_end hI.2 (.inl (Nat.le_refl _))]; exact ⟨rfl, hI.1⟩
    · rw [hJ.2]; exact ⟨rfl, hJ.1⟩
/-- two tuples -/
theorem rc_tups {f : T → T → Option Bool} (ih : ItOk X cA k al st pins s j f) {A : Around} (sb : SubG X k (j + 1) A) {G H : Hp} {sh : Shared} {xs ys : List T} {y z : VV} {v v' : V} {u u' : Value} {b : Bool} (ne : Bool)
    (r : Rl cA al G s H) (I : Inv X pins st H sh) (rv : RepV cA al G y v) (rw' : RepV cA al G z v') (h1 : rd s y = some (.tup xs)) (h2 : rd s z = some (.tup ys)) (e1 : RelV v u) (e2 : RelV v' u')
    (h : eqLs (eqI f) xs ys = some b) : wpAny (model X.prog X.w) A (richCompare (rcOp ne) u u') (fun r s' => r = .bool (xor ne (b && decide (xs.length = ys.length))) ∧ Lp X cA al st pins s G s') X.xe sh := by
  obtain ⟨a, vs, rfl, ha, ga, qa⟩ := seesT r.sub (r.sees rv h1)
  obtain ⟨a', us, rfl, hb, gb, qb⟩ := seesT r.sub (r.sees rw' h2)
  cases e1; cases e2
  obtain ⟨its, rr1, t1, _⟩ := I.tuple (.of ha)
  obtain ⟨its2, rr2, t2, _⟩ := I.tuple (.of hb)
  have start : Lp X cA al st pins s G sh ∧ eqLs (eqI f) (xs.drop 0) (ys.drop 0) = some b := ⟨⟨G, H, Sb.rfl', r, I⟩, by simpa using h⟩
  have turn : ∀ i sh', (Lp X cA al st pins s G sh' ∧ eqLs (eqI f) (xs.drop i) (ys.drop i) = some b) → Q.Turn X.prog X.w A X.xe (fun i sh' => Lp X cA al st pins s G sh' ∧ eqLs (eqI f) (xs.drop i) (ys.drop i) = some b) (fun sh' => Lp X cA al st pins s G sh' ∧ b = false) i sh' its.toArray its2.toArray := fun i sh' hI => by
    obtain ⟨⟨G1, H1, sb1, r1, I1⟩, he⟩ := hI
    exact turn_at ih sb sb1 r1 I1 (RepL.mono sb1 qa) (RepL.mono sb1 qb) rr1 rr2 he
  have l1 : its.toArray.size = xs.length := by rw [List.size_toArray, ← rr1.length, qa.length]
  have l2 : its2.toArray.size = ys.length := by rw [List.size_toArray, ← rr2.length, qb.length]
  have hmin : xs.length ≤ min its.toArray.size its2.toArray.size ∨ ys.length ≤ min its.toArray.size its2.toArray.size := by rw [l1, l2]; omega
  cases ne with
  | false =>
    refine Q.rc_tupE sb.room.units0 _ _ t1 t2 turn (fun sh' hI => ?_) (fun sh' hJ => ?_) start
    · rw [eqLs_end hI.2 hmin, l1, l2]
      refine ⟨?_, hI.1⟩
      simp only [Bool.true_and, Bool.false_xor]
      rw [Bool.eq_iff_iff.mpr (show (xs.length == ys.length) = true ↔ decide (xs.length = ys.length) = true by simp)]
    · rw [hJ.2]; exact ⟨rfl, hJ.1⟩
  | true =>
    refine Q.rc_tupN sb.room.units0 _ _ t1 t2 turn (fun sh' hI => ?_) (fun sh' hJ => ?_) start
    · rw [eqLs_end hI.2 hmin, l1, l2]
      refine ⟨?_, hI.1⟩
      simp only [Bool.true_and, Bool.true_xor, bne]
      rw [Bool.eq_iff_iff.mpr (show (xs.length == ys.length) = true ↔ decide (xs.length = ys.length) = true by simp)]
    · rw [hJ.2]; exact ⟨rfl, hJ.1⟩
theorem ty_looks {P : Program} {w : World} {G H : Hp} {sh : Shared} {t : T} {v : V} {u : Value} (I : Inv X pins st H sh) (sb : Sb G H) (sv : Sees cA G H t v) (hl : isLT t = true) (e : RelV v u) :
    ∃ Tn, Tn ∈ ["int", "list", "tuple", "str", "bool", "NoneType"] ∧ PySem.W.Looks (model P w) sh.heap (typeOf u) (.type Tn) := by
  cases t with
  | lst xs =>
    obtain ⟨a, vs, rfl, ha, _⟩ := sv
    cases e
    obtain ⟨z, its, n, r, g⟩ := I.hok a _ ha
    exact ⟨"list", by decide, (PySem.W.Looks.ld g).andThen .now⟩
  | tup xs =>
    obtain ⟨a, vs, rfl, ha, ga, _⟩ := seesT sb sv
    cases e
    obtain ⟨its, r, ⟨o, g, hc, _⟩, z⟩ := I.tuple (.of ha)
    refine ⟨"tuple", by decide, ?_⟩
    rw [← hc]
    exact (PySem.W.Looks.ld g).andThen .now
  | non => rw [seesN sv] at e; cases e; exact ⟨"NoneType", by decide, PySem.W.Looks.of_pure rfl⟩
  | bl x => rw [seesB sv] at e; cases e; exact ⟨"bool", by decide, PySem.W.Looks.of_pure rfl⟩
  | int x => rw [seesI sv] at e; obtain ⟨t, rfl⟩ := e; exact ⟨"int", by decide, PySem.W.Looks.of_pure rfl⟩
  | str x => rw [seesS sv] at e; obtain ⟨t, rfl⟩ := e; exact ⟨"str", by decide, PySem.W.Looks.of_pure rfl⟩
  | _ => cases hl
theorem ownEq_of {c : Nat} {y z : VV} {b : Bool} (h : ownEq D cf s c y z = some b) : ∃ g d, D.own c = true ∧ D.om c "__eq__" = some g ∧ D.fn g = some d ∧ d.np = 2 ∧ cf g [y, z] s = .ok (.t (.bl b)) s := by
  unfold ownEq at h
  split at h
  · rename_i g hg
    obtain ⟨ho, hom, d, hd, hn⟩ := omN_of hg
    split at h
    · rename_i b' s' hc
      split at h
      · rename_i hs
        cases h
        subst hs
        exact ⟨g, d, ho, hom, hd, hn, hc⟩
      · cases h
    · cases h
  · cases h
theorem rc_own (F : PfX X D M cA fA fdA psA k cf) {A : Around} (sb : SubG X k (j + 1) A) {G H : Hp} {sh : Shared} {c : Nat} {fs : List (Str × T)} {w : T} {y z : VV} {v v' : V} {u u' : Value} {b : Bool} (ne : Bool)
    (r : Rl cA al G s H) (I : Inv X pins st H sh) (rv : RepV cA al G y v) (rw' : RepV cA al G z v') (h1 : rd s y = some (.ins c fs)) (h2 : rd s z = some w) (e1 : RelV v u) (e2 : RelV v' u')
    (hw : (∃ gs, w = .ins c gs) ∨ isLT w = true) (h : ownEq D cf s c y z = some b) : wpAny (model X.prog X.w) A (richCompare (rcOp ne) u u') (fun r s' => r = .bool (xor ne b) ∧ Lp X cA al st pins s G s') X.xe sh := by
  obtain ⟨g, d, ho, hom, hd, hn, e⟩ := ownEq_of h
  have ow := F.ow c ho
  obtain ⟨hcl, hme⟩ := F.mt c _ g hom
  obtain ⟨a, dx, gs, rfl, ha, qa⟩ := r.sees rv h1
  cases e1
  obtain ⟨mA, O, _⟩ := ins_get I.hok ha
  obtain ⟨od, J, _⟩ := O.look
  obtain ⟨m, hF⟩ := I.fr
  have tb : ∃ tb, PySem.W.Looks (model X.prog X.w) sh.heap (typeOf u') tb ∧ PySem.W.notFirst X.K (cA c) tb = true := by
    rcases hw with ⟨gs', rfl⟩ | hw
    · obtain ⟨a', dx', gs2, rfl, ha', qa'⟩ := r.sees rw' h2
      cases e2
      obtain ⟨mB, O', _⟩ := ins_get I.hok ha'
      obtain ⟨od', J', _⟩ := O'.look
      exact ⟨_, J'.type, by simp [PySem.W.notFirst]⟩
    · obtain ⟨Tn, hT, hl⟩ := ty_looks (P := X.prog) (w := X.w) I r.sub (r.sees rw' h2) hw e2
      exact ⟨_, hl, by unfold PySem.W.notFirst; rw [ow.sub Tn hT]; simp⟩
  obtain ⟨tb, hb, hnf⟩ := tb
  cases ne with
  | false =>
    refine PySem.W.cmp_K (op := .Eq) sb.room.units0 hF I.ok.mod.kin J hb hnf hme.at_ hme.fn ?_
    refine wpAny_mono (call_at F hd hn sb I r (ys := [y, z]) (vs := [.ref a, v']) ⟨_, _, rfl, rv, _, _, rfl, rw', rfl⟩ rfl (.cons rfl (.cons e2 .nil)) e) (fun v s' q => ?_) fun _ _ x => x
    obtain ⟨ev, lp⟩ := q
    subst ev
    exact ⟨by simp, lp⟩
  | true =>
    refine PySem.W.tw_ne (by have := sb.un; omega) I.kIn J hb hnf ow.ne hme.at_ hme.fn ow.obj ?_
    refine wpAny_mono (call_at F hd hn sb.in1 I r (ys := [y, z]) (vs := [.ref a, v']) ⟨_, _, rfl, rv, _, _, rfl, rw', rfl⟩ rfl (.cons rfl (.cons e2 .nil)) e) (fun v s' q => ?_) fun _ _ x => x
    obtain ⟨ev, lp⟩ := q
    subst ev
    exact ⟨b, rfl, by simp, lp⟩
open PySem.SeqAt in
/-- what RcAt and RcNeAt say -/
theorem rc_kinds {A : Around} {G H : Hp} {sh : Shared} {u u' : Value} (ne : Bool) (r : Rl cA al G s H) (I : Inv X pins st H sh) (h1 : RcAt A sh u u' false) (h2 : RcNeAt A sh u u' true) :
    wpAny (model X.prog X.w) A (richCompare (rcOp ne) u u') (fun r s' => r = .bool (xor ne false) ∧ Lp X cA al st pins s G s') X.xe sh := by
  cases ne with
  | false => exact h1 _ _ _ _ ⟨rfl, G, H, Sb.rfl', r, I⟩
  | true => exact h2 _ _ _ _ ⟨rfl, G, H, Sb.rfl', r, I⟩
open PySem.SeqAt in
theorem rc_lst_sc {A : Around} {sh : Shared} {l : Addr} {its : Array Value} {w : T} {v : V} {u : Value} {G H : Hp} (hs : isSc w = true) (sv : Sees cA G H w v) (e : RelV v u) (hl : sh.heap.IsList l its) (hu : A.units < cLine) :
    RcAt A sh (.ref l) u false ∧ RcNeAt A sh (.ref l) u true ∧ RcAt A sh u (.ref l) false ∧ RcNeAt A sh u (.ref l) true := by
  cases w with
  | non => rw [seesN sv] at e; cases e; exact ⟨.list_none hl hu, .list_none hl hu, .none_list hl hu, .none_list hl hu⟩
  | bl x => rw [seesB sv] at e; cases e; exact ⟨.list_bool x hl hu, .list_bool x hl hu, .bool_list x hl hu, .bool_list x hl hu⟩
  | int x => rw [seesI sv] at e; obtain ⟨t, rfl⟩ := e; exact ⟨.list_int x t hl hu, .list_int x t hl hu, .int_list x t hl hu, .int_list x t hl hu⟩
  | str x => rw [seesS sv] at e; obtain ⟨t, rfl⟩ := e; exact ⟨.list_str x t hl hu, .list_str x t hl hu, .str_list x t hl hu, .str_list x t hl hu⟩
  | _ => cases hs
open PySem.SeqAt in
theorem rc_tup_sc {A : Around} {sh : Shared} {l : Addr} {its : Array Value} {w : T} {v : V} {u : Value} {G H : Hp} (hs : isSc w = true) (sv : Sees cA G H w v) (e : RelV v u) (hl : sh.heap.IsTuple l its) (hu : A.units < cLine) :
    RcAt A sh (.ref l) u false ∧ RcNeAt A sh (.ref l) u true ∧ RcAt A sh u (.ref l) false ∧ RcNeAt A sh u (.ref l) true := by
  cases w with
  | non => rw [seesN sv] at e; cases e; exact ⟨.tuple_none hl hu, .tuple_none hl hu, .none_tuple hl hu, .none_tuple hl hu⟩
  | bl x => rw [seesB sv] at e; cases e; exact ⟨.tuple_bool x hl hu, .tuple_bool x hl hu, .bool_tuple x hl hu, .bool_tuple x hl hu⟩
  | int x => rw [seesI sv] at e; obtain ⟨t, rfl⟩ := e; exact ⟨.tuple_int x t hl hu, .tuple_int x t hl hu, .int_tuple x t hl hu, .int_tuple x t hl hu⟩
  | str x => rw [seesS sv] at e; obtain ⟨t, rfl⟩ := e; exact ⟨.tuple_str x t hl hu, .tuple_str x t hl hu, .str_tuple x t hl hu, .str_tuple x t hl hu⟩
  | _ => cases hs
theorem list_is {G H : Hp} {sh : Shared} {xs : List T} {v : V} {u : Value} (I : Inv X pins st H sh) (sv : Sees cA G H (.lst xs) v) (e : RelV v u) : ∃ a its, u = .ref a ∧ sh.heap.IsList a its ∧ its.size = xs.length := by
  obtain ⟨a, vs, rfl, ha, q⟩ := sv
  cases e
  obtain ⟨z, its, n, r, g⟩ := I.hok a _ ha
  exact ⟨a, its.toArray, rfl, ⟨_, g, rfl, n, rfl⟩, by rw [List.size_toArray, ← r.length, q.length]⟩
theorem tup_is {G H : Hp} {sh : Shared} {xs : List T} {v : V} {u : Value} (I : Inv X pins st H sh) (sb : Sb G H) (sv : Sees cA G H (.tup xs) v) (e : RelV v u) : ∃ a its, u = .ref a ∧ sh.heap.IsTuple a its := by
  obtain ⟨a, vs, rfl, ha, ga, q⟩ := seesT sb sv
  cases e
  obtain ⟨its, r, t, z⟩ := I.tuple (.of ha)
  exact ⟨a, _, rfl, t⟩
/-- == and != of what is no scalar pair -/
theorem eqB_ok (F : PfX X D M cA fA fdA psA k cf) {f : T → T → Option Bool} (ih : ItOk X cA k al st pins s j f) {A : Around} (sb : SubG X k (j + 1) A) {G H : Hp} {sh : Shared} {x w : T} {y z : VV} {v v' : V} {u u' : Value} {b : Bool} (ne : Bool)
    (r : Rl cA al G s H) (I : Inv X pins st H sh) (rv : RepV cA al G y v) (rw' : RepV cA al G z v') (h1 : rd s y = some x) (h2 : rd s z = some w) (e1 : RelV v u) (e2 : RelV v' u') (h : eqB D cf s f y z x w = some b) :
    wpAny (model X.prog X.w) A (richCompare (rcOp ne) u u') (fun r s' => r = .bool (xor ne b) ∧ Lp X cA al st pins s G s') X.xe sh := by
  have s1 := r.sees rv h1
  have s2 := r.sees rw' h2
  have hu := sb.room.units0
  unfold eqB at h
  split at h
  · rename_i xs ys
    split at h
    · rename_i hl
      exact rc_lists ih sb ne r I rv rw' h1 h2 e1 e2 hl h
    · rename_i hl
      cases h
      obtain ⟨a, its, rfl, i1, l1⟩ := list_is I s1 e1
      obtain ⟨a', its', rfl, i2, l2⟩ := list_is I s2 e2
      have hne : (its.size != its'.size) = true := by rw [l1, l2]; simpa using hl
      exact rc_kinds ne r I (.lists_lengths i1 i2 hne hu) (.lists_lengths i1 i2 hne hu)
  · rename_i xs ys
    rw [Option.map_eq_some_iff] at h
    obtain ⟨b0, h, rfl⟩ := h
    exact rc_tups ih sb ne r I rv rw' h1 h2 e1 e2 h
  · cases h
    obtain ⟨a, its, rfl, i1, l1⟩ := list_is I s1 e1
    obtain ⟨a', its', rfl, i2⟩ := tup_is I r.sub s2 e2
    exact rc_kinds ne r I (.list_tuple i1 i2 hu) (.list_tuple i1 i2 hu)
  · cases h
    obtain ⟨a, its, rfl, i1⟩ := tup_is I r.sub s1 e1
    obtain ⟨a', its', rfl, i2, l2⟩ := list_is I s2 e2
    exact rc_kinds ne r I (.tuple_list i1 i2 hu) (.tuple_list i1 i2 hu)
  · rename_i c fs c' gs
    split at h
    · rename_i hc
      subst hc
      exact rc_own F sb ne r I rv rw' h1 h2 e1 e2 (.inl ⟨_, rfl⟩) h
    · cases h
  · split at h
    · rename_i hw
      exact rc_own F sb ne r I rv rw' h1 h2 e1 e2 (.inr hw) h
    · cases h
  · split at h
    · rename_i hw
      cases h
      obtain ⟨a, its, rfl, i1, l1⟩ := list_is I s1 e1
      have z := rc_lst_sc (A := A) hw s2 e2 i1 hu
      exact rc_kinds ne r I z.1 z.2.1
    · cases h
  · split at h
    · rename_i hw
      cases h
      obtain ⟨a, its, rfl, i1⟩ := tup_is I r.sub s1 e1
      have z := rc_tup_sc (A := A) hw s2 e2 i1 hu
      exact rc_kinds ne r I z.1 z.2.1
    · cases h
  · split at h
    · rename_i hw
      cases h
      obtain ⟨a, its, rfl, i1, l1⟩ := list_is I s2 e2
      have z := rc_lst_sc (A := A) hw s1 e1 i1 hu
      exact rc_kinds ne r I z.2.2.1 z.2.2.2
    · cases h
  · split at h
    · rename_i hw
      cases h
      obtain ⟨a, its, rfl, i1⟩ := tup_is I r.sub s2 e2
      have z := rc_tup_sc (A := A) hw s1 e1 i1 hu
      exact rc_kinds ne r I z.2.2.1 z.2.2.2
    · cases h
  · cases h
end
end Tw
set_option maxHeartbeats 4000000
namespace Tw
open PySem PySem.Spec PyProof.Rows L2
theorem rel_inj {v v' : V} {u : Value} (h : RelV v u) (h' : RelV v' u) : v = v' := by
  cases v <;> cases v' <;> simp only [L2.RelV] at h h' <;> first
    | (subst h; cases h'; done)
    | (subst h; cases h'; rfl)
    | (subst h; obtain ⟨_, e⟩ := h'; cases e; done)
    | (obtain ⟨_, rfl⟩ := h; cases h'; done)
    | (obtain ⟨_, rfl⟩ := h; obtain ⟨_, e⟩ := h'; cases e; first | rfl | done)
    | rfl
section
variable {prog : Program} {w : World} {A : Around} {E : Value → Shared → Prop} {s : Shared}
theorem eqBool_ne {u v : Value} {Q : Bool → Shared → Prop} (hne : u ≠ v) (hf : ∀ x t, u ≠ .float x t) (h : wpAny (model prog w) A (richCompare .Eq u v) (fun v s' => ∃ r, v = .bool r ∧ Q r s') E s) : wpAny (model prog w) A (eqBool u v) Q E s := by
  have go : wpAny (model prog w) A (truthOfDropped =<< richCompare .Eq u v) Q E s := by
    refine wpAny_bind (wpAny_mono h (fun v s' hv => ?_) fun _ _ x => x)
    obtain ⟨r, rfl, q⟩ := hv
    exact wpAny_truthy_bool q
  unfold eqBool
  refine wpAny_holding ?_
  refine wpAny_ite_split (fun hab => absurd (eq_of_beq hab) hne) (fun _ => ?_)
  cases u <;> first | exact absurd rfl (hf _ _) | exact go
end
section
variable {cA : CA} {X : Cx} {N : List Str} {sc : Scope} {W : WX} {D : Defs} {M : Nms} {fA : Nat → Addr} {fdA : Nat → FuncData} {psA : Nat → List Str} {k j : Nat} {cf : CF} {al : List Addr} {st : L2.St} {pins : List (Addr × Obj)} {s : Store}
theorem no_flt {G : Hp} {t : T} {v : V} {u : Value} (r : Rep cA G t v) (e : RelV v u) : ∀ x t, u ≠ .float x t := by
  intro x t' h
  subst h
  cases t with
  | non => unfold Rep at r; subst r; cases e
  | bl _ => unfold Rep at r; subst r; cases e
  | int _ => unfold Rep at r; subst r; obtain ⟨_, e⟩ := e; cases e
  | str _ => unfold Rep at r; subst r; obtain ⟨_, e⟩ := e; cases e
  | ty _ => unfold Rep at r; subst r; cases e
  | lst _ => unfold Rep at r; obtain ⟨_, _, rfl, _⟩ := r; cases e
  | tup _ => unfold Rep at r; obtain ⟨_, _, rfl, _⟩ := r; cases e
  | dct _ => unfold Rep at r; obtain ⟨_, _, rfl, _⟩ := r; cases e
  | ins _ _ => unfold Rep at r; obtain ⟨_, _, _, rfl, _⟩ := r; cases e
  | scr _ => unfold Rep at r; obtain ⟨_, rfl, _⟩ := r; cases e
theorem flat_of {G : Hp} {t t' : T} {v v' : V} {b : Bool} (e : eqFlat t t' = some b) (r : Rep cA G t v) (r' : Rep cA G t' v') : flatV v = true ∧ flatV v' = true := by
  have : isSc t = true ∧ isSc t' = true := by
    unfold eqFlat at e
    split at e <;> first | exact ⟨rfl, rfl⟩ | cases e
  exact ⟨sc_flat r this.1, sc_flat r' this.2⟩
theorem itOk_eqD (F : PfX X D M cA fA fdA psA k cf) : ∀ (n j : Nat), n ≤ j → ItOk X cA k al st pins s j (eqD D cf s n)
  | n, j, hn => by
    intro A G H sh t t' v v' u u' b sb r I rv rv' e1 e2 h
    unfold eqI at h
    split at h
    · rename_i c hc
      cases h
      obtain ⟨f1, f2⟩ := flat_of hc rv rv'
      have q := eqAt_V (A := A) (s := sh) e1 e2 f1 f2
      rw [eqFlat_V rv rv' hc] at q
      exact q X.prog X.w X.xe _ ⟨rfl, G, H, Sb.rfl', r, I⟩
    · have hd : ∃ c, eqD D cf s n t t' = some c ∧ c = b ∧ (b = false → dif t t' = true) := by
        split at h
        · rename_i hz
          split at h
          · rename_i hdif
            cases h
            exact ⟨false, hz, rfl, fun _ => hdif⟩
          · cases h
        · rename_i hz
          cases hq : eqD D cf s n t t' with
          | none => rw [hq] at h; cases h
          | some c =>
            rw [hq] at h
            cases h
            cases b with
            | true => exact ⟨true, rfl, rfl, fun z => by cases z⟩
            | false => exact absurd hq hz
      obtain ⟨c, hc, rfl, hdif⟩ := hd
      by_cases huu : u = u'
      · subst huu
        have := rel_inj e1 e2
        subst this
        cases c with
        | true => exact SeqAt.EqAt.same (A := A) (s := sh) u X.prog X.w X.xe _ ⟨rfl, G, H, Sb.rfl', r, I⟩
        | false => exact (dif_ok (hdif rfl) rv rv').elim
      · refine eqBool_ne huu (no_flt rv e1) ?_
        match n, j, hn, hc with
        | n + 1, j + 1, hn, hc =>
          refine wpAny_mono (eqB_ok F (itOk_eqD F n j (by omega)) sb (y := .t t) (z := .t t') false r I rv rv' rfl rfl e1 e2 hc) (fun q s' z => ?_) fun _ _ x => x
          obtain ⟨hq, lp⟩ := z
          exact ⟨c, by rw [hq]; simp, rfl, lp⟩
        | 0, _, _, hc => simp [eqD] at hc
def rCmpO (cA : CA) (D : Defs) (cf : CF) (o : CmpOp) : R2 := fun x y H Q => ∃ al G s y' z' b, Rl cA al G s H ∧ RepV cA al G y' x ∧ RepV cA al G z' y ∧ cmpV D cf o y' z' s = some b ∧ ∀ G' H', Sb G G' → Rl cA al G' s H' → Q (.bl b) H'
theorem op_cmpO (F : PfX X D M cA fA fdA psA k cf) (o : CmpOp) : OpR X (compareOp o) (rCmpO cA D cf o) := by
  intro pins sh st H x y v u Q I rx ry h
  obtain ⟨al, G, s, y', z', b, r, rv, ru, e, q⟩ := h
  unfold cmpV at e
  split at e
  · rename_i tx ty h1 h2
    split at e
    · rename_i c hc
      cases e
      exact op_cmp (cA := cA) o pins sh st H x y v u Q I rx ry ⟨G, tx, ty, _, ⟨r.sub⟩, r.sees rv h1, r.sees ru h2, hc, q G H Sb.rfl' r⟩
    · have top : SubG X k (15 + 1) X.A := SubG.top F.room
      split at e
      · refine wpAny_mono (eqB_ok F (itOk_eqD F 12 15 (by decide)) top false r I rv ru h1 h2 rx ry e) (fun q' s' z => ?_) fun _ _ x => x
        obtain ⟨hq, G', H', sb', r', I'⟩ := z
        exact ⟨.bl b, H', I', by rw [hq]; simp [L2.RelV], q G' H' sb' r'⟩
      · rw [Option.map_eq_some_iff] at e
        obtain ⟨c, e, rfl⟩ := e
        refine wpAny_mono (eqB_ok F (itOk_eqD F 12 15 (by decide)) top true r I rv ru h1 h2 rx ry e) (fun q' s' z => ?_) fun _ _ x => x
        obtain ⟨hq, G', H', sb', r', I'⟩ := z
        exact ⟨.bl (!c), H', I', by rw [hq]; simp [L2.RelV], q G' H' sb' r'⟩
      · cases e
  · cases e
theorem s_cmp (F : PfX X D M cA fA fdA psA k cf) {o : CmpOp} {a b : Expr} {ma mb : Loc → Store → Out VV} {pos : Pos} (ha : PE X a (TEv cA W ma)) (hb : PE X b (TEv cA W mb)) (hm : behindInMarks o b = false) :
    PE X (.Compare a [o] [b] pos) (TEv cA W fun loc s => (ma loc s).bind fun y s1 => (mb loc s1).bind fun z s2 => ofT s2 ((cmpV D cf o y z s2).map .bl)) := by
  refine pe_weak (pe_cmpR (op_cmpO F o) ha hb hm) fun st H Q q => ?_
  obtain ⟨al, G, loc, s, r, S, p⟩ := q
  refine TEv.go r S p fun y s1 al1 G1 H1 v x1 r1 S1 rv p1 => ?_
  refine TEv.go r1 S1 p1 fun z s2 al2 G2 H2 u x2 r2 S2 ru p2 => ?_
  cases hz : cmpV D cf o y z s2 with
  | none => rw [hz] at p2; exact p2.elim
  | some b =>
    rw [hz] at p2
    exact ⟨al2, G2, s2, y, z, b, r2, rv.mono x2, ru, hz, fun G' H' sb r' => p2 al2 G' H' (Xt.ofSb sb) r' _ (show Rep cA G' (.bl b) (.bl b) from repB)⟩
theorem s_cmpT (F : PfX X D M cA fA fdA psA k cf) {o : CmpOp} {a b : Expr} {ma mb : Loc → Store → Out VV} {pos : Pos} (ha : PE X a (TEv cA W ma)) (hb : PE X b (TEv cA W mb)) (hm : behindInMarks o b = false) :
    PT X (.Compare a [o] [b] pos) (TTv cA W fun loc s => (ma loc s).bind fun y s1 => (mb loc s1).bind fun z s2 => ofO s2 (cmpV D cf o y z s2)) := by
  refine pt_weak (pt_cmpR (op_cmpO F o) ha hb hm) fun st H Q q => ?_
  obtain ⟨al, G, loc, s, r, S, p⟩ := q
  refine TEv.go r S p fun y s1 al1 G1 H1 v x1 r1 S1 rv p1 => ?_
  refine TEv.go r1 S1 p1 fun z s2 al2 G2 H2 u x2 r2 S2 ru p2 => ?_
  cases hz : cmpV D cf o y z s2 with
  | none => rw [hz] at p2; exact p2.elim
  | some b =>
    rw [hz] at p2
    exact ⟨al2, G2, s2, y, z, b, r2, rv.mono x2, ru, hz, fun G' H' sb r' => ⟨b, rfl, p2 al2 G' H' (Xt.ofSb sb) r'⟩⟩
/-! ### xs[::-1] -/
theorem s_rev {a : Expr} {ma : Loc → Store → Out VV} {k' : Nat} {p1 p2 p3 pos : Pos} (ha : PE X a (TEv cA W ma)) :
    PE X (.Subscript a (.Slice none none (some (.UnaryOp .USub (.Constant (.int 1) k' p1) p2)) p3) pos) (TEv cA W fun loc s => (ma loc s).bind fun y s1 => match rd s1 y with
      | some (.lst xs) => .ok (.t (.lst xs.reverse)) s1
      | _ => .bad) := by
  refine pe_weak (pe_revL ha) fun st H Q q => ?_
  obtain ⟨al, G, loc, s, r, S, p⟩ := q
  refine TEv.go r S p fun y s1 al1 G1 H1 v x1 r1 S1 rv p1 => ?_
  split at p1
  · rename_i xs h1
    obtain ⟨b, vs, rfl, hb, q⟩ := r1.sees rv h1
    refine ⟨b, vs, rfl, .of hb, (Give.of p1 r1).lst (fun p hp => r1.gnone hp) ?_⟩
    clear h1 p1 hb
    induction xs generalizing vs with
    | nil => unfold RepL at q; subst q; exact .nil
    | cons x xs ih =>
      unfold RepL at q
      obtain ⟨v, rr, e, q1, q2⟩ := q
      subst e
      rw [List.reverse_cons, List.reverse_cons]
      exact (ih rr q2).append (.one q1)
  · exact p1.elim
/-! ### properties -/
theorem getprop_G {a dx C p g : Addr} {gs : List (Str × V)} {f : Str} {fd : FuncData} {ps : List Str} {sp : Sp} {b : Bool} {H : Hp} {sh : Shared} {Q : VK} {gd : Bool} (I : Inv X pins st H sh) (ea : H a = some (.ins C dx gs)) (c : Cls X.K C) (hp : PropOf X.K C f p g)
    (F : FnG X.prog X.w X.K X.mg X.base gd k g fd ps sp) (hgd : gd = true → X.A.guards = some []) (hr : Room (k + 1) X.A) (hb : Binds X.K fd ps []) (h : sp [.ref a] H Q fun _ _ _ => False) :
    wpAny (model X.prog X.w) X.A (getAttr (.ref a) f b) (EP X pins st Q) X.xe sh := by
  obtain ⟨mA, O, _, _, _, _⟩ := ins_get I.hok ea
  obtain ⟨od, J, _⟩ := O.look
  obtain ⟨rest, hrec⟩ := hp.rec_
  have I1 := I.tok (sh.toks + 1)
  have hl : [Value.ref a].length = ps.length := by
    rw [← F.len _ _ _ _ h]; rfl
  have hc : (PySem.W.clsIn X.K C).isSome = true := by
    obtain ⟨cd, hc, _⟩ := PySem.W.any_some c.hd
    rw [hc]
    rfl
  refine PySem.W.get_bind I.kIn J (PySem.W.plainGet_of (c.get f)).1 (PySem.W.findObj_data hc hp.at_ hp.get hp.tak) (PySem.W.plainGet_of (c.get f)).2 (wpAny_call (PySem.W.prop_get (s := { sh with toks := sh.toks + 1 }) I.kIn hrec ?_))
  refine codeAny_mono (F.run X.A.in1 X.stack { sh with toks := sh.toks + 1 } H ⟨[.ref a], []⟩ [.ref a] [.ref a] Q (fun _ _ _ => False) hr.in1 hgd I1.env0.in1 (hb _ [.ref a] I1.kIn (by simpa using hl)) (.cons rfl .nil) h) fun r s' hq => ?_
  match r, hq with
  | .error er, ⟨_, _, _, _, _, _, _, _, _, _, _, _, zz⟩ => exact zz.elim
  | .ok (.ret u), hq =>
    obtain ⟨v, H', I3, rv, q3⟩ := I1.after hq
    show wpAny _ _ (handedOut u) _ _ _
    rw [PySem.W.handedOut_of (handed_of rv)]
    exact wpAny_pure ⟨v, H', I3, rv, q3⟩
  | .ok .next, hq => exact hq.elim
  | .ok .brk, hq => exact hq.elim
  | .ok .cont, hq => exact hq.elim
theorem s_prop (F : PfX X D M cA fA fdA psA k cf) {a : Expr} {ma : Loc → Store → Out VV} {f : Str} {pos : Pos} (ha : PE X a (TEv cA W ma)) (hb : notSuper a = true) :
    PE X (.Attribute a f pos) (TEv cA W fun loc s => (ma loc s).bind fun y s1 => propV D cf f y s1) := by
  refine ⟨fun pins sh st H Q I h => ?_⟩
  refine attr_of (base_plain hb) (thn (ha.run pins sh st H (fun x H1 => ∃ a dx gs c g d, D.pr c f = some g ∧ D.fn g = some d ∧ x = .ref a ∧ H1 a = some (.ins (cA c) dx gs) ∧ spF cA cf g d.np [.ref a] H1 Q fun _ _ _ => False) I ?_) fun u s1 ⟨x, H1, I1, rx, a, dx, gs, c, g, d, hpr, hd, ex, ea, q⟩ => ?_)
  · obtain ⟨al, G, loc, s, r, S, pp⟩ := h
    refine TEv.go r S pp fun y s1 al1 G1 H1 v x1 r1 S1 rv p1 => ?_
    unfold propV at p1
    split at p1
    · rename_i c fs h1
      split at p1
      · rename_i g hg
        unfold prN at hg
        split at hg
        · rename_i g' hpr
          split at hg
          · rename_i d hd
            split at hg
            · rename_i hn
              cases hg
              obtain ⟨b, dx, gs, rfl, hb', rb⟩ := r1.sees rv h1
              refine ⟨b, dx, gs, c, g, d, hpr, hd, rfl, hb', al1, G1, [y], s1, r1, ⟨_, _, rfl, rv, rfl⟩, by rw [hn]; rfl, ?_⟩
              cases hcf : cf g [y] s1 with
              | ok v s2 => rw [hcf] at p1; exact fun al' G' H' w x r q => p1 al' G' H' x r w q
              | ex e s2 => rw [hcf] at p1; exact p1.elim
              | bad => rw [hcf] at p1; exact p1.elim
            · cases hg
          · cases hg
        · cases hg
      · exact p1.elim
    · exact p1.elim
  · subst ex
    obtain rfl : u = Value.ref a := rx
    obtain ⟨hcl, p, hp⟩ := F.pr c f g hpr
    exact getprop_G I1 ea hcl hp (F.fn g d hd) F.gd F.room (F.bd g d hd) q
end
end Tw
set_option maxHeartbeats 4000000
namespace Tw
open PySem L2

/-! ## targets -/
theorem wipe_set (x : Option V) (i : Nat) : ∀ (st : L2.St) (vs : List Nat), (i ∈ vs → wipe (st.set i x) vs = wipe st vs) ∧ (i ∉ vs → wipe (st.set i x) vs = (wipe st vs).set i x)
  | st, [] => ⟨fun h => (by cases h), fun _ => rfl⟩
  | st, v :: vs => by
    obtain ⟨h1, h2⟩ := wipe_set x i st vs
    refine ⟨fun h => ?_, fun h => ?_⟩
    · show (wipe (st.set i x) vs).set v none = (wipe st vs).set v none
      by_cases hi : i ∈ vs
      · rw [h1 hi]
      · have e : i = v := by
          rcases List.mem_cons.mp h with e | e
          · exact e
          · exact absurd e hi
        subst e
        rw [h2 hi, List.set_set]
    · show (wipe (st.set i x) vs).set v none = ((wipe st vs).set v none).set i x
      have hn : i ≠ v := fun e => h (by rw [e]; exact List.mem_cons_self)
      rw [h2 (fun q => h (List.mem_cons_of_mem _ q)), List.set_comm _ _ hn]
def Keeps (own : List Nat) (st st' : L2.St) : Prop := ∀ vs : List Nat, (∀ i ∈ own, i ∈ vs) → wipe st' vs = wipe st vs
theorem RepS.set {cA : CA} {al : List Addr} {G : Hp} {loc : Loc} {st : L2.St} {y : VV} {v : V} {i : Nat} (S : RepS cA al G loc st) (h : i < loc.length) (q : RepV cA al G y v) : RepS cA al G (loc.set i (some y)) (st.set i (some v)) := by
  refine ⟨by simp [S.len], fun j z e => ?_⟩
  by_cases hj : j = i
  · subst hj
    rw [List.getElem?_set_self h] at e
    cases e
    exact ⟨v, by rw [List.getElem?_set_self (by rw [← S.len]; exact h)], q⟩
  · rw [List.getElem?_set_ne (Ne.symm hj)] at e
    obtain ⟨u, h1, h2⟩ := S.get j z e
    exact ⟨u, by rw [List.getElem?_set_ne (Ne.symm hj)]; exact h1, h2⟩

def TGn (cA : CA) (i : Nat) : TG := fun v st H Q => ∃ al G loc s y, Rl cA al G s H ∧ RepS cA al G loc st ∧ RepV cA al G y v ∧ i < loc.length ∧ ∀ st', RepS cA al G (loc.set i (some y)) st' → Keeps [i] st st' → Q st' H
def TGl (cA : CA) (gs : E) : TGs := fun vs st H Q => ∃ al G loc s xs loc', Rl cA al G s H ∧ RepS cA al G loc st ∧ RepL cA G xs vs ∧ bindGs gs xs loc = some loc' ∧ ∀ st', RepS cA al G loc' st' → Keeps (gslots gs) st st' → Q st' H
def TGt (cA : CA) (gs : E) : TG := fun v st H Q => ∃ al G loc s x xs loc', Rl cA al G s H ∧ RepS cA al G loc st ∧ Sees cA G H x v ∧ items x = some xs ∧ bindGs gs xs loc = some loc' ∧ ∀ st', RepS cA al G loc' st' → Keeps (gslots gs) st st' → Q st' H
def TGb (cA : CA) (g : E) : TG := fun v st H Q => ∃ al G loc s x loc', Rl cA al G s H ∧ RepS cA al G loc st ∧ Rep cA G x v ∧ bindG g x loc = some loc' ∧ ∀ st', RepS cA al G loc' st' → Keeps (gslots g) st st' → Q st' H

structure Tgk (X : Cx) (N : List Str) (ts : Scope) : Prop where
  hN : X.N = N
  nd : N.Nodup
  lo : ∀ x, ts.names.lookup x = some .local → X.env.scope.names.lookup x = some .local
  ce : ∀ x, ts.names.lookup x = some .cell → X.env.scope.names.lookup x = some .cell ∧ X.fn x = true
def locB (ts : Scope) (x : Str) : Bool := match ts.names.lookup x with | some .local => true | some .cell => true | _ => false
section
variable {cA : CA} {X : Cx} {N : List Str} {ts : Scope}
theorem pg_weak {e : Expr} {t t' : TG} (h : PG X e t) (w : ∀ v st H Q, t' v st H Q → t v st H Q) : PG X e t' :=
  ⟨fun pins s st H v u Q I r q => h.run pins s st H v u Q I r (w v st H Q q)⟩
theorem g_name (T : Tgk X N ts) {i : Nat} {x : Str} {pos : Pos} (h1 : N[i]? = some x) (h2 : locB ts x = true) : PG X (.Name x pos) (TGn cA i) := by
  have hl : L2.Loc X.env.scope x ∧ (X.fn x = true ∨ X.env.scope.names.lookup x = some .local) := by
    unfold locB at h2
    split at h2
    · rename_i z; exact ⟨.inl (T.lo x z), .inr (T.lo x z)⟩
    · rename_i z; exact ⟨.inr (T.ce x z).1, .inl (T.ce x z).2⟩
    · cases h2
  refine pg_weak (pg_name (i := i) (by rw [T.hN]; exact T.nd) (by rw [T.hN]; exact h1) hl.1 hl.2) fun v st H Q q => ?_
  obtain ⟨al, G, loc, s, y, r, S, rv, hi, q⟩ := q
  exact q _ (S.set hi rv) fun vs h => (wipe_set _ _ st vs).1 (h i (List.mem_cons_self))
theorem pgs_weak {e : List Expr} {t t' : TGs} (h : PGs X e t) (w : ∀ v st H Q, t' v st H Q → t v st H Q) : PGs X e t' :=
  ⟨fun pins s st H v u Q I r q => h.run pins s st H v u Q I r (w v st H Q q)⟩
theorem each_cons {env : Env} {e : Expr} {es : List Expr} (h : notStar e = true) : (assignEach (e :: es) env).map (·.2) = assign e env :: (assignEach es env).map (·.2) := by
  cases e <;> first | rfl | cases h
theorem each_len {env : Env} : ∀ {es : List Expr}, (assignEach es env).length = es.length
  | [] => rfl
  | e :: es => by
    have ih := each_len (env := env) (es := es)
    cases e <;> (show (assignEach es env).length + 1 = es.length + 1; rw [ih])
theorem each_star {env : Env} : ∀ {es : List Expr}, es.all notStar = true → (assignEach es env).findIdx? (·.1) = none
  | [], _ => rfl
  | e :: es, h => by
    rw [List.all_cons, Bool.and_eq_true] at h
    have ih := each_star (env := env) h.2
    have : ∃ f, assignEach (e :: es) env = (false, f) :: assignEach es env := by
      cases e <;> first | exact ⟨_, rfl⟩ | (have z := h.1; cases z)
    obtain ⟨f, hf⟩ := this
    rw [hf, List.findIdx?_cons]
    simp [ih]
theorem Keeps.trans {a b : List Nat} {st st1 st2 : L2.St} (h1 : Keeps a st st1) (h2 : Keeps b st1 st2) : Keeps (a ++ b) st st2 := fun vs h =>
  (h2 vs fun i hi => h i (List.mem_append_right _ hi)).trans (h1 vs fun i hi => h i (List.mem_append_left _ hi))
theorem g_nil : PGs X [] (TGl cA .nil) := by
  refine pgs_weak pgs_nil fun vs st H Q q => ?_
  obtain ⟨al, G, loc, s, xs, loc', r, S, rl, hb, q⟩ := q
  cases xs with
  | nil =>
    unfold RepL at rl
    subst rl
    simp only [bindGs, Option.some.injEq] at hb
    subst hb
    exact ⟨rfl, q st S fun _ _ => rfl⟩
  | cons x xs => simp [bindGs] at hb
theorem g_consN {i : Nat} {gs : E} {e : Expr} {es : List Expr} (h1 : PG X e (TGn cA i)) (h2 : PGs X es (TGl cA gs)) (h : notStar e = true) : PGs X (e :: es) (TGl cA (.cons (.gn i) gs)) := by
  refine pgs_weak (pgs_cons h1 h2 (each_cons h)) fun vs st H Q q => ?_
  obtain ⟨al, G, loc, s, xs, loc', r, S, rl, hb, q⟩ := q
  cases xs with
  | nil => simp [bindGs] at hb
  | cons x xs =>
    unfold RepL at rl
    obtain ⟨v, rr, rfl, rx, rs⟩ := rl
    simp only [bindGs] at hb
    split at hb
    · rename_i hi
      refine ⟨v, rr, rfl, al, G, loc, s, .t x, r, S, rx, hi, fun st1 S1 k1 => ?_⟩
      exact ⟨al, G, _, s, xs, loc', r, S1, rs, hb, fun st2 S2 k2 => q st2 S2 (k1.trans k2)⟩
    · cases hb
theorem g_consT {hs gs : E} {e : Expr} {es : List Expr} (h1 : PG X e (TGt cA hs)) (h2 : PGs X es (TGl cA gs)) (h : notStar e = true) : PGs X (e :: es) (TGl cA (.cons (.gt hs) gs)) := by
  refine pgs_weak (pgs_cons h1 h2 (each_cons h)) fun vs st H Q q => ?_
  obtain ⟨al, G, loc, s, xs, loc', r, S, rl, hb, q⟩ := q
  cases xs with
  | nil => simp [bindGs] at hb
  | cons x xs =>
    unfold RepL at rl
    obtain ⟨v, rr, rfl, rx, rs⟩ := rl
    simp only [bindGs] at hb
    split at hb
    · rename_i zs hz
      rw [Option.bind_eq_some_iff] at hb
      obtain ⟨l1, hb1, hb2⟩ := hb
      refine ⟨v, rr, rfl, al, G, loc, s, x, zs, l1, r, S, sees_of r.sub rx, hz, hb1, fun st1 S1 k1 => ?_⟩
      exact ⟨al, G, _, s, xs, loc', r, S1, rs, hb2, fun st2 S2 k2 => q st2 S2 (k1.trans k2)⟩
    · cases hb
theorem bindGs_len : ∀ {gs : E} {xs : List T} {loc loc' : Loc}, bindGs gs xs loc = some loc' → xs.length = alen gs
  | .nil, [], _, _, _ => rfl
  | .cons (.gn i) gs, x :: xs, loc, loc', h => by
    simp only [bindGs] at h
    split at h
    · simp [alen, bindGs_len h]
    · cases h
  | .cons (.gt hs) gs, x :: xs, loc, loc', h => by
    simp only [bindGs] at h
    split at h
    · rw [Option.bind_eq_some_iff] at h
      obtain ⟨l1, _, h2⟩ := h
      simp [alen, bindGs_len h2]
    · cases h
theorem g_tup (hc : X.calm = true) {gs : E} {es : List Expr} {k : Nat} {pos : Pos} (h : PGs X es (TGl cA gs)) (hl : alen gs = es.length) (hs : es.all notStar = true) : PG X (.Tuple es k pos) (TGt cA gs) := by
  have g1 := pg_tup (k := k) (pos := pos) (n := es.length) hc h each_len (each_star hs)
  have g2 := pg_lst (k := k) (pos := pos) (n := es.length) hc h each_len (each_star hs)
  refine ⟨fun pins s st H v u Q I r q => ?_⟩
  obtain ⟨al, G, loc, s', x, xs, loc', rl, S, sx, hx, hb, q⟩ := q
  have hlen := bindGs_len hb
  cases x with
  | tup ys =>
    cases hx
    obtain ⟨a, vs, rfl, ha, ga, ra⟩ := seesT rl.sub sx
    exact g1.run pins s st H _ u Q I r ⟨a, vs, rfl, .of ha, by rw [ra.length, hlen, hl], al, G, loc, s', xs, loc', rl, S, ra, hb, q⟩
  | lst ys =>
    cases hx
    obtain ⟨a, vs, rfl, ha, ra⟩ := sx
    exact g2.run pins s st H _ u Q I r ⟨a, vs, rfl, .of ha, by rw [ra.length, hlen, hl], al, G, loc, s', xs, loc', rl, S, ra, hb, q⟩
  | _ => cases hx
theorem g_bn {i : Nat} {e : Expr} (h : PG X e (TGn cA i)) : PG X e (TGb cA (.gn i)) := pg_weak h fun v st H Q q => by
  obtain ⟨al, G, loc, s, x, loc', r, S, rx, hb, q⟩ := q
  simp only [bindG] at hb
  split at hb
  · rename_i hi
    cases hb
    exact ⟨al, G, loc, s, .t x, r, S, rx, hi, q⟩
  · cases hb
theorem g_bt {gs : E} {e : Expr} (h : PG X e (TGt cA gs)) : PG X e (TGb cA (.gt gs)) := pg_weak h fun v st H Q q => by
  obtain ⟨al, G, loc, s, x, loc', r, S, rx, hb, q⟩ := q
  simp only [bindG] at hb
  split at hb
  · rename_i xs hx
    exact ⟨al, G, loc, s, x, xs, loc', r, S, sees_of r.sub rx, hx, hb, q⟩
  · cases hb
end
end Tw
set_option maxHeartbeats 4000000
namespace Tw
open PySem L2

/-! ## what is walked -/
def SrcIt (cA : CA) (K : PySem.W.Frag) (al : List Addr) (G : Hp) : Src → It → Prop
  | .lst y, J => ∃ a, RepV cA al G y (.ref a) ∧ J = Itl K a
  | .tup xs, J => ∃ a vs, G a = some (.tup vs) ∧ RepL cA G xs vs ∧ J = Itt K a
  | .rng lo hi, J => J = Itr lo (hi - lo).toNat
  | .zip y z, J => ∃ a b, RepV cA al G y (.ref a) ∧ RepV cA al G z (.ref b) ∧ J = Itz K a b
  | .enu y, J => ∃ a, RepV cA al G y (.ref a) ∧ J = Ite K a
section
variable {cA : CA} {K : PySem.W.Frag} {al al' : List Addr} {G G' H : Hp} {s : Store} {src : Src} {J : It}
theorem SrcIt.mono (x : Xt al G al' G') (h : SrcIt cA K al G src J) : SrcIt cA K al' G' src J := by
  cases src with
  | lst y => obtain ⟨a, h1, h2⟩ := h; exact ⟨a, h1.mono x, h2⟩
  | tup xs => obtain ⟨a, vs, h1, h2, h3⟩ := h; exact ⟨a, vs, x.sub _ _ h1, RepL.mono x.sub h2, h3⟩
  | rng lo hi => exact h
  | zip y z => obtain ⟨a, b, h1, h2, h3⟩ := h; exact ⟨a, b, h1.mono x, h2.mono x, h3⟩
  | enu y => obtain ⟨a, h1, h2⟩ := h; exact ⟨a, h1.mono x, h2⟩
theorem lst_at (r : Rl cA al G s H) {y : VV} {a : Addr} {xs : List T} (q : RepV cA al G y (.ref a)) (h : lstAt s y = some xs) : ∃ vs, H a = some (.lst vs) ∧ RepL cA G xs vs := by
  unfold lstAt at h
  split at h
  · rename_i ys e
    cases h
    obtain ⟨b, vs, hb, hh, rr⟩ := r.sees q e
    cases hb
    exact ⟨vs, hh, rr⟩
  · cases h
theorem item_eq {xs : List T} {vs : List V} {i : Nat} {x : T} {v : V} (r : RepL cA G xs vs) (h : xs[i]? = some x) (hv : vs[i]? = some v) : Rep cA G x v := by
  obtain ⟨u, h1, h2⟩ := r.get h
  rw [hv] at h1; cases h1
  exact h2
theorem turn_some (r : Rl cA al G s H) (h : SrcIt cA K al G src J) {i : Nat} {x : T} (e : src.at s i = some (some x)) :
    J.go i H ∧ ∀ v H', J.yld i H v H' → ∃ G', Sb G G' ∧ Rl cA al G' s H' ∧ Rep cA G' x v := by
  cases src with
  | lst y =>
    obtain ⟨a, q, rfl⟩ := h
    simp only [Src.at, Option.map_eq_some_iff] at e
    obtain ⟨xs, h1, h2⟩ := e
    obtain ⟨vs, hh, rr⟩ := lst_at r q h1
    obtain ⟨u, hu, ru⟩ := rr.get h2
    refine ⟨⟨vs, u, .of hh, hu⟩, fun v H' hy => ?_⟩
    obtain ⟨e1, e2⟩ := hy
    subst e1
    have e3 := e2 vs (.of hh)
    rw [hu] at e3; cases e3
    exact ⟨G, Sb.rfl', r, ru⟩
  | tup xs =>
    obtain ⟨a, vs, hg, rr, rfl⟩ := h
    simp only [Src.at, Option.some.injEq] at e
    have hh := r.sub _ _ hg
    obtain ⟨u, hu, ru⟩ := rr.get e
    refine ⟨⟨vs, u, .of hh, hu⟩, fun v H' hy => ?_⟩
    obtain ⟨e1, e2⟩ := hy
    subst e1
    have e3 := e2 vs (.of hh)
    rw [hu] at e3; cases e3
    exact ⟨G, Sb.rfl', r, ru⟩
  | rng lo hi =>
    have h : J = Itr lo (hi - lo).toNat := h
    subst h
    simp only [Src.at, Option.some.injEq] at e
    split at e
    · rename_i hi'
      cases e
      refine ⟨hi', fun v H' hy => ?_⟩
      obtain ⟨e1, e2⟩ := hy
      subst e1; subst e2
      exact ⟨G, Sb.rfl', r, repI⟩
    · cases e
  | zip y z =>
    obtain ⟨a, b, qa, qb, rfl⟩ := h
    simp only [Src.at] at e
    split at e
    · rename_i xs ys h1 h2
      simp only [Option.some.injEq] at e
      split at e
      · rename_i x1 x2 e1 e2
        cases e
        obtain ⟨vs, hh, rr⟩ := lst_at r qa h1
        obtain ⟨us, hh2, rr2⟩ := lst_at r qb h2
        obtain ⟨u, hu, ru⟩ := rr.get e1
        obtain ⟨w, hw, rw'⟩ := rr2.get e2
        refine ⟨⟨vs, us, u, w, .of hh, .of hh2, hu, hw⟩, fun v H' hy => ?_⟩
        obtain ⟨Tt, p, q, rfl, hn, rfl, hp, hq⟩ := hy
        have e3 := hp vs (.of hh)
        have e4 := hq us (.of hh2)
        rw [hu] at e3; cases e3
        rw [hw] at e4; cases e4
        have gn := r.gnone hn
        refine ⟨upd G Tt (.tup [u, w]), Sb.new gn, r.newT hn, ?_⟩
        unfold Rep
        exact ⟨Tt, [u, w], rfl, upd_same, .cons (Rep.mono (Sb.new gn) ru) (.cons (Rep.mono (Sb.new gn) rw') .nil)⟩
      · cases e
    · cases e
  | enu y =>
    obtain ⟨a, q, rfl⟩ := h
    simp only [Src.at, Option.map_eq_some_iff] at e
    obtain ⟨xs, h1, x1, h2, h3⟩ := e
    subst h3
    obtain ⟨vs, hh, rr⟩ := lst_at r q h1
    obtain ⟨u, hu, ru⟩ := rr.get h2
    refine ⟨⟨vs, u, .of hh, hu⟩, fun v H' hy => ?_⟩
    obtain ⟨Tt, p, rfl, hn, rfl, hp⟩ := hy
    have e3 := hp vs (.of hh)
    rw [hu] at e3; cases e3
    have gn := r.gnone hn
    refine ⟨upd G Tt (.tup [.int (i : Nat), u]), Sb.new gn, r.newT hn, ?_⟩
    unfold Rep
    exact ⟨Tt, _, rfl, upd_same, .cons repI (.cons (Rep.mono (Sb.new gn) ru) .nil)⟩
theorem turn_none (r : Rl cA al G s H) (h : SrcIt cA K al G src J) {i : Nat} (e : src.at s i = some none) : J.stop i H := by
  cases src with
  | lst y =>
    obtain ⟨a, q, rfl⟩ := h
    simp only [Src.at, Option.map_eq_some_iff] at e
    obtain ⟨xs, h1, h2⟩ := e
    obtain ⟨vs, hh, rr⟩ := lst_at r q h1
    exact ⟨vs, .of hh, by rw [rr.length]; exact List.getElem?_eq_none_iff.mp h2⟩
  | tup xs =>
    obtain ⟨a, vs, hg, rr, rfl⟩ := h
    simp only [Src.at, Option.some.injEq] at e
    exact ⟨vs, .of (r.sub _ _ hg), by rw [rr.length]; exact List.getElem?_eq_none_iff.mp e⟩
  | rng lo hi =>
    have h : J = Itr lo (hi - lo).toNat := h
    subst h
    simp only [Src.at, Option.some.injEq] at e
    split at e
    · cases e
    · rename_i z
      exact Nat.le_of_not_lt z
  | zip y z =>
    obtain ⟨a, b, qa, qb, rfl⟩ := h
    simp only [Src.at] at e
    split at e
    · rename_i xs ys h1 h2
      simp only [Option.some.injEq] at e
      obtain ⟨vs, hh, rr⟩ := lst_at r qa h1
      obtain ⟨us, hh2, rr2⟩ := lst_at r qb h2
      refine ⟨vs, us, .of hh, .of hh2, ?_⟩
      rw [rr.length, rr2.length]
      cases e1 : xs[i]? with
      | none => exact .inl (List.getElem?_eq_none_iff.mp e1)
      | some a =>
        cases e2 : ys[i]? with
        | none => exact .inr (List.getElem?_eq_none_iff.mp e2)
        | some b => rw [e1, e2] at e; cases e
    · cases e
  | enu y =>
    obtain ⟨a, q, rfl⟩ := h
    simp only [Src.at, Option.map_eq_some_iff] at e
    obtain ⟨xs, h1, h2⟩ := e
    obtain ⟨vs, hh, rr⟩ := lst_at r q h1
    refine ⟨vs, .of hh, ?_⟩
    rw [rr.length]
    cases e1 : xs[i]? with
    | none => exact List.getElem?_eq_none_iff.mp e1
    | some a => rw [e1] at h2; cases h2
end

/-! ### the walks begin -/
def TIv (cA : CA) (K : PySem.W.Frag) (W : WX) (m : Loc → Store → Out Src) : TI := fun st H R =>
  ∃ al G loc s, Rl cA al G s H ∧ RepS cA al G loc st ∧ Po cA W al G st (fun src s' al' G' H' => ∀ J, SrcIt cA K al' G' src J → R J H') (m loc s)
section
variable {cA : CA} {X : Cx} {N : List Str} {sc : Scope} {W : WX} {tg : Expr}
variable {D : Defs} {M : Nms} {fA : Nat → Addr} {fdA : Nat → FuncData} {psA : Nat → List Str} {k : Nat} {cf : CF}
theorem pi_weak {e : Expr} {t t' : TI} (h : PI X tg e t) (w : ∀ st H Q, t' st H Q → t st H Q) : PI X tg e t' :=
  ⟨fun pins s st H R I q => h.run pins s st H R I (w st H R q)⟩
/-- a list or a tuple -/
theorem pi_any {e : Expr} {t : TE} (h : PE X e t) : PI X tg e (fun st H R => t st H fun x H1 => ∃ a, x = .ref a ∧ (((∃ xs, SqL X.K H1 a xs) ∧ R (Itl X.K a) H1) ∨ ((∃ xs, SqT X.K H1 a xs) ∧ R (Itt X.K a) H1))) := by
  refine ⟨fun pins s st H R I q => ?_⟩
  refine thn (h.run pins s st H _ I q) fun v s1 ⟨x, H1, I1, r1, a, e1, q1⟩ => ?_
  subst e1
  cases r1
  have new : ∀ b ∈ [s1.heap.objs.size], FpOk X pins H1 b := fun b hb => by
    have e : b = s1.heap.objs.size := by simpa using hb
    rw [e]
    exact I1.fpOk (Nat.le_refl _) (I1.hok.fresh (Nat.le_refl _))
  have kept : ∀ o : Obj, Inv X pins st H1 { s1 with heap := s1.heap.push o } := fun o => I1.kept (t' := s1.toks) fun b u e => Heap.get?_push_of_some _ e
  rcases q1 with ⟨⟨xs, hx⟩, q1⟩ | ⟨⟨xs, hx⟩, q1⟩
  · obtain ⟨its, rv, p, _⟩ := I1.list hx
    exact wpAny_pyIter_list p.isList ⟨_, [s1.heap.objs.size], _, _, H1, rfl, kept _, turn_list a _, ⟨_, Heap.get?_push_size _ rfl, rfl, rfl⟩, new, q1⟩
  · obtain ⟨its, rv, p, _⟩ := I1.tuple hx
    exact wpAny_pyIter_tuple (show s1.heap.IsTuple a its.toArray from p) ⟨_, [s1.heap.objs.size], _, _, H1, rfl, kept _, turn_tuple a _, ⟨_, Heap.get?_push_size _ rfl, rfl, rfl⟩, new, q1⟩
theorem i_seq {e : Expr} {m : Loc → Store → Out VV} (h : PE X e (TEv cA W m)) : PI X tg e (TIv cA X.K W fun loc s => (m loc s).bind fun y s1 => match rd s1 y with
      | some (.lst _) => .ok (.lst y) s1
      | some (.tup xs) => .ok (.tup xs) s1
      | _ => .bad) := by
  refine pi_weak (pi_any h) fun st H Q q => ?_
  obtain ⟨al, G, loc, s, r, S, p⟩ := q
  refine TEv.go r S p fun y s1 al1 G1 H1 v x1 r1 S1 rv p1 => ?_
  split at p1
  · rename_i xs h1
    obtain ⟨a, vs, rfl, ha, ra⟩ := r1.sees rv h1
    exact ⟨a, rfl, .inl ⟨⟨vs, .of ha⟩, p1.here r1 _ ⟨a, rv, rfl⟩⟩⟩
  · rename_i xs h1
    obtain ⟨a, vs, rfl, ha, ga, ra⟩ := seesT r1.sub (r1.sees rv h1)
    exact ⟨a, rfl, .inr ⟨⟨vs, .of ha⟩, p1.here r1 _ ⟨a, vs, ga, ra, rfl⟩⟩⟩
  · exact p1.elim
theorem i_enu (F : PfX X D M cA fA fdA psA k cf) (c : Cok X N sc W) {e : Expr} {es : List Expr} {kk : Nat} {tpos p pos : Pos} {m : Loc → Store → Out VV} (h : PE X e (TEv cA W m)) (hg : glB sc "enumerate" = true) (hs : notStar e = true) :
    PI X (.Tuple es kk tpos) (.Call (.Name "enumerate" p) [e] [] pos) (TIv cA X.K W fun loc s => (m loc s).bind fun y s1 => match rd s1 y with
      | some (.lst _) => .ok (.enu y) s1
      | _ => .bad) := by
  obtain ⟨g, d, n⟩ := gl_of c hg
  refine pi_weak (pi_enum g (F.bn _ (by decide +kernel)) (pa_cons h pa_nil (star_cons hs)) (star_cons hs)) fun st H Q q => ?_
  obtain ⟨al, G, loc, s, r, S, pp⟩ := q
  refine TEv.go r S pp fun y s1 al1 G1 H1 v x1 r1 S1 rv p1 => ?_
  split at p1
  · rename_i xs h1
    obtain ⟨a, vs, rfl, ha, ra⟩ := r1.sees rv h1
    exact ⟨a, vs, rfl, .of ha, p1.here r1 _ ⟨a, rv, rfl⟩⟩
  · exact p1.elim
theorem i_zip (F : PfX X D M cA fA fdA psA k cf) (c : Cok X N sc W) {e e2 : Expr} {es : List Expr} {kk : Nat} {tpos p pos : Pos} {m m2 : Loc → Store → Out VV} (h : PE X e (TEv cA W m)) (h2 : PE X e2 (TEv cA W m2)) (hg : glB sc "zip" = true) (hs : notStar e = true) (hs2 : notStar e2 = true) :
    PI X (.Tuple es kk tpos) (.Call (.Name "zip" p) [e, e2] [] pos) (TIv cA X.K W fun loc s => (m loc s).bind fun y s1 => (m2 loc s1).bind fun z s2 => match rd s2 y, rd s2 z with
      | some (.lst _), some (.lst _) => .ok (.zip y z) s2
      | _, _ => .bad) := by
  obtain ⟨g, d, n⟩ := gl_of c hg
  refine pi_weak (pi_zip g (F.bn _ (by decide +kernel)) (pa_cons h (pa_cons h2 pa_nil (star_cons hs2)) (star_cons hs)) (star_cons hs) (plain_back (by simp [hs2]))) fun st H Q q => ?_
  obtain ⟨al, G, loc, s, r, S, pp⟩ := q
  refine TEv.go r S pp fun y s1 al1 G1 H1 v x1 r1 S1 rv p1 => ?_
  refine TEv.go r1 S1 p1 fun z s2 al2 G2 H2 u x2 r2 S2 ru p2 => ?_
  split at p2
  · rename_i xs ys h1 h2
    obtain ⟨a, vs, rfl, ha, ra⟩ := r2.sees (rv.mono x2) h1
    obtain ⟨b, us, rfl, hb, rb⟩ := r2.sees ru h2
    exact ⟨a, b, vs, us, rfl, .of ha, .of hb, p2.here r2 _ ⟨a, b, rv.mono x2, ru, rfl⟩⟩
  · exact p2.elim
theorem i_rng1 (F : PfX X D M cA fA fdA psA k cf) (c : Cok X N sc W) {a : Expr} {p pos : Pos} {m : Loc → Store → Out VV} (h : PE X a (TEv cA W m)) (hg : glB sc "range" = true) (hs : notStar a = true) :
    PI X tg (.Call (.Name "range" p) [a] [] pos) (TIv cA X.K W fun loc s => (m loc s).bind fun y s1 => match rd s1 y with
      | some (.int j) => if decide (-(2 ^ 62) ≤ j) && decide (j < 2 ^ 62) then .ok (.rng 0 j) s1 else .bad
      | _ => .bad) := by
  obtain ⟨g, d, n⟩ := gl_of c hg
  refine pi_weak (pi_range1 g (F.bn _ (by decide +kernel)) (pa_cons h pa_nil (star_cons hs)) (star_cons hs)) fun st H Q q => ?_
  obtain ⟨al, G, loc, s, r, S, pp⟩ := q
  refine TEv.go r S pp fun y s1 al1 G1 H1 v x1 r1 S1 rv p1 => ?_
  split at p1
  · rename_i j h1
    split at p1
    · rename_i hz
      simp only [Bool.and_eq_true, decide_eq_true_eq] at hz
      rw [seesI (r1.sees rv h1)]
      refine ⟨j, rfl, hz.1, hz.2, p1.here r1 _ ?_⟩
      show _ = _
      simp
    · exact p1.elim
  · exact p1.elim
theorem i_rng2 (F : PfX X D M cA fA fdA psA k cf) (c : Cok X N sc W) {a b : Expr} {p pos : Pos} {m m2 : Loc → Store → Out VV} (h : PE X a (TEv cA W m)) (h2 : PE X b (TEv cA W m2)) (hg : glB sc "range" = true) (hs : notStar a = true) (hs2 : notStar b = true) :
    PI X tg (.Call (.Name "range" p) [a, b] [] pos) (TIv cA X.K W fun loc s => (m loc s).bind fun y s1 => (m2 loc s1).bind fun z s2 => match rd s2 y, rd s2 z with
      | some (.int i), some (.int j) => if decide (-(2 ^ 62) ≤ i) && decide (i < 2 ^ 62) && decide (-(2 ^ 62) ≤ j) && decide (j < 2 ^ 62) then .ok (.rng i j) s2 else .bad
      | _, _ => .bad) := by
  obtain ⟨g, d, n⟩ := gl_of c hg
  have e1 : starEach [a, b] X.env = [(false, eval a X.env), (false, eval b X.env)] := by rw [star_cons hs, star_cons hs2]; rfl
  have e2 : starEach [b] X.env = [(false, eval b X.env)] := by rw [star_cons hs2]; rfl
  refine pi_weak (pi_range2 g (F.bn _ (by decide +kernel)) (pa_cons h (pa_cons h2 pa_nil (star_cons hs2)) (star_cons hs)) e1 e2) fun st H Q q => ?_
  obtain ⟨al, G, loc, s, r, S, pp⟩ := q
  refine TEv.go r S pp fun y s1 al1 G1 H1 v x1 r1 S1 rv p1 => ?_
  refine TEv.go r1 S1 p1 fun z s2 al2 G2 H2 u x2 r2 S2 ru p2 => ?_
  split at p2
  · rename_i i j h1 h2
    split at p2
    · rename_i hz
      simp only [Bool.and_eq_true, decide_eq_true_eq] at hz
      rw [seesI (r2.sees (rv.mono x2) h1), seesI (r2.sees ru h2)]
      exact ⟨i, j, rfl, ⟨hz.1.1.1, hz.1.1.2, hz.1.2, hz.2⟩, p2.here r2 _ rfl⟩
    · exact p2.elim
  · exact p2.elim
end
end Tw
set_option maxHeartbeats 4000000
namespace Tw
open PySem L2

/-! ## comprehensions -/
theorem wipe_get (st : L2.St) : ∀ (vs : List Nat) (j : Nat), (j ∈ vs → ∀ x, (wipe st vs)[j]? ≠ some (some x)) ∧ (j ∉ vs → (wipe st vs)[j]? = st[j]?)
  | [], j => ⟨fun h => (by cases h), fun _ => rfl⟩
  | v :: vs, j => by
    obtain ⟨h1, h2⟩ := wipe_get st vs j
    refine ⟨fun h x => ?_, fun h => ?_⟩
    · show ((wipe st vs).set v none)[j]? ≠ _
      by_cases e : v = j
      · subst e
        by_cases hv : v < (wipe st vs).length
        · rw [List.getElem?_set_self hv]; simp
        · rw [List.getElem?_eq_none (by simpa using hv)]; simp
      · rw [List.getElem?_set_ne e]
        rcases List.mem_cons.mp h with q | q
        · exact absurd q.symm e
        · exact h1 q x
    · show ((wipe st vs).set v none)[j]? = _
      rw [List.getElem?_set_ne (fun e => h (by rw [e]; exact List.mem_cons_self))]
      exact h2 fun q => h (List.mem_cons_of_mem _ q)
theorem wipeL_get (st : Loc) : ∀ (vs : List Nat) (j : Nat), (j ∈ vs → ∀ x, (wipeL st vs)[j]? ≠ some (some x)) ∧ (j ∉ vs → (wipeL st vs)[j]? = st[j]?)
  | [], j => ⟨fun h => (by cases h), fun _ => rfl⟩
  | v :: vs, j => by
    obtain ⟨h1, h2⟩ := wipeL_get st vs j
    refine ⟨fun h x => ?_, fun h => ?_⟩
    · show ((wipeL st vs).set v none)[j]? ≠ _
      by_cases e : v = j
      · subst e
        by_cases hv : v < (wipeL st vs).length
        · rw [List.getElem?_set_self hv]; simp
        · rw [List.getElem?_eq_none (by simpa using hv)]; simp
      · rw [List.getElem?_set_ne e]
        rcases List.mem_cons.mp h with q | q
        · exact absurd q.symm e
        · exact h1 q x
    · show ((wipeL st vs).set v none)[j]? = _
      rw [List.getElem?_set_ne (fun e => h (by rw [e]; exact List.mem_cons_self))]
      exact h2 fun q => h (List.mem_cons_of_mem _ q)
theorem wipeL_len (st : Loc) : ∀ vs : List Nat, (wipeL st vs).length = st.length
  | [] => rfl
  | v :: vs => by show ((wipeL st vs).set v none).length = _; rw [List.length_set, wipeL_len st vs]
theorem RepS.wipe {cA : CA} {al : List Addr} {G : Hp} {loc : Loc} {st : L2.St} (S : RepS cA al G loc st) (vs : List Nat) : RepS cA al G (wipeL loc vs) (wipe st vs) := by
  refine ⟨by rw [wipeL_len, wipe_length, S.len], fun j x e => ?_⟩
  by_cases h : j ∈ vs
  · exact absurd e ((wipeL_get loc vs j).1 h x)
  · rw [(wipeL_get loc vs j).2 h] at e
    rw [(wipe_get st vs j).2 h]
    exact S.get j x e
theorem wipe_twice (st : L2.St) : ∀ (vs us : List Nat), (∀ i ∈ vs, i ∈ us) → wipe (wipe st vs) us = wipe st us := fun vs us h => by
  induction vs with
  | nil => rfl
  | cons v vs ih =>
    show wipe ((wipe st vs).set v none) us = _
    rw [(wipe_set none v (wipe st vs) us).1 (h v List.mem_cons_self)]
    exact ih fun i hi => h i (List.mem_cons_of_mem _ hi)

abbrev W0 : WX := fun _ _ _ _ => False
section
variable {cA : CA} {X : Cx} {W : WX}
theorem Rl.setL {al : List Addr} {G H : Hp} {s : Store} (r : Rl cA al G s H) {k : Nat} {a : Addr} {acc : List T} {vs : List V} (ha : al[k]? = some a) (hs : s[k]? = some (.lst acc)) {xs : List T} {us : List V} (q : RepL cA G xs us) :
    Rl cA al G (s.set k (.lst xs)) (upd H a (.lst us)) := by
  have ok := r.cell k a _ ha hs
  obtain ⟨gn, ws, hh, _⟩ := ok
  refine ⟨fun b u e => ?_, by simp [r.len], r.nd, fun j b c hb hc => ?_⟩
  · have hne : b ≠ a := fun z => by rw [z, gn] at e; cases e
    rw [upd_ne hne]; exact r.sub b u e
  · by_cases hj : j = k
    · subst hj
      rw [ha] at hb; cases hb
      rw [List.getElem?_set_self (List.getElem?_eq_some_iff.mp hs).1] at hc
      cases hc
      exact ⟨gn, us, upd_same, q⟩
    · rw [List.getElem?_set_ne (Ne.symm hj)] at hc
      have hba : b ≠ a := nodup_ne r.nd hb ha hj
      have ok' := r.cell j b c hb hc
      cases c with
      | lst z => obtain ⟨g, w, h1, h2⟩ := ok'; exact ⟨g, w, by rw [upd_ne hba]; exact h1, h2⟩
      | dct z => obtain ⟨g, w, h1, h2⟩ := ok'; exact ⟨g, w, by rw [upd_ne hba]; exact h1, h2⟩
      | ins cc z => obtain ⟨g, dx, w, h1, h2⟩ := ok'; exact ⟨g, dx, w, by rw [upd_ne hba]; exact h1, h2⟩
      | frz z => exact ok'
theorem lc_end {al al' : List Addr} {G G' H : Hp} {s : Store} {D : Addr} {st : L2.St} {Q : VK} {m : Bool} (x : Xt (al ++ [D]) G al' G') (r : Rl cA al' G' s H)
    (p : Po cA W al G st (kV cA Q) (lcEnd m al.length s)) : Q (.ref D) H := by
  obtain ⟨⟨l, e⟩, sb⟩ := x
  unfold lcEnd at p
  split at p
  · have e' : al' = (al ++ [D]) ++ l := e
    subst e'
    have r' := r.front
    rw [List.length_append] at r'
    exact p (al ++ [D]) G' H ⟨⟨[D], rfl⟩, sb⟩ r' (.ref D) ⟨D, by simp, rfl⟩
  · split at p
    · rename_i c hc
      have e' : al' = al ++ ([D] ++ l) := by rw [e, List.append_assoc]
      subst e'
      have hD : (al ++ ([D] ++ l))[al.length]? = some D := by simp
      obtain ⟨G'', sb'', r'', q''⟩ := r.freeze hD hc
      have z := r''.front
      rw [List.take_set_of_le (Nat.le_refl _)] at z
      exact p al G'' H (Xt.ofSb (sb.trans sb'')) z (.ref D) q''
    · exact p.elim
/-- the reading of a comprehension -/
theorem lc_read {src_m : Loc → Store → Out Src} {g : E} {cond : Loc → Store → Out Bool} {elt : Loc → Store → Out VV} {own : List Nat} {m : Bool} (hg : ∀ i ∈ gslots g, i ∈ own) (st : L2.St) (H : Hp) (Q : VK)
    (q : TEv cA W (fun loc s => (src_m loc s).bind fun src s1 => (loopC src g cond elt (wipeL loc own) s1.length (src.most s1) 0 (s1 ++ [.lst []])).bind fun _ s2 => lcEnd m s1.length s2) st H Q) :
    tLc (TIv cA X.K W src_m) (TGb cA g) (TTv cA W0 cond) (TEv cA W0 elt) own st H Q := by
  obtain ⟨al, G, loc, s, r, S, p⟩ := q
  refine ⟨al, G, loc, s, r, S, p.bind.imp fun src s1 al1 G1 H1 x1 r1 p1 J hJ => ?_⟩
  intro D hD
  have hsl : s1.length = al1.length := r1.len.symm
  rw [hsl] at p1
  have S1 : RepS cA al1 G1 (wipeL loc own) (wipe st own) := (S.mono x1).wipe own
  have r2 : Rl cA (al1 ++ [D]) G1 (s1 ++ [.lst []]) (upd H1 D (.lst [])) := r1.newC hD ⟨r1.gnone hD, [], upd_same, .nil⟩
  refine ⟨fun i n H' => ∃ al' G' s', Xt (al1 ++ [D]) G1 al' G' ∧ Rl cA al' G' s' H' ∧
      Po cA W al1 G1 st (kV cA Q) ((loopC src g cond elt (wipeL loc own) al1.length n i s').bind fun _ s2 => lcEnd m al1.length s2),
    ⟨_, al1 ++ [D], G1, _, Xt.rfl', r2, p1⟩, ?_⟩
  rintro i n H' ⟨al', G', s', x', r', pp⟩
  have xD : Xt al1 G1 al' G' := Xt.trans ⟨⟨[D], rfl⟩, Sb.rfl'⟩ x'
  have hJ' := hJ.mono xD
  cases n with
  | zero => exact pp.elim
  | succ n =>
    unfold loopC at pp
    cases ha : src.at s' i with
    | none => rw [ha] at pp; exact pp.elim
    | some o =>
      rw [ha] at pp
      cases o with
      | none => exact .inl ⟨turn_none r' hJ' ha, lc_end x' r' pp⟩
      | some x =>
        obtain ⟨go, yl⟩ := turn_some r' hJ' ha
        refine .inr ⟨go, _, fun H'' h => ⟨n, Nat.lt_succ_self n, h⟩, fun v H'' hy => ?_⟩
        obtain ⟨G2, sb2, r2', rx⟩ := yl v H'' hy
        cases hb : bindG g x (wipeL loc own) with
        | none => simp only [hb] at pp; exact pp.elim
        | some l1 =>
          simp only [hb] at pp
          have x2 : Xt al' G' al' G2 := Xt.ofSb sb2
          refine ⟨al', G2, wipeL loc own, s', x, l1, r2', S1.mono (xD.trans x2), rx, hb, fun st2 S2 k2 => ⟨?_, ?_⟩⟩
          · rw [k2 own hg]
            exact wipe_twice st own own fun _ h => h
          · refine ⟨al', G2, l1, s', r2', S2, ?_⟩
            cases hc : cond l1 s' with
            | bad => simp only [hc] at pp; exact pp.elim
            | ex e s3 => simp only [hc] at pp; exact pp.elim
            | ok b s3 =>
              simp only [hc] at pp
              intro al3 G3 H3 x3 r3
              show if b = true then _ else _
              cases b with
              | false =>
                rw [if_neg Bool.false_ne_true]
                exact ⟨al3, G3, s3, x'.trans (x2.trans x3), r3, pp⟩
              | true =>
                rw [if_pos rfl]
                refine ⟨al3, G3, l1, s3, r3, S2.mono x3, ?_⟩
                cases he : elt l1 s3 with
                | bad => simp only [he] at pp; exact pp.elim
                | ex e s4 => simp only [he] at pp; exact pp.elim
                | ok y s4 =>
                  simp only [he] at pp
                  intro al4 G4 H4 x4 r4 w rw4
                  cases hm : emb s4 y with
                  | none => simp only [hm] at pp; exact pp.elim
                  | some z =>
                    obtain ⟨t, s5⟩ := z
                    simp only [hm] at pp
                    obtain ⟨G5, sb5, r5, q5⟩ := r4.emb rw4 hm
                    have x5 : Xt (al1 ++ [D]) G1 al4 G5 := x'.trans (x2.trans (x3.trans (x4.trans (Xt.ofSb sb5))))
                    have hD4 : al4[al1.length]? = some D := x5.get (by simp)
                    cases hn : s5[al1.length]? with
                    | none => simp only [hn] at pp; exact pp.elim
                    | some c =>
                      simp only [hn] at pp
                      cases c with
                      | lst acc =>
                        simp only at pp
                        split at pp
                        · rename_i hz
                          obtain ⟨gn, vs, hh, ra⟩ := r5.cell _ _ _ hD4 hn
                          refine ⟨vs, hh, by rw [ra.length]; exact hz, al4, G5, _, x5, r5.setL (vs := vs) hD4 hn (ra.append (.one q5)), pp⟩
                        · exact pp.elim
                      | _ => exact pp.elim
end
end Tw
set_option maxHeartbeats 4000000
namespace Tw
open PySem L2

/-! ## the little language against the syntax -/
/-- what a piece of the little language is held against -/
inductive Qt where
  | e (x : Expr) | l (xs : List Expr)
def isTg : E → Bool
  | .gn _ => true
  | .gt _ => true
  | _ => false
def chkT (N : List Str) (ts : Scope) : E → Qt → Bool
  | .gn i, .e (.Name x _) => decide (N[i]? = some x) && locB ts x
  | .gt gs, .e (.Tuple es _ _) => chkT N ts gs (.l es) && decide (alen gs = es.length) && es.all notStar
  | .nil, .l [] => true
  | .cons g gs, .l (e :: es) => isTg g && chkT N ts g (.e e) && notStar e && chkT N ts gs (.l es)
  | _, _ => false

section
variable {cA : CA} {X : Cx} {N : List Str} {ts : Scope}
def TgP (cA : CA) (X : Cx) (g : E) : Qt → Prop
  | .e x => (∃ i, g = .gn i ∧ PG X x (TGn cA i)) ∨ (∃ gs, g = .gt gs ∧ PG X x (TGt cA gs))
  | .l xs => PGs X xs (TGl cA g)
theorem chkT_ok (Tk : Tgk X N ts) (hc : X.calm = true) (g : E) (q : Qt) : chkT N ts g q = true → TgP cA X g q := by
  fun_induction chkT N ts g q with
  | case1 i x p =>
    intro h
    simp only [Bool.and_eq_true, decide_eq_true_eq] at h
    exact .inl ⟨i, rfl, g_name Tk h.1 h.2⟩
  | case2 gs es k p ih =>
    intro h
    simp only [Bool.and_eq_true, decide_eq_true_eq] at h
    exact .inr ⟨gs, rfl, g_tup hc (ih h.1.1) h.1.2 h.2⟩
  | case3 => exact fun _ => g_nil
  | case4 g gs e es ih1 ih2 =>
    intro h
    simp only [Bool.and_eq_true] at h
    obtain ⟨⟨⟨h3, h4⟩, h5⟩, h6⟩ := h
    rcases ih1 h4 with ⟨i, e1, z⟩ | ⟨hs, e1, z⟩
    · subst e1; exact g_consN z (ih2 h6) h5
    · subst e1; exact g_consT z (ih2 h6) h5
  | case5 => intro h; cases h
theorem chkT_e (Tk : Tgk X N ts) (hc : X.calm = true) {g : E} {x : Expr} (h : chkT N ts g (.e x) = true) : PG X x (TGb cA g) := by
  rcases chkT_ok (cA := cA) Tk hc g (.e x) h with ⟨i, e1, z⟩ | ⟨gs, e1, z⟩
  · subst e1; exact g_bn z
  · subst e1; exact g_bt z
end
end Tw
set_option maxHeartbeats 4000000
namespace Tw
open PySem L2

/-! ## the rules, over the little language's own terms -/
/-- what a program's rules are told -/
structure Cl where
  D : Defs
  M : Nms
  cA : CA
  fA : Nat → Addr
  fdA : Nat → FuncData
  psA : Nat → List Str
  k : Nat
  cf : CF
  rp : Store → T → Out Str
  fw : Nat

/-- what is told of repr -/
def rRp (cA : CA) (rp : Store → T → Out Str) : List V → Hp → VK → Prop := fun vs H Q => ∃ al G s t v z s', vs = [v] ∧ Rl cA al G s H ∧ Rep cA G t v ∧ rp s t = .ok z s' ∧ ∀ G' H', Sb G G' → Rl cA al G' s' H' → Q (.str z) H'
/-- the same program, world, written part, names, base -/
def At5 (X : Cx) (P : Program) (w : World) (K : PySem.W.Frag) (mg : Str → Option Value) (base : Heap) : Prop := X.prog = P ∧ X.w = w ∧ X.K = K ∧ X.mg = mg ∧ X.base = base
structure Cl.Ok (C : Cl) (X : Cx) : Prop where
  pf : PfX X C.D C.M C.cA C.fA C.fdA C.psA C.k C.cf
  rp : C.M.gd = true → ∀ X' : Cx, At5 X' X.prog X.w X.K X.mg X.base → X'.calm = true → PfX X' C.D C.M C.cA C.fA C.fdA C.psA C.k C.cf → CallR X' (.builtin "repr") (rRp C.cA C.rp)

section
variable (C : Cl) (N : List Str) (sc : Scope)
def Ke (x : Expr) (e : E) : Prop := ∀ X W, Cok X N sc W → C.Ok X → PE X x (TEv C.cA W (ev C.D C.cf C.rp e))
def Kt (x : Expr) (e : E) : Prop := ∀ X W, Cok X N sc W → C.Ok X → PT X x (TTv C.cA W (evT C.D C.cf C.rp e))
def Kw (x : Expr) (e : E) : Prop := ∀ X W, Cok X N sc W → C.Ok X → PW X x (TTv C.cA W (evT C.D C.cf C.rp e))
def Ka (xs : List Expr) (e : E) : Prop := ∀ X W, Cok X N sc W → C.Ok X → PA X xs (TAv C.cA W (evs C.D C.cf C.rp e))
def Kf (xs : List Expr) (e : E) : Prop := ∀ X W, Cok X N sc W → C.Ok X → PFs C.cA W X xs (evF C.D C.cf C.rp e)
def Ki (tg it : Expr) (e : E) : Prop := ∀ X W, Cok X N sc W → C.Ok X → PI X tg it (TIv C.cA X.K W (evI C.D C.cf C.rp e))
def Ko (x : Option Expr) (e : E) : Prop := ∀ X W, Cok X N sc W → C.Ok X → PO X x (TOv C.cA W fun loc s => if e.isOmit then .ok none s else (ev C.D C.cf C.rp e loc s).bind fun l s2 => optI s2 l)
end

theorem pt_eq {cA : CA} {X : Cx} {W : WX} {x : Expr} {m m' : Loc → Store → Out Bool} (h : PT X x (TTv cA W m)) (e : m = m') : PT X x (TTv cA W m') := e ▸ h
theorem pw_eq {cA : CA} {X : Cx} {W : WX} {x : Expr} {m m' : Loc → Store → Out Bool} (h : PW X x (TTv cA W m)) (e : m = m') : PW X x (TTv cA W m') := e ▸ h
theorem pe_eq {cA : CA} {X : Cx} {W : WX} {x : Expr} {m m' : Loc → Store → Out VV} (h : PE X x (TEv cA W m)) (e : m = m') : PE X x (TEv cA W m') := e ▸ h

section
variable {C : Cl} {N : List Str} {sc : Scope} {a b c : Expr} {x y z : E} {pos p : Pos}
theorem evs_len {D : Defs} {cf : CF} {rp : Store → T → Out Str} : ∀ {as : E} {loc : Loc} {s s' : Store} {ys : List VV}, evs D cf rp as loc s = .ok ys s' → ys.length = alen as
  | .nil, loc, s, s', ys, h => by
    simp only [evs] at h; cases h; rfl
  | .cons a as, loc, s, s', ys, h => by
    simp only [evs] at h
    cases h1 : ev D cf rp a loc s with
    | bad => rw [h1] at h; cases h
    | ex e s1 => rw [h1] at h; cases h
    | ok y s1 =>
      rw [h1] at h
      simp only [Out.bind] at h
      cases h2 : evs D cf rp as loc s1 with
      | bad => rw [h2] at h; cases h
      | ex e s2 => rw [h2] at h; cases h
      | ok zs s2 =>
        rw [h2] at h
        cases h
        simp [alen, evs_len h2]

theorem k_var {i : Nat} {n : Str} (h1 : N[i]? = some n) (h2 : visB sc n = true) : Ke C N sc (.Name n p) (.var i) := fun X W c F => s_var c h1 h2
theorem k_int {i : Int} {k : _} : Ke C N sc (.Constant (.int i) k p) (.int i) := fun X W c F => s_const pe_int fun G => repI
theorem k_str {i : Str} {k : _} : Ke C N sc (.Constant (.str i) k p) (.str i) := fun X W c F => s_const pe_str fun G => repS
theorem k_bl {i : Bool} {k : _} : Ke C N sc (.Constant (.bool i) k p) (.bl i) := fun X W c F => s_const pe_bl fun G => repB
theorem k_non {k : _} : Ke C N sc (.Constant .none k p) .non := fun X W c F => s_const pe_non fun G => repN
theorem k_gint {n : Str} {i : Int} (hg : glB sc n = true) (h : C.M.gint n = some i) : Ke C N sc (.Name n p) (.gint n i) := fun X W c F => s_gint F.pf c h hg
theorem k_bin {o : Operator} (ha : Ke C N sc a x) (hb : Ke C N sc b y) : Ke C N sc (.BinOp a o b p) (.bin o x y) := fun X W c F => s_bin F.pf c (ha X W c F) (hb X W c F)
theorem k_neg (ha : Ke C N sc a x) : Ke C N sc (.UnaryOp .USub a p) (.neg x) := fun X W c F => s_neg F.pf c (ha X W c F)
theorem k_not (ha : Ke C N sc a x) : Ke C N sc (.UnaryOp .Not a p) (.not x) := fun X W c F => s_not (ha X W c F)
theorem k_cmp {o : CmpOp} (hm : behindInMarks o b = false) (ha : Ke C N sc a x) (hb : Ke C N sc b y) : Ke C N sc (.Compare a [o] [b] p) (.cmp o x y) := fun X W c F => s_cmp F.pf (ha X W c F) (hb X W c F) hm
theorem k_cmp2 {o q : CmpOp} (hm : lastMarks [o, q] [b, c] = false) (ha : Ke C N sc a x) (hb : Ke C N sc b y) (hc : Ke C N sc c z) : Ke C N sc (.Compare a [o, q] [b, c] p) (.cmp2 o q x y z) := fun X W c F => s_cmp2 (ha X W c F) (hb X W c F) (hc X W c F) hm
theorem k_one {o : BoolOp} (ha : Ke C N sc a x) : Ke C N sc (.BoolOp o [a] p) x := fun X W c F => pe_one (ha X W c F)
theorem k_and {r : List Expr} (ha : Ke C N sc a x) (hb : Ke C N sc (.BoolOp .And (b :: r) p) y) : Ke C N sc (.BoolOp .And (a :: b :: r) p) (.and x y) := fun X W c F => s_and (ha X W c F) (hb X W c F)
theorem k_or {r : List Expr} (ha : Ke C N sc a x) (hb : Ke C N sc (.BoolOp .Or (b :: r) p) y) : Ke C N sc (.BoolOp .Or (a :: b :: r) p) (.or x y) := fun X W c F => s_or (ha X W c F) (hb X W c F)
theorem k_ite (hc : Kt C N sc c z) (ha : Ke C N sc a x) (hb : Ke C N sc b y) : Ke C N sc (.IfExp c a b p) (.ite z x y) := fun X W c F => by
  refine pe_eq (s_ite (hc X W c F) (ha X W c F) (hb X W c F)) ?_
  funext loc s
  simp only [ev]
  show Out.bind (Out.bind _ _) _ = _
  rw [bind_assoc]
  congr 1
  funext y s1
  cases (rd s1 y).bind tru with
  | none => rfl
  | some b => cases b <;> rfl
theorem k_lst {m : Bool} {es : List Expr} (ha : Ka C N sc es x) : Ke C N sc (.List es p) (.lst m x) := fun X W c F => s_lst (ha X W c F)
theorem k_tup {es : List Expr} {k : Nat} (ha : Ka C N sc es x) : Ke C N sc (.Tuple es k p) (.tup x) := fun X W c F => s_tup (ha X W c F)
theorem plainIx_of (h : ixPlain b = true) : PlainIx b := by
  cases b <;> first | (intro o i; rfl) | cases h
theorem k_ix (hp : ixPlain b = true) (ha : Ke C N sc a x) (hb : Ke C N sc b y) : Ke C N sc (.Subscript a b p) (.ix x y) := fun X W c F => s_ix (ha X W c F) (hb X W c F) (plainIx_of hp) F.pf.kl
theorem k_omit : Ko C N sc none .omit := fun X W c F => s_omit
theorem k_part (h : x.isOmit = false) (ha : Ke C N sc a x) : Ko C N sc (some a) x := fun X W c F => by
  rw [h]; exact s_part (ha X W c F)
theorem k_sl {lo hi : Option Expr} {p2 : Pos} (ha : Ke C N sc a x) (h1 : Ko C N sc lo y) (h2 : Ko C N sc hi z) : Ke C N sc (.Subscript a (.Slice lo hi none p2) p) (.sl x y z) := fun X W c F => s_sl (ha X W c F) (h1 X W c F) (h2 X W c F) F.pf.kl
theorem k_rev {k : Nat} {p1 p2 p3 : Pos} (ha : Ke C N sc a x) : Ke C N sc (.Subscript a (.Slice none none (some (.UnaryOp .USub (.Constant (.int 1) k p1) p2)) p3) p) (.rev x) := fun X W c F => s_rev (ha X W c F)
theorem k_prop {f : Str} (hb : notSuper a = true) (ha : Ke C N sc a x) : Ke C N sc (.Attribute a f p) (.prop x f) := fun X W c F => s_prop F.pf (ha X W c F) hb
theorem k_att {f : Str} (hb : notSuper a = true) (ha : Ke C N sc a x) : Ke C N sc (.Attribute a f p) (.att x f) := fun X W c F => s_att F.pf (ha X W c F) hb
theorem k_cal {f : Nat} {n : Str} {es : List Expr} {q : Pos} (hf : C.M.fnm f = some n) (hg : glB sc n = true) (hn : fillOk C.D f (alen x) = true) (hs : es.all notStar = true) (ha : Ka C N sc es x) (he : es = [] → x = .nil) :
    Ke C N sc (.Call (.Name n q) es [] p) (.cal f x) := fun X W c F => s_cal F.pf c hf hg hn (ha X W c F) hs (fun loc s ys s' h => evs_len h) fun e loc s => by rw [he e]; rfl
theorem k_mk {I f : Nat} {n : Str} {e : Expr} {es : List Expr} {q : Pos} (hf : C.M.cnm I = some n) (hi : C.D.ini I = some f) (hg : glB sc n = true) (hn : fillOk C.D f (alen x + 1) = true) (hs : (e :: es).all notStar = true) (ha : Ka C N sc (e :: es) x) :
    Ke C N sc (.Call (.Name n q) (e :: es) [] p) (.mk I x) := fun X W c F => s_mk F.pf c hi hf hg hn (ha X W c F) hs fun loc s ys s' h => evs_len h
theorem k_mth {I g : Nat} {m : Str} {es : List Expr} {q : Pos} (hom : C.D.om I m = some g) (hf : C.M.fnm g = none) (hn : fillOk C.D g (alen y + 1) = true) (hs : es.all notStar = true) (h29 : es.length < 29) (hsup : notSuper a = true) (hl : (q.endLine == p.line) = true)
    (ha : Ke C N sc a x) (hb : Ka C N sc es y) (he : es = [] → y = .nil) : Ke C N sc (.Call (.Attribute a m q) es [] p) (.mth I m x y) := fun X W c F =>
  s_mth F.pf c hom hf hn (ha X W c F) (hb X W c F) hs h29 hsup hl (fun loc s ys s' h => evs_len h) fun e loc s => by rw [he e]; rfl
theorem k_blt {b : Blt} {n : Str} {e : Expr} {es : List Expr} {q : Pos} (h0 : n = bltNm b) (hr : b ≠ .repr) (hg : glB sc n = true) (hgc : isMath b = true → C.M.gcd b = true) (hs : (e :: es).all notStar = true) (ha : Ka C N sc (e :: es) x) :
    Ke C N sc (.Call (.Name n q) (e :: es) [] p) (.blt b x) := fun X W c F => by
  subst h0
  refine pe_eq (s_blt F.pf c hg hgc (ha X W c F) hs) ?_
  funext loc s
  cases b <;> first | exact absurd rfl hr | rfl
theorem k_repr {q : Pos} {e : Expr} (hd : C.M.gd = true) (hg : glB sc "repr" = true) (hs : notStar e = true) (ha : Ke C N sc e x) :
    Ke C N sc (.Call (.Name "repr" q) [e] [] p) (.blt .repr (.cons x .nil)) := fun X W c F => by
  refine pe_weak (pe_blt F.pf c (b := .repr) (F.rp hd X ⟨rfl, rfl, rfl, rfl, rfl⟩ c.calm F.pf) hg (fun h => by cases h) (s_cons (ha X W c F) s_nil hs) (by simp [hs])) fun st H Q q => ?_
  obtain ⟨al, G, loc, s, r, S, pp⟩ := q
  refine TAv.go r S (f := fun ys s1 => match ys with
      | [y] => match emb s1 y with
        | some (t, s2) => (noex (C.rp s2 t)).bind fun x s3 => .ok (VV.t (.str x)) s3
        | none => .bad
      | _ => .bad) (by exact pp) fun ys s1 al1 G1 H1 vs x1 r1 S1 rv p1 => ?_
  split at p1
  · rename_i y
    split at p1
    · rename_i t s2 h1
      obtain ⟨v, rr, e1, q1, q2⟩ := rv
      have e2 : rr = [] := q2
      subst e1; subst e2
      obtain ⟨G2, sb2, r2, q2⟩ := r1.emb q1 h1
      cases hz : C.rp s2 t with
      | bad => rw [hz] at p1; exact p1.elim
      | ex e s2 => rw [hz] at p1; exact p1.elim
      | ok z s3 =>
        rw [hz] at p1
        exact ⟨al1, G2, s2, t, v, z, s3, rfl, r2, q2, hz, fun G' H' sb r' => p1 al1 G' H' (Xt.ofSb (sb2.trans sb)) r' _ (show Rep C.cA G' (.str z) (.str z) from repS)⟩
    · exact p1.elim
  · exact p1.elim
theorem k_fst {a b : Expr} {es : List Expr} (h : Kf C N sc (a :: b :: es) x) : Ke C N sc (.JoinedStr (a :: b :: es) p) (.fst x) := fun X W c F => s_fst (h X W c F)
theorem k_fs1 (h : Ke C N sc a x) : Ke C N sc (.JoinedStr [a] p) (.fs1 x) := fun X W c F => pe_joined1 (h X W c F)
theorem k_fmt (ha : Ke C N sc a x) : Ke C N sc (.FormattedValue a (-1) none p) (.fmt x) := fun X W c F => s_fmt (ha X W c F)
theorem k_nil : Ka C N sc [] .nil := fun X W c F => s_nil
theorem k_cons {es : List Expr} (h : notStar a = true) (ha : Ke C N sc a x) (hs : Ka C N sc es y) : Ka C N sc (a :: es) (.cons x y) := fun X W c F => s_cons (ha X W c F) (hs X W c F) h
theorem k_fnil : Kf C N sc [] .nil := fun X W c F => f_nil
theorem k_fcons {es : List Expr} (ha : Ke C N sc a x) (hs : Kf C N sc es y) : Kf C N sc (a :: es) (.cons x y) := fun X W c F => f_cons (ha X W c F) (hs X W c F)
/-! ### isinstance -/
def tyOk (n : String) (x : Str) : Bool :=
  (decide (n = "int") && decide (x = "int")) || (decide (n = "bool") && decide (x = "bool")) || (decide (n = "str") && decide (x = "str")) || (decide (n = "list") && decide (x = "list")) || (decide (n = "tuple") && decide (x = "tuple")) || (decide (n = "dict") && decide (x = "dict"))
theorem tyOk_ok {n : String} {x : Str} (h : tyOk n x = true) : x ∈ bnames ∧ bootBuiltins x = some (.type n) := by
  unfold tyOk at h
  simp only [Bool.or_eq_true, Bool.and_eq_true, decide_eq_true_eq] at h
  rcases h with ((((h | h) | h) | h) | h) | h <;> (obtain ⟨rfl, rfl⟩ := h)
  · exact ⟨by decide +kernel, PyProof.Rows.boot_int⟩
  · exact ⟨by decide +kernel, PyProof.Rows.boot_bool⟩
  · exact ⟨by decide +kernel, PyProof.Rows.boot_str⟩
  · exact ⟨by decide +kernel, PyProof.Rows.boot_list⟩
  · exact ⟨by decide +kernel, PyProof.Rows.boot_tuple⟩
  · exact ⟨by decide +kernel, PyProof.Rows.boot_dict⟩
def Kc (C : Cl) (sc : Scope) (a : Expr) (r : CR) : Prop := ∃ n p, a = .Name n p ∧ glB sc n = true ∧ match r with | .ty t => n ∈ bnames ∧ bootBuiltins n = some (.type t) | .cl d => C.M.cnm d = some n
theorem k_ty {n : Str} {t : String} (hg : glB sc n = true) (h : tyOk t n = true) : Kc C sc (.Name n p) (.ty t) := ⟨n, p, rfl, hg, tyOk_ok h⟩
theorem k_cls {n : Str} {d : Nat} (hg : glB sc n = true) (h : C.M.cnm d = some n) : Kc C sc (.Name n p) (.cl d) := ⟨n, p, rfl, hg, h⟩
inductive Kcs (C : Cl) (sc : Scope) : List Expr → List CR → Prop where
  | nil : Kcs C sc [] []
  | cons {e : Expr} {r : CR} {es : List Expr} {rs : List CR} : Kc C sc e r → Kcs C sc es rs → Kcs C sc (e :: es) (r :: rs)
theorem kc_pe {r : CR} {X : Cx} {W : WX} (c : Cok X N sc W) (F : C.Ok X) (h : Kc C sc a r) : PE X a (tC (crV C.cA r)) := by
  obtain ⟨n, p, rfl, hg, h⟩ := h
  exact s_cr F.pf c hg h
theorem kc_star {r : CR} (h : Kc C sc a r) : notStar a = true := by
  obtain ⟨n, p, rfl, hg, h⟩ := h; rfl
theorem kcs_pa {X : Cx} {W : WX} (c : Cok X N sc W) (F : C.Ok X) : ∀ {es : List Expr} {rs : List CR}, Kcs C sc es rs → ∃ t, PA X es t ∧ ∀ st H (Q : List V → Hp → Prop), Q (rs.map (crV C.cA)) H → t st H Q
  | _, _, .nil => ⟨tNil, pa_nil, fun st H Q q => q⟩
  | _, _, .cons (e := e) (r := r) h hs => by
    obtain ⟨t, h1, h2⟩ := kcs_pa c F hs
    exact ⟨_, pa_cons (kc_pe c F h) h1 (star_cons (kc_star h)), fun st H Q q => h2 st H _ q⟩
theorem k_isi1 {r : CR} {q : Pos} (hg : glB sc "isinstance" = true) (hs : notStar a = true) (ha : Ke C N sc a x) (hb : Kc C sc b r) : Ke C N sc (.Call (.Name "isinstance" q) [a, b] [] p) (.isi x [r]) := fun X W c F =>
  s_isi1 F.pf c (ha X W c F) hg (kc_pe c F hb) (by simp [hs, kc_star hb])
theorem k_isiT {rs : List CR} {es : List Expr} {q p2 : Pos} {k : Nat} (hg : glB sc "isinstance" = true) (hs : notStar a = true) (hl : rs.length ≤ 100) (ha : Ke C N sc a x) (hb : Kcs C sc es rs) :
    Ke C N sc (.Call (.Name "isinstance" q) [a, .Tuple es k p2] [] p) (.isi x rs) := fun X W c F =>
  s_isiT F.pf c (ha X W c F) hg (kcs_pa c F hb) hl (by simp [hs])
/-! ### tests -/
theorem k_tv (h : testPlain a = true) (ha : Ke C N sc a x) : Kt C N sc a x := fun X W c F => s_truth (ha X W c F) h
theorem k_tnot (ha : Kt C N sc a x) : Kt C N sc (.UnaryOp .Not a p) (.not x) := fun X W c F => by
  refine pt_eq (s_notT (ha X W c F)) ?_
  funext loc s
  simp only [evT, ev, bind_assoc]
  congr 1
  funext y s1
  cases h : (rd s1 y).bind tru with
  | none => rfl
  | some b => cases b <;> rfl
theorem k_tcmp {o : CmpOp} (hm : behindInMarks o b = false) (ha : Ke C N sc a x) (hb : Ke C N sc b y) : Kt C N sc (.Compare a [o] [b] p) (.cmp o x y) := fun X W c F => by
  refine pt_eq (s_cmpT F.pf (ha X W c F) (hb X W c F) hm) ?_
  funext loc s
  simp only [evT, ev, bind_assoc]
  congr 1
  funext y s1
  congr 1
  funext z s2
  cases cmpV C.D C.cf o y z s2 with
  | none => rfl
  | some b => cases b <;> rfl
theorem k_tcmp2 {o q : CmpOp} (hm : lastMarks [o, q] [b, c] = false) (ha : Ke C N sc a x) (hb : Ke C N sc b y) (hc : Ke C N sc c z) : Kt C N sc (.Compare a [o, q] [b, c] p) (.cmp2 o q x y z) := fun X W ck F => by
  refine pt_weak (pt_chain (op_cmp (cA := C.cA) o) (op_cmp (cA := C.cA) q) (ha X W ck F) (hb X W ck F) (hc X W ck F) hm) fun st H Q q' => ?_
  obtain ⟨al, G, loc, s, r, S, pp⟩ := q'
  simp only [evT, ev, bind_assoc] at pp
  refine TEv.go r S pp fun y s1 al1 G1 H1 v x1 r1 S1 rv p1 => ?_
  refine TEv.go r1 S1 p1 fun z s2 al2 G2 H2 u x2 r2 S2 ru p2 => ?_
  cases h1 : rd s2 y with
  | none => simp only [h1] at p2; exact p2.elim
  | some tx =>
    cases h2 : rd s2 z with
    | none => simp only [h1, h2] at p2; exact p2.elim
    | some ty =>
      simp only [h1, h2] at p2
      cases hz : cmpP o tx ty with
      | none => simp only [hz] at p2; exact p2.elim
      | some b1 =>
        simp only [hz] at p2
        cases b1 with
        | false =>
          refine ⟨G2, tx, ty, false, ⟨r2.sub⟩, r2.sees (rv.mono x2) h1, r2.sees ru h2, hz, false, rfl, ?_⟩
          rw [if_neg Bool.false_ne_true]
          exact ⟨false, rfl, p2.here r2⟩
        | true =>
          refine ⟨G2, tx, ty, true, ⟨r2.sub⟩, r2.sees (rv.mono x2) h1, r2.sees ru h2, hz, true, rfl, ?_⟩
          rw [if_pos rfl]
          simp only [bind_assoc] at p2
          refine TEv.go r2 S2 p2 fun e s3 al3 G3 H3 vv x3 r3 S3 re p3 => ?_
          cases h3 : rd s3 z with
          | none => simp only [h3] at p3; exact p3.elim
          | some tw =>
            cases h4 : rd s3 e with
            | none => simp only [h3, h4] at p3; exact p3.elim
            | some tv =>
              simp only [h3, h4] at p3
              cases hz : cmpP q tw tv with
              | none => simp only [hz] at p3; exact p3.elim
              | some b =>
                simp only [hz] at p3
                refine ⟨G3, tw, tv, b, ⟨r3.sub⟩, r3.sees (ru.mono x3) h3, r3.sees re h4, hz, b, rfl, ?_⟩
                cases b <;> exact p3.here r3
theorem k_tw (h : Kw C N sc a x) : Kt C N sc a x := fun X W c F => (h X W c F).pt
theorem k_w1a (h : Kt C N sc a x) : Kw C N sc (.BoolOp .And [a] p) x := fun X W c F => pw_and1 (h X W c F)
theorem k_w1o (h : Kt C N sc a x) : Kw C N sc (.BoolOp .Or [a] p) x := fun X W c F => pw_or1 (h X W c F)
theorem k_wand {r : List Expr} (ha : Kt C N sc a x) (hb : Kw C N sc (.BoolOp .And (b :: r) p) y) : Kw C N sc (.BoolOp .And (a :: b :: r) p) (.and x y) := fun X W c F => by
  refine pw_eq (s_andT (ha X W c F) (hb X W c F)) ?_
  funext loc s
  simp only [evT, ev, bind_assoc]
  congr 1
  funext y s1
  cases h : (rd s1 y).bind tru with
  | none => rfl
  | some b =>
    cases b with
    | true => rfl
    | false => simp only [Out.bind, ofO, h]; rfl
theorem k_wor {r : List Expr} (ha : Kt C N sc a x) (hb : Kw C N sc (.BoolOp .Or (b :: r) p) y) : Kw C N sc (.BoolOp .Or (a :: b :: r) p) (.or x y) := fun X W c F => by
  refine pw_eq (s_orT (ha X W c F) (hb X W c F)) ?_
  funext loc s
  simp only [evT, ev, bind_assoc]
  congr 1
  funext y s1
  cases h : (rd s1 y).bind tru with
  | none => rfl
  | some b =>
    cases b with
    | true => simp only [Out.bind, ofO, h]; rfl
    | false => rfl
/-! ### what is walked -/
theorem k_irng1 {tg : Expr} {q : Pos} (hg : glB sc "range" = true) (hs : notStar a = true) (ha : Ke C N sc a x) : Ki C N sc tg (.Call (.Name "range" q) [a] [] p) (.irng1 x) := fun X W c F => i_rng1 F.pf c (ha X W c F) hg hs
theorem k_irng2 {tg : Expr} {q : Pos} (hg : glB sc "range" = true) (hs : notStar a = true) (hs2 : notStar b = true) (ha : Ke C N sc a x) (hb : Ke C N sc b y) : Ki C N sc tg (.Call (.Name "range" q) [a, b] [] p) (.irng2 x y) := fun X W c F => i_rng2 F.pf c (ha X W c F) (hb X W c F) hg hs hs2
theorem k_izip {es : List Expr} {kk : Nat} {tp q : Pos} (hg : glB sc "zip" = true) (hs : notStar a = true) (hs2 : notStar b = true) (ha : Ke C N sc a x) (hb : Ke C N sc b y) : Ki C N sc (.Tuple es kk tp) (.Call (.Name "zip" q) [a, b] [] p) (.izip x y) := fun X W c F =>
  i_zip F.pf c (ha X W c F) (hb X W c F) hg hs hs2
theorem k_ienu {es : List Expr} {kk : Nat} {tp q : Pos} (hg : glB sc "enumerate" = true) (hs : notStar a = true) (ha : Ke C N sc a x) : Ki C N sc (.Tuple es kk tp) (.Call (.Name "enumerate" q) [a] [] p) (.ienu x) := fun X W c F => i_enu F.pf c (ha X W c F) hg hs
theorem k_iseq {tg : Expr} (ha : Ke C N sc a x) : Ki C N sc tg a (.iseq x) := fun X W c F => i_seq (ha X W c F)
end
end Tw
set_option maxHeartbeats 4000000
namespace Tw
open PySem L2

section
variable {C : Cl} {N : List Str} {sc : Scope}
/-- the targets -/
abbrev Kg (N : List Str) (ts : Scope) (tg : Expr) (g : E) : Prop := chkT N ts g (.e tg) = true
theorem kg_pg {X : Cx} {ts : Scope} {cA : CA} (Tk : Tgk X N ts) (hc : X.calm = true) {g : E} {x : Expr} (h : Kg N ts x g) : PG X x (TGb cA g) := chkT_e Tk hc h

/-- the tests of a clause: none, or one -/
def Kts (C : Cl) (N : List Str) (sc : Scope) (ifs : List Expr) (cond : E) : Prop := (ifs = [] ∧ cond.isOmit = true) ∨ (∃ c, ifs = [c] ∧ cond.isOmit = false ∧ Kt C N sc c cond)
theorem k_ts0 : Kts C N sc [] .omit := .inl ⟨rfl, rfl⟩
theorem k_ts1 {c : Expr} {x : E} (h : x.isOmit = false) (hc : Kt C N sc c x) : Kts C N sc [c] x := .inr ⟨c, rfl, h, hc⟩
theorem tYes_of {cA : CA} {W : WX} {X : Cx} : PTs X [] (TTv cA W fun _ s => .ok true s) := by
  refine ⟨fun pins s σ H Q I q => pts_nil.run pins s σ H Q I ?_⟩
  obtain ⟨al, G, loc, s', r, S, p⟩ := q
  exact p.here r
theorem cok_blk {X : Cx} {W : WX} (c : Cok X N sc W) (s : Shared) (H : Hp) (scope : Scope) (D : Addr) (cl : List (Str × Addr)) (fp : List Addr) : Cok (X.blk s H scope (compEnvC scope cl D X.env) fp) N (relS scope sc) W0 :=
  ⟨c.hN, c.nd, by show relS scope X.env.scope = _; rw [c.hs], c.calm, takes0⟩
theorem ok_blk {X : Cx} (F : C.Ok X) (s : Shared) (H : Hp) (scope : Scope) (env : Env) (fp : List Addr) : C.Ok (X.blk s H scope env fp) := ⟨F.pf, F.rp⟩
theorem tgk_blk {X : Cx} {W : WX} (c : Cok X N sc W) (s : Shared) (H : Hp) (scope : Scope) (D : Addr) (cl : List (Str × Addr)) (fp : List Addr) : Tgk (X.blk s H scope (compEnvC scope cl D X.env) fp) N scope := by
  refine ⟨c.hN, c.nd, fun x h => ?_, fun x h => ⟨?_, ?_⟩⟩
  · exact lookup_relS_keep (by decide) h
  · exact lookup_relS_keep (by decide) h
  · show (scope.names.lookup x == some .cell) = true
    rw [h]; rfl
def notSetE : Expr → Bool
  | .Set .. => false
  | _ => true
theorem fold_plain {it : Expr} {env : Env} (h : notSetE it = true) : ∀ x, foldedSetIterable it env x = pure x := by
  cases it <;> first | exact fun _ => rfl | cases h
structure LcOk (N : List Str) (sc scope : Scope) (own : List Nat) (g : E) (it tg : Expr) : Prop where
  b : blkC N sc scope (own.map fun i => (N.getD i Str.empty, i)) = true
  gs : (gslots g).all (fun i => decide (i ∈ own)) = true
  n : notSetE it = true
  t : @Kg N scope tg g
theorem lc_pe {X : Cx} {W : WX} {m : Bool} {own : List Nat} {g x cond e : E} {elt tg it : Expr} {ifs : List Expr} {scope : Scope} {pos : Pos} (c : Cok X N sc W) (F : C.Ok X)
    (ok : LcOk N sc scope own g it tg) (hi : Ki C N sc tg it x) (ht : Kts C N (relS scope sc) ifs cond) (he : Ke C N (relS scope sc) elt e) :
    ∃ (tt : TT), (∀ (s : Shared) (H : Hp) (D : Addr) (cl : List (Str × Addr)) (fp : List Addr), PTs (X.blk s H scope (compEnvC scope cl D X.env) fp) ifs tt) ∧
      ∀ st H Q, TEv C.cA W (ev C.D C.cf C.rp (.lc m own g x cond e)) st H Q → tLc (TIv C.cA X.K W (evI C.D C.cf C.rp x)) (TGb C.cA g) tt (TEv C.cA W0 (ev C.D C.cf C.rp e)) own st H Q := by
  rcases ht with ⟨e1, e2⟩ | ⟨cc, e1, e2, h⟩
  · subst e1
    refine ⟨TTv C.cA W0 fun _ s => .ok true s, fun s H D cl fp => tYes_of, fun st H Q q => ?_⟩
    refine lc_read (m := m) (fun i hi => of_decide_eq_true (List.all_eq_true.mp ok.gs i hi)) st H Q ?_
    simp only [ev, e2, if_true] at q
    exact q
  · subst e1
    refine ⟨TTv C.cA W0 (evT C.D C.cf C.rp cond), fun s H D cl fp => pts_one (h _ _ (cok_blk c s H scope D cl fp) (ok_blk F s H scope _ fp)), fun st H Q q => ?_⟩
    refine lc_read (m := m) (fun i hi => of_decide_eq_true (List.all_eq_true.mp ok.gs i hi)) st H Q ?_
    simp only [ev, e2, Bool.false_eq_true, if_false] at q
    exact q
theorem own_map {N : List Str} {own : List Nat} : (own.map fun i => (N.getD i Str.empty, i)).map (·.2) = own := by
  rw [List.map_map]
  show own.map (fun i => i) = own
  simp
theorem k_lc {m : Bool} {own : List Nat} {g x cond e : E} {elt tg it : Expr} {ifs : List Expr} {scope : Scope} {pos : Pos} (ok : LcOk N sc scope own g it tg) (hi : Ki C N sc tg it x) (ht : Kts C N (relS scope sc) ifs cond) (he : Ke C N (relS scope sc) elt e) :
    Ke C N sc (.ListComp elt [⟨tg, it, ifs, 0⟩] scope pos) (.lc m own g x cond e) := fun X W c F => by
  obtain ⟨tt, h1, h2⟩ := lc_pe (m := m) (pos := pos) c F ok hi ht he
  have z := pe_lc (pos := pos) c.calm (by rw [c.hN]; exact c.nd) (hi X W c F) (by rw [c.hN, c.hs]; exact blkOk_by ok.b) (fun s H D cl fp => kg_pg (cA := C.cA) (tgk_blk c s H scope D cl fp) c.calm ok.t) h1
    (fun s H D cl fp => he _ _ (cok_blk c s H scope D cl fp) (ok_blk F s H scope _ fp)) (fold_plain ok.n)
  rw [own_map] at z
  exact pe_weak z h2
end
end Tw
set_option maxHeartbeats 4000000
namespace Tw
open PySem L2

/-! ## statements -/
def PoS (cA : CA) (W : WX) (al : List Addr) (G : Hp) (D : Ends) : Fl → Prop
  | .nx loc s' => ∀ al' G' H' st', Xt al G al' G' → Rl cA al' G' s' H' → RepS cA al' G' loc st' → D.nx st' H'
  | .bk loc s' => ∀ al' G' H' st', Xt al G al' G' → Rl cA al' G' s' H' → RepS cA al' G' loc st' → D.bk st' H'
  | .ct loc s' => ∀ al' G' H' st', Xt al G al' G' → Rl cA al' G' s' H' → RepS cA al' G' loc st' → D.ct st' H'
  | .rt y s' => ∀ al' G' H' v, Xt al G al' G' → Rl cA al' G' s' H' → RepV cA al' G' y v → D.rt v H'
  | .ex e loc s' => ∀ al' G' H' st' cl d, Xt al G al' G' → Rl cA al' G' s' H' → RepS cA al' G' loc st' → RepX cA G' H' e cl d → W cl d st' H'
  | .bad => False
def TSv (cA : CA) (W : WX) (m : Loc → Store → Fl) : TS := fun D st H => ∃ al G loc s, Rl cA al G s H ∧ RepS cA al G loc st ∧ PoS cA W al G D (m loc s)

section
variable {cA : CA} {W : WX} {al al1 : List Addr} {G G1 H : Hp} {D : Ends} {st : L2.St} {loc : Loc} {s : Store}
theorem PoS.mono {x : Fl} (h : PoS cA W al G D x) (e : Xt al G al1 G1) : PoS cA W al1 G1 D x := by
  cases x with
  | nx l s => exact fun al' G' H' st' x r S => h al' G' H' st' (e.trans x) r S
  | bk l s => exact fun al' G' H' st' x r S => h al' G' H' st' (e.trans x) r S
  | ct l s => exact fun al' G' H' st' x r S => h al' G' H' st' (e.trans x) r S
  | rt y s => exact fun al' G' H' v x r q => h al' G' H' v (e.trans x) r q
  | ex u l s => exact fun al' G' H' st' cl d x r S q => h al' G' H' st' cl d (e.trans x) r S q
  | bad => exact h
theorem PoS.toFl {α : Type} {x : Out α} {f : α → Store → Fl} (h : PoS cA W al G D (x.toFl loc f)) (S : RepS cA al G loc st) : Po cA W al G st (fun a s1 al1 G1 _ => PoS cA W al1 G1 D (f a s1)) x := by
  cases x with
  | ok a s1 => exact fun al1 G1 H1 e r => PoS.mono (x := f a s1) h e
  | ex u s1 => exact fun al1 G1 H1 cl d e r q => h al1 G1 H1 st cl d e r (S.mono e) q
  | bad => exact h
theorem PoS.hereN (h : PoS cA W al G D (.nx loc s)) (r : Rl cA al G s H) (S : RepS cA al G loc st) : D.nx st H := h al G H st Xt.rfl' r S
theorem TEv.goS {m : Loc → Store → Out VV} {f : VV → Store → Fl} {Q' : VK} (r : Rl cA al G s H) (S : RepS cA al G loc st) (h : PoS cA W al G D ((m loc s).toFl loc f))
    (c : ∀ y s1 al1 G1 H1 v, Xt al G al1 G1 → Rl cA al1 G1 s1 H1 → RepS cA al1 G1 loc st → RepV cA al1 G1 y v → PoS cA W al1 G1 D (f y s1) → Q' v H1) : TEv cA W m st H Q' :=
  ⟨al, G, loc, s, r, S, (h.toFl S).imp fun y s1 al1 G1 H1 x r1 p v q => c y s1 al1 G1 H1 v x r1 (S.mono x) q p⟩
theorem TAv.goS {m : Loc → Store → Out (List VV)} {f : List VV → Store → Fl} {Q' : List V → Hp → Prop} (r : Rl cA al G s H) (S : RepS cA al G loc st) (h : PoS cA W al G D ((m loc s).toFl loc f))
    (c : ∀ y s1 al1 G1 H1 v, Xt al G al1 G1 → Rl cA al1 G1 s1 H1 → RepS cA al1 G1 loc st → RepVs cA al1 G1 y v → PoS cA W al1 G1 D (f y s1) → Q' v H1) : TAv cA W m st H Q' :=
  ⟨al, G, loc, s, r, S, (h.toFl S).imp fun y s1 al1 G1 H1 x r1 p v q => c y s1 al1 G1 H1 v x r1 (S.mono x) q p⟩
theorem TTv.goS {m : Loc → Store → Out Bool} {f : Bool → Store → Fl} {Q' : Bool → Hp → Prop} (r : Rl cA al G s H) (S : RepS cA al G loc st) (h : PoS cA W al G D ((m loc s).toFl loc f))
    (c : ∀ y s1 al1 G1 H1, Xt al G al1 G1 → Rl cA al1 G1 s1 H1 → RepS cA al1 G1 loc st → PoS cA W al1 G1 D (f y s1) → Q' y H1) : TTv cA W m st H Q' :=
  ⟨al, G, loc, s, r, S, (h.toFl S).imp fun y s1 al1 G1 H1 x r1 p => c y s1 al1 G1 H1 x r1 (S.mono x) p⟩
end

/-- __init__ of an own error that keeps its one argument at f -/
def spI (C : Addr) (f : Str) : Sp := fun vs H Q _ => ∃ a v, vs = [.ref a, v] ∧ H a = some (exo a C none) ∧ ∀ dx, H dx = none → dx ≠ a → Q .non (upd (upd H dx (exd dx [(f, v)])) a (exo a C (some dx)))
/-- what is told of the own errors -/
structure Xfs (P : Program) (w : World) (K : PySem.W.Frag) (mg : Str → Option Value) (base : Heap) (D : Defs) (M : Nms) (cA : CA) (k : Nat) : Prop where
  sub : ∀ e c, (D.exf e).isSome = true → (D.exf c).isSome = true → PySem.W.exmOne K (.ref (cA e)) (.ref (cA c)) = some (D.sub e c)
  ini : ∀ c f, D.exf c = some (some f) → ∃ fI fd ps, OexC K (cA c) ∧ PySem.W.findIn K (.ref (cA c)) "__init__" = some (some (.ref fI)) ∧ PySem.W.typeIn K (.ref fI) = some (.type "function") ∧
    FnOk P w K mg base (L2.CX P w) k fI fd ps (spI (cA c) f) ∧ Binds K fd ps []
structure Cl.OkS (C : Cl) (X : Cx) : Prop where
  ok : C.Ok X
  xf : Xfs X.prog X.w X.K X.mg X.base C.D C.M C.cA C.k

/-- the context of a body's statements -/
structure Stc (X : Cx) (N : List Str) (sc : Scope) (W : WX) : Prop where
  c : Cok X N sc W
  g : Tgk X N sc
  st : X.stack = X.env :: X.outer
  fr : X.env.frame = some X.env.locals
  po : PassesOwn (model X.prog X.w) X.A X.env X.xe
section
variable (C : Cl) (N : List Str) (sc : Scope)
def Ks (x : Stmt) (e : S) : Prop := ∀ X W, Stc X N sc W → C.OkS X → PS X x (TSv C.cA W (evS C.D C.cf C.rp C.fw e))
def Kb (x : List Stmt) (e : S) : Prop := ∀ X W, Stc X N sc W → C.OkS X → PSs X x (TSv C.cA W (evS C.D C.cf C.rp C.fw e))
end
section
variable {C : Cl} {N : List Str} {sc : Scope} {a b c : Expr} {x y z : E} {pos p : Pos} {t : Stmt} {ts us : List Stmt} {u v : S}
theorem ret_go {cA : CA} {W : WX} {al : List Addr} {G H : Hp} {D : Ends} {s : Store} {y : VV} {v : V} {m : Bool} (r : Rl cA al G s H) (rv : RepV cA al G y v)
    (p : PoS cA W al G D (if m then .rt y s else match emb s y with
      | some (t, s2) => .rt (.t t) s2
      | none => .bad)) : D.rt v H := by
  cases m with
  | true => exact p al G H v Xt.rfl' r rv
  | false =>
    simp only [Bool.false_eq_true, if_false] at p
    cases he : emb s y with
    | none => rw [he] at p; exact p.elim
    | some z =>
      obtain ⟨t, s2⟩ := z
      rw [he] at p
      obtain ⟨G2, sb2, r2, q2⟩ := r.emb rv he
      exact p al G2 H v (Xt.ofSb sb2) r2 q2
theorem b_nil : Kb C N sc [] .skip := fun X W c F => pss_weak pss_nil fun D st H ⟨al, G, loc, s, r, S, p⟩ => p.hereN r S
theorem b_cons (h : Ks C N sc t u) (hs : Kb C N sc ts v) : Kb C N sc (t :: ts) (.seq u v) := fun X W c F => by
  refine pss_weak (pss_cons (h X W c F) (hs X W c F)) fun D st H q => ?_
  obtain ⟨al, G, loc, s, r, S, p⟩ := q
  refine ⟨al, G, loc, s, r, S, ?_⟩
  simp only [evS] at p
  cases hm : evS C.D C.cf C.rp C.fw u loc s with
  | nx l s1 => rw [hm] at p; exact fun al' G' H' st' x r' S' => ⟨al', G', l, s1, r', S', PoS.mono (x := evS C.D C.cf C.rp C.fw v l s1) p x⟩
  | bk l s1 => rw [hm] at p; exact p
  | ct l s1 => rw [hm] at p; exact p
  | rt y s1 => rw [hm] at p; exact p
  | ex e l s1 => rw [hm] at p; exact p
  | bad => rw [hm] at p; exact p
theorem b_one (h : Ks C N sc t u) : Kb C N sc [t] u := fun X W c F => pss_one (h X W c F)
theorem b_junk : Kb C N sc ts .junk := fun X W c F => pss_weak pss_never fun D st H ⟨al, G, loc, s, r, S, p⟩ => p
theorem t_pass : Ks C N sc (.Pass p) .skip := fun X W c F => ps_weak ps_pass fun D st H ⟨al, G, loc, s, r, S, p⟩ => p.hereN r S
theorem t_doc {d : Str} {k : _} {p2 : Pos} : Ks C N sc (.Expr (.Constant (.str d) k p) p2) .skip := fun X W c F => ps_weak ps_doc fun D st H ⟨al, G, loc, s, r, S, p⟩ => p.hereN r S
theorem t_brk : Ks C N sc (.Break p) .brk := fun X W c F => ps_weak ps_break fun D st H ⟨al, G, loc, s, r, S, p⟩ => p al G H st Xt.rfl' r S
theorem t_cont : Ks C N sc (.Continue p) .cont := fun X W c F => ps_weak ps_continue fun D st H ⟨al, G, loc, s, r, S, p⟩ => p al G H st Xt.rfl' r S
theorem t_ret {m : Bool} (h : Ke C N sc a x) : Ks C N sc (.Return (some a) p) (.ret m x) := fun X W c F => by
  refine ps_weak (ps_ret (h X W c.c F.ok)) fun D st H q => ?_
  obtain ⟨al, G, loc, s, r, S, p⟩ := q
  exact TEv.goS r S p fun y s1 al1 G1 H1 v x1 r1 S1 rv p1 => ret_go r1 rv p1
theorem t_retn : Ks C N sc (.Return none p) .retn := fun X W c F => ps_weak ps_retN fun D st H ⟨al, G, loc, s, r, S, p⟩ => p al G H .non Xt.rfl' r (show Rep C.cA G .non .non from repN)
theorem t_if (h : Kt C N sc a x) (h1 : Kb C N sc ts u) (h2 : Kb C N sc us v) : Ks C N sc (.If a ts us p) (.ite x u v) := fun X W c F => by
  refine ps_weak (ps_if (h X W c.c F.ok) (h1 X W c F) (h2 X W c F)) fun D st H q => ?_
  obtain ⟨al, G, loc, s, r, S, p⟩ := q
  refine TTv.goS r S p fun b s1 al1 G1 H1 x1 r1 S1 p1 => ?_
  cases b with
  | true => exact ⟨al1, G1, loc, s1, r1, S1, p1⟩
  | false => exact ⟨al1, G1, loc, s1, r1, S1, p1⟩
theorem t_exp (hs : ∀ env, swapsWith a none p.line env = pure false) (h : Ke C N sc a x) : Ks C N sc (.Expr a p) (.exp x) := fun X W c F => by
  refine ps_weak (ps_expr (h X W c.c F.ok) (hs _)) fun D st H q => ?_
  obtain ⟨al, G, loc, s, r, S, p⟩ := q
  exact TEv.goS r S p fun y s1 al1 G1 H1 v x1 r1 S1 rv p1 => p1.hereN r1 S1

/-! ### targets -/
def TGp (C : Cl) (W : WX) (g : E) : TG := fun v st H Q => ∃ al G loc s y, Rl C.cA al G s H ∧ RepS C.cA al G loc st ∧ RepV C.cA al G y v ∧
  Po C.cA W al G st (fun l' _ al' G' H' => ∀ st', RepS C.cA al' G' l' st' → Q st' H') (put C.D C.cf C.rp g y loc s)
def TGps (C : Cl) (W : WX) (g : E) : TGs := fun vs st H Q => ∃ al G loc s ys, Rl C.cA al G s H ∧ RepS C.cA al G loc st ∧ RepL C.cA G ys vs ∧
  Po C.cA W al G st (fun l' _ al' G' H' => ∀ st', RepS C.cA al' G' l' st' → Q st' H') (putL C.D C.cf C.rp g ys loc s)
/-- what an own error is told of hangs on the state: with targets that only store and read nothing is raised -/
def Kp (C : Cl) (N : List Str) (sc : Scope) (x : Expr) (g : E) : Prop := ∀ X W, Stc X N sc W → C.OkS X → PG X x (TGp C W0 g)
def Kps (C : Cl) (N : List Str) (sc : Scope) (x : List Expr) (g : E) : Prop := ∀ X W, Stc X N sc W → C.OkS X → PGs X x (TGps C W0 g)
theorem g_gn {i : Nat} {n : Str} (h1 : N[i]? = some n) (h2 : locB sc n = true) : Kp C N sc (.Name n p) (.gn i) := fun X W c F => by
  refine pg_weak (g_name (cA := C.cA) c.g h1 h2) fun v st H Q q => ?_
  obtain ⟨al, G, loc, s, y, r, S, rv, p⟩ := q
  simp only [put] at p
  split at p
  · rename_i hi
    exact ⟨al, G, loc, s, y, r, S, rv, hi, fun st' S' _ => p al G H Xt.rfl' r st' S'⟩
  · exact p.elim
theorem cokW0 {X : Cx} {W : WX} (c : Cok X N sc W) : Cok X N sc W0 := ⟨c.hN, c.nd, c.hs, c.calm, takes0⟩
theorem g_ix (hsub : ∀ env v, assign (.Subscript a b p) env v = (do
      let ov ← holding [v] (eval a env)
      let iv ← holding [v, ov] (eval b env)
      standAt p
      holding [v, ov, iv] (setItem ov iv v)
      release [v, ov, iv] [])) (ha : Ke C N sc a x) (hb : Ke C N sc b y) : Kp C N sc (.Subscript a b p) (.ix x y) := fun X W c F => by
  refine pg_weak (pg_sub (ha X W0 (cokW0 c.c) F.ok) (hb X W0 (cokW0 c.c) F.ok) set_list (hsub _)) fun v st H Q q => ?_
  obtain ⟨al, G, loc, s, yv, r, S, rv, p⟩ := q
  simp only [put] at p
  refine TEv.go r S p fun o s1 al1 G1 H1 ov x1 r1 S1 ro p1 => ?_
  refine TEv.go r1 S1 p1 fun z s2 al2 G2 H2 zv x2 r2 S2 rz p2 => ?_
  unfold setIx at p2
  cases o with
  | t t => exact p2.elim
  | c k =>
    simp only at p2
    obtain ⟨adr, hk, rfl⟩ := ro
    cases he : emb s2 yv with
    | none => simp only [he] at p2; exact p2.elim
    | some w =>
      obtain ⟨t, s3⟩ := w
      simp only [he] at p2
      obtain ⟨G3, sb3, r3, q3⟩ := r2.emb (rv.mono (x1.trans x2)) he
      cases hc : s3[k]? with
      | none => simp only [hc] at p2; exact p2.elim
      | some cc =>
        simp only [hc] at p2
        split at p2
        · rename_i xs j e1 e2
          cases e1
          cases hx : ixN xs.length j with
          | none => simp only [hx] at p2; exact p2.elim
          | some pp =>
            simp only [hx] at p2
            have hk2 : al2[k]? = some adr := x2.get hk
            obtain ⟨gn, vs, hh, rr⟩ := r3.cell _ _ _ hk2 hc
            have rz3 : RepV C.cA al2 G3 z zv := rz.mono (Xt.ofSb sb3)
            have hz := seesI (r3.sees rz3 e2)
            refine ⟨adr, vs, j, pp, rfl, hz, hh, by rw [rr.length]; exact hx, ?_⟩
            exact p2 al2 G3 _ (Xt.ofSb sb3) (r3.setL (vs := vs) hk2 hc (rr.set pp q3)) st (S2.mono (Xt.ofSb sb3))
        · exact p2.elim
theorem g_pnil : Kps C N sc [] .nil := fun X W c F => by
  refine pgs_weak pgs_nil fun vs st H Q q => ?_
  obtain ⟨al, G, loc, s, ys, r, S, rl, p⟩ := q
  cases ys with
  | nil =>
    unfold RepL at rl
    subst rl
    exact ⟨rfl, p al G H Xt.rfl' r st S⟩
  | cons z zs => exact p.elim
theorem g_pcons {es : List Expr} (h : notStar a = true) (ha : Kp C N sc a x) (hs : Kps C N sc es y) : Kps C N sc (a :: es) (.cons x y) := fun X W c F => by
  refine pgs_weak (pgs_cons (ha X W c F) (hs X W c F) (each_cons h)) fun vs st H Q q => ?_
  obtain ⟨al, G, loc, s, ys, r, S, rl, p⟩ := q
  cases ys with
  | nil => exact p.elim
  | cons z zs =>
    unfold RepL at rl
    obtain ⟨v, rr, rfl, rx, rs⟩ := rl
    refine ⟨v, rr, rfl, al, G, loc, s, .t z, r, S, rx, ?_⟩
    simp only [putL] at p
    exact p.bind.imp fun l1 s1 al1 G1 H1 x1 r1 p1 st1 S1 => ⟨al1, G1, l1, s1, zs, r1, S1, RepL.mono x1.sub rs, by
      cases hm : putL C.D C.cf C.rp y zs l1 s1 with
      | ok l2 s2 => rw [hm] at p1; exact p1
      | ex e s2 => rw [hm] at p1; exact fun al' G' H' cl d x' r' q' => p1 al' G' H' cl d x' r' q'
      | bad => rw [hm] at p1; exact p1⟩
theorem g_gt {es : List Expr} {k : Nat} (hl : alen x = es.length) (hs : es.all notStar = true) (h : Kps C N sc es x) : Kp C N sc (.Tuple es k p) (.gt x) := fun X W c F => by
  have g1 := pg_tup (k := k) (pos := p) (n := es.length) c.c.calm (h X W c F) each_len (each_star hs)
  have g2 := pg_lst (k := k) (pos := p) (n := es.length) c.c.calm (h X W c F) each_len (each_star hs)
  refine ⟨fun pins s st H v u Q I r q => ?_⟩
  obtain ⟨al, G, loc, s', yv, rl, S, rv, pp⟩ := q
  simp only [put] at pp
  cases hx : (rd s' yv).bind items with
  | none => simp only [hx] at pp; exact pp.elim
  | some xs =>
    simp only [hx] at pp
    rw [Option.bind_eq_some_iff] at hx
    obtain ⟨t, ht, hi⟩ := hx
    split at pp
    case isFalse => exact pp.elim
    rename_i hl0
    have hlen : xs.length = es.length := by rw [hl0, hl]
    have sx := rl.sees rv ht
    cases t with
    | tup ys =>
      cases hi
      obtain ⟨a, vs, rfl, ha, ga, ra⟩ := seesT rl.sub sx
      exact g1.run pins s st H _ u Q I r ⟨a, vs, rfl, .of ha, by rw [ra.length, hlen], al, G, loc, s', xs, rl, S, ra, pp⟩
    | lst ys =>
      cases hi
      obtain ⟨a, vs, rfl, ha, ra⟩ := sx
      exact g2.run pins s st H _ u Q I r ⟨a, vs, rfl, .of ha, by rw [ra.length, hlen], al, G, loc, s', xs, rl, S, ra, pp⟩
    | _ => cases hi

/-! ### assignments -/
theorem t_asg (hs : ∀ env : Env, env.scope = sc → swapsWithSole [a] b p.line env = pure false) (hw : ∀ env : Env, env.scope = sc → swappedStores [a] b env = pure none) (ho : ∀ env, (assignEach [a] env).map (·.2) = [assign a env]) (hg : Kp C N sc a x) (he : Ke C N sc b y) : Ks C N sc (.Assign [a] b p) (.asg x y) := fun X W c F => by
  refine ps_weak (ps_asg (he X W c.c F.ok) (hg X W c F) (hs _ c.c.hs) (hw _ c.c.hs) (ho _)) fun D st H q => ?_
  obtain ⟨al, G, loc, s, r, S, p⟩ := q
  simp only [evS] at p
  refine TEv.goS r S p fun y s1 al1 G1 H1 v x1 r1 S1 rv p1 => ?_
  refine ⟨al1, G1, loc, s1, y, r1, S1, rv, ?_⟩
  cases hm : put C.D C.cf C.rp x y loc s1 with
  | ok l2 s2 => rw [hm] at p1; exact fun al2 G2 H2 x2 r2 st2 S2 => p1 al2 G2 H2 st2 x2 r2 S2
  | ex e s2 => rw [hm] at p1; exact p1.elim
  | bad => rw [hm] at p1; exact p1.elim
theorem t_lc {i : Nat} {n : Str} {py lp : Pos} {m : Bool} {own : List Nat} {g w cond e : E} {elt tg it : Expr} {ifs : List Expr} {scope : Scope} (h1 : N[i]? = some n) (h2 : sc.names.lookup n = some .local) (hk : sc.kind = .function) (hl : (py.line == lp.line) = true)
    (ha : (scope.names.any fun (x, k) => x == n && (k == .local || k == .cell)) = false) (ok : LcOk N sc scope own g it tg) (hi : Ki C N sc tg it w) (ht : Kts C N (relS scope sc) ifs cond) (he : Ke C N (relS scope sc) elt e) :
    Ks C N sc (.Assign [.Name n py] (.ListComp elt [⟨tg, it, ifs, 0⟩] scope lp) p) (.asg (.gn i) (.lc m own g w cond e)) := fun X W c F => by
  obtain ⟨tt, q1, q2⟩ := lc_pe (m := m) (pos := lp) c.c F.ok ok hi ht he
  have z := ps_setLc (pos := lp) (spos := p) (py := py) c.c.calm (by rw [c.c.hN]; exact c.c.nd) (by rw [c.c.hN]; exact h1) (by rw [c.c.hs]; exact h2) (sw_true (by rw [c.c.hs]; exact hk) (by rw [c.c.hs]; exact h2) hl ha) (hi X W c.c F.ok) (by rw [c.c.hN, c.c.hs]; exact blkOk_by ok.b)
    (fun s H D cl fp => kg_pg (cA := C.cA) (tgk_blk c.c s H scope D cl fp) c.c.calm ok.t) q1 (fun s H D cl fp => he _ _ (cok_blk c.c s H scope D cl fp) (ok_blk F.ok s H scope _ fp)) (fold_plain ok.n)
  rw [own_map] at z
  refine ps_weak z fun D st H q => ?_
  obtain ⟨al, G, loc, s, r, S, p⟩ := q
  simp only [evS] at p
  refine q2 st H _ (TEv.goS r S p fun y s1 al1 G1 H1 v x1 r1 S1 rv p1 => ?_)
  simp only [put] at p1
  split at p1
  · rename_i hi
    exact p1.hereN r1 (S1.set hi rv)
  · exact p1.elim
theorem RepVs.two {cA : CA} {al : List Addr} {G : Hp} {ys : List VV} {vs : List V} (r : RepVs cA al G ys vs) (h : ys.length = 2) : ∃ y1 y2 v1 v2, ys = [y1, y2] ∧ vs = [v1, v2] ∧ RepV cA al G y1 v1 ∧ RepV cA al G y2 v2 := by
  match ys, h, r with
  | [y1, y2], _, ⟨v1, r1, e1, q1, v2, r2, e2, q2, e3⟩ =>
    have e3 : r2 = [] := e3
    subst e3; subst e2; subst e1
    exact ⟨y1, y2, v1, v2, rfl, rfl, q1, q2⟩
theorem RepVs.three {cA : CA} {al : List Addr} {G : Hp} {ys : List VV} {vs : List V} (r : RepVs cA al G ys vs) (h : ys.length = 3) : ∃ y1 y2 y3 v1 v2 v3, ys = [y1, y2, y3] ∧ vs = [v1, v2, v3] ∧ RepV cA al G y1 v1 ∧ RepV cA al G y2 v2 ∧ RepV cA al G y3 v3 := by
  match ys, h, r with
  | [y1, y2, y3], _, ⟨v1, r1, e1, q1, v2, r2, e2, q2, v3, r3, e3, q3, e4⟩ =>
    have e4 : r3 = [] := e4
    subst e4; subst e3; subst e2; subst e1
    exact ⟨y1, y2, y3, v1, v2, v3, rfl, rfl, q1, q2, q3⟩
theorem t_par2 {i j : Nat} {n1 n2 : Str} {px py pt pt2 : Pos} {kt k2 : Nat} (h1 : N[i]? = some n1) (h2 : N[j]? = some n2) (hij : i ≠ j) (l1 : sc.names.lookup n1 = some .local) (l2 : sc.names.lookup n2 = some .local)
    (hw : ∀ env : Env, env.scope = sc → swappedStores [.Tuple [.Name n1 px, .Name n2 py] kt pt] (.Tuple [a, b] k2 pt2) env = pure (some [n1, n2])) (h : Ka C N sc [a, b] x) :
    Ks C N sc (.Assign [.Tuple [.Name n1 px, .Name n2 py] kt pt] (.Tuple [a, b] k2 pt2) p) (.par (.cons (.gn i) (.cons (.gn j) .nil)) x) := fun X W c F => by
  refine ps_weak (ps_par c.c.calm (by rw [c.c.hN]; exact c.c.nd) (by rw [c.c.hN]; exact h1) (by rw [c.c.hN]; exact h2) hij (by rw [c.c.hs]; exact l1) (by rw [c.c.hs]; exact l2) (h X W c.c F.ok) (hw _ c.c.hs)) fun D st H q => ?_
  obtain ⟨al, G, loc, s, r, S, p⟩ := q
  simp only [evS] at p
  refine TAv.goS r S p fun ys s1 al1 G1 H1 vs x1 r1 S1 rv p1 => ?_
  match ys, rv, p1 with
  | [], _, p1 => exact p1.elim
  | [_], _, p1 => simp only [bindV] at p1; split at p1 <;> first | exact p1.elim | (rename_i z; split at z <;> cases z)
  | _ :: _ :: _ :: _, _, p1 => simp only [bindV] at p1; split at p1 <;> first | exact p1.elim | (rename_i z; (repeat (split at z)) <;> cases z)
  | [y1, y2], rv, p1 =>
    obtain ⟨_, _, v1, v2, e, rfl, q1, q2⟩ := rv.two rfl
    cases e
    simp only [bindV] at p1
    split at p1
    · rename_i l hl
      split at hl
      · rename_i hi
        split at hl
        · rename_i hj
          cases hl
          exact ⟨v1, v2, rfl, p1.hereN r1 ((S1.set hi q1).set hj q2)⟩
        · cases hl
      · cases hl
    · exact p1.elim
theorem t_par3 {i j k : Nat} {n1 n2 n3 : Str} {px py pz pt pt2 : Pos} {kt k2 : Nat} (h1 : N[i]? = some n1) (h2 : N[j]? = some n2) (h3 : N[k]? = some n3) (hij : i ≠ j) (hik : i ≠ k) (hjk : j ≠ k) (l1 : sc.names.lookup n1 = some .local) (l2 : sc.names.lookup n2 = some .local) (l3 : sc.names.lookup n3 = some .local)
    (hw : ∀ env : Env, env.scope = sc → swappedStores [.Tuple [.Name n1 px, .Name n2 py, .Name n3 pz] kt pt] (.Tuple [a, b, c] k2 pt2) env = pure (some [n1, n2, n3])) (h : Ka C N sc [a, b, c] x) :
    Ks C N sc (.Assign [.Tuple [.Name n1 px, .Name n2 py, .Name n3 pz] kt pt] (.Tuple [a, b, c] k2 pt2) p) (.par (.cons (.gn i) (.cons (.gn j) (.cons (.gn k) .nil))) x) := fun X W cc F => by
  refine ps_weak (ps_par3 cc.c.calm (by rw [cc.c.hN]; exact cc.c.nd) (by rw [cc.c.hN]; exact h1) (by rw [cc.c.hN]; exact h2) (by rw [cc.c.hN]; exact h3) hij hik hjk (by rw [cc.c.hs]; exact l1) (by rw [cc.c.hs]; exact l2) (by rw [cc.c.hs]; exact l3) (h X W cc.c F.ok) (hw _ cc.c.hs)) fun D st H q => ?_
  obtain ⟨al, G, loc, s, r, S, p⟩ := q
  simp only [evS] at p
  refine TAv.goS r S p fun ys s1 al1 G1 H1 vs x1 r1 S1 rv p1 => ?_
  have hlen : ys.length = 3 := by
    match ys, p1 with
    | [], p1 => exact p1.elim
    | [_], p1 => simp only [bindV] at p1; split at p1 <;> first | exact p1.elim | (rename_i z; (repeat (split at z)) <;> cases z)
    | [_, _], p1 => simp only [bindV] at p1; split at p1 <;> first | exact p1.elim | (rename_i z; (repeat (split at z)) <;> cases z)
    | [_, _, _], p1 => rfl
    | _ :: _ :: _ :: _ :: _, p1 => simp only [bindV] at p1; split at p1 <;> first | exact p1.elim | (rename_i z; (repeat (split at z)) <;> cases z)
  obtain ⟨y1, y2, y3, v1, v2, v3, rfl, rfl, q1, q2, q3⟩ := rv.three hlen
  simp only [bindV] at p1
  split at p1
  · rename_i l hl
    split at hl
    · rename_i hi
      split at hl
      · rename_i hj
        split at hl
        · rename_i hk
          cases hl
          exact ⟨v1, v2, v3, rfl, p1.hereN r1 (((S1.set hi q1).set hj q2).set hk q3)⟩
        · cases hl
      · cases hl
    · cases hl
  · exact p1.elim
end
end Tw
set_option maxHeartbeats 4000000
namespace Tw
open PySem L2
section
variable {C : Cl} {N : List Str} {sc : Scope} {a b c : Expr} {x y z : E} {pos p : Pos} {t : Stmt} {ts us : List Stmt} {u v : S}
/-! ### loops -/
theorem TIv.goS {cA : CA} {K : PySem.W.Frag} {W : WX} {al : List Addr} {G H : Hp} {D : Ends} {st : L2.St} {loc : Loc} {s : Store} {m : Loc → Store → Out Src} {f : Src → Store → Fl} {Q' : It → Hp → Prop} (r : Rl cA al G s H) (S : RepS cA al G loc st) (h : PoS cA W al G D ((m loc s).toFl loc f))
    (q : ∀ src s1 al1 G1 H1, Xt al G al1 G1 → Rl cA al1 G1 s1 H1 → RepS cA al1 G1 loc st → PoS cA W al1 G1 D (f src s1) → ∀ J, SrcIt cA K al1 G1 src J → Q' J H1) : TIv cA K W m st H Q' :=
  ⟨al, G, loc, s, r, S, (h.toFl S).imp fun src s1 al1 G1 H1 x r1 p J hJ => q src s1 al1 G1 H1 x r1 (S.mono x) p J hJ⟩
theorem t_for {tg it : Expr} {g i : E} (hn : notSetE it = true) (hg : Kg N sc tg g) (hi : Ki C N sc tg it i) (hb : Kb C N sc ts u) : Ks C N sc (.For tg it ts [] p) (.for g i u) := fun X W c F => by
  refine ps_weak (ps_for c.po c.c.calm (hi X W c.c F.ok) (kg_pg (cA := C.cA) c.g c.c.calm hg) (hb X W c F) (fold_plain hn)) fun D st H q => ?_
  obtain ⟨al, G, loc, s, r, S, p⟩ := q
  simp only [evS] at p
  refine TIv.goS r S p fun src s1 al1 G1 H1 x1 r1 S1 p1 J hJ => ?_
  refine ⟨fun k n st' H' => ∃ al' G' loc' s', Xt al1 G1 al' G' ∧ Rl C.cA al' G' s' H' ∧ RepS C.cA al' G' loc' st' ∧ PoS C.cA W al' G' D (loopF src g (evS C.D C.cf C.rp C.fw u) n k loc' s'), ⟨_, al1, G1, loc, s1, Xt.rfl', r1, S1, p1⟩, ?_⟩
  rintro k n st' H' ⟨al', G', loc', s', x', r', S', pp⟩
  have hJ' := hJ.mono x'
  cases n with
  | zero => exact pp.elim
  | succ n =>
    unfold loopF at pp
    cases ha : src.at s' k with
    | none => rw [ha] at pp; exact pp.elim
    | some o =>
      rw [ha] at pp
      cases o with
      | none => exact .inl ⟨turn_none r' hJ' ha, pp.hereN r' S'⟩
      | some w =>
        obtain ⟨go, yl⟩ := turn_some r' hJ' ha
        refine .inr ⟨go, _, fun st2 H2 h => ⟨n, Nat.lt_succ_self n, h⟩, fun v H2 hy => ?_⟩
        obtain ⟨G2, sb2, r2, rx⟩ := yl v H2 hy
        cases hb : bindG g w loc' with
        | none => simp only [hb] at pp; exact pp.elim
        | some l1 =>
          simp only [hb] at pp
          have x2 : Xt al' G' al' G2 := Xt.ofSb sb2
          refine ⟨al', G2, loc', s', w, l1, r2, S'.mono x2, rx, hb, fun st2 S2 _ => ⟨al', G2, l1, s', r2, S2, ?_⟩⟩
          cases hm : evS C.D C.cf C.rp C.fw u l1 s' with
          | nx l2 s2 => rw [hm] at pp; exact fun al3 G3 H3 st3 x3 r3 S3 => ⟨al3, G3, l2, s2, x'.trans (x2.trans x3), r3, S3, PoS.mono pp (x2.trans x3)⟩
          | ct l2 s2 => rw [hm] at pp; exact fun al3 G3 H3 st3 x3 r3 S3 => ⟨al3, G3, l2, s2, x'.trans (x2.trans x3), r3, S3, PoS.mono pp (x2.trans x3)⟩
          | bk l2 s2 => rw [hm] at pp; exact fun al3 G3 H3 st3 x3 r3 S3 => pp al3 G3 H3 st3 (x2.trans x3) r3 S3
          | rt y2 s2 => rw [hm] at pp; exact fun al3 G3 H3 st3 x3 r3 S3 => pp al3 G3 H3 st3 (x2.trans x3) r3 S3
          | ex e l2 s2 => rw [hm] at pp; exact fun al3 G3 H3 st3 cl d x3 r3 S3 q3 => pp al3 G3 H3 st3 cl d (x2.trans x3) r3 S3 q3
          | bad => rw [hm] at pp; exact pp.elim
theorem t_whl (hc : Kt C N sc a x) (hb : Kb C N sc ts u) : Ks C N sc (.While a ts [] p) (.whl x u) := fun X W c F => by
  refine ps_weak (ps_while c.po (hc X W c.c F.ok) (hb X W c F)) fun D st H q => ?_
  obtain ⟨al, G, loc, s, r, S, p⟩ := q
  simp only [evS] at p
  refine ⟨fun n st' H' => ∃ al' G' loc' s', Rl C.cA al' G' s' H' ∧ RepS C.cA al' G' loc' st' ∧ PoS C.cA W al' G' D (loopW (evT C.D C.cf C.rp x) (evS C.D C.cf C.rp C.fw u) n loc' s'), ⟨_, al, G, loc, s, r, S, p⟩, ?_⟩
  rintro n st' H' ⟨al', G', loc', s', r', S', pp⟩
  cases n with
  | zero => exact pp.elim
  | succ n =>
    unfold loopW at pp
    refine ⟨al', G', loc', s', r', S', ?_⟩
    cases hq : evT C.D C.cf C.rp x loc' s' with
    | bad => rw [hq] at pp; exact pp.elim
    | ex e s1 => rw [hq] at pp; exact fun al1 G1 H1 cl d x1 r1 q1 => pp al1 G1 H1 st' cl d x1 r1 (S'.mono x1) q1
    | ok b s1 =>
      rw [hq] at pp
      intro al1 G1 H1 x1 r1
      show if b = true then _ else _
      cases b with
      | false =>
        rw [if_neg Bool.false_ne_true]
        exact pp al1 G1 H1 st' x1 r1 (S'.mono x1)
      | true =>
        rw [if_pos rfl]
        refine ⟨_, fun st2 H2 h => ⟨n, Nat.lt_succ_self n, h⟩, al1, G1, loc', s1, r1, S'.mono x1, ?_⟩
        simp only at pp
        cases hm : evS C.D C.cf C.rp C.fw u loc' s1 with
        | nx l2 s2 => rw [hm] at pp; exact fun al3 G3 H3 st3 x3 r3 S3 => ⟨al3, G3, l2, s2, r3, S3, PoS.mono pp (x1.trans x3)⟩
        | ct l2 s2 => rw [hm] at pp; exact fun al3 G3 H3 st3 x3 r3 S3 => ⟨al3, G3, l2, s2, r3, S3, PoS.mono pp (x1.trans x3)⟩
        | bk l2 s2 => rw [hm] at pp; exact fun al3 G3 H3 st3 x3 r3 S3 => pp al3 G3 H3 st3 (x1.trans x3) r3 S3
        | rt y2 s2 => rw [hm] at pp; exact fun al3 G3 H3 st3 x3 r3 S3 => pp al3 G3 H3 st3 (x1.trans x3) r3 S3
        | ex e l2 s2 => rw [hm] at pp; exact fun al3 G3 H3 st3 cl d x3 r3 S3 q3 => pp al3 G3 H3 st3 cl d (x1.trans x3) r3 S3 q3
        | bad => rw [hm] at pp; exact pp.elim
/-! ### changes in place -/
theorem sw_call {f : Expr} {es : List Expr} {kw : List Keyword} {pos : Pos} (tg : Option Expr) (l : Nat) (env : Env) : swapsWith (.Call f es kw pos) tg l env = pure false := rfl
theorem bm_append {X : Cx} {o e : Expr} {to : TE} {t : TA} {apos : Pos} (ho : PE X o to) (ha : PA X [e] t) (hs : notStar e = true) (hsup : notSuper o = true) (hl : (apos.endLine == pos.line) = true) :
    PE X (.Call (.Attribute o "append" apos) [e] [] pos) (tBM X.K "list" rAppend to t) := by
  have few := few_plain (env := X.env) (pos := pos) (es := [e]) (by simp [hs]) (Nat.lt_of_lt_of_le Nat.one_lt_two (by decide))
  exact pe_bm PySem.F.plainAttrs_list PySem.F.slot_list_append PySem.F.type_list_append mt_append ho ha (base_plain hsup) few hl (star_cons hs) (plain_back rfl)
theorem bm_extend {X : Cx} {o e : Expr} {to : TE} {t : TA} {apos : Pos} (ho : PE X o to) (ha : PA X [e] t) (hs : notStar e = true) (hsup : notSuper o = true) (hl : (apos.endLine == pos.line) = true) :
    PE X (.Call (.Attribute o "extend" apos) [e] [] pos) (tBM X.K "list" rExtend to t) := by
  have few := few_plain (env := X.env) (pos := pos) (es := [e]) (by simp [hs]) (Nat.lt_of_lt_of_le Nat.one_lt_two (by decide))
  exact pe_bm PySem.F.plainAttrs_list PySem.F.slot_list_extend PySem.F.type_list_extend mt_extend ho ha (base_plain hsup) few hl (star_cons hs) (plain_back rfl)

theorem t_app {o : Nat} {n : Str} {q1 q2 : Pos} (h1 : N[o]? = some n) (h2 : visB sc n = true) (hs : notStar a = true) (hl : (q2.endLine == pos.line) = true) (he : Ke C N sc a x) :
    Ks C N sc (.Expr (.Call (.Attribute (.Name n q1) "append" q2) [a] [] pos) p) (.app o x) := fun X W c F => by
  have z1 := bm_append (s_var (cA := C.cA) (W := W) (pos := q1) c.c h1 h2) (s_cons (he X W c.c F.ok) s_nil hs) hs rfl hl (pos := pos)
  refine ps_weak (ps_expr z1 (sw_call _ _ _)) fun D st H q => ?_
  obtain ⟨al, G, loc, s, r, S, p⟩ := q
  simp only [evS] at p
  unfold cellAt at p
  split at p
  · rename_i k hk
    split at hk
    · rename_i k' hk1
      split at hk
      · rename_i xs0 hk2
        cases hk
        refine ⟨al, G, loc, s, r, S, ?_⟩
        simp only [hk1]
        intro al1 G1 H1 x1 r1 v0 rv0
        obtain ⟨adr, hadr, rfl⟩ := rv0
        have hS := r1.cell _ _ _ hadr hk2
        obtain ⟨gn0, vs0, hh0, rr0⟩ := hS
        refine ⟨.inl ⟨rfl, vs0, .of hh0⟩, ?_⟩
        refine TAv.goS (D := D) (m := evs C.D C.cf C.rp (.cons x .nil)) (f := fun ys s1 => match ys with | [y] => appTo k y loc s1 | _ => .bad) r1 (S.mono x1) ?_ fun ys s2 al2 G2 H2 vs x2 r2 S2 rvs p2 => ?_
        · have pm := PoS.mono p x1
          simp only [evs]
          cases hz : ev C.D C.cf C.rp x loc s with
          | bad => rw [hz] at pm; exact pm
          | ex e s2 => rw [hz] at pm; exact pm
          | ok y s2 => rw [hz] at pm; exact pm
        · split at p2
          · rename_i y
            obtain ⟨v, rr, e1, q1, q2⟩ := rvs
            have e2 : rr = [] := q2
            subst e2; subst e1
            unfold appTo at p2
            cases hm : emb s2 y with
            | none => rw [hm] at p2; exact p2.elim
            | some z =>
              obtain ⟨t, s3⟩ := z
              simp only [hm] at p2
              obtain ⟨G3, sb3, r3, q3⟩ := r2.emb q1 hm
              cases hc : s3[k]? with
              | none => simp only [hc] at p2; exact p2.elim
              | some cc =>
                cases cc with
                | lst xs =>
                  simp only [hc] at p2
                  split at p2
                  · rename_i hz
                    have hk3 : al2[k]? = some adr := x2.get hadr
                    obtain ⟨gn, vs, hh, rr⟩ := r3.cell _ _ _ hk3 hc
                    refine ⟨adr, vs, v, rfl, rfl, hh, by rw [rr.length]; exact hz, ?_⟩
                    exact p2 al2 G3 _ st (Xt.ofSb sb3) (r3.setL (vs := vs) hk3 hc (rr.append (.one q3))) (S2.mono (Xt.ofSb sb3))
                  · exact p2.elim
                | _ => simp only [hc] at p2; exact p2.elim
          · exact p2.elim
      · cases hk
    · cases hk
  · exact p.elim
theorem t_ext {o : Nat} {n : Str} {q1 q2 : Pos} (h1 : N[o]? = some n) (h2 : visB sc n = true) (hs : notStar a = true) (hl : (q2.endLine == pos.line) = true) (he : Ke C N sc a x) :
    Ks C N sc (.Expr (.Call (.Attribute (.Name n q1) "extend" q2) [a] [] pos) p) (.ext o x) := fun X W c F => by
  have z1 := bm_extend (s_var (cA := C.cA) (W := W) (pos := q1) c.c h1 h2) (s_cons (he X W c.c F.ok) s_nil hs) hs rfl hl (pos := pos)
  refine ps_weak (ps_expr z1 (sw_call _ _ _)) fun D st H q => ?_
  obtain ⟨al, G, loc, s, r, S, p⟩ := q
  simp only [evS] at p
  unfold cellAt at p
  split at p
  · rename_i k hk
    split at hk
    · rename_i k' hk1
      split at hk
      · rename_i xs0 hk2
        cases hk
        refine ⟨al, G, loc, s, r, S, ?_⟩
        simp only [hk1]
        intro al1 G1 H1 x1 r1 v0 rv0
        obtain ⟨adr, hadr, rfl⟩ := rv0
        have hS := r1.cell _ _ _ hadr hk2
        obtain ⟨gn0, vs0, hh0, rr0⟩ := hS
        refine ⟨.inl ⟨rfl, vs0, .of hh0⟩, ?_⟩
        refine TAv.goS (D := D) (m := evs C.D C.cf C.rp (.cons x .nil)) (f := fun ys s1 => match ys with | [y] => extTo k y loc s1 | _ => .bad) r1 (S.mono x1) ?_ fun ys s2 al2 G2 H2 vs x2 r2 S2 rvs p2 => ?_
        · have pm := PoS.mono p x1
          simp only [evs]
          cases hz : ev C.D C.cf C.rp x loc s with
          | bad => rw [hz] at pm; exact pm
          | ex e s2 => rw [hz] at pm; exact pm
          | ok y s2 => rw [hz] at pm; exact pm
        · split at p2
          · rename_i y
            obtain ⟨v, rr, e1, q1, q2⟩ := rvs
            have e2 : rr = [] := q2
            subst e2; subst e1
            unfold extTo at p2
            split at p2
            · rename_i ys xs hy hc
              split at p2
              · rename_i hz
                have hk3 : al2[k]? = some adr := x2.get hadr
                obtain ⟨gn, vs, hh, rr⟩ := r2.cell _ _ _ hk3 hc
                obtain ⟨b2, ws, rfl, hb2, rw2⟩ := r2.sees q1 hy
                refine ⟨adr, b2, vs, ws, rfl, rfl, hh, hb2, by rw [rr.length, rw2.length]; exact hz, ?_⟩
                exact p2 al2 G2 _ st Xt.rfl' (r2.setL (vs := vs) hk3 hc (rr.append rw2)) S2
              · exact p2.elim
            · exact p2.elim
          · exact p2.elim
      · cases hk
    · cases hk
  · exact p.elim
end
end Tw
set_option maxHeartbeats 4000000
namespace Tw
open PySem L2
section
variable {C : Cl} {N : List Str} {sc : Scope} {a b c : Expr} {x y z : E} {pos p : Pos} {t : Stmt} {ts us : List Stmt} {u v : S}
theorem put_rep {cA : CA} {G : Hp} {f : Str} {t : T} {v : V} (q : Rep cA G t v) : ∀ {fs : List (Str × T)} {gs : List (Str × V)}, RepF cA G fs gs → RepF cA G (putT f t fs) (putF f v gs)
  | [], gs, r => by
    unfold RepF at r
    subst r
    unfold putT putF RepF
    exact ⟨v, [], rfl, q, by unfold RepF; rfl⟩
  | (g, y) :: fs, gs, r => by
    unfold RepF at r
    obtain ⟨w, rr, e, h1, h2⟩ := r
    subst e
    unfold putT putF
    by_cases hg : g = f
    · rw [if_pos hg, if_pos hg]
      unfold RepF
      exact ⟨v, rr, rfl, q, h2⟩
    · rw [if_neg hg, if_neg hg]
      unfold RepF
      exact ⟨w, _, rfl, h1, put_rep q h2⟩
theorem Rl.setI {cA : CA} {al : List Addr} {G H : Hp} {s : Store} (r : Rl cA al G s H) {k c dx : Nat} {a : Addr} {acc : List (Str × T)} (ha : al[k]? = some a) (hs : s[k]? = some (.ins c acc)) {xs : List (Str × T)} {us : List (Str × V)} (q : RepF cA G xs us) :
    Rl cA al G (s.set k (.ins c xs)) (upd H a (.ins (cA c) dx us)) := by
  have ok := r.cell k a _ ha hs
  obtain ⟨gn, ws, hh, _⟩ := ok
  refine ⟨fun b u e => ?_, by simp [r.len], r.nd, fun j b c hb hc => ?_⟩
  · have hne : b ≠ a := fun z => by rw [z, gn] at e; cases e
    rw [upd_ne hne]; exact r.sub b u e
  · by_cases hj : j = k
    · subst hj
      rw [ha] at hb; cases hb
      rw [List.getElem?_set_self (List.getElem?_eq_some_iff.mp hs).1] at hc
      cases hc
      exact ⟨gn, dx, us, upd_same, q⟩
    · rw [List.getElem?_set_ne (Ne.symm hj)] at hc
      have hba : b ≠ a := nodup_ne r.nd hb ha hj
      have ok' := r.cell j b c hb hc
      cases c with
      | lst z => obtain ⟨g, w, h1, h2⟩ := ok'; exact ⟨g, w, by rw [upd_ne hba]; exact h1, h2⟩
      | dct z => obtain ⟨g, w, h1, h2⟩ := ok'; exact ⟨g, w, by rw [upd_ne hba]; exact h1, h2⟩
      | ins cc z => obtain ⟨g, dx, w, h1, h2⟩ := ok'; exact ⟨g, dx, w, by rw [upd_ne hba]; exact h1, h2⟩
      | frz z => exact ok'
theorem t_satt {f : Str} {p2 : Pos} (hs : ∀ env, swapsWith b (some (.Attribute a f p2)) p.line env = pure false) (ha : Ke C N sc a x) (hb : Ke C N sc b y) : Ks C N sc (.Assign [.Attribute a f p2] b p) (.satt x f y) := fun X W c F => by
  refine ps_weak (ps_fld (ha X W c.c F.ok) (hb X W c.c F.ok) (hs _)) fun D st H q => ?_
  obtain ⟨al, G, loc, s, r, S, p⟩ := q
  simp only [evS] at p
  refine TEv.goS r S p fun w s1 al1 G1 H1 wv x1 r1 S1 rw1 p1 => ?_
  refine TEv.goS r1 S1 p1 fun o s2 al2 G2 H2 ov x2 r2 S2 ro p2 => ?_
  unfold attTo at p2
  cases o with
  | t t => exact p2.elim
  | c k =>
    simp only at p2
    obtain ⟨adr, hk, rfl⟩ := ro
    cases he : emb s2 w with
    | none => simp only [he] at p2; exact p2.elim
    | some z =>
      obtain ⟨t, s3⟩ := z
      simp only [he] at p2
      obtain ⟨G3, sb3, r3, q3⟩ := r2.emb (rw1.mono x2) he
      cases hc : s3[k]? with
      | none => simp only [hc] at p2; exact p2.elim
      | some cc =>
        cases cc with
        | ins ci fs =>
          simp only [hc] at p2
          split at p2
          · rename_i hz
            simp only [Bool.and_eq_true, decide_eq_true_eq] at hz
            obtain ⟨gn, dx, gs, hh, rr⟩ := r3.cell _ _ _ hk hc
            obtain ⟨f1, f2⟩ := F.ok.pf.fld ci f hz.1
            refine ⟨adr, _, dx, gs, rfl, hh, f1, f2, by rw [rr.length]; exact hz.2, ?_⟩
            exact p2 al2 G3 _ st (Xt.ofSb sb3) (r3.setI hk hc (put_rep q3 rr)) (S2.mono (Xt.ofSb sb3))
          · exact p2.elim
        | _ => simp only [hc] at p2; exact p2.elim
/-! ### own errors -/
theorem passN {X : Cx} : Passes (L2.CX X.prog X.w) X (fun _ _ _ => False) := fun _ _ _ _ _ _ _ h => by
  obtain ⟨_, _, _, _, _, _, _, _, _, _, _, _, z⟩ := h
  exact z.elim
theorem t_raise {e : Nat} {f n : Str} {q1 : Pos} (hx : C.D.exf e = some (some f)) (hn : C.M.cnm e = some n) (hg : glB sc n = true) (hs : notStar a = true) (ha : Ke C N sc a x) :
    Ks C N sc (.Raise (some (.Call (.Name n q1) [a] [] pos)) none p) (.raise e (.cons x .nil)) := fun X W c F => by
  obtain ⟨fI, fd, ps, oc, iC, tI, fo, bi⟩ := F.xf.ini e f hx
  obtain ⟨g, dd, _⟩ := gl_of c.c hg
  have hr : Room (C.k + 1) X.A := F.ok.pf.room.mono (by omega)
  have z := pmk_oex (ds := []) (dvs := []) (pos := pos) (p := q1) oc iC tI fo hr bi .nil passN g (F.ok.pf.gcc e n hn) (s_cons (ha X W c.c F.ok) s_nil hs) dd (star_cons hs) (plain_back rfl)
  refine ps_weak (ps_raise c.c.calm c.c.tk z) fun D st H q => ?_
  obtain ⟨al, G, loc, s, r, S, p⟩ := q
  simp only [evS] at p
  refine TAv.goS r S p fun ys s1 al1 G1 H1 vs x1 r1 S1 rvs p1 => ?_
  unfold raiseOf at p1
  rw [hx] at p1
  split at p1
  · rename_i f' y e1
    cases e1
    obtain ⟨v, rr, e1, q1, q2⟩ := rvs
    have e2 : rr = [] := q2
    subst e2; subst e1
    cases he : emb s1 y with
    | none => rw [he] at p1; exact p1.elim
    | some z =>
      obtain ⟨t, s2⟩ := z
      simp only [he] at p1
      obtain ⟨G2, sb2, r2, q3⟩ := r1.emb q1 he
      refine ⟨by show 1 ≤ 1000; decide, fun ad had => ⟨ad, v, rfl, upd_same, fun dx hdx hne => ⟨rfl, dx, [(f, v)], upd_same, ?_, ?_, ?_⟩⟩⟩
      · rw [upd_ne hne, upd_same]
      · rw [upd_ne hne] at hdx; exact hdx
      · have hd1 : H1 dx = none := by rw [upd_ne hne] at hdx; exact hdx
        have eq : upd (del (upd (upd (upd H1 ad (exo ad (C.cA e) none)) dx (exd dx [(f, v)])) ad (exo ad (C.cA e) (some dx))) ad) dx (.xd [(f, v)]) = upd H1 dx (.xd [(f, v)]) := by
          funext b
          by_cases h1 : b = dx
          · subst h1; rw [upd_same, upd_same]
          · rw [upd_ne h1, upd_ne h1]
            by_cases h2 : b = ad
            · subst h2; rw [del_same]; exact had.symm
            · rw [del_ne h2, upd_ne h2, upd_ne h1, upd_ne h2]
        rw [eq]
        have r3 : Rl C.cA al1 G2 s2 (upd H1 dx (.xd [(f, v)])) := r2.newX hd1
        refine p1 al1 G2 _ st _ _ (Xt.ofSb sb2) r3 (S1.mono (Xt.ofSb sb2)) ⟨rfl, dx, [(f, v)], rfl, upd_same, ?_⟩
        unfold RepF
        exact ⟨v, [], rfl, q3, by unfold RepF; rfl⟩
  · exact p1.elim
/-! ### handlers: the suite's own statements -/
structure Suc (X : Cx) (N : List Str) (sc : Scope) : Prop where
  hN : X.N = N
  nd : N.Nodup
  hs : X.env.scope = sc
  g : Tgk X N sc
def Kh (C : Cl) (N : List Str) (sc : Scope) (x : List Stmt) (e : S) : Prop := ∀ X, Suc X N sc → PSs X x (TSv C.cA W0 (evS C.D C.cf C.rp C.fw e))
/-- a constant -/
def cst : E → Bool
  | .int _ => true | .str _ => true | .bl _ => true | .non => true
  | _ => false
def Kk (C : Cl) (x : Expr) (e : E) : Prop := ∀ X W, PE X x (TEv C.cA W (ev C.D C.cf C.rp e))
theorem kk_bl {i : Bool} {k : _} : Kk C (.Constant (.bool i) k p) (.bl i) := fun X W => s_const pe_bl fun G => repB
theorem kk_int {i : Int} {k : _} : Kk C (.Constant (.int i) k p) (.int i) := fun X W => s_const pe_int fun G => repI
theorem kk_str {i : Str} {k : _} : Kk C (.Constant (.str i) k p) (.str i) := fun X W => s_const pe_str fun G => repS
theorem kk_non {k : _} : Kk C (.Constant .none k p) .non := fun X W => s_const pe_non fun G => repN
theorem h_one (h : ∀ X, Suc X N sc → PS X t (TSv C.cA W0 (evS C.D C.cf C.rp C.fw u))) : Kh C N sc [t] u := fun X c => pss_one (h X c)
theorem h_cons (h : ∀ X, Suc X N sc → PS X t (TSv C.cA W0 (evS C.D C.cf C.rp C.fw u))) (hs : Kh C N sc ts v) : Kh C N sc (t :: ts) (.seq u v) := fun X c => by
  refine pss_weak (pss_cons (h X c) (hs X c)) fun D st H q => ?_
  obtain ⟨al, G, loc, s, r, S, p⟩ := q
  refine ⟨al, G, loc, s, r, S, ?_⟩
  simp only [evS] at p
  cases hm : evS C.D C.cf C.rp C.fw u loc s with
  | nx l s1 => rw [hm] at p; exact fun al' G' H' st' x r' S' => ⟨al', G', l, s1, r', S', PoS.mono (x := evS C.D C.cf C.rp C.fw v l s1) p x⟩
  | bk l s1 => rw [hm] at p; exact p
  | ct l s1 => rw [hm] at p; exact p
  | rt y s1 => rw [hm] at p; exact p
  | ex e l s1 => rw [hm] at p; exact p
  | bad => rw [hm] at p; exact p
theorem h_ret {m : Bool} (h : Kk C a x) : ∀ X, Suc X N sc → PS X (.Return (some a) p) (TSv C.cA W0 (evS C.D C.cf C.rp C.fw (.ret m x))) := fun X c => by
  refine ps_weak (ps_ret (h X W0)) fun D st H q => ?_
  obtain ⟨al, G, loc, s, r, S, p⟩ := q
  exact TEv.goS r S p fun y s1 al1 G1 H1 v x1 r1 S1 rv p1 => ret_go r1 rv p1
theorem h_pass : ∀ X, Suc X N sc → PS X (.Pass p) (TSv C.cA W0 (evS C.D C.cf C.rp C.fw .skip)) := fun X c => ps_weak ps_pass fun D st H ⟨al, G, loc, s, r, S, p⟩ => p.hereN r S
theorem h_set {i : Nat} {n : Str} {q : Pos} (hs : ∀ env, swapsWith b (some (.Name n q)) p.line env = pure false) (h1 : N[i]? = some n) (h2 : locB sc n = true) (h : Kk C b x) : ∀ X, Suc X N sc → PS X (.Assign [.Name n q] b p) (TSv C.cA W0 (evS C.D C.cf C.rp C.fw (.asg (.gn i) x))) := fun X c => by
  have hl : L2.Loc X.env.scope n ∧ (X.fn n = true ∨ X.env.scope.names.lookup n = some .local) := by
    unfold locB at h2
    split at h2
    · rename_i z; exact ⟨.inl (c.g.lo n z), .inr (c.g.lo n z)⟩
    · rename_i z; exact ⟨.inr (c.g.ce n z).1, .inl (c.g.ce n z).2⟩
    · cases h2
  refine ps_weak (ps_set (i := i) (pos' := q) (by rw [c.hN]; exact c.nd) (by rw [c.hN]; exact h1) hl.1 (h X W0) (hs _) hl.2) fun D st H q => ?_
  obtain ⟨al, G, loc, s, r, S, p⟩ := q
  simp only [evS] at p
  refine TEv.goS r S p fun y s1 al1 G1 H1 v x1 r1 S1 rv p1 => ?_
  simp only [put] at p1
  split at p1
  · rename_i hi
    exact p1.hereN r1 (S1.set hi rv)
  · exact p1.elim
theorem t_try {e : Nat} {n : Str} {np hp : Pos} {h0 : Stmt} {hs : List Stmt} (hx : (C.D.exf e).isSome = true) (hn : C.M.cnm e = some n) (hg : glB sc n = true) (hb : Kb C N sc ts u) (hh : Kh C N sc (h0 :: hs) v) :
    Ks C N sc (.Try ts [.ExceptHandler (some (.Name n np)) none (h0 :: hs) hp] [] [] p) (.try1 u e v) := fun X W c F => by
  obtain ⟨g, dd, _⟩ := gl_of c.c hg
  refine ps_weak (ps_try_only (x := n) (c := .ref (C.cA e)) (Wout := W) (tb := fun W => TSv C.cA W (evS C.D C.cf C.rp C.fw u)) (ts := fun _ _ _ => TSv C.cA W0 (evS C.D C.cf C.rp C.fw v)) c.st c.fr ⟨g, dd, .inl (F.ok.pf.gcc e n hn)⟩ c.c.tk
    (fun W' pn xe tk po => hb _ _ ⟨⟨c.c.hN, c.c.nd, c.c.hs, c.c.calm, tk⟩, ⟨c.g.hN, c.g.nd, c.g.lo, c.g.ce⟩, c.st, c.fr, po⟩ ⟨⟨F.ok.pf, F.ok.rp⟩, F.xf⟩)
    (fun a oe cls d pn _ _ => hh _ ⟨c.c.hN, c.c.nd, c.c.hs, ⟨c.g.hN, c.g.nd, c.g.lo, c.g.ce⟩⟩)) fun D st H q => ?_
  obtain ⟨al, G, loc, s, r, S, p⟩ := q
  refine ⟨al, G, loc, s, r, S, ?_⟩
  simp only [evS] at p
  cases hm : evS C.D C.cf C.rp C.fw u loc s with
  | nx l s1 => rw [hm] at p; exact p
  | bk l s1 => rw [hm] at p; exact p
  | ct l s1 => rw [hm] at p; exact p
  | rt y s1 => rw [hm] at p; exact p
  | bad => rw [hm] at p; exact p
  | ex er l s1 =>
    simp only [hm] at p
    intro al1 G1 H1 st1 cl d x1 r1 S1 q1
    split at p
    · rename_i hz
      rw [Bool.and_eq_true] at hz
      have e1 := q1.1
      subst e1
      refine ⟨C.D.sub er.c e, F.xf.sub er.c e hz.1 hz.2, fun hb ad had => ?_, fun hb => ?_⟩
      · rw [if_pos hb] at p
        refine ⟨al1, G1, l, s1, r1, S1, ?_⟩
        have p' := PoS.mono p x1
        cases hk : evS C.D C.cf C.rp C.fw v l s1 with
        | nx l2 s2 => rw [hk] at p'; exact p'
        | bk l2 s2 => rw [hk] at p'; exact p'
        | ct l2 s2 => rw [hk] at p'; exact p'
        | rt y s2 => rw [hk] at p'; exact p'
        | ex e2 l2 s2 => rw [hk] at p'; exact p'.elim
        | bad => rw [hk] at p'; exact p'
      · rw [if_neg (by rw [hb]; exact Bool.false_ne_true)] at p
        exact p al1 G1 H1 st1 _ _ x1 r1 S1 q1
    · exact p.elim
end
end Tw
set_option maxHeartbeats 4000000
namespace Tw
open PySem PySem.Spec PyProof.Rows L2
/-! ## defs -/
/-- a def of the text as it stands behind the top, with defaults or without -/
structure FunD (K : PySem.W.Frag) (nm qual : Str) (st : Stmt) (f : Addr) (fd : FuncData) : Prop where
  ex : ∃ (oc : Value) (od : Option Addr) (dV kV doc pm : Value) (an : Option Addr) (cdv ct : Value) (osl : Array (Option Value)),
    fd = PySem.W.fnOf nm qual (defArgs st) (defBody st) (defScope st) dV kV doc pm an cdv ct ∧ K.lookup f = some ⟨oc, od, .func fd, osl⟩ ∧ PySem.W.codeIn K cdv qual = true
section
variable {P : Program} {w : World} {K : PySem.W.Frag} {mg : Str → Option Value} {base : Heap} {g : Bool}
theorem fnG_of {nm qual : Str} {st : Stmt} {f : Addr} {fd : FuncData} {N ps : List Str} {k : Nat} {sp : Sp} (F : FunD K nm qual st f fd) (S : FnScope N ps (defScope st)) (len : ∀ xs H Q E, sp xs H Q E → xs.length = ps.length)
    (hbody : ∀ (cdv : Value) (A : Around) (outer : List Env) (s : Shared) (H : Hp) (xs : List V) (Q : VK) (E : XK), Room k (A.deeper (envOfC qual (defScope st) s.heap.objs.size f cdv)) → (g = true → A.guards = some []) → sp xs H Q E →
      ∃ t, PSs (cxOf (L2.CX P w) P w K mg base N qual (defScope st) f cdv A outer s H E) (defBody st) t ∧ t { nx := fun _ H' => Q .non H', rt := Q } (start N xs) H) :
    FnG P w K mg base g (k + 1) f fd ps sp := by
  obtain ⟨oc, od, dV, kV, doc, pm, an, cdv, ct, osl, efd, lk, code⟩ := F.ex
  subst efd
  refine ⟨len, fun A outer s H args us xs Q E room hgd e0 bnd rel hsp => ?_⟩
  have here : K.In s.heap := e0.mod.kin.keeps fun b o e => (e0.bs b o e).1
  have limit : s.heap.NoLimit := e0.mod.nolimit.keeps fun b o e => (e0.bs b o e).1
  have sorts : ∀ y ∈ ps.zip us, (defScope st).names.lookup y.1 = some .local ∨ ((defScope st).names.lookup y.1 = some .cell ∧ ((cellsFrom (s.heap.objs.size + 1) (defScope st).names []).lookup y.1).isSome = true) := by
    rintro ⟨n, v⟩ hy
    rcases S.par n (List.of_mem_zip hy).1 with q | q
    · exact Or.inl q
    · exact Or.inr ⟨q, PySem.W.cellsFrom_some _ _ _ (Or.inl q)⟩
  refine codeAny_call_function room.depth (here _ _ lk) rfl S.co S.gen rfl (PySem.W.codeRec_of here code) (bnd _ _ _ _ ?_)
  refine wpAny_newFunctionEnv_cells S.kind sorts fun env eqv s1 frame => ?_
  subst eqv
  obtain ⟨t, ht, start0⟩ := hbody cdv A outer s H xs Q E (room.deeper _) hgd hsp
  refine ⟨limit.keeps frame.toInCall.keep, codeAny_func ?_⟩
  have I := inv_start (CX := L2.CX P w) (P := P) (w := w) (K := K) (mg := mg) (base := base) (E := E) (f := f) (cd := cdv) S room.hd e0 (len xs H Q E hsp) rel frame
  refine wpAny_mono (ht.run [] s1 (start N xs) H _ I start0) (fun fl s2 ends => ?_) fun _ _ z => z
  match fl, ends with
  | .ret u, ⟨v, _, H2, J, rv, q⟩ => exact ⟨v, H2, J.os, J.bare, J.base, J.hok, rv, q⟩
  | .next, ⟨_, H2, J, q⟩ => exact ⟨V.non, H2, J.os, J.bare, J.base, J.hok, rfl, q⟩
  | .brk, ⟨_, _, _, q⟩ => exact q.elim
  | .cont, ⟨_, _, _, q⟩ => exact q.elim
end
end Tw
set_option maxHeartbeats 4000000
namespace Tw
open PySem PySem.Spec PyProof.Rows L2
/-! ## the whole program -/
theorem Xfs.mono {P : Program} {w : World} {K : PySem.W.Frag} {mg : Str → Option Value} {base : Heap} {D : Defs} {M : Nms} {cA : CA} {j k : Nat} (x : Xfs P w K mg base D M cA j) (h : j ≤ k) : Xfs P w K mg base D M cA k :=
  ⟨x.sub, fun c f e => by
    obtain ⟨fI, fd, ps, h1, h2, h3, h4, h5⟩ := x.ini c f e
    exact ⟨fI, fd, ps, h1, h2, h3, h4.mono h, h5⟩⟩
/-- what the written part says -/
structure Tx (P : Program) (w : World) (K : PySem.W.Frag) (mg : Str → Option Value) (base : Heap) (D : Defs) (M : Nms) (cA : CA) (fA : Nat → Addr) (fdA : Nat → FuncData) (psA : Nat → List Str) (fw : Nat) : Prop where
  bn : ∀ x, x ∈ bnames → mg x = none
  gi : ∀ x i, M.gint x = some i → ∃ t, mg x = some (.int i t)
  gg : ∀ b, isMath b = true → M.gcd b = true → mg (bltNm b) = some (bltV b)
  fld : ∀ c f, D.fld c f = true → Cls K (cA c) ∧ NoAttr K (cA c) f
  ps : ∀ f d, D.fn f = some d → (psA f).length = d.np
  bd : ∀ f d, D.fn f = some d → Binds K (fdA f) (psA f) []
  bdd : ∀ f d n, D.fn f = some d → 0 < n → n ≤ (D.dfl f).length → ∃ ds vs, Binds K (fdA f) (psA f) ds ∧ Vals vs ds ∧ (∀ G, RepL cA G ((D.dfl f).drop ((D.dfl f).length - n)) vs)
  gf : ∀ f x, M.fnm f = some x → mg x = some (.ref (fA f)) ∧ PySem.W.keepIn K (.ref (fA f)) = true
  gc : ∀ c x f, M.cnm c = some x → D.ini c = some f → mg x = some (.ref (cA c)) ∧ Mk K (cA c) (fA f)
  gcc : ∀ c x, M.cnm c = some x → mg x = some (.ref (cA c))
  kit : ∀ c t, D.kit c t = true → PySem.W.kitOne K (tyT cA t) (crU cA c) = some (isiP D.sub c t)
  ity : ∀ c, D.cls c = true → InsTy K (cA c)
  mt : ∀ c m f, D.om c m = some f → Cls K (cA c) ∧ Meth K (cA c) m (fA f)
  ow : ∀ c, D.own c = true → OwnK K (cA c)
  oe : ∀ c, D.om c Str.empty = none
  pr : ∀ c m f, D.pr c m = some f → Cls K (cA c) ∧ PropAt K (cA c) m (fA f)
  kb : ∀ f d ks pm, D.fn f = some d → M.kws f ks pm = true → pm.length = d.np ∧ ∀ (s : Shared) (ws zs : List Value), K.In s.heap → ws.length = ks.length → pick pm ws = some zs → BindsTo s (fdA f) ⟨[], ks.zip ws⟩ ((psA f).zip zs)
  kl : ∀ a ns, cA.kl a ns → ∀ H, SqL K H a (ns.map V.int)
  xf : Xfs P w K mg base D M cA 3
  fn : ∀ f d, D.fn f = some d → ∃ nm qual st N, FunD K nm qual st (fA f) (fdA f) ∧ FnScope N (psA f) (defScope st) ∧ N.length = d.nl ∧ ∀ k cf rp, Kb ⟨D, M, cA, fA, fdA, psA, k, cf, rp, fw⟩ N (defScope st) (defBody st) d.body
section
variable {P : Program} {w : World} {K : PySem.W.Frag} {mg : Str → Option Value} {base : Heap} {D : Defs} {M : Nms} {cA : CA} {fA : Nat → Addr} {fdA : Nat → FuncData} {psA : Nat → List Str} {fw : Nat} {rp : CF → Store → T → Out Str}
theorem start_rep {N : List Str} {al : List Addr} {G : Hp} {args : List VV} {vs : List V} (r : RepVs cA al G args vs) : RepS cA al G (args.map some ++ List.replicate (N.length - args.length) none) (L2.start N vs) := by
  have hl := r.length
  refine ⟨by unfold L2.start; simp [hl], fun i y e => ?_⟩
  have hi : i < args.length := by
    by_cases h : i < args.length
    · exact h
    · rw [List.getElem?_append_right (by simpa using h), List.getElem?_replicate] at e
      split at e <;> cases e
  rw [List.getElem?_append_left (by simpa using hi), List.getElem?_map] at e
  have key : ∀ {as : List VV} {us : List V} {i : Nat} {y : VV}, RepVs cA al G as us → as[i]? = some y → ∃ u, us[i]? = some u ∧ RepV cA al G y u := by
    intro as
    induction as with
    | nil => intro us i y _ h; simp at h
    | cons a as ih =>
      intro us i y r h
      obtain ⟨u, rr, e, q1, q2⟩ := r
      subst e
      cases i with
      | zero =>
        simp only [List.getElem?_cons_zero, Option.some.injEq] at h
        subst h
        exact ⟨u, by simp, q1⟩
      | succ i =>
        simp only [List.getElem?_cons_succ] at h ⊢
        exact ih q2 h
  cases ha : args[i]? with
  | none => rw [ha] at e; cases e
  | some z =>
    rw [ha] at e
    cases e
    obtain ⟨u, hu, ru⟩ := key r ha
    refine ⟨u, ?_, ru⟩
    unfold L2.start
    rw [List.getElem?_append_left (by rw [List.length_map, hl]; exact hi), List.getElem?_map, hu]
    rfl
theorem fin_noex (n : Nat) (y : VV) (s s' : Store) (e : Exc) : fin n y s ≠ .ex e s' := by
  unfold fin
  cases y with
  | t x => intro h; cases h
  | c k =>
    simp only
    by_cases hk : k < n
    · rw [if_pos hk]; intro h; cases h
    · rw [if_neg hk]
      intro h
      split at h <;> cases h
theorem fn_all (B : Nat) (hB : 3 ≤ B) (T : Tx P w K mg base D M cA fA fdA psA fw) (hrp : ∀ (X : Cx) (k : Nat) (cf : CF), B ≤ k → At5 X P w K mg base → X.calm = true → PfX X D M cA fA fdA psA k cf → M.gd = true → CallR X (.builtin "repr") (rRp cA (rp cf))) :
    ∀ n f d, D.fn f = some d → FnG P w K mg base M.gd (2 * n + B) (fA f) (fdA f) (psA f) (spF cA (callN D rp fw n) f d.np) := by
  intro n
  induction n with
  | zero =>
    intro f d hd
    refine ⟨fun xs H Q E q => ?_, fun A outer s H args us xs Q E _ _ _ _ _ q => ?_⟩
    · obtain ⟨_, _, _, _, _, _, _, p⟩ := q; exact p.elim
    · obtain ⟨_, _, _, _, _, _, _, p⟩ := q; exact p.elim
  | succ n ih =>
    intro f d hd
    obtain ⟨nm, qual, st, N, F, S, hN, hb⟩ := T.fn f d hd
    have e : 2 * (n + 1) + B = (2 * n + B + 1) + 1 := by omega
    rw [e]
    refine fnG_of F S (fun xs H Q E q => ?_) fun cdv A outer s H xs Q E room hgd q => ?_
    · obtain ⟨_, _, _, _, _, _, h, _⟩ := q
      rw [h, T.ps f d hd]
    · obtain ⟨al, G, args, s0, r, rv, hl, p⟩ := q
      refine ⟨_, hb (2 * n + B) (callN D rp fw n) (rp (callN D rp fw n)) _ (fun cls d _ H => E cls d H) ⟨⟨rfl, S.nd, rfl, rfl, takes_of rfl rfl rfl rfl⟩, ⟨rfl, S.nd, fun x h => h, fun x h => ⟨h, ?_⟩⟩, rfl, rfl, passes_of rfl⟩
        ⟨⟨⟨room, T.bn, T.gi, T.gg, T.fld, ih, T.ps, T.bd, T.bdd, T.gf, T.gc, T.gcc, T.kit, T.ity, T.mt, hgd, T.ow, T.oe, T.pr, T.kb, T.kl⟩, fun z X' a5 c' F' => hrp X' _ _ (Nat.le_add_left _ _) a5 c' F' z⟩, T.xf.mono (show 3 ≤ 2 * n + B by omega)⟩, ?_⟩
      · rfl
      · have ha : args.length = d.np := by rw [← hl]; exact rv.length.symm
        refine ⟨al, G, args.map some ++ List.replicate (d.nl - d.np) none, s0, r, ?_, ?_⟩
        · have z := start_rep (cA := cA) (N := N) rv
          rw [hN, ha] at z
          exact z
        · unfold callN at p
          rw [hd] at p
          simp only [ha, if_true] at p
          have hs : s0.length = al.length := r.len.symm
          cases hm : evS D (callN D rp fw n) (rp (callN D rp fw n)) fw d.body (args.map some ++ List.replicate (d.nl - d.np) none) s0 with
          | nx l s1 =>
            simp only [hm] at p
            intro al' G' H' st' x r' S'
            obtain ⟨⟨l2, el⟩, sb⟩ := x
            subst el
            cases hf : fin s0.length (.t .non) s1 with
            | bad => simp [fin] at hf
            | ex e2 s2 => simp [fin] at hf
            | ok y' s2 =>
              rw [hf] at p
              obtain ⟨al2, x2, r2, q2⟩ := fin_ok (v := .non) hs r' hf (show Rep cA G' .non .non from repN)
              exact p al2 G' H' .non ((Xt.ofSb sb).trans x2) r2 q2
          | rt y s1 =>
            simp only [hm] at p
            intro al' G' H' v x r' rv'
            obtain ⟨⟨l2, el⟩, sb⟩ := x
            subst el
            cases hf : fin s0.length y s1 with
            | bad => rw [hf] at p; exact p.elim
            | ex e2 s2 => exact absurd hf (fin_noex _ _ _ _ _)
            | ok y' s2 =>
              rw [hf] at p
              obtain ⟨al2, x2, r2, q2⟩ := fin_ok hs r' hf rv'
              exact p al2 G' H' v ((Xt.ofSb sb).trans x2) r2 q2
          | ex e2 l s1 =>
            simp only [hm] at p
            intro al' G' H' st' cl dd x r' S' q'
            obtain ⟨⟨l2, el⟩, sb⟩ := x
            subst el
            rw [hs] at p
            exact p al G' H' cl dd (Xt.ofSb sb) r'.front q'
          | bk l s1 => simp only [hm] at p; exact p.elim
          | ct l s1 => simp only [hm] at p; exact p.elim
          | bad => simp only [hm] at p; exact p.elim
end
end Tw
set_option maxHeartbeats 4000000
namespace Tw
open PySem PySem.Spec PyProof.Rows L2
/-! ## the head, for a promise that knows that no repr is under way -/
/-- how a law's end is told -/
def Done (s₁ : Shared) (r : Result) (s' : Shared) : Prop := r = .ok (.ret (.bool true)) ∧ OldK s₁.heap s'.heap ∧ s'.os = s₁.os ∧ AllBare s'.gens
section
variable {P : Program} {w : World} {K : PySem.W.Frag} {mg mb : Str → Option Value} {k : Nat} {fa a : Addr} {fd : FuncData} {x : Str} {sp : Sp} {s₁ : Shared} {vs : List Value} {ns : List Int}
/-- the whole call over one abstract heap that tracks at most the script -/
theorem law_core (KX : K.In s₁.heap) (hns : s₁.heap.Ns mainGlobals mg) (hb : s₁.heap.Ns builtinsNs mb) (hbb : ∀ x : Str, x ≠ "__name__" → mb x = bootBuiltins x) (hlim : s₁.heap.NoLimit) (hg : s₁.gens = #[])
    (ha : s₁.heap.get? a = some { cls := .type "list", data := .seq vs.toArray }) (hr : Room k callerA)
    (F : ∀ base : Heap, K.In base → base.Ns mainGlobals mg → FnG P w K mg base true k fa fd [x] sp) (hbind : ∀ (s : Shared) (u : Value), BindsTo s fd ⟨[u], []⟩ [(x, u)])
    (hsp : ∀ H : Hp, Only H → SqL K H a (ns.map V.int) → sp [.ref a] H (fun v _ => v = .bl true) fun _ _ _ => False)
    (H : Hp) (only : Only H) (seq : SqL K H a (ns.map V.int)) (hok : HOk P w H s₁.heap) (alone : ∀ b, H b ≠ none → b = a) (apart : H a ≠ none → K.lookup a = none) :
    codeAny (model P w) callerA (.call (.ref fa) ⟨[.ref a], []⟩) (Done s₁) s₁ := by
  have hid : ∀ {b : Addr} {o : Obj}, s₁.heap.get? b = some o → H b = none → (hidT s₁.heap H).get? b = some o := fun e n => hidT_get e n
  have notDict : ∀ {b : Addr} {o : Obj} {es : Array DictEntry} {ep : Nat}, s₁.heap.get? b = some o → o.data = .dict es ep → H b = none := by
    intro b o es ep e d
    by_cases q : H b = none
    · exact q
    · have same := alone b q
      subst same
      rw [ha] at e
      cases e
      exact nomatch (show Data.seq vs.toArray _ = Data.dict es ep from d)
  have keepNs : ∀ {b : Addr} {m : Str → Option Value}, s₁.heap.Ns b m → (hidT s₁.heap H).Ns b m := by
    rintro b m ⟨o, es, ep, e, d, r⟩
    exact ⟨o, es, ep, hid e (notDict e d), d, r⟩
  have inK : K.In (hidT s₁.heap H) := by
    intro b o e
    refine hid (KX b o e) ?_
    by_cases q : H b = none
    · exact q
    · have same := alone b q
      subst same
      rw [apart q] at e
      cases e
  have noLim : (hidT s₁.heap H).NoLimit := by
    obtain ⟨mc, h1, h2⟩ := hlim
    exact ⟨mc, keepNs h1, h2⟩
  have env : Env0 P w K mg (hidT s₁.heap H) callerA [] s₁ H :=
    ⟨rfl, ⟨inK, keepNs hns, ⟨mb, keepNs hb, hbb⟩, noLim⟩, fun b o e => of_hidT e, Nat.le_of_eq (hidT_size _ _), trivial, (fun b hb => absurd (show b ∈ ([] : List Addr) from hb) (by simp)), hok, .of_eq hg⟩
  have go := (F _ inK (keepNs hns)).run callerA [] s₁ H ⟨[.ref a], []⟩ [.ref a] [.ref a] _ _ hr (fun _ => rfl) env (hbind s₁ (.ref a)) (.cons rfl .nil) (hsp H only seq)
  refine codeAny_mono go fun r s' h => ?_
  match r, h with
  | .error e, h =>
    obtain ⟨_, _, _, _, _, _, _, _, _, _, _, _, z⟩ := h
    exact z.elim
  | .ok .next, h => exact h.elim
  | .ok .brk, h => exact h.elim
  | .ok .cont, h => exact h.elim
  | .ok (.ret u), ⟨v, H', os, bare, un, hok', rel, q⟩ =>
    have q : v = .bl true := q
    subst q
    have eu : u = Value.bool true := rel
    subst eu
    refine ⟨rfl, OldK.of_keep fun b o e => ?_, os, bare⟩
    rcases only b with z | ⟨ob, xs, z⟩
    · exact un.keep b o e z (fun z => nomatch z) (by simp)
    · have before := (hok b _ z).1
      have after := (hok' b _ (un.frzs b ob _ z)).1
      rw [e] at before
      cases before
      exact after
theorem law_callG (KX : K.In s₁.heap) (hns : s₁.heap.Ns mainGlobals mg) (hb : s₁.heap.Ns builtinsNs mb) (hbb : ∀ x : Str, x ≠ "__name__" → mb x = bootBuiltins x) (hlim : s₁.heap.NoLimit) (hg : s₁.gens = #[])
    (ha : s₁.heap.get? a = some { cls := .type "list", data := .seq vs.toArray }) (hi : IntsAre vs ns) (hl : ns.length ≤ sizeLine) (hr : Room k callerA)
    (F : ∀ base : Heap, K.In base → base.Ns mainGlobals mg → FnG P w K mg base true k fa fd [x] sp) (hbind : ∀ (s : Shared) (u : Value), BindsTo s fd ⟨[u], []⟩ [(x, u)])
    (hsp : ∀ H : Hp, Only H → SqL K H a (ns.map V.int) → sp [.ref a] H (fun v _ => v = .bl true) fun _ _ _ => False) :
    codeAny (model P w) callerA (.call (.ref fa) ⟨[.ref a], []⟩) (Done s₁) s₁ := by
  have rel := vals_ints hi
  have len := hi.length
  by_cases own : ∃ o, K.lookup a = some o
  · obtain ⟨o, hk⟩ := own
    have e := KX a o hk
    rw [ha] at e
    cases e
    have seq : SqL K (fun _ => none) a (ns.map V.int) := .inr ⟨_, vs.toArray, _, hk, rfl, rfl, rfl, by rw [List.size_toArray, len]; exact hl, by simpa using rel⟩
    exact law_core (ns := ns) KX hns hb hbb hlim hg ha hr F hbind hsp (fun _ => none) (fun _ => .inl rfl) seq (fun b u z => nomatch (show (none : Option HO) = some u from z)) (fun b z => absurd rfl z) fun z => absurd rfl z
  · have free : K.lookup a = none := by
      cases e : K.lookup a with
      | none => rfl
      | some o => exact absurd ⟨o, e⟩ own
    let one : HO := .frz { cls := .type "list", data := .seq vs.toArray } (.lst (ns.map V.int))
    have at_a : (fun b => if b = a then some one else none) a = some one := if_pos rfl
    have off : ∀ {b : Addr}, b ≠ a → (fun b => if b = a then some one else none) b = none := fun h => if_neg h
    refine law_core (ns := ns) KX hns hb hbb hlim hg ha hr F hbind hsp (fun b => if b = a then some one else none) (fun b => ?_) (.inl (.inr ⟨_, at_a⟩)) (fun b u z => ?_) (fun b z => ?_) fun _ => free
    · by_cases h : b = a
      · subst h; exact .inr ⟨_, _, at_a⟩
      · exact .inl (off h)
    · by_cases h : b = a
      · subst h
        have z := at_a.symm.trans z
        cases z
        exact ⟨ha, by rw [List.length_map]; exact hl, vs, _, rel, ha⟩
      · exact nomatch (off h).symm.trans z
    · by_cases h : b = a
      · exact h
      · exact absurd (off h) z
end
/-- the goal that k_head leaves (case hc) -/
theorem walkG {l : PySem.W.OpenLaw} {n k : Nat} {q : Program} {loose : List Str} {XP : (Str → Option Value) → Heap → Prop} {YP : World → Heap → Prop} {d : DefRec} {K : Params → PySem.W.Frag} {sp : PySem.W.Frag → (Str → Option Value) → Sp} {x : Str}
    (hn : l.most = some n) (hn2 : n ≤ sizeLine) (hdf : d.params.defaults = []) (hr : Room k callerA) (hY : ∀ (w : World) (h : Heap), YP w h → (K w.params).In h)
    (F : ∀ (w : World) (mg : Str → Option Value) (fa : Addr) (h : Heap), (K w.params).In h → h.Ns mainGlobals mg → mg d.name = some (.ref fa) →
      ∃ (fd : FuncData) (sp : Sp), (∀ (s : Shared) (u : Value), BindsTo s fd ⟨[u], []⟩ [(x, u)]) ∧ (∀ base : Heap, (K w.params).In base → base.Ns mainGlobals mg → FnG l.prog w (K w.params) mg base true k fa fd [x] sp) ∧
        ∀ (H : Hp) (a : Addr) (ns : List Int), ns.length ≤ n → Only H → SqL (K w.params) H a (ns.map V.int) → sp [.ref a] H (fun v _ => v = .bl true) fun _ _ _ => False) :
    PySem.W.WalkO q loose XP YP l.row.toRowW d [] (fun f vs => PySem.call f vs) := by
  refine Att.attach_call hn hdf fun w s₀ s₁ mg mb fa o pm cd doc a vs ns G Y ho hd hcd hmg hobj hints hlen hg => ?_
  obtain ⟨fd, sp, hb, hF, hsp⟩ := F w mg fa _ (hY w _ Y) G.T.g hmg
  exact law_callG (hY w _ Y) G.T.g G.T.b G.T.builtins G.T.nolimit hg hobj hints (Nat.le_trans hlen hn2) hr hF hb fun H hO hS => hsp H a ns hlen hO hS
theorem sp_law {K : PySem.W.Frag} {cA : CA} {cf : CF} {f : Nat} {n : Nat} (hk : ∀ a ns, (∀ H, SqL K H a (ns.map V.int)) → cA.kl a ns) (h : ∀ ns : List Int, ns.length ≤ n → ∃ s, cf f [.t (.scr ns)] [] = .ok (.t (.bl true)) s)
    (H : Hp) (a : Addr) (ns : List Int) (hl : ns.length ≤ n) (only : Only H) (seq : SqL K H a (ns.map V.int)) : spF cA cf f 1 [.ref a] H (fun v _ => v = .bl true) fun _ _ _ => False := by
  obtain ⟨s, e⟩ := h ns hl
  refine ⟨[], H, [.t (.scr ns)], [], ⟨Sb.rfl', rfl, .nil, fun k b c hb => by simp at hb⟩, ⟨.ref a, [], rfl, ?_, rfl⟩, rfl, ?_⟩
  · show Rep cA H (.scr ns) (.ref a)
    unfold Rep
    refine ⟨a, rfl, ?_⟩
    rcases seq with (z | z) | ⟨o, its, m, z⟩
    · rcases only a with y | ⟨o, xs, y⟩
      · rw [z] at y; cases y
      · rw [z] at y; cases y
    · exact .inl z
    · exact .inr (hk a ns fun H' => .inr ⟨o, its, m, z⟩)
  · rw [e]
    intro al' G' H' v x r q
    exact (show Rep cA G' (.bl true) v from q)
end Tw
set_option maxHeartbeats 4000000
namespace Tw
open PySem L2
/-! ## dict displays with constant keys -/
section
variable {cA : CA} {al l : List Addr} {G H : Hp} {s : Store}
theorem Rl.setD (r : Rl cA al G s H) {k : Nat} {a : Addr} {acc : List (Key × T)} (ha : al[k]? = some a) (hs : s[k]? = some (.dct acc)) {xs : List (Key × T)} {us : List (Key × V)} (q : RepD cA G xs us) :
    Rl cA al G (s.set k (.dct xs)) (upd H a (.dK us)) := by
  have ok := r.cell k a _ ha hs
  obtain ⟨gn, ws, hh, _⟩ := ok
  refine ⟨fun b u e => ?_, by simp [r.len], r.nd, fun j b c hb hc => ?_⟩
  · have hne : b ≠ a := fun z => by rw [z, gn] at e; cases e
    rw [upd_ne hne]; exact r.sub b u e
  · by_cases hj : j = k
    · subst hj
      rw [ha] at hb; cases hb
      rw [List.getElem?_set_self (List.getElem?_eq_some_iff.mp hs).1] at hc
      cases hc
      exact ⟨gn, us, upd_same, q⟩
    · rw [List.getElem?_set_ne (Ne.symm hj)] at hc
      have hba : b ≠ a := nodup_ne r.nd hb ha hj
      have ok' := r.cell j b c hb hc
      cases c with
      | lst z => obtain ⟨g, w, h1, h2⟩ := ok'; exact ⟨g, w, by rw [upd_ne hba]; exact h1, h2⟩
      | dct z => obtain ⟨g, w, h1, h2⟩ := ok'; exact ⟨g, w, by rw [upd_ne hba]; exact h1, h2⟩
      | ins cc z => obtain ⟨g, dx, w, h1, h2⟩ := ok'; exact ⟨g, dx, w, by rw [upd_ne hba]; exact h1, h2⟩
      | frz z => exact ok'
theorem RepD.zip : ∀ {ks : List Key} {xs : List T} {vs : List V}, RepL cA G xs vs → RepD cA G (ks.zip xs) (ks.zip vs)
  | [], _, _, _ => by unfold RepD; rfl
  | k :: ks, [], vs, r => by unfold RepL at r; subst r; unfold RepD; rfl
  | k :: ks, x :: xs, vs, r => by
    unfold RepL at r
    obtain ⟨v, rr, e, q1, q2⟩ := r
    subst e
    show RepD cA G ((k, x) :: ks.zip xs) ((k, v) :: ks.zip rr)
    unfold RepD
    exact ⟨v, _, rfl, q1, RepD.zip q2⟩
theorem merge_nodup : ∀ {more acc : List (Key × V)}, ((acc ++ more).map (·.1)).Nodup → mergeK acc more = acc ++ more
  | [], acc, _ => by simp [mergeK]
  | p :: r, acc, h => by
    have hp : putK acc p.1 p.2 = acc ++ [p] := by
      unfold putK
      rw [if_neg]
      intro z
      rw [List.any_eq_true] at z
      obtain ⟨y, hy, e⟩ := z
      have e := of_decide_eq_true e
      rw [List.map_append, List.map_cons, List.nodup_append] at h
      exact h.2.2 y.1 (List.mem_map_of_mem hy) p.1 List.mem_cons_self e
    show mergeK (putK acc p.1 p.2) r = _
    rw [hp, merge_nodup (by rw [List.append_assoc]; exact h), List.append_assoc]
    rfl
end
section
variable {C : Cl} {N : List Str} {sc : Scope} {a b : Expr} {x y : E} {pos p : Pos}
def Kd (C : Cl) (N : List Str) (sc : Scope) (keys : List (Option Expr)) (values : List Expr) (ks : List Key) (vs : E) : Prop := ∀ X W, Cok X N sc W → C.Ok X → ∃ trs, (∀ pos, PPs X pos keys values trs) ∧
  ∀ st H (Q : List (V × V) → Hp → Prop), (∃ al G loc s, Rl C.cA al G s H ∧ RepS C.cA al G loc st ∧ Po C.cA W al G st (fun ys _ al' G' H' => ∀ us, RepVs C.cA al' G' ys us → Q ((ks.map L2.kV).zip us) H') (evs C.D C.cf C.rp vs loc s)) → tPairs trs st H Q
theorem kd_nil : Kd C N sc [] [] [] .nil := fun X W c F => ⟨[], fun _ => pps_nil, fun st H Q q => by
  obtain ⟨al, G, loc, s, r, S, pp⟩ := q
  exact pp.here r [] rfl⟩
theorem kd_cons {k : Key} {ke ve : Expr} {keys : List (Option Expr)} {values : List Expr} {ks : List Key} (hk : ∀ X : Cx, PE X ke (tC (L2.kV k))) (hv : Ke C N sc ve x) (hr : Kd C N sc keys values ks y) : Kd C N sc (some ke :: keys) (ve :: values) (k :: ks) (.cons x y) := fun X W c F => by
  obtain ⟨trs, h1, h2⟩ := hr X W c F
  refine ⟨_, fun pos => pps_cons (hk X) (hv X W c F) (h1 pos), fun st H Q q => ?_⟩
  obtain ⟨al, G, loc, s, r, S, pp⟩ := q
  simp only [evs] at pp
  show TEv C.cA W _ st H _
  refine TEv.go r S pp fun yv s1 al1 G1 H1 v x1 r1 S1 rv p1 => ?_
  refine h2 st H1 _ ⟨al1, G1, loc, s1, r1, S1, p1.bind.imp fun ys s2 al2 G2 H2 x2 r2 p2 us rus => ?_⟩
  exact p2.here r2 (v :: us) ⟨v, us, rfl, rv.mono x2, rus⟩
theorem kk_intk {i : Int} {k : _} (X : Cx) : PE X (.Constant (.int i) k p) (tC (L2.kV (.inl i))) := pe_int
theorem kk_strk {i : Str} {k : _} (X : Cx) : PE X (.Constant (.str i) k p) (tC (L2.kV (.inr i))) := pe_str
theorem k_dct0 : Ke C N sc (.Dict [] [] p) (.dct [] .nil) := fun X W c F => by
  refine pe_weak pe_dnewK fun st H Q q => ?_
  obtain ⟨al, G, loc, s, r, S, pp⟩ := q
  intro q hq
  have r2 := r.newT (o := .dK []) hq
  have hl : (s ++ [Cell.dct []])[s.length]? = some (.dct []) := by simp
  have e : ev C.D C.cf C.rp (.dct [] .nil) loc s = .ok (.t (.dct [])) s := by
    simp only [ev, evs, Out.bind, embLM, embL, hl]
    simp
  rw [e] at pp
  exact pp al _ _ (Xt.ofSb (Sb.new (r.gnone hq))) r2 (.ref q) (by
    show Rep C.cA _ (.dct []) (.ref q)
    unfold Rep
    exact ⟨q, [], rfl, upd_same, by unfold RepD; rfl⟩)
theorem k_dct {keys : List (Option Expr)} {values : List Expr} {ks : List Key} (hall : keys.all (·.isSome) = true) (hl : keys.length = values.length) (h0 : keys ≠ []) (h15 : keys.length ≤ 15) (h : Kd C N sc keys values ks x) : Ke C N sc (.Dict keys values p) (.dct ks x) := fun X W c F => by
  obtain ⟨trs, h1, h2⟩ := h X W c F
  refine pe_weak (pe_disp (h1 p) hall hl h0 h15) fun st H Q q => ?_
  obtain ⟨al, G, loc, s, r, S, pp⟩ := q
  intro q hq
  have hs : s.length = al.length := r.len.symm
  have r2 : Rl C.cA (al ++ [q]) G (s ++ [.dct []]) (upd H q (.dK [])) := r.newC hq ⟨r.gnone hq, [], upd_same, by unfold RepD; rfl⟩
  have x2 : Xt al G (al ++ [q]) G := ⟨⟨[q], rfl⟩, Sb.rfl'⟩
  simp only [ev] at pp
  refine h2 st _ _ ⟨al ++ [q], G, loc, _, r2, S.mono x2, ?_⟩
  cases hm : evs C.D C.cf C.rp x loc (s ++ [.dct []]) with
  | bad => rw [hm] at pp; exact pp.elim
  | ex e s1 => rw [hm] at pp; exact fun al' G' H' cl d x' r' q' => pp al' G' H' cl d (x2.trans x') r' q'
  | ok ys s1 =>
    rw [hm] at pp
    intro al1 G1 H1 x3 r3 us rus
    simp only [Out.bind, embLM] at pp
    cases he : embL s1 ys with
    | none => simp only [he] at pp; exact pp.elim
    | some z =>
      obtain ⟨xs, s2⟩ := z
      simp only [he] at pp
      obtain ⟨G2, sb2, r4, rl4⟩ := r3.embL rus he
      obtain ⟨⟨l, el⟩, sb3⟩ := x3
      subst el
      have hq4 : ((al ++ [q]) ++ l)[s.length]? = some q := by rw [hs]; simp
      split at pp
      · rename_i hc
        obtain ⟨gn, kvs, hh, rd⟩ := r4.cell _ _ _ hq4 hc
        unfold RepD at rd
        subst rd
        split at pp
        · rename_i hz
          obtain ⟨z1, z2, z3⟩ := hz
          have hus : us.length = ks.length := by rw [rl4.length]; exact z1.symm
          refine ⟨hh, ks.zip us, ?_, ?_, ?_⟩
          · rw [List.zip_map_left]; rfl
          · rw [List.length_zip]; omega
          · have hm2 : mergeK [] (ks.zip us) = ks.zip us := by
              refine merge_nodup ?_
              rw [List.nil_append, List.map_fst_zip (by omega)]
              exact z3
            rw [hm2]
            have r5 := r4.setD hq4 hc (RepD.zip (ks := ks) rl4)
            have hc5 : (s2.set s.length (.dct (ks.zip xs)))[s.length]? = some (.dct (ks.zip xs)) := List.getElem?_set_self (List.getElem?_eq_some_iff.mp hc).1
            obtain ⟨G5, sb5, r6, q6⟩ := r5.freeze hq4 hc5
            rw [List.append_assoc] at r6
            have r7 := r6.front
            rw [List.take_set_of_le (by omega), List.take_set_of_le (by omega), ← hs] at r7
            exact pp al G5 _ (Xt.ofSb ((sb3.trans sb2).trans sb5)) r7 (.ref q) q6
        · exact pp.elim
      · exact pp.elim
end
end Tw
set_option maxHeartbeats 4000000
namespace Tw
open PySem L2
/-! ## calls by keywords alone -/
theorem RepVs.at {cA : CA} {al : List Addr} {G : Hp} : ∀ {ys : List VV} {vs : List V} {i : Nat} {y : VV}, RepVs cA al G ys vs → ys[i]? = some y → ∃ v, vs[i]? = some v ∧ RepV cA al G y v
  | [], _, _, _, _, h => by simp at h
  | a :: as, _, 0, y, ⟨u, rr, e, q1, q2⟩, h => by
    subst e
    simp only [List.getElem?_cons_zero, Option.some.injEq] at h
    subst h
    exact ⟨u, by simp, q1⟩
  | a :: as, _, i + 1, y, ⟨u, rr, e, q1, q2⟩, h => by
    subst e
    simp only [List.getElem?_cons_succ] at h ⊢
    exact RepVs.at q2 h
theorem pick_len {α : Type} : ∀ {pm : List Nat} {l r : List α}, pick pm l = some r → r.length = pm.length
  | [], l, r, h => by cases h; rfl
  | i :: pm, l, r, h => by
    unfold pick at h
    split at h
    · rename_i x xs h1 h2
      cases h
      simp [pick_len h2]
    · cases h
theorem pick_rep {cA : CA} {al : List Addr} {G : Hp} {ys : List VV} {vs : List V} (r : RepVs cA al G ys vs) : ∀ {pm : List Nat} {zs : List VV}, pick pm ys = some zs → ∃ us, pick pm vs = some us ∧ RepVs cA al G zs us
  | [], zs, h => by cases h; exact ⟨[], rfl, rfl⟩
  | i :: pm, zs, h => by
    unfold pick at h
    split at h
    · rename_i x xs h1 h2
      cases h
      obtain ⟨u, e1, q1⟩ := r.at h1
      obtain ⟨us, e2, q2⟩ := pick_rep r h2
      refine ⟨u :: us, by unfold pick; rw [e1, e2], u, us, rfl, q1, q2⟩
    · cases h
theorem vals_at : ∀ {vs : List V} {ws : List Value} {i : Nat} {v : V}, Vals vs ws → vs[i]? = some v → ∃ w, ws[i]? = some w ∧ RelV v w := fun r h => r.get h
theorem pick_vals {vs : List V} {ws : List Value} (r : Vals vs ws) : ∀ {pm : List Nat} {zs : List V}, pick pm vs = some zs → ∃ us, pick pm ws = some us ∧ Vals zs us
  | [], zs, h => by cases h; exact ⟨[], rfl, .nil⟩
  | i :: pm, zs, h => by
    unfold pick at h
    split at h
    · rename_i x xs h1 h2
      cases h
      obtain ⟨u, e1, q1⟩ := r.get h1
      obtain ⟨us, e2, q2⟩ := pick_vals r h2
      exact ⟨u :: us, by unfold pick; rw [e1, e2], .cons q1 q2⟩
    · cases h
section
variable {C : Cl} {N : List Str} {sc : Scope} {a b : Expr} {x y : E} {pos p : Pos}
def Kkw (C : Cl) (N : List Str) (sc : Scope) (kws : List Keyword) (ks : List Str) (e : E) : Prop :=
  (∀ (env : Env) (pos : Pos), (backToKw pos (keywordEach kws env)).all (·.1.isSome) = true ∧ (backToKw pos (keywordEach kws env)).filterMap (·.1) = ks ∧ (backToKw pos (keywordEach kws env)).any (·.1.isNone) = false) ∧
  ∀ X W, Cok X N sc W → C.Ok X → PK X kws (TAv C.cA W (evs C.D C.cf C.rp e))
theorem pk_weak {X : Cx} {e : List Keyword} {t t' : TA} (h : PK X e t) (w : ∀ st H Q, t' st H Q → t st H Q) : PK X e t' :=
  ⟨fun pos pins s st H Q I q => h.run pos pins s st H Q I (w st H Q q)⟩
theorem kkw_nil : Kkw C N sc [] [] .nil := ⟨fun env pos => ⟨rfl, rfl, rfl⟩, fun X W c F => pk_weak pk_nil fun st H Q q => by
  obtain ⟨al, G, loc, s, r, S, p⟩ := q
  exact p.here r [] rfl⟩
theorem kkw_cons {n : Str} {kws : List Keyword} {ks : List Str} (ha : Ke C N sc a x) (hs : Kkw C N sc kws ks y) : Kkw C N sc (⟨some n, a, p⟩ :: kws) (n :: ks) (.cons x y) := by
  refine ⟨fun env pos => ?_, fun X W c F => pk_weak (pk_cons (ha X W c F) (hs.2 X W c F)) fun st H Q q => ?_⟩
  · obtain ⟨h1, h2, h3⟩ := hs.1 env pos
    have e : backToKw pos (keywordEach (⟨some n, a, p⟩ :: kws) env) = (some n, do let v ← eval a env; standAt pos; pure v) :: backToKw pos (keywordEach kws env) := rfl
    rw [e]
    refine ⟨?_, ?_, ?_⟩
    · rw [List.all_cons, h1]; rfl
    · rw [List.filterMap_cons]; simp only [h2]
    · rw [List.any_cons, h3]; rfl
  · obtain ⟨al, G, loc, s, r, S, p⟩ := q
    simp only [evs] at p
    refine TEv.go r S p fun y s1 al1 G1 H1 v x1 r1 S1 rv p1 => ?_
    refine TAv.go r1 S1 p1 fun z s2 al2 G2 H2 u x2 r2 S2 ru p2 => ?_
    exact p2.here r2 (v :: u) ⟨v, u, rfl, rv.mono x2, ru⟩
theorem k_calk {f : Nat} {n : Str} {q : Pos} {kws : List Keyword} {ks : List Str} {pm : List Nat} (hf : C.M.fnm f = some n) (hg : glB sc n = true) (hd : (C.D.fn f).isSome = true) (hk : C.M.kws f ks pm = true) (hl : ks.length = alen x) (ha : Kkw C N sc kws ks x) :
    Ke C N sc (.Call (.Name n q) [] kws p) (.calk f x pm) := fun X W c F => by
  obtain ⟨g, dd, _⟩ := gl_of c hg
  obtain ⟨hm, hkp⟩ := F.pf.gf f n hf
  obtain ⟨d, hd⟩ := Option.isSome_iff_exists.mp hd
  obtain ⟨kl, kb⟩ := F.pf.kb f d ks pm hd hk
  obtain ⟨h1, h2, h3⟩ := ha.1 X.env p
  refine ⟨fun pins s st H Q I h => ?_⟩
  refine wpAny_Call_Name_kw (ld_glob I g hm ?_ dd)
  refine PySem.W.callWith_KW0 (first := []) (h₀ := X.base) I.ok.mod.kin hkp h1 ?_ (by rw [h3]; rfl)
  obtain ⟨al, G, loc, s', r, S, pp⟩ := h
  simp only [ev] at pp
  refine thn ((ha.2 X W c F).run p pins s st H (fun vs H1 => ∃ us, pick pm vs = some us ∧ vs.length = ks.length ∧ spF C.cA C.cf f d.np us H1 Q (WE W st)) I ?_) fun ws s2 ⟨vs, H2, I2, rv, us, e1, e2, sp⟩ => ⟨I2.kIn, ?_⟩
  · refine TAv.goE r S pp fun ys s1 al1 G1 H1 vs hms x1 r1 S1 rv p1 => ?_
    cases hp : pick pm ys with
    | none => rw [hp] at p1; exact p1.elim
    | some zs =>
      rw [hp] at p1
      obtain ⟨us, e1, q1⟩ := pick_rep rv hp
      refine ⟨us, e1, by rw [rv.length, evs_len hms, hl], spF_of r1 q1 ?_ p1⟩
      rw [pick_len e1, kl]
  · rw [h2]
    obtain ⟨zs, e3, rz⟩ := pick_vals rv e1
    have lw : ws.length = ks.length := by rw [← rv.length, e2]
    have FF := F.pf.fn f d hd
    have go := FF.run X.A X.stack s2 H2 ⟨[], ks.zip ws⟩ _ _ Q _ (F.pf.room.mono (by omega)) F.pf.gd I2.env0 (kb s2 ws zs I2.kIn lw e3) rz sp
    show wpAny _ _ (call (.ref (C.fA f)) [] (ks.zip ws)) _ _ _
    refine wpAny_call (codeAny_mono go fun res s3 hres => ?_)
    match res, hres with
    | .error e, hres => exact passAt c.tk st pins H2 s2 e s3 I2 hres
    | .ok (.ret u), hres => exact I2.after hres
    | .ok .next, hres => exact hres.elim
    | .ok .brk, hres => exact hres.elim
    | .ok .cont, hres => exact hres.elim
end
end Tw
set_option maxHeartbeats 4000000
namespace Tw
open PySem PySem.Spec PyProof.Rows L2
/-! ## the size of a tree hangs on its place alone -/
mutual
def tsz : T → Nat
  | .lst xs => tszL xs + 1
  | .tup xs => tszL xs + 1
  | .dct ks => tszD ks + 1
  | .ins _ fs => tszF fs + 1
  | _ => 1
def tszL : List T → Nat
  | [] => 0
  | x :: xs => tsz x + tszL xs
def tszD : List (Key × T) → Nat
  | [] => 0
  | (_, x) :: xs => tsz x + tszD xs
def tszF : List (Str × T) → Nat
  | [] => 0
  | (_, x) :: xs => tsz x + tszF xs
end
mutual
/-- the script does not stand in it -/
def noS : T → Bool
  | .lst xs => noSL xs
  | .tup xs => noSL xs
  | .dct ks => noSD ks
  | .ins _ fs => noSF fs
  | .scr _ => false
  | _ => true
def noSL : List T → Bool
  | [] => true
  | x :: xs => noS x && noSL xs
def noSD : List (Key × T) → Bool
  | [] => true
  | (_, x) :: xs => noS x && noSD xs
def noSF : List (Str × T) → Bool
  | [] => true
  | (_, x) :: xs => noS x && noSF xs
end
section
variable {cA : CA} {G : Hp}
mutual
theorem sz_eq : ∀ {t t' : T} {v : V}, noS t = true → noS t' = true → Rep cA G t v → Rep cA G t' v → tsz t = tsz t'
  | .lst xs, t', v, h, h', r, r' => by
    unfold Rep at r
    obtain ⟨a, vs, rfl, g, q⟩ := r
    cases t' with
    | lst ys =>
      unfold Rep at r'
      obtain ⟨b, us, e, g', q'⟩ := r'
      cases e
      rw [g] at g'; cases g'
      unfold noS at h h'
      unfold tsz
      rw [sz_eqL h h' q q']
    | tup ys => unfold Rep at r'; obtain ⟨b, us, e, g', q'⟩ := r'; cases e; rw [g] at g'; cases g'
    | dct ys => unfold Rep at r'; obtain ⟨b, us, e, g', q'⟩ := r'; cases e; rw [g] at g'; cases g'
    | ins c ys => unfold Rep at r'; obtain ⟨b, dx, us, e, g', q'⟩ := r'; cases e; rw [g] at g'; cases g'
    | scr _ => cases h'
    | _ => unfold Rep at r'; cases r'
  | .tup xs, t', v, h, h', r, r' => by
    unfold Rep at r
    obtain ⟨a, vs, rfl, g, q⟩ := r
    cases t' with
    | tup ys =>
      unfold Rep at r'
      obtain ⟨b, us, e, g', q'⟩ := r'
      cases e
      rw [g] at g'; cases g'
      unfold noS at h h'
      unfold tsz
      rw [sz_eqL h h' q q']
    | lst ys => unfold Rep at r'; obtain ⟨b, us, e, g', q'⟩ := r'; cases e; rw [g] at g'; cases g'
    | dct ys => unfold Rep at r'; obtain ⟨b, us, e, g', q'⟩ := r'; cases e; rw [g] at g'; cases g'
    | ins c ys => unfold Rep at r'; obtain ⟨b, dx, us, e, g', q'⟩ := r'; cases e; rw [g] at g'; cases g'
    | scr _ => cases h'
    | _ => unfold Rep at r'; cases r'
  | .dct xs, t', v, h, h', r, r' => by
    unfold Rep at r
    obtain ⟨a, vs, rfl, g, q⟩ := r
    cases t' with
    | dct ys =>
      unfold Rep at r'
      obtain ⟨b, us, e, g', q'⟩ := r'
      cases e
      rw [g] at g'; cases g'
      unfold noS at h h'
      unfold tsz
      rw [sz_eqD h h' q q']
    | lst ys => unfold Rep at r'; obtain ⟨b, us, e, g', q'⟩ := r'; cases e; rw [g] at g'; cases g'
    | tup ys => unfold Rep at r'; obtain ⟨b, us, e, g', q'⟩ := r'; cases e; rw [g] at g'; cases g'
    | ins c ys => unfold Rep at r'; obtain ⟨b, dx, us, e, g', q'⟩ := r'; cases e; rw [g] at g'; cases g'
    | scr _ => cases h'
    | _ => unfold Rep at r'; cases r'
  | .ins c xs, t', v, h, h', r, r' => by
    unfold Rep at r
    obtain ⟨a, dx, vs, rfl, g, q⟩ := r
    cases t' with
    | ins c' ys =>
      unfold Rep at r'
      obtain ⟨b, dx', us, e, g', q'⟩ := r'
      cases e
      rw [g] at g'
      injection g' with g1
      injection g1 with _ _ g2
      subst g2
      unfold noS at h h'
      unfold tsz
      rw [sz_eqF h h' q q']
    | lst ys => unfold Rep at r'; obtain ⟨b, us, e, g', q'⟩ := r'; cases e; rw [g] at g'; cases g'
    | tup ys => unfold Rep at r'; obtain ⟨b, us, e, g', q'⟩ := r'; cases e; rw [g] at g'; cases g'
    | dct ys => unfold Rep at r'; obtain ⟨b, us, e, g', q'⟩ := r'; cases e; rw [g] at g'; cases g'
    | scr _ => cases h'
    | _ => unfold Rep at r'; cases r'
  | .scr _, _, _, h, _, _, _ => by cases h
  | .non, t', v, h, h', r, r' => by
    have e : v = .non := by unfold Rep at r; exact r
    subst e
    cases t' <;> first | rfl | cases h' | (unfold Rep at r'; obtain ⟨a, dx, gs, e, _⟩ := r'; (cases e; done)) | (unfold Rep at r'; obtain ⟨a, vs, e, _⟩ := r'; (cases e; done))
  | .bl b, t', v, h, h', r, r' => by
    have e : v = .bl b := by unfold Rep at r; exact r
    subst e
    cases t' <;> first | rfl | cases h' | (unfold Rep at r'; obtain ⟨a, dx, gs, e, _⟩ := r'; (cases e; done)) | (unfold Rep at r'; obtain ⟨a, vs, e, _⟩ := r'; (cases e; done))
  | .int i, t', v, h, h', r, r' => by
    have e : v = .int i := by unfold Rep at r; exact r
    subst e
    cases t' <;> first | rfl | cases h' | (unfold Rep at r'; obtain ⟨a, dx, gs, e, _⟩ := r'; (cases e; done)) | (unfold Rep at r'; obtain ⟨a, vs, e, _⟩ := r'; (cases e; done))
  | .str x, t', v, h, h', r, r' => by
    have e : v = .str x := by unfold Rep at r; exact r
    subst e
    cases t' <;> first | rfl | cases h' | (unfold Rep at r'; obtain ⟨a, dx, gs, e, _⟩ := r'; (cases e; done)) | (unfold Rep at r'; obtain ⟨a, vs, e, _⟩ := r'; (cases e; done))
  | .ty n, t', v, h, h', r, r' => by
    have e : v = .ty n := by unfold Rep at r; exact r
    subst e
    cases t' <;> first | rfl | cases h' | (unfold Rep at r'; obtain ⟨a, dx, gs, e, _⟩ := r'; (cases e; done)) | (unfold Rep at r'; obtain ⟨a, vs, e, _⟩ := r'; (cases e; done))
theorem sz_eqL : ∀ {xs ys : List T} {vs : List V}, noSL xs = true → noSL ys = true → RepL cA G xs vs → RepL cA G ys vs → tszL xs = tszL ys
  | [], ys, vs, h, h', r, r' => by
    unfold RepL at r
    subst r
    cases ys with
    | nil => rfl
    | cons y ys => unfold RepL at r'; obtain ⟨_, _, e, _⟩ := r'; cases e
  | x :: xs, ys, vs, h, h', r, r' => by
    unfold RepL at r
    obtain ⟨v, rr, rfl, q1, q2⟩ := r
    cases ys with
    | nil => unfold RepL at r'; cases r'
    | cons y ys =>
      unfold RepL at r'
      obtain ⟨v', rr', e, q1', q2'⟩ := r'
      cases e
      unfold noSL at h h'
      rw [Bool.and_eq_true] at h h'
      unfold tszL
      rw [sz_eq h.1 h'.1 q1 q1', sz_eqL h.2 h'.2 q2 q2']
theorem sz_eqD : ∀ {xs ys : List (Key × T)} {vs : List (Key × V)}, noSD xs = true → noSD ys = true → RepD cA G xs vs → RepD cA G ys vs → tszD xs = tszD ys
  | [], ys, vs, h, h', r, r' => by
    unfold RepD at r
    subst r
    cases ys with
    | nil => rfl
    | cons y ys => obtain ⟨k, y⟩ := y; unfold RepD at r'; obtain ⟨_, _, e, _⟩ := r'; cases e
  | (k, x) :: xs, ys, vs, h, h', r, r' => by
    unfold RepD at r
    obtain ⟨v, rr, rfl, q1, q2⟩ := r
    cases ys with
    | nil => unfold RepD at r'; cases r'
    | cons y ys =>
      obtain ⟨k', y⟩ := y
      unfold RepD at r'
      obtain ⟨v', rr', e, q1', q2'⟩ := r'
      cases e
      unfold noSD at h h'
      rw [Bool.and_eq_true] at h h'
      unfold tszD
      rw [sz_eq h.1 h'.1 q1 q1', sz_eqD h.2 h'.2 q2 q2']
theorem sz_eqF : ∀ {xs ys : List (Str × T)} {vs : List (Str × V)}, noSF xs = true → noSF ys = true → RepF cA G xs vs → RepF cA G ys vs → tszF xs = tszF ys
  | [], ys, vs, h, h', r, r' => by
    unfold RepF at r
    subst r
    cases ys with
    | nil => rfl
    | cons y ys => obtain ⟨k, y⟩ := y; unfold RepF at r'; obtain ⟨_, _, e, _⟩ := r'; cases e
  | (k, x) :: xs, ys, vs, h, h', r, r' => by
    unfold RepF at r
    obtain ⟨v, rr, rfl, q1, q2⟩ := r
    cases ys with
    | nil => unfold RepF at r'; cases r'
    | cons y ys =>
      obtain ⟨k', y⟩ := y
      unfold RepF at r'
      obtain ⟨v', rr', e, q1', q2'⟩ := r'
      cases e
      unfold noSF at h h'
      rw [Bool.and_eq_true] at h h'
      unfold tszF
      rw [sz_eq h.1 h'.1 q1 q1', sz_eqF h.2 h'.2 q2 q2']
end
end
/-! ## repr of trees, own __repr__ within -/
section
variable (X : Cx) (cA : CA) (al : List Addr) (G0 : Hp) (st : L2.St) (sto : Store)
/-- the state while a repr is under way: what was tracked stands -/
def Jr (pins : List (Addr × Obj)) (s : Shared) : Prop := ∃ G H, Sb G0 G ∧ Rl cA al G sto H ∧ Inv X pins st H s
/-- the surroundings, with d levels to go -/
structure ArOk (k d : Nat) (A : Around) : Prop where
  fr : A.frames = X.A.frames
  hd : A.handled = none
  dp : A.depth + d + 3 * k + 5 < recursionLimit
  un : A.units + d + 16 * k + 200 < cLine
/-- whatever is guarded is no tree of size n or less -/
def Sz (n : Nat) (g : List Code) : Prop := ∀ id b rest kw, Code.builtin id ⟨.ref b :: rest, kw⟩ ∈ g → G0 b = none ∨ ∃ tb, Rep cA G0 tb (.ref b) ∧ noS tb = true ∧ n < tsz tb
/-- v's repr is t, with d levels -/
def RpE (k n d : Nat) (v : V) (t : Str) : Prop := ∀ (u : Value) (base : Nat), RelV v u → base + t.length ≤ sizeLine → ∀ (A : Around) (g : List Code) (pins : List (Addr × Obj)) (s : Shared) (Q : Str → Shared → Prop),
  A.guards = some g → Sz cA G0 n g → ArOk X k d A → Jr X cA al G0 st sto pins s → (∀ s', Jr X cA al G0 st sto pins s' → Q t s') → wpAny (model X.prog X.w) A (pyReprUnder base u) Q X.xe s
end
section
variable {X : Cx} {cA : CA} {al : List Addr} {G0 : Hp} {st : L2.St} {sto : Store} {k n d : Nat}
theorem Jr.tok {pins : List (Addr × Obj)} {s : Shared} {t : Nat} (j : Jr X cA al G0 st sto pins s) : Jr X cA al G0 st sto pins { s with toks := t } := by
  obtain ⟨G, H, sb, r, I⟩ := j
  exact ⟨G, H, sb, r, I.kept (h' := s.heap) (t' := t) fun _ _ e => e⟩
theorem rpe_leaf {v : V} {t : Str} (hv : ∀ a, v ≠ .ref a) (h : ∀ u, RelV v u → ReprIs X.prog X.w u t) : RpE X cA al G0 st sto k n d v t := by
  intro u base rel hb A g pins s Q hg sz ar j q
  exact h u rel base hb A X.xe s Q fun tk => q _ j.tok
theorem ArOk.guard {A : Around} {c : Code} (hc : c.weight = 1) (hu : (A.under c).units = A.units + 1) (hf : c.envs = []) (ar : ArOk X k (d + 1) A) : ArOk X k d (A.under c) := by
  refine ⟨?_, ar.hd, ?_, ?_⟩
  · have : (A.under c).frames = pushEnvs c.envs A.frames := rfl
    rw [this, hf]; exact ar.fr
  · have : (A.under c).depth = A.depth + c.weight := rfl
    rw [this, hc]; have := ar.dp; omega
  · rw [hu]; have := ar.un; omega
end
end Tw
set_option maxHeartbeats 4000000
namespace Tw
open PySem PySem.Spec PyProof.Rows L2 PySem.Builtin
section
variable {X : Cx} {cA : CA} {al : List Addr} {G0 : Hp} {st : L2.St} {sto : Store} {k n d : Nat}
/-- a list of one's own, out of what is tracked -/
abbrev ownL (acc : Array Value) (c : Nat) : Obj := { cls := .type "list", dict := none, data := .seq acc c, slots := #[] }
theorem Jr.drop {p : Addr × Obj} {pins : List (Addr × Obj)} {s : Shared} (j : Jr X cA al G0 st sto (p :: pins) s) : Jr X cA al G0 st sto pins s := by
  obtain ⟨G, H, sb, r, I⟩ := j
  exact ⟨G, H, sb, r, I.pins_of fun q hq => I.pin q (List.mem_append_right _ (List.mem_cons_of_mem _ hq))⟩
theorem Jr.get {p : Addr × Obj} {pins : List (Addr × Obj)} {s : Shared} (j : Jr X cA al G0 st sto (p :: pins) s) : s.heap.get? p.1 = some p.2 := by
  obtain ⟨G, H, sb, r, I⟩ := j
  exact (I.pin p (List.mem_append_right _ List.mem_cons_self)).1
/-- Sz with one more guard -/
theorem Sz.cons {m : Nat} {g : List Code} {a : Addr} {id : String} {rest : List Value} {kw : List (Str × Value)} (h : Sz cA G0 n g) (hm : m ≤ n) (ha : G0 a = none ∨ ∃ tb, Rep cA G0 tb (.ref a) ∧ noS tb = true ∧ m < tsz tb) : Sz cA G0 m (.builtin id ⟨.ref a :: rest, kw⟩ :: g) := by
  intro id' b rest' kw' hb
  rcases List.mem_cons.mp hb with e | hb
  · cases e; exact ha
  · rcases h id' b rest' kw' hb with z | ⟨tb, h1, h2, h3⟩
    · exact .inl z
    · exact .inr ⟨tb, h1, h2, by omega⟩
/-- a fresh list, pinned -/
theorem Jr.push {pins : List (Addr × Obj)} {s : Shared} (j : Jr X cA al G0 st sto pins s) (acc : Array Value) (c : Nat) : Jr X cA al G0 st sto ((s.heap.objs.size, ownL acc c) :: pins) { s with heap := s.heap.push (ownL acc c) } := by
  obtain ⟨G, H, sb, r, I⟩ := j
  have J : Inv X pins st H { s with heap := s.heap.push (ownL acc c) } := I.kept (h' := s.heap.push (ownL acc c)) (t' := s.toks) fun _ _ e => Heap.get?_push_of_some _ e
  refine ⟨G, H, sb, r, J.pins_of fun q hq => ?_⟩
  rcases List.mem_cons.mp hq with e | hq
  · subst e
    have hs : ∀ b o, s.heap.get? b = some o → b ≠ s.heap.objs.size := fun b o e => Nat.ne_of_lt (Heap.lt_size e)
    refine ⟨Heap.get?_push_size _ rfl, I.hok.fresh (Nat.le_refl _), ?_, ?_, fun v => by simp⟩
    · exact (I.fpOk (Nat.le_refl _) (I.hok.fresh (Nat.le_refl _))).2.1
    · exact (I.fpOk (Nat.le_refl _) (I.hok.fresh (Nat.le_refl _))).2.2.1
  · exact J.pin q (List.mem_append_right _ hq)
def Fs (X : Cx) (pins : List (Addr × Obj)) (P : Addr) : Prop := (P ∈ X.ex ∨ X.s_0.heap.objs.size ≤ P) ∧ (∀ x c, X.env.cells.lookup x = some c → c ≠ P) ∧ ∀ p ∈ X.pn ++ pins, p.1 ≠ P
theorem Jr.fs {pins : List (Addr × Obj)} {s : Shared} (j : Jr X cA al G0 st sto pins s) : Fs X pins s.heap.objs.size := by
  obtain ⟨G, H, sb, r, I⟩ := j
  exact (I.fpOk (Nat.le_refl _) (I.hok.fresh (Nat.le_refl _))).2.2.2
/-- the pinned list is changed -/
theorem Jr.upd {P : Addr} {pins : List (Addr × Obj)} {s : Shared} {acc acc' : Array Value} {c c' : Nat} {h' : Heap} (j : Jr X cA al G0 st sto ((P, ownL acc c) :: pins) s) (f : Fs X pins P)
    (k : ∀ b o, b ≠ P → s.heap.get? b = some o → h'.get? b = some o) (e : h'.get? P = some (ownL acc' c')) : Jr X cA al G0 st sto ((P, ownL acc' c') :: pins) { s with heap := h' } := by
  obtain ⟨G, H, sb, r, I⟩ := j
  obtain ⟨h1, h2, h3, h4, h5⟩ := I.pin (P, ownL acc c) (List.mem_append_right _ List.mem_cons_self)
  have I0 : Inv X pins st H s := I.pins_of fun q hq => I.pin q (List.mem_append_right _ (List.mem_cons_of_mem _ hq))
  have J : Inv X pins st H { s with heap := h' } := I0.turned (t' := s.toks) (it := P) k h2 h3 f.1 f.2.1 f.2.2
  refine ⟨G, H, sb, r, J.pins_of fun q hq => ?_⟩
  rcases List.mem_cons.mp hq with z | hq
  · subst z
    exact ⟨e, h2, h3, h4, fun v => by simp⟩
  · exact J.pin q (List.mem_append_right _ hq)
/-- a list's repr, from the i-th item on -/
theorem list_loop {a P : Addr} {vs : List V} {ts : List Str} {m : Nat} {pins : List (Addr × Obj)} {A : Around} {g : List Code} {base : Nat} {R : Result → Shared → Prop} (hg : A.guards = some g) (hsz : Sz cA G0 n g) (hm : m ≤ n) (ha : G0 a = none ∨ ∃ tb, Rep cA G0 tb (.ref a) ∧ noS tb = true ∧ m < tsz tb)
    (ar : ArOk X k (d + 1) A) (hlen : ts.length = vs.length) (f : Fs X pins P) (hR0 : ∀ e s, X.xe e s → R (.error e) s)
    (items : ∀ s pins, Jr X cA al G0 st sto pins s → ∃ o its c, s.heap.get? a = some o ∧ o.data = .seq its c ∧ Vals vs its.toList)
    (hT : ∀ (i : Nat) (v : V), vs[i]? = some v → ∃ t, ts[i]? = some t ∧ RpE X cA al G0 st sto k m d v t) (big : base + (listText ts).length ≤ sizeLine) :
    ∀ (j i : Nat) (s : Shared) (acc : Array Value) (c : Nat) (done : List (Str × Tok)), vs.length - i = j → i ≤ vs.length → Jr X cA al G0 st sto ((P, ownL acc c) :: pins) s → acc.toList = strValues done → done.map (·.1) = ts.take i →
      (∀ s' u, Jr X cA al G0 st sto pins s' → R (.ok (.ret (.str (listText ts) u))) s') → codeAny (model X.prog X.w) A (.builtin "list.__repr__.loop" ⟨[.ref a, rawInt i, .ref P, rawInt ((base + piled (ts.take i) : Nat) : Int)], []⟩) R s := by
  have hX : (listText ts).length = (textFrom 0 "[" ts).length + 1 := by
    show (textFrom 0 "[" ts ++ "]").length = _
    rw [strLen_append]; rfl
  have hL := textFrom_len ts 0 "["
  have each : ∀ t ∈ ts, t.length ≤ sizeLine := fun t ht => by have := hL.2.1 t ht; omega
  have whole : (listText ts).length ≤ sizeLine := by omega
  have many : vs.length ≤ sizeLine := by
    have := hL.1
    rw [if_neg (Nat.lt_irrefl 0)] at this
    omega
  have heap := piled_le_listText ts
  intro j
  induction j with
  | zero =>
    intro i s acc c done hj hi J hacc hdone hR
    have hin : i = vs.length := by omega
    obtain ⟨o, its, cc, ho, hd, rel⟩ := items s _ J
    have hits : its.size = vs.length := by have := rel.length; simp at this; omega
    refine codeAny_builtin F.entry_list_repr_loop ?_
    show wpAny _ _ («list.__repr__.loop» ⟨[.ref a, .int i 0, .ref P, .int ((base + piled (ts.take i) : Nat) : Int) 0], []⟩) _ _ s
    rw [repr_loop_tree]
    refine wpAny_bind (wpAny_listItems ho hd ?_)
    have none0 : its[(i : Int).toNat]? = none := by simp [hin, hits]
    simp only [none0]
    unfold reprEnd
    refine wpAny_bind (wpAny_listItems J.get rfl ?_)
    rw [hacc, repr_fold]
    refine wpAny_bind (wpAny_pure ?_)
    have full : done.map (·.1) = ts := by rw [hdone, hin, ← hlen, List.take_length]
    rw [full]
    refine wpAny_bind (wpAny_mkStr (wpAny_pure ?_) whole)
    exact hR _ _ J.drop.tok
  | succ j ih =>
    intro i s acc c done hj hi J hacc hdone hR
    have hlt : i < vs.length := by omega
    obtain ⟨o, its, cc, ho, hd, rel⟩ := items s _ J
    have hits : its.size = vs.length := by have := rel.length; simp at this; omega
    obtain ⟨t, ht, el⟩ := hT i vs[i] (by simp [hlt])
    obtain ⟨u, hu, ru⟩ := rel.get (show vs[i]? = some vs[i] by simp [hlt])
    have hu' : its[i]? = some u := by simpa using hu
    have step := piled_take_succ ht
    have most := piled_take_le ts (i + 1)
    refine codeAny_builtin F.entry_list_repr_loop ?_
    show wpAny _ _ («list.__repr__.loop» ⟨[.ref a, .int i 0, .ref P, .int ((base + piled (ts.take i) : Nat) : Int) 0], []⟩) _ _ s
    rw [repr_loop_tree]
    refine wpAny_bind (wpAny_listItems ho hd ?_)
    have some0 : its[(i : Int).toNat]? = some u := by simpa using hu'
    simp only [some0]
    rw [Int.toNat_natCast]
    refine wpAny_bind (wpAny_holding (wpAny_mono (el u (base + piled (ts.take i) + 1) ru (by omega) _ _ _ s (fun x s' => x = t ∧ Jr X cA al G0 st sto ((P, ownL acc c) :: pins) s') (guards_under_guard (isGuard_list_loop _) hg) (hsz.cons hm ha) (ar.guard ?_ (units_under_list_loop _ _) ?_) J (fun s' J' => ⟨rfl, J'⟩)) (fun x s' h => ?_) fun e s' h => ?_))
    · first | rfl | decide +kernel | simp [Code.weight, isGuard_list_loop, Code.frames, Code.isFrame, Code.isCreation, Code.isCaller]
    · first | rfl | simp [Code.envs, Code.isFrame]
    · obtain ⟨rfl, J'⟩ := h
      refine wpAny_bind (wpAny_mkStr ?_ (each x (List.mem_of_getElem? ht)))
      refine wpAny_bind ?_
      show wpAny _ _ (updateSeq P _) _ _ _
      have hasz : acc.size ≤ sizeLine := by
        have e1 : acc.toList.length = acc.size := by simp
        have e2 : (strValues done).length = done.length := by simp [strValues]
        have e3 : done.length = (ts.take i).length := by rw [← hdone, List.length_map]
        have e4 : (ts.take i).length ≤ i := by rw [List.length_take]; omega
        rw [hacc] at e1; omega
      have J2 := J'.tok (t := s'.toks + 1)
      refine wpAny_updateSeq J'.get rfl (wpAny_pure ⟨F.quiet_list_repr_loop _, ?_⟩) hasz
      have e1 : ((i : Int) + 1) = ((i + 1 : Nat) : Int) := by omega
      have e2 : base + piled (ts.take i) + (x.length + 2) = base + piled (ts.take (i + 1)) := by omega
      rw [e1, e2]
      refine ih (i + 1) _ (acc.push (.str x s'.toks)) _ (done ++ [(x, s'.toks)]) (by omega) hlt (J2.upd f (fun b o hb e => (Heap.get?_update_other _ _ (Ne.symm hb)).trans e) (Heap.get?_update_self _ J'.get rfl)) (by simp [hacc, strValues]) (by simp [List.take_add_one, ht, hdone]) hR
    · exact hR0 e s' h
end
end Tw
set_option maxHeartbeats 4000000
namespace Tw
open PySem PySem.Spec PyProof.Rows L2 PySem.Builtin
section
variable {X : Cx} {cA : CA} {al : List Addr} {G0 : Hp} {st : L2.St} {sto : Store} {k n d : Nat}
/-- a list that is not empty: its body, wherever it is asked -/
theorem list_at {a : Addr} {vs : List V} {ts : List Str} {m : Nat} {pins : List (Addr × Obj)} {A : Around} {g : List Code} {base : Nat} {R : Result → Shared → Prop} {s : Shared} (hg : A.guards = some g) (hsz : Sz cA G0 n g) (hm : m ≤ n) (ha : G0 a = none ∨ ∃ tb, Rep cA G0 tb (.ref a) ∧ noS tb = true ∧ m < tsz tb)
    (clear : ∀ id v rest kw, Code.builtin id ⟨v :: rest, kw⟩ ∈ g → v ≠ .ref a) (ar : ArOk X k (d + 1) A) (hlen : ts.length = vs.length) (hne : vs ≠ []) (hR0 : ∀ e s, X.xe e s → R (.error e) s)
    (items : ∀ s pins, Jr X cA al G0 st sto pins s → ∃ o its c, s.heap.get? a = some o ∧ o.data = .seq its c ∧ Vals vs its.toList)
    (hT : ∀ (i : Nat) (v : V), vs[i]? = some v → ∃ t, ts[i]? = some t ∧ RpE X cA al G0 st sto k m d v t) (big : base + (listText ts).length ≤ sizeLine) (J : Jr X cA al G0 st sto pins s)
    (hR : ∀ s' u, Jr X cA al G0 st sto pins s' → R (.ok (.ret (.str (listText ts) u))) s') :
    wpAny (model X.prog X.w) A.in1 (Builtin.listReprAt base ⟨[.ref a], []⟩) (fun fin s' => match fin with | .done f => R (.ok f) s' | .again c' => c'.quiet = true ∧ codeAny (model X.prog X.w) A c' R s') (fun e s' => R (.error e) s') s := by
  obtain ⟨o, its, c, ho, hd, rel⟩ := items s _ J
  obtain ⟨x, l, hxl⟩ : ∃ x l, its.toList = x :: l := by
    cases e : its.toList with
    | nil => rw [e] at rel; cases rel; exact absurd rfl hne
    | cons x l => exact ⟨x, l, rfl⟩
  have hits : its = (x :: l).toArray := by rw [← hxl]
  subst hits
  refine wpAny_list_repr_head (A := A.in1) hg (fun v rest kw hmem => listSameRef_of_ne (clear _ _ _ _ hmem)) ho hd ?_
  refine wpAny_bind (m := newList []) (wpAny_newObj_type ?_)
  refine wpAny_pure ⟨F.quiet_list_repr_loop _, ?_⟩
  exact list_loop (P := s.heap.objs.size) hg hsz hm ha ar hlen J.fs hR0 items hT big _ 0 _ #[] _ [] rfl (Nat.zero_le _) (J.push #[] _) rfl (by simp) hR
/-- a list within a tree -/
theorem rpe_list {a : Addr} {vs : List V} {ts : List Str} {m : Nat} {xs : List T} (hr : Rep cA G0 (.lst xs) (.ref a)) (hno : noS (.lst xs) = true) (hn : tsz (.lst xs) ≤ n) (hm : m < tsz (.lst xs)) (hlen : ts.length = vs.length) (hne : vs ≠ []) (hv : G0 a = some (.lst vs)) (hnox : ∀ e s, X.xe e s → True)
    (hT : ∀ (i : Nat) (v : V), vs[i]? = some v → ∃ t, ts[i]? = some t ∧ RpE X cA al G0 st sto k m d v t) : RpE X cA al G0 st sto k n (d + 1) (.ref a) (listText ts) := by
  intro u base rel big A g pins s Q hg hsz ar J q
  have eu : u = Value.ref a := rel
  subst eu
  have at_a : ∀ s pins, Jr X cA al G0 st sto pins s → ∃ o its c, s.heap.get? a = some o ∧ o.cls = .type "list" ∧ o.dict = none ∧ o.data = .seq its c ∧ Vals vs its.toList := by
    rintro s pins ⟨G, H, sb, r, I⟩
    obtain ⟨its, c, rv, ho, hz⟩ := I.lst (r.sub _ _ (sb _ _ hv))
    exact ⟨_, its.toArray, _, ho, rfl, rfl, rfl, by simpa using rv⟩
  have clear : ∀ id v rest kw, Code.builtin id ⟨v :: rest, kw⟩ ∈ g → v ≠ .ref a := by
    rintro id v rest kw hmem rfl
    rcases hsz id a rest kw hmem with z | ⟨tb, h1, h2, h3⟩
    · rw [hv] at z; cases z
    · have := sz_eq hno h2 hr h1; omega
  obtain ⟨o, its, c, ho, hc, hdn, hd, _⟩ := at_a s pins J
  have ty : s.TypeIs (.ref a) "list" := ⟨o, ho, hc⟩
  refine wpAny_pyReprUnder_ref (by omega) (wpAny_pyReprObjUnder_twin (twin := "list.__repr__.under") ty F.slot_list_repr.toG rfl (by have := ar.un; omega) ?_)
  refine call_twin_plain F.plain_list_repr_under F.entry_list_repr_under F.check_list_repr_under ty F.slot_list_repr.toG (F.args_list_repr_1 _) ?_
  exact list_at (m := m) hg hsz (by omega) (.inr ⟨_, hr, hno, hm⟩) clear ar hlen hne (fun e s h => h) (fun s pins j => by
    obtain ⟨o, its, c, h1, _, _, h2, h3⟩ := at_a s pins j
    exact ⟨o, its, c, h1, h2, h3⟩) hT big J fun s' u j => ⟨⟨_, _, rfl⟩, _, _, rfl, q s' j⟩
/-- the empty list -/
theorem rpe_nil {a : Addr} (hv : G0 a = some (.lst [])) : RpE X cA al G0 st sto k n d (.ref a) "[]" := by
  intro u base rel big A g pins s Q hg hsz ar J q
  have eu : u = Value.ref a := rel
  subst eu
  have J0 := J
  obtain ⟨G, H, sb, r, I⟩ := J
  obtain ⟨its, c, rv, ho, hz⟩ := I.lst (r.sub _ _ (sb _ _ hv))
  have e : its = [] := by cases rv; rfl
  subst e
  exact wpAny_pyReprUnder_ref (by omega) (wpAny_pyReprObjUnder_list_empty ⟨_, ho, rfl⟩ (by have := ar.un; omega) ho rfl ⟨_, _, rfl, q _ J0.tok⟩)
end
end Tw
set_option maxHeartbeats 4000000
namespace Tw
open PySem PySem.Spec PyProof.Rows L2 PySem.Builtin
section
variable {X : Cx} {cA : CA} {al : List Addr} {G0 : Hp} {st : L2.St} {sto : Store} {k n d : Nat}
/-- the items of a tuple, from the left -/
theorem tup_fold {m : Nat} {A : Around} {g : List Code} {pins : List (Addr × Obj)} (hg : A.guards = some g) (hsz : Sz cA G0 m g) (ar : ArOk X k d A) : ∀ (us : List Value) (vs : List V) (ts : List Str) (acc : Array Str) (c : Nat) (s : Shared) (Q : (Array Str × Nat) → Shared → Prop), Vals vs us →
    ts.length = vs.length → (∀ (i : Nat) (v : V), vs[i]? = some v → ∃ t, ts[i]? = some t ∧ RpE X cA al G0 st sto k m d v t) → c + piled ts ≤ sizeLine → Jr X cA al G0 st sto pins s → (∀ s', Jr X cA al G0 st sto pins s' → Q ⟨acc ++ ts.toArray, c + piled ts⟩ s') →
    wpAny (model X.prog X.w) A (forIn us (⟨acc, c⟩ : (Array Str × Nat)) tupBody) Q X.xe s := by
  intro us
  induction us with
  | nil =>
    intro vs ts acc c s Q rel hl _ _ J h
    cases rel
    have e : ts = [] := List.length_eq_zero_iff.mp hl
    subst e
    simp only [List.forIn_nil]
    exact wpAny_pure (by simpa [piled] using h s J)
  | cons u us ih =>
    intro vs ts acc c s Q rel hl hT big J h
    cases rel with
    | @cons v _ vs' _ ru rs =>
      cases ts with
      | nil => simp at hl
      | cons t ts =>
        obtain ⟨t', e, el⟩ := hT 0 v rfl
        simp at e; subst e
        rw [piled_cons] at big
        rw [List.forIn_cons]
        refine wpAny_bind (wpAny_bind (el u (c + 1) ru (by omega) A g pins s _ hg hsz ar J fun s' J' => wpAny_pure ?_))
        refine ih vs' ts (acc.push t) (c + (t.length + 2)) s' Q rs (by simpa using hl) (fun i v h => by simpa using hT (i + 1) v (by simpa using h)) (by omega) J' fun s'' J'' => ?_
        have z := h s'' J''
        have e : c + piled (t :: ts) = c + (t.length + 2) + piled ts := by rw [piled_cons]; omega
        rw [e] at z
        simpa using z
/-- a tuple within a tree -/
theorem rpe_tup {a : Addr} {vs : List V} {ts : List Str} {m : Nat} {xs : List T} (hr : Rep cA G0 (.tup xs) (.ref a)) (hno : noS (.tup xs) = true) (hn : tsz (.tup xs) ≤ n) (hm : m < tsz (.tup xs)) (hlen : ts.length = vs.length) (hv : G0 a = some (.tup vs))
    (hT : ∀ (i : Nat) (v : V), vs[i]? = some v → ∃ t, ts[i]? = some t ∧ RpE X cA al G0 st sto k m d v t) : RpE X cA al G0 st sto k n (d + 1) (.ref a) (tupleText ts) := by
  intro u base rel big A g pins s Q hg hsz ar J q
  have eu : u = Value.ref a := rel
  subst eu
  have clear : Clear g a := by
    rintro id v rest kw hmem rfl
    rcases hsz id a rest kw hmem with z | ⟨tb, h1, h2, h3⟩
    · rw [hv] at z; cases z
    · have := sz_eq hno h2 hr h1; omega
  obtain ⟨its, c, o, ho, hc, hd, rv⟩ : ∃ its c o, s.heap.get? a = some o ∧ o.cls = .type "tuple" ∧ o.data = .seq its c ∧ Vals vs its.toList := by
    obtain ⟨G, H, sb, r, I⟩ := J
    have hh := r.sub _ _ (sb _ _ hv)
    obtain ⟨its, rv, ⟨o, h1, h2, c, h3⟩, hz⟩ := I.tuple (L2.SqT.of hh)
    exact ⟨its.toArray, c, o, h1, h2, h3, by simpa using rv⟩
  have ty : s.TypeIs (.ref a) "tuple" := ⟨o, ho, hc⟩
  have hits : ts.length = its.size := by have := rv.length; simp at this; omega
  have most := piled_le_tupleText ts
  have whole : (tupleText ts).length ≤ sizeLine := by omega
  refine wpAny_pyReprUnder_ref (by omega) (wpAny_pyReprObjUnder_twin (twin := "tuple.__repr__.under") ty F.slot_tuple_repr rfl (by have := ar.un; omega) ?_)
  refine call_twin_own (F.quiet_tuple_repr_under _) F.entry_tuple_repr_under F.check_tuple_repr_under ty F.slot_tuple_repr (F.args_tuple_repr_1 _) ?_
  rw [tuple_repr_tree, tupleReprUnderWay_eq]
  refine wpOwn_bind (wpOwn_stackTailAny hg (tupGuardF_off _) (tupGuardF_pos _) ?_)
  have free : (g.any fun c => tupGuardF (.ref a) (c, default)) = false := by
    rw [List.any_eq_false]
    intro c hcm
    rw [tupGuardF_of_clear clear c hcm]
    exact Bool.false_ne_true
  rw [free]
  refine wpOwn_of_wpAny ?_
  show wpAny _ _ (tupleReprRest base (.ref a)) _ _ s
  unfold tupleReprRest Builtin.Tuple.tupleItemsOf
  refine wpAny_bind (wpAny_bind (wpAny_seqItems ho hd (wpAny_pure ?_)))
  rw [← Array.forIn_toList]
  refine wpAny_bind (tup_fold (m := m) (guards_under_guard (isGuard_tuple_repr_under _) hg) (hsz.cons (by omega) (.inr ⟨_, hr, hno, hm⟩)) (ar.guard ?_ (units_under_tuple_repr_under _ _) ?_) _ vs ts _ _ s _ rv hlen hT (by omega) J fun s' J' => ?_)
  · first | rfl | decide +kernel | simp [Code.weight, isGuard_tuple_repr_under, Code.frames, Code.isFrame, Code.isCreation, Code.isCaller]
  · first | rfl | simp [Code.envs, Code.isFrame]
  · refine wpAny_bind (wpAny_mkStr (wpAny_pure ?_) (by simpa [tupleText, hits] using whole))
    have z := q _ (J'.tok (t := s'.toks + 1))
    have e : ∀ Y : Str, Y = tupleText ts → callEnd (fun v s' => (∃ x u, v = Value.str x u) ∧ ∃ x u, v = Value.str x u ∧ Q x s') X.xe (.ok (.ret (.str Y s'.toks))) { s' with toks := s'.toks + 1 } := fun Y h => by
      subst h; exact ⟨⟨_, _, rfl⟩, _, _, rfl, z⟩
    refine e _ ?_
    simp [tupleText, hits]
end
end Tw
set_option maxHeartbeats 4000000
namespace Tw
open PySem PySem.Spec PyProof.Rows L2 PySem.Builtin PySem.W
section
variable {prog : Program} {w : World} {A : Around} {E : Value → Shared → Prop} {s : Shared} {K : Frag} {x C f : Addr} {ox : Obj} {od : Option Obj}
/-- an own class's repr within a container's -/
theorem reprObj_own {base : Nat} {Q : Value → Shared → Prop} (hu : A.units < cLine) (KI : K.In s.heap) (I : InstAt s.heap x ox C od) (hs : findIn K (.ref C) "__repr__" = some (some (.ref f))) (hf : isFn K (.ref f) = true)
    (h : wpAny (model prog w) A (call (.ref f) [.ref x]) (fun v s' => ∃ z u, v = .str z u ∧ Q (.str z u) s') E s) : wpAny (model prog w) A (pyReprObjUnder base (.ref x)) Q E s := by
  unfold pyReprObjUnder pyReprObjBy
  refine wpAny_bind (wpAny_cRoomFor hu ?_)
  refine wpAny_bind (wpAny_bind (I.type.here ((looks_findIn KI hs).here ?_)))
  show wpAny _ _ (if (some (Value.ref f)).isNone = true then _ else _) _ _ _
  rw [if_neg (by simp)]
  have fin : wpAny (model prog w) A (call (.ref f) ([.ref x] ++ []) >>= fun v => pure (some v)) (fun o s' => ∃ z u, o = some (.str z u) ∧ Q (.str z u) s') E s :=
    wpAny_bind (wpAny_mono h (fun v s' ⟨z, u, e, q⟩ => wpAny_pure ⟨z, u, by rw [e], q⟩) fun _ _ h' => h')
  refine wpAny_bind (wpAny_mono (Q := fun o s' => ∃ z u, o = some (.str z u) ∧ Q (.str z u) s') ?_ (fun o s' hr => ?_) fun _ _ y => y)
  · simp only [callSpecialIfBoundBy?, bindSpecialIfBound?]
    refine wpAny_holding (wpAny_bind (wpAny_bind (wpAny_bind (I.type.here ((looks_findIn KI hs).here ?_)))))
    refine wpAny_bind (wpAny_askSetting (wpAny_ite ?_))
    split
    · exact wpAny_bind ((bind_fn KI _ (beq_iff_eq.mp hf)).here (wpAny_pure (by exact fin)))
    · exact wpAny_tryCatch (wpAny_bind ((bind_fn KI _ (beq_iff_eq.mp hf)).here (wpAny_pure (by exact fin))))
  · obtain ⟨z, u, rfl, q⟩ := hr
    exact wpAny_bind (wpAny_isInstance (T := "str") (b := true) rfl isSubtype_str_str (wpAny_pure q))
end
end Tw
set_option maxHeartbeats 4000000
namespace Tw
open PySem PySem.Spec PyProof.Rows L2 PySem.Builtin
section
variable {X : Cx} {cA : CA} {al : List Addr} {G0 : Hp} {st : L2.St} {sto : Store} {k n d : Nat}
/-- an instance whose class has its own __repr__ -/
theorem rpe_own {a f : Addr} {fd : FuncData} {ps : List Str} {cf : CF} {i c : Nat} {fs : List (Str × T)} {z : Str} (hr : Rep cA G0 (.ins c fs) (.ref a)) (hs : PySem.W.findIn X.K (.ref (cA c)) "__repr__" = some (some (.ref f))) (hf : PySem.W.isFn X.K (.ref f) = true)
    (F : FnG X.prog X.w X.K X.mg X.base false k f fd ps (spF cA cf i 1)) (hb : Binds X.K fd ps []) (hps : ps.length = 1) (e : cf i [.t (.ins c fs)] sto = .ok (.t (.str z)) sto) (hd : 1 ≤ d) : RpE X cA al G0 st sto k n d (.ref a) z := by
  intro u base rel big A g pins s Q hg hsz ar J q
  have eu : u = Value.ref a := rel
  subst eu
  obtain ⟨G, H, sb, r, I⟩ := J
  have hr' := Rep.mono sb hr
  have hr2 := hr'
  unfold Rep at hr2
  obtain ⟨a', dx, gs, ea, hG, _⟩ := hr2
  cases ea
  have hH := r.sub _ _ hG
  obtain ⟨mA, O, _, _, _, _⟩ := ins_get I.hok hH
  obtain ⟨od, IA, _⟩ := O.look
  refine wpAny_pyReprUnder_ref (by omega) (reprObj_own (by have := ar.un; omega) I.kIn IA hs hf ?_)
  have room : Room k A := ⟨ar.hd, by have := ar.dp; omega, by have := ar.un; omega⟩
  have env0 : Env0 X.prog X.w X.K X.mg X.base A X.stack s H := by
    have z0 := I.env0
    exact ⟨by rw [ar.fr]; exact z0.frames, z0.mod, z0.bs, z0.bsz, z0.funs, z0.frf, z0.hok, z0.bare⟩
  have go := F.run A X.stack s H ⟨[.ref a], []⟩ [.ref a] [.ref a] (fun v H' => v = .str z ∧ ∃ G', Sb G0 G' ∧ Rl cA al G' sto H') (fun _ _ _ => False) room (fun h => by cases h) env0 (hb s [.ref a] I.kIn (by simpa using hps.symm)) (.cons rfl .nil)
    ⟨al, G, [.t (.ins c fs)], sto, r, ⟨.ref a, [], rfl, hr', rfl⟩, rfl, by
      rw [e]
      intro al' G' H' v x r' rv
      refine ⟨by unfold RepV Rep at rv; exact rv, G', sb.trans x.sub, ?_⟩
      obtain ⟨⟨l, el⟩, _⟩ := x
      have h1 := r.len
      have h2 := r'.len
      subst el
      rw [List.length_append] at h2
      have e0 : l = [] := List.length_eq_zero_iff.mp (by omega)
      subst e0
      rw [List.append_nil] at r'
      exact r'⟩
  refine wpAny_call (codeAny_mono go fun res s3 hres => ?_)
  match res, hres with
  | .error er, ⟨_, _, _, _, _, _, _, _, _, _, _, _, zz⟩ => exact zz.elim
  | .ok (.ret uu), hres =>
    obtain ⟨v, H2, I2, rv, ev, G2, sb2, r2⟩ := I.after hres
    subst ev
    obtain ⟨t, et⟩ := rv
    subst et
    exact ⟨z, t, rfl, _, _, rfl, q _ ⟨G2, H2, sb2, r2, I2⟩⟩
  | .ok .next, hres => exact hres.elim
  | .ok .brk, hres => exact hres.elim
  | .ok .cont, hres => exact hres.elim
end
end Tw
set_option maxHeartbeats 4000000
namespace Tw
open PySem PySem.Spec PyProof.Rows L2 PySem.Builtin
/-! ## plain trees (no own classes within): their texts -/
def fit (z : Str) : Option Str := if z.length + 8 ≤ sizeLine then some z else none
theorem fit_some {z y : Str} (h : fit z = some y) : y = z ∧ z.length + 8 ≤ sizeLine := by
  unfold fit at h
  split at h
  · rename_i hz; cases h; exact ⟨rfl, hz⟩
  · cases h
def reprSc' : T → Option Str
  | .non => some "None"
  | .bl b => some (if b then "True" else "False")
  | .int i => if i.natAbs.log2 < 1920 then some (toString i) else none
  | .str x => fit (reprText x)
  | _ => none
def keyT : Key → T
  | .inl i => .int i
  | .inr x => .str x
mutual
def reprP : Nat → T → Option Str
  | d + 1, .lst xs => (reprPs d xs).bind fun ts => fit (listText ts)
  | d + 1, .tup xs => (reprPs d xs).bind fun ts => fit (tupleText ts)
  | d + 1, .dct ks => (reprPd d ks).bind fun ts => fit (dictText ts)
  | _, t => reprSc' t
def reprPs : Nat → List T → Option (List Str)
  | _, [] => some []
  | d, x :: xs => (reprP d x).bind fun t => (reprPs d xs).map fun ts => t :: ts
def reprPd : Nat → List (Key × T) → Option (List Str)
  | _, [] => some []
  | d, (k, x) :: xs => (reprSc' (keyT k)).bind fun u => (reprP d x).bind fun t => (reprPd d xs).map fun ts => (u ++ ": " ++ t) :: ts
end
section
variable {P : Program} {w : World} {cA : CA} {G0 H : Hp} {h₀ : Heap}
theorem reprSc_ok {t : T} {v : V} {u : Value} {z : Str} (r : Rep cA G0 t v) (rv : RelV v u) (e : reprSc' t = some z) : ReprIs P w u z := by
  cases t with
  | non => unfold Rep at r; subst r; cases e; cases rv; exact ReprIs.none
  | bl b => unfold Rep at r; subst r; cases e; cases rv; exact ReprIs.bool b
  | int i =>
    unfold Rep at r; subst r
    have e : (if i.natAbs.log2 < 1920 then some (toString i : Str) else none) = some z := e
    split at e
    · rename_i hz; cases e; obtain ⟨tk, rfl⟩ := rv; exact ReprIs.int tk hz
    · cases e
  | str x =>
    unfold Rep at r; subst r
    obtain ⟨rfl, hz⟩ := fit_some e
    obtain ⟨tk, rfl⟩ := rv
    exact ReprIs.str x tk (by omega)
  | _ => cases e
theorem key_repr {k : Key} {u : Value} {z : Str} (h : keyIs k u = true) (e : reprSc' (keyT k) = some z) : ReprIs P w u z := by
  rcases keyIs_shape h with ⟨i, t, rfl, rfl⟩ | ⟨x, t, rfl, rfl⟩
  · exact reprSc_ok (cA := ⟨fun _ => 0, fun _ _ => False⟩) (G0 := fun _ => none) (v := .int i) repI ⟨t, rfl⟩ e
  · exact reprSc_ok (cA := ⟨fun _ => 0, fun _ _ => False⟩) (G0 := fun _ => none) (v := .str x) repS ⟨t, rfl⟩ e
/-- where trees no greater than m stand -/
def Ats (cA : CA) (G0 : Hp) (m : Nat) (as : List Addr) : Prop := ∀ b ∈ as, ∃ tb, Rep cA G0 tb (.ref b) ∧ noS tb = true ∧ tsz tb ≤ m
theorem Ats.nil {m : Nat} : Ats cA G0 m [] := fun b h => by cases h
theorem Ats.mono {m m' : Nat} {as : List Addr} (h : Ats cA G0 m as) (hm : m ≤ m') : Ats cA G0 m' as := fun b hb => let ⟨t, h1, h2, h3⟩ := h b hb; ⟨t, h1, h2, by omega⟩
theorem Ats.app {m : Nat} {as bs : List Addr} (h : Ats cA G0 m as) (h' : Ats cA G0 m bs) : Ats cA G0 m (as ++ bs) := fun b hb => by
  rcases List.mem_append.mp hb with q | q
  · exact h b q
  · exact h' b q
theorem Ats.notIn {m : Nat} {as : List Addr} {a : Addr} {t : T} (h : Ats cA G0 m as) (r : Rep cA G0 t (.ref a)) (hno : noS t = true) (hm : m < tsz t) : a ∉ as := fun ha => by
  obtain ⟨tb, h1, h2, h3⟩ := h a ha
  have := sz_eq hno h2 r h1
  omega
theorem Ats.cons {m m' : Nat} {as : List Addr} {a : Addr} {t : T} (h : Ats cA G0 m as) (r : Rep cA G0 t (.ref a)) (hno : noS t = true) (hm : m ≤ m') (ht : tsz t ≤ m') : Ats cA G0 m' (a :: as) := fun b hb => by
  rcases List.mem_cons.mp hb with q | q
  · subst q; exact ⟨t, r, hno, ht⟩
  · exact h.mono hm b q
theorem allK_more {as as' : List Addr} {d : Nat} (hs : ∀ b ∈ as, b ∈ as') : ∀ {us : List Value} {ts : List Str}, ReprAllK P w as h₀ d us ts → ReprAllK P w as' h₀ d us ts
  | _, _, .nil => .nil
  | _, _, .cons h hl => .cons (h.more hs) (allK_more hs hl)
theorem entK_more {as as' : List Addr} {d : Nat} (hs : ∀ b ∈ as, b ∈ as') : ∀ {us : List DictEntry} {ts : List Str}, ReprEntriesK P w as h₀ d us ts → ReprEntriesK P w as' h₀ d us ts
  | _, _, .nil => .nil
  | _, _, .cons h h' hl => .cons (h.more hs) (h'.more hs) (entK_more hs hl)
theorem allK_get {as : List Addr} {d : Nat} : ∀ {us : List Value} {ts : List Str}, ReprAllK P w as h₀ d us ts → ∀ (i : Nat) (y : Value), us[i]? = some y → ∃ t, ts[i]? = some t ∧ ReprK P w as h₀ d y t
  | _, _, .nil, _, _, e => by simp at e
  | _, _, .cons h _, 0, _, e => by simp at e; subst e; exact ⟨_, rfl, h⟩
  | _, _, .cons _ hl, i + 1, y, e => by simpa using allK_get hl i y (by simpa using e)
mutual
theorem reprP_ok (hok : HOk P w H h₀) (sb : Sb G0 H) : ∀ (d : Nat) (t : T) (v : V) (u : Value) (z : Str), Rep cA G0 t v → RelV v u → noS t = true → reprP d t = some z → ∃ as, ReprK P w as h₀ d u z ∧ Ats cA G0 (tsz t) as
  | d + 1, .lst xs, v, u, z, r, rv, hno, e => by
    unfold reprP at e
    rw [Option.bind_eq_some_iff] at e
    obtain ⟨ts, h1, h2⟩ := e
    obtain ⟨rfl, hz⟩ := fit_some h2
    have r2 := r
    unfold Rep at r2
    obtain ⟨a, vs, rfl, hg, rl⟩ := r2
    have eu : u = Value.ref a := rv
    subst eu
    obtain ⟨_, its, n, rvs, ho⟩ : ObjOk P w H h₀ a (.lst vs) := hok a _ (sb _ _ hg)
    obtain ⟨as, hall, hats⟩ := reprPs_ok hok sb d xs vs its ts rl rvs (by unfold noS at hno; exact hno) h1
    cases its with
    | nil =>
      cases hall
      exact ⟨[], ReprK.listEmpty ho rfl rfl, .nil⟩
    | cons y l =>
      refine ⟨a :: as, ReprK.list ho rfl rfl (hats.notIn r hno (by unfold tsz; omega)) ?_ ?_, hats.cons r hno (by unfold tsz; omega) (Nat.le_refl _)⟩
      · simpa using hall.length_eq
      · intro i q hq
        exact allK_get hall i q (by simpa using hq)
  | d + 1, .tup xs, v, u, z, r, rv, hno, e => by
    unfold reprP at e
    rw [Option.bind_eq_some_iff] at e
    obtain ⟨ts, h1, h2⟩ := e
    obtain ⟨rfl, hz⟩ := fit_some h2
    have r2 := r
    unfold Rep at r2
    obtain ⟨a, vs, rfl, hg, rl⟩ := r2
    have eu : u = Value.ref a := rv
    subst eu
    obtain ⟨_, its, rvs, o, ho, hc, n, hd⟩ : ObjOk P w H h₀ a (.tup vs) := hok a _ (sb _ _ hg)
    obtain ⟨as, hall, hats⟩ := reprPs_ok hok sb d xs vs its ts rl rvs (by unfold noS at hno; exact hno) h1
    exact ⟨a :: as, ReprK.tuple ho hc hd (hats.notIn r hno (by unfold tsz; omega)) (by simpa using hall), hats.cons r hno (by unfold tsz; omega) (Nat.le_refl _)⟩
  | d + 1, .dct ks, v, u, z, r, rv, hno, e => by
    unfold reprP at e
    rw [Option.bind_eq_some_iff] at e
    obtain ⟨ts, h1, h2⟩ := e
    obtain ⟨rfl, hz⟩ := fit_some h2
    have r2 := r
    unfold Rep at r2
    obtain ⟨a, kvs, rfl, hg, rl⟩ := r2
    have eu : u = Value.ref a := rv
    subst eu
    obtain ⟨_, hsys, us, hkv, o, es, ep, ho, hx, hd, _, hp, _⟩ : ObjOk P w H h₀ a (.dK kvs) := hok a _ (sb _ _ hg)
    obtain ⟨as, hall, hats⟩ := reprPd_ok hok sb d ks kvs us es.toList ts rl hkv hp (by unfold noS at hno; exact hno) h1
    exact ⟨a :: as, ReprK.dict ho hx.1 hd hsys (hats.notIn r hno (by unfold tsz; omega)) hall, hats.cons r hno (by unfold tsz; omega) (Nat.le_refl _)⟩
  | d, .non, v, u, z, r, rv, hno, e => ⟨[], .of_is (reprSc_ok r rv (by cases d <;> (unfold reprP at e; exact e))) _ _ _, .nil⟩
  | d, .bl b, v, u, z, r, rv, hno, e => ⟨[], .of_is (reprSc_ok r rv (by cases d <;> (unfold reprP at e; exact e))) _ _ _, .nil⟩
  | d, .int b, v, u, z, r, rv, hno, e => ⟨[], .of_is (reprSc_ok r rv (by cases d <;> (unfold reprP at e; exact e))) _ _ _, .nil⟩
  | d, .str b, v, u, z, r, rv, hno, e => ⟨[], .of_is (reprSc_ok r rv (by cases d <;> (unfold reprP at e; exact e))) _ _ _, .nil⟩
  | d, .ty b, v, u, z, r, rv, hno, e => by cases d <;> (unfold reprP at e; cases e)
  | d, .scr b, v, u, z, r, rv, hno, e => by cases hno
  | d, .ins c b, v, u, z, r, rv, hno, e => by cases d <;> (unfold reprP at e; cases e)
  | 0, .lst xs, v, u, z, r, rv, hno, e => by unfold reprP at e; cases e
  | 0, .tup xs, v, u, z, r, rv, hno, e => by unfold reprP at e; cases e
  | 0, .dct xs, v, u, z, r, rv, hno, e => by unfold reprP at e; cases e
theorem reprPs_ok (hok : HOk P w H h₀) (sb : Sb G0 H) : ∀ (d : Nat) (xs : List T) (vs : List V) (us : List Value) (ts : List Str), RepL cA G0 xs vs → Vals vs us → noSL xs = true → reprPs d xs = some ts →
    ∃ as, ReprAllK P w as h₀ d us ts ∧ Ats cA G0 (tszL xs) as
  | d, [], vs, us, ts, r, rv, hno, e => by
    unfold RepL at r; subst r
    cases rv
    unfold reprPs at e; cases e
    exact ⟨[], .nil, .nil⟩
  | d, x :: xs, vs, us, ts, r, rv, hno, e => by
    unfold RepL at r
    obtain ⟨v, rr, rfl, q1, q2⟩ := r
    cases rv with
    | cons ru rs =>
      unfold reprPs at e
      rw [Option.bind_eq_some_iff] at e
      obtain ⟨t, h1, h2⟩ := e
      rw [Option.map_eq_some_iff] at h2
      obtain ⟨ts', h3, rfl⟩ := h2
      unfold noSL at hno
      rw [Bool.and_eq_true] at hno
      obtain ⟨as, a1, a2⟩ := reprP_ok hok sb d x v _ t q1 ru hno.1 h1
      obtain ⟨bs, b1, b2⟩ := reprPs_ok hok sb d xs rr _ ts' q2 rs hno.2 h3
      exact ⟨as ++ bs, .cons (a1.more fun b hb => List.mem_append_left _ hb) (allK_more (fun b hb => List.mem_append_right _ hb) b1), (a2.mono (by simp only [tszL]; omega)).app (b2.mono (by simp only [tszL]; omega))⟩
theorem reprPd_ok (hok : HOk P w H h₀) (sb : Sb G0 H) : ∀ (d : Nat) (xs : List (Key × T)) (vs : List (Key × V)) (us : List (Key × Value)) (es : List DictEntry) (ts : List Str), RepD cA G0 xs vs → KV vs us → Pairs (mixKind P w) es us → noSD xs = true → reprPd d xs = some ts →
    ∃ as, ReprEntriesK P w as h₀ d es ts ∧ Ats cA G0 (tszD xs) as
  | d, [], vs, us, es, ts, r, rv, hp, hno, e => by
    unfold RepD at r; subst r
    cases rv
    cases hp
    unfold reprPd at e; cases e
    exact ⟨[], .nil, .nil⟩
  | d, (k, x) :: xs, vs, us, es, ts, r, rv, hp, hno, e => by
    unfold RepD at r
    obtain ⟨v, rr, rfl, q1, q2⟩ := r
    cases rv with
    | cons ru rs =>
      cases hp with
      | cons hk hv hq =>
        unfold reprPd at e
        rw [Option.bind_eq_some_iff] at e
        obtain ⟨y, h0, e⟩ := e
        rw [Option.bind_eq_some_iff] at e
        obtain ⟨t, h1, h2⟩ := e
        rw [Option.map_eq_some_iff] at h2
        obtain ⟨ts', h3, rfl⟩ := h2
        unfold noSD at hno
        rw [Bool.and_eq_true] at hno
        obtain ⟨ek, ru⟩ := ru
        simp only at ek ru
        subst ek
        obtain ⟨as, a1, a2⟩ := reprP_ok hok sb d x v _ t q1 ru hno.1 h1
        obtain ⟨bs, b1, b2⟩ := reprPd_ok hok sb d xs rr _ _ ts' q2 rs hq hno.2 h3
        refine ⟨as ++ bs, .cons (.of_is (key_repr hk h0) _ _ _) (hv ▸ a1.more fun b hb => List.mem_append_left _ hb) (entK_more (fun b hb => List.mem_append_right _ hb) b1), (a2.mono (by simp only [tszD]; omega)).app (b2.mono (by simp only [tszD]; omega))⟩
end
end
section
variable {X : Cx} {cA : CA} {al : List Addr} {G0 : Hp} {st : L2.St} {sto : Store} {k n d : Nat}
/-- a plain tree's repr, from what stands now -/
theorem rpe_plain {t : T} {v : V} {z : Str} (r : Rep cA G0 t v) (hno : noS t = true) (hn : tsz t ≤ n) (e : reprP d t = some z) : RpE X cA al G0 st sto k n d v z := by
  intro u base rel big A g pins s Q hg hsz ar J q
  have J0 := J
  obtain ⟨G, H, sb, rr, I⟩ := J
  obtain ⟨as, h1, h2⟩ := reprP_ok (P := X.prog) (w := X.w) I.hok (sb.trans rr.sub) d t v u z r rel hno e
  refine h1 base big A g X.xe s Q hg (fun b hb => ?_) (by have := ar.un; omega) (fun _ _ e => e) fun h' tk hk => q _ ?_
  · rintro id v' rest kw hmem rfl
    obtain ⟨tb, t1, t2, t3⟩ := h2 b hb
    rcases hsz id b rest kw hmem with y | ⟨tb', y1, y2, y3⟩
    · have t1' := t1
      cases tb with
      | lst xs => unfold Rep at t1; obtain ⟨_, _, e, g', _⟩ := t1; cases e; rw [y] at g'; cases g'
      | tup xs => unfold Rep at t1; obtain ⟨_, _, e, g', _⟩ := t1; cases e; rw [y] at g'; cases g'
      | dct xs => unfold Rep at t1; obtain ⟨_, _, e, g', _⟩ := t1; cases e; rw [y] at g'; cases g'
      | ins c xs => unfold Rep at t1; obtain ⟨_, _, _, e, g', _⟩ := t1; cases e; rw [y] at g'; cases g'
      | scr xs => cases t2
      | _ => unfold Rep at t1; cases t1
    · have := sz_eq t2 y2 t1 y1
      omega
  · exact ⟨G, H, sb, rr, I.kept (h' := h') (t' := tk) hk⟩
end

/-! ## equal trees, equal stores: decided -/
mutual
def teq : T → T → Bool
  | .non, .non => true
  | .bl a, .bl b => a == b
  | .int a, .int b => decide (a = b)
  | .str a, .str b => decide (a = b)
  | .ty a, .ty b => decide (a = b)
  | .lst a, .lst b => teqL a b
  | .tup a, .tup b => teqL a b
  | .dct a, .dct b => teqD a b
  | .ins c a, .ins d b => decide (c = d) && teqF a b
  | .scr a, .scr b => decide (a = b)
  | _, _ => false
def teqL : List T → List T → Bool
  | [], [] => true
  | x :: xs, y :: ys => teq x y && teqL xs ys
  | _, _ => false
def teqD : List (Key × T) → List (Key × T) → Bool
  | [], [] => true
  | (k, x) :: xs, (j, y) :: ys => decide (k = j) && teq x y && teqD xs ys
  | _, _ => false
def teqF : List (Str × T) → List (Str × T) → Bool
  | [], [] => true
  | (k, x) :: xs, (j, y) :: ys => decide (k = j) && teq x y && teqF xs ys
  | _, _ => false
end
mutual
theorem teq_eq : ∀ {a b : T}, teq a b = true → a = b
  | .non, b, h => by cases b <;> first | rfl | (unfold teq at h; cases h)
  | .bl a, b, h => by cases b <;> first | (unfold teq at h; simp at h; rw [h]) | (unfold teq at h; cases h)
  | .int a, b, h => by cases b <;> first | (unfold teq at h; simp at h; rw [h]) | (unfold teq at h; cases h)
  | .str a, b, h => by cases b <;> first | (unfold teq at h; simp at h; rw [h]) | (unfold teq at h; cases h)
  | .ty a, b, h => by cases b <;> first | (unfold teq at h; simp at h; rw [h]) | (unfold teq at h; cases h)
  | .scr a, b, h => by cases b <;> first | (unfold teq at h; simp at h; rw [h]) | (unfold teq at h; cases h)
  | .lst a, b, h => by cases b <;> first | (unfold teq at h; rw [teqL_eq h]) | (unfold teq at h; cases h)
  | .tup a, b, h => by cases b <;> first | (unfold teq at h; rw [teqL_eq h]) | (unfold teq at h; cases h)
  | .dct a, b, h => by cases b <;> first | (unfold teq at h; rw [teqD_eq h]) | (unfold teq at h; cases h)
  | .ins c a, b, h => by
    cases b with
    | ins d b =>
      unfold teq at h
      rw [Bool.and_eq_true] at h
      rw [of_decide_eq_true h.1, teqF_eq h.2]
    | _ => unfold teq at h; cases h
theorem teqL_eq : ∀ {a b : List T}, teqL a b = true → a = b
  | [], b, h => by
    cases b with
    | nil => rfl
    | cons y ys => unfold teqL at h; cases h
  | x :: xs, b, h => by
    cases b with
    | nil => unfold teqL at h; cases h
    | cons y ys =>
      unfold teqL at h
      rw [Bool.and_eq_true] at h
      rw [teq_eq h.1, teqL_eq h.2]
theorem teqD_eq : ∀ {a b : List (Key × T)}, teqD a b = true → a = b
  | [], b, h => by
    cases b with
    | nil => rfl
    | cons y ys => obtain ⟨k, y⟩ := y; unfold teqD at h; cases h
  | (k, x) :: xs, b, h => by
    cases b with
    | nil => unfold teqD at h; cases h
    | cons y ys =>
      obtain ⟨j, y⟩ := y
      unfold teqD at h
      rw [Bool.and_eq_true, Bool.and_eq_true] at h
      rw [of_decide_eq_true h.1.1, teq_eq h.1.2, teqD_eq h.2]
theorem teqF_eq : ∀ {a b : List (Str × T)}, teqF a b = true → a = b
  | [], b, h => by
    cases b with
    | nil => rfl
    | cons y ys => obtain ⟨k, y⟩ := y; unfold teqF at h; cases h
  | (k, x) :: xs, b, h => by
    cases b with
    | nil => unfold teqF at h; cases h
    | cons y ys =>
      obtain ⟨j, y⟩ := y
      unfold teqF at h
      rw [Bool.and_eq_true, Bool.and_eq_true] at h
      rw [of_decide_eq_true h.1.1, teq_eq h.1.2, teqF_eq h.2]
end
def ceq : Cell → Cell → Bool
  | .lst a, .lst b => teqL a b
  | .dct a, .dct b => teqD a b
  | .ins c a, .ins d b => decide (c = d) && teqF a b
  | .frz a, .frz b => teq a b
  | _, _ => false
theorem ceq_eq {a b : Cell} (h : ceq a b = true) : a = b := by
  unfold ceq at h
  split at h
  · rw [teqL_eq h]
  · rw [teqD_eq h]
  · rw [Bool.and_eq_true] at h
    rw [of_decide_eq_true h.1, teqF_eq h.2]
  · rw [teq_eq h]
  · cases h
def stq : Store → Store → Bool
  | [], [] => true
  | x :: xs, y :: ys => ceq x y && stq xs ys
  | _, _ => false
theorem stq_eq : ∀ {a b : Store}, stq a b = true → a = b
  | [], [], _ => rfl
  | [], _ :: _, h => by unfold stq at h; cases h
  | _ :: _, [], h => by unfold stq at h; cases h
  | x :: xs, y :: ys, h => by
    unfold stq at h
    rw [Bool.and_eq_true] at h
    rw [ceq_eq h.1, stq_eq h.2]
mutual
theorem teq_rfl : ∀ (a : T), teq a a = true
  | .non => by unfold teq; rfl
  | .bl a => by unfold teq; simp
  | .int a => by unfold teq; simp
  | .str a => by unfold teq; simp
  | .ty a => by unfold teq; simp
  | .scr a => by unfold teq; simp
  | .lst a => by unfold teq; exact teqL_rfl a
  | .tup a => by unfold teq; exact teqL_rfl a
  | .dct a => by unfold teq; exact teqD_rfl a
  | .ins c a => by unfold teq; rw [teqF_rfl a]; simp
theorem teqL_rfl : ∀ (a : List T), teqL a a = true
  | [] => by unfold teqL; rfl
  | x :: xs => by unfold teqL; rw [teq_rfl x, teqL_rfl xs]; rfl
theorem teqD_rfl : ∀ (a : List (Key × T)), teqD a a = true
  | [] => by unfold teqD; rfl
  | (k, x) :: xs => by unfold teqD; rw [teq_rfl x, teqD_rfl xs]; simp
theorem teqF_rfl : ∀ (a : List (Str × T)), teqF a a = true
  | [] => by unfold teqF; rfl
  | (k, x) :: xs => by unfold teqF; rw [teq_rfl x, teqF_rfl xs]; simp
end
theorem ceq_rfl (a : Cell) : ceq a a = true := by
  cases a with
  | lst a => exact teqL_rfl a
  | dct a => exact teqD_rfl a
  | ins c a => show (decide (c = c) && teqF a a) = true; rw [teqF_rfl a]; simp
  | frz a => exact teq_rfl a
theorem stq_rfl : ∀ (a : Store), stq a a = true
  | [] => rfl
  | x :: xs => by unfold stq; rw [ceq_rfl x, stq_rfl xs]; rfl

/-! ## what repr tells, as a function of trees -/
/-- an own __repr__ that leaves the store as it is -/
def ownR (cf : CF) (f : Nat) (t : T) (s : Store) : Option Str := match cf f [.t t] s with
  | .ok (.t (.str z)) s' => if stq s' s then some z else none
  | _ => none
mutual
def reprT (D : Defs) (cf : CF) (s : Store) : Nat → T → Option Str
  | d + 1, .lst xs => (reprTs D cf s d xs).bind fun ts => fit (listText ts)
  | d + 1, .tup xs => (reprTs D cf s d xs).bind fun ts => fit (tupleText ts)
  | _ + 1, .ins c fs => (D.rep c).bind fun f => (ownR cf f (.ins c fs) s).bind fit
  | d + 1, .dct ks => reprP (d + 1) (.dct ks)
  | _, t => reprSc' t
def reprTs (D : Defs) (cf : CF) (s : Store) : Nat → List T → Option (List Str)
  | _, [] => some []
  | d, x :: xs => (reprT D cf s d x).bind fun t => (reprTs D cf s d xs).map fun ts => t :: ts
end
section
variable {X : Cx} {cA : CA} {al : List Addr} {G0 : Hp} {st : L2.St} {sto : Store} {k : Nat} {D : Defs} {cf : CF}
/-- what is told of the classes with an own __repr__ -/
def OwnRs (X : Cx) (cA : CA) (D : Defs) (cf : CF) (k : Nat) : Prop := ∀ c i, D.rep c = some i → ∃ f fd ps, PySem.W.findIn X.K (.ref (cA c)) "__repr__" = some (some (.ref f)) ∧ PySem.W.isFn X.K (.ref f) = true ∧
  FnG X.prog X.w X.K X.mg X.base false k f fd ps (spF cA cf i 1) ∧ Binds X.K fd ps [] ∧ ps.length = 1
mutual
theorem reprT_ok (O : OwnRs X cA D cf k) : ∀ (d : Nat) (t : T) (v : V) (z : Str) (n : Nat), Rep cA G0 t v → noS t = true → tsz t ≤ n → reprT D cf sto d t = some z → RpE X cA al G0 st sto k n d v z
  | d, .non, v, z, n, r, hno, hn, h => by
    have r' := r
    unfold Rep at r'; subst r'
    exact rpe_leaf (fun a e => by cases e) fun u ru => reprSc_ok r ru (by cases d <;> (unfold reprT at h; exact h))
  | d, .bl b, v, z, n, r, hno, hn, h => by
    have r' := r
    unfold Rep at r'; subst r'
    exact rpe_leaf (fun a e => by cases e) fun u ru => reprSc_ok r ru (by cases d <;> (unfold reprT at h; exact h))
  | d, .int i, v, z, n, r, hno, hn, h => by
    have r' := r
    unfold Rep at r'; subst r'
    exact rpe_leaf (fun a e => by cases e) fun u ru => reprSc_ok r ru (by cases d <;> (unfold reprT at h; exact h))
  | d, .str x, v, z, n, r, hno, hn, h => by
    have r' := r
    unfold Rep at r'; subst r'
    exact rpe_leaf (fun a e => by cases e) fun u ru => reprSc_ok r ru (by cases d <;> (unfold reprT at h; exact h))
  | 0, .lst xs, v, z, n, r, hno, hn, h => by unfold reprT at h; cases h
  | d + 1, .lst xs, v, z, n, r, hno, hn, h => by
    unfold reprT at h
    rw [Option.bind_eq_some_iff] at h
    obtain ⟨ts, h1, h2⟩ := h
    obtain ⟨rfl, hz⟩ := fit_some h2
    have r2 := r
    unfold Rep at r2
    obtain ⟨a, vs, rfl, hg, rl⟩ := r2
    obtain ⟨hl, hel⟩ := reprTs_ok O d xs vs ts (tszL xs) rl (by unfold noS at hno; exact hno) (Nat.le_refl _) h1
    by_cases hne : vs = []
    · subst hne
      have e : ts = [] := List.length_eq_zero_iff.mp (by simpa using hl)
      subst e
      exact rpe_nil hg
    · exact rpe_list (m := tszL xs) r hno hn (by unfold tsz; omega) hl hne hg (fun _ _ _ => trivial) hel
  | 0, .tup xs, v, z, n, r, hno, hn, h => by unfold reprT at h; cases h
  | d + 1, .tup xs, v, z, n, r, hno, hn, h => by
    unfold reprT at h
    rw [Option.bind_eq_some_iff] at h
    obtain ⟨ts, h1, h2⟩ := h
    obtain ⟨rfl, hz⟩ := fit_some h2
    have r2 := r
    unfold Rep at r2
    obtain ⟨a, vs, rfl, hg, rl⟩ := r2
    obtain ⟨hl, hel⟩ := reprTs_ok O d xs vs ts (tszL xs) rl (by unfold noS at hno; exact hno) (Nat.le_refl _) h1
    exact rpe_tup (m := tszL xs) r hno hn (by unfold tsz; omega) hl hg hel
  | 0, .ins c fs, v, z, n, r, hno, hn, h => by unfold reprT at h; cases h
  | d + 1, .ins c fs, v, z, n, r, hno, hn, h => by
    unfold reprT at h
    rw [Option.bind_eq_some_iff] at h
    obtain ⟨i, h1, h2⟩ := h
    rw [Option.bind_eq_some_iff] at h2
    obtain ⟨y, h3, h4⟩ := h2
    obtain ⟨rfl, hz⟩ := fit_some h4
    obtain ⟨f, fd, ps, q1, q2, q3, q4, q5⟩ := O c i h1
    have r2 := r
    unfold Rep at r2
    obtain ⟨a, dx, gs, rfl, _⟩ := r2
    unfold ownR at h3
    split at h3
    · rename_i y s' e
      split at h3
      · rename_i es
        cases h3
        rw [stq_eq es] at e
        exact rpe_own r q1 q2 q3 q4 q5 e (by omega)
      · cases h3
    · cases h3
  | 0, .dct ks, v, z, n, r, hno, hn, h => by unfold reprT at h; cases h
  | d + 1, .dct ks, v, z, n, r, hno, hn, h => rpe_plain r hno hn (by unfold reprT at h; exact h)
  | d, .ty _, v, z, n, r, hno, hn, h => by cases d <;> (unfold reprT at h; cases h)
  | d, .scr _, v, z, n, r, hno, hn, h => by cases hno
theorem reprTs_ok (O : OwnRs X cA D cf k) : ∀ (d : Nat) (xs : List T) (vs : List V) (ts : List Str) (n : Nat), RepL cA G0 xs vs → noSL xs = true → tszL xs ≤ n → reprTs D cf sto d xs = some ts →
    ts.length = vs.length ∧ ∀ (i : Nat) (v : V), vs[i]? = some v → ∃ t, ts[i]? = some t ∧ RpE X cA al G0 st sto k n d v t
  | d, [], vs, ts, n, r, hno, hn, h => by
    unfold RepL at r; subst r
    unfold reprTs at h; cases h
    exact ⟨rfl, fun i v h => by simp at h⟩
  | d, x :: xs, vs, ts, n, r, hno, hn, h => by
    unfold RepL at r
    obtain ⟨v, rr, rfl, q1, q2⟩ := r
    unfold reprTs at h
    rw [Option.bind_eq_some_iff] at h
    obtain ⟨t, h1, h2⟩ := h
    rw [Option.map_eq_some_iff] at h2
    obtain ⟨ts', h3, rfl⟩ := h2
    unfold noSL at hno
    rw [Bool.and_eq_true] at hno
    unfold tszL at hn
    have e1 := reprT_ok O d x v t n q1 hno.1 (by omega) h1
    obtain ⟨e2, e3⟩ := reprTs_ok O d xs rr ts' n q2 hno.2 (by omega) h3
    refine ⟨by simp [e2], fun i v' hv => ?_⟩
    cases i with
    | zero => simp at hv; subst hv; exact ⟨t, rfl, e1⟩
    | succ i => simpa using e3 i v' (by simpa using hv)
end
end
end Tw
set_option maxHeartbeats 4000000
namespace Tw
open PySem PySem.Spec PyProof.Rows L2 PySem.Builtin PySem.W
section
variable {X : Cx} {cA : CA} {al : List Addr} {G0 : Hp} {st : L2.St} {sto : Store} {k : Nat} {D : Defs} {cf : CF}
/-- repr's own call upon a tree -/
def RpTop (X : Cx) (cA : CA) (al : List Addr) (G0 : Hp) (st : L2.St) (sto : Store) (k d : Nat) (v : V) (t : Str) : Prop := ∀ (u : Value) (A : Around) (pins : List (Addr × Obj)) (s : Shared) (Q : Value → Shared → Prop), RelV v u → A.guards = some [] →
  ArOk X k (d + 2) A → Jr X cA al G0 st sto pins s → (∀ s' tk, Jr X cA al G0 st sto pins s' → Q (.str t tk) s') → wpAny (model X.prog X.w) A (call (.builtin "repr") [u]) Q X.xe s
theorem ArOk.in1 {d : Nat} {A : Around} (ar : ArOk X k (d + 1) A) : ArOk X k d A.in1 :=
  ⟨ar.fr, ar.hd, by have := ar.dp; show A.depth + d + 3 * k + 5 < _; omega, by have := ar.un; show A.units + 1 + d + 16 * k + 200 < _; omega⟩
theorem Sz.nil {n : Nat} : Sz cA G0 n [] := fun _ _ _ _ h => by cases h
theorem top_scal {t : T} {v : V} {z : Str} {d : Nat} (r : Rep cA G0 t v) (e : reprSc' t = some z) : RpTop X cA al G0 st sto k d v z := by
  intro u A pins s Q rv hg ar J q
  cases t with
  | non => unfold Rep at r; subst r; cases e; cases rv; exact P.repr_of_none (q _ _ J.tok)
  | bl b => unfold Rep at r; subst r; cases e; cases rv; exact P.repr_of_bool (q _ _ J.tok)
  | int i =>
    unfold Rep at r; subst r
    have e : (if i.natAbs.log2 < 1920 then some (toString i : Str) else none) = some z := e
    split at e
    · rename_i hz; cases e; obtain ⟨tk, rfl⟩ := rv; exact P.repr_of_int hz (q _ _ J.tok)
    · cases e
  | str x =>
    unfold Rep at r; subst r
    obtain ⟨rfl, hz⟩ := fit_some e
    obtain ⟨tk, rfl⟩ := rv
    exact P.repr_of_str (q _ _ J.tok) (by omega)
  | _ => cases e
theorem top_own {a f : Addr} {fd : FuncData} {ps : List Str} {i c d : Nat} {fs : List (Str × T)} {z : Str} (hr : Rep cA G0 (.ins c fs) (.ref a)) (hs : PySem.W.findIn X.K (.ref (cA c)) "__repr__" = some (some (.ref f))) (hf : PySem.W.isFn X.K (.ref f) = true)
    (F : FnG X.prog X.w X.K X.mg X.base false k f fd ps (spF cA cf i 1)) (hb : Binds X.K fd ps []) (hps : ps.length = 1) (e : cf i [.t (.ins c fs)] sto = .ok (.t (.str z)) sto) : RpTop X cA al G0 st sto k d (.ref a) z := by
  intro u A pins s Q rel hg ar J q
  have eu : u = Value.ref a := rel
  subst eu
  obtain ⟨G, H, sb, r, I⟩ := J
  have hr' := Rep.mono sb hr
  have hr2 := hr'
  unfold Rep at hr2
  obtain ⟨a', dx, gs, ea, hG, _⟩ := hr2
  cases ea
  have hH := r.sub _ _ hG
  obtain ⟨mA, O, _, _, _, _⟩ := ins_get I.hok hH
  obtain ⟨od, IA, _⟩ := O.look
  have ar1 : ArOk X k d A.in1 := ArOk.in1 ⟨ar.fr, ar.hd, by have := ar.dp; omega, by have := ar.un; omega⟩
  refine Calls.call_function_entry PySem.F.kind_repr PySem.F.plain_repr PySem.F.entry_repr (PySem.F.args_repr1 _) ?_
  unfold Builtin.«repr»
  refine wpAny_bind (m := oneArg "repr" _) (wpAny_pure ?_)
  refine wpAny_bind (wpAny_cRoomFor (by have := ar.un; show A.units + 1 < _; omega) ?_)
  refine wpAny_bind (wpAny_bind (IA.type.here ((looks_findIn I.kIn hs).here ?_)))
  show wpAny _ _ (if (some (Value.ref f)).isNone = true then _ else _) _ _ _
  rw [if_neg (by simp)]
  have room : Room k A.in1 := ⟨ar1.hd, by have := ar1.dp; omega, by have := ar1.un; omega⟩
  have env0 : Env0 X.prog X.w X.K X.mg X.base A.in1 X.stack s H := by
    have z0 := I.env0
    exact ⟨by rw [ar1.fr]; exact z0.frames, z0.mod, z0.bs, z0.bsz, z0.funs, z0.frf, z0.hok, z0.bare⟩
  have go := F.run A.in1 X.stack s H ⟨[.ref a], []⟩ [.ref a] [.ref a] (fun v H' => v = .str z ∧ ∃ G', Sb G0 G' ∧ Rl cA al G' sto H') (fun _ _ _ => False) room (fun h => by cases h) env0 (hb s [.ref a] I.kIn (by simpa using hps.symm)) (.cons rfl .nil)
    ⟨al, G, [.t (.ins c fs)], sto, r, ⟨.ref a, [], rfl, hr', rfl⟩, rfl, by
      rw [e]
      intro al' G' H' v x r' rv
      refine ⟨by unfold RepV Rep at rv; exact rv, G', sb.trans x.sub, ?_⟩
      obtain ⟨⟨l, el⟩, _⟩ := x
      have h1 := r.len
      have h2 := r'.len
      subst el
      rw [List.length_append] at h2
      have e0 : l = [] := List.length_eq_zero_iff.mp (by omega)
      subst e0
      rw [List.append_nil] at r'
      exact r'⟩
  refine wpAny_bind (m := callSpecialIfBound? (.ref a) (Str.ofString "__repr__") _) (ifBound_K I.kIn IA hs hf (wpAny_mono (Q := StrBack fun x s' => ∃ tk, x = .str z tk ∧ Jr X cA al G0 st sto pins s') (wpAny_call (codeAny_mono go fun res s3 hres => ?_)) (fun r' s' hr => ?_) fun _ _ y => y))
  · match res, hres with
    | .error er, ⟨_, _, _, _, _, _, _, _, _, _, _, _, zz⟩ => exact zz.elim
    | .ok (.ret uu), hres =>
      obtain ⟨v, H2, I2, rv, ev, G2, sb2, r2⟩ := I.after hres
      subst ev
      obtain ⟨t, et⟩ := rv
      subst et
      exact ⟨t, rfl, G2, H2, sb2, r2, I2⟩
    | .ok .next, hres => exact hres.elim
    | .ok .brk, hres => exact hres.elim
    | .ok .cont, hres => exact hres.elim
  · cases r' <;> first | exact hr.elim | skip
    obtain ⟨tk, ez, j⟩ := hr
    rw [ez]
    refine wpAny_bind (wpAny_isInstance (typeIs_str _ _ _) isSubtype_str_str ?_)
    exact wpAny_pure ⟨_, rfl, q _ _ j⟩
theorem top_list {a : Addr} {vs : List V} {ts : List Str} {m d : Nat} {xs : List T} (hr : Rep cA G0 (.lst xs) (.ref a)) (hno : noS (.lst xs) = true) (hm : m < tsz (.lst xs)) (hlen : ts.length = vs.length) (hv : G0 a = some (.lst vs)) (hz : (listText ts).length ≤ sizeLine)
    (hT : ∀ (i : Nat) (v : V), vs[i]? = some v → ∃ t, ts[i]? = some t ∧ RpE X cA al G0 st sto k m d v t) : RpTop X cA al G0 st sto k d (.ref a) (listText ts) := by
  intro u A pins s Q rel hg ar J q
  have eu : u = Value.ref a := rel
  subst eu
  have at_a : ∀ s pins, Jr X cA al G0 st sto pins s → ∃ o its c, s.heap.get? a = some o ∧ o.cls = .type "list" ∧ o.dict = none ∧ o.data = .seq its c ∧ Vals vs its.toList := by
    rintro s pins ⟨G, H, sb, r, I⟩
    obtain ⟨its, c, rv, ho, hz⟩ := I.lst (r.sub _ _ (sb _ _ hv))
    exact ⟨_, its.toArray, _, ho, rfl, rfl, rfl, by simpa using rv⟩
  obtain ⟨o, its, c, ho, hc, hdn, hd, rv⟩ := at_a s pins J
  have ty : s.TypeIs (.ref a) "list" := ⟨o, ho, hc⟩
  refine call_repr_slot (by have := ar.un; omega) ty PySem.F.slot_list_repr.toG ?_
  by_cases hne : vs = []
  · subst hne
    have e : ts = [] := List.length_eq_zero_iff.mp (by simpa using hlen)
    subst e
    have e2 : its = #[] := by
      have := rv.length
      simp at this
      exact Array.eq_empty_of_size_eq_zero this.symm
    subst e2
    exact call_list_repr_empty ty ho hd ⟨_, _, rfl, q _ _ J.tok⟩
  · refine wpAny_call (codeAny_call_builtin PySem.F.slot_list_repr.plain PySem.F.entry_list_repr (PySem.F.slot_list_repr.check _ _ _ _ _ _ _ _ ty (PySem.F.args_list_repr_1 _) ?_))
    refine list_at (g := []) (n := m + 1) (m := m) (base := 0) (A := A.in1) (R := callEnd _ _) hg Sz.nil (by omega) (.inr ⟨_, hr, hno, hm⟩) (fun _ _ _ _ h => by cases h) (d := d) (ArOk.in1 ar) hlen hne (fun e s h => h) (fun s pins j => by
      obtain ⟨o, its, c, h1, _, _, h2, h3⟩ := at_a s pins j
      exact ⟨o, its, c, h1, h2, h3⟩) hT (by omega) J fun s' u j => ⟨_, _, rfl, q s' _ j⟩
theorem top_tup {a : Addr} {vs : List V} {ts : List Str} {m d : Nat} {xs : List T} (hr : Rep cA G0 (.tup xs) (.ref a)) (hno : noS (.tup xs) = true) (hm : m < tsz (.tup xs)) (hlen : ts.length = vs.length) (hv : G0 a = some (.tup vs)) (whole : (tupleText ts).length ≤ sizeLine)
    (hT : ∀ (i : Nat) (v : V), vs[i]? = some v → ∃ t, ts[i]? = some t ∧ RpE X cA al G0 st sto k m d v t) : RpTop X cA al G0 st sto k d (.ref a) (tupleText ts) := by
  intro u A pins s Q rel hg ar J q
  have eu : u = Value.ref a := rel
  subst eu
  obtain ⟨its, c, o, ho, hc, hd, rv⟩ : ∃ its c o, s.heap.get? a = some o ∧ o.cls = .type "tuple" ∧ o.data = .seq its c ∧ Vals vs its.toList := by
    obtain ⟨G, H, sb, r, I⟩ := J
    have hh := r.sub _ _ (sb _ _ hv)
    obtain ⟨its, rv, ⟨o, h1, h2, c, h3⟩, hz⟩ := I.tuple (L2.SqT.of hh)
    exact ⟨its.toArray, c, o, h1, h2, h3, by simpa using rv⟩
  have ty : s.TypeIs (.ref a) "tuple" := ⟨o, ho, hc⟩
  have hits : ts.length = its.size := by have := rv.length; simp at this; omega
  have most := piled_le_tupleText ts
  refine call_repr_slot (by have := ar.un; omega) ty PySem.F.slot_tuple_repr ?_
  refine wpAny_call (codeAny_call_builtin_own (Code.quiet_builtin _ (by decide +kernel)) PySem.F.entry_tuple_repr (PySem.F.slot_tuple_repr.check _ _ _ _ _ _ _ _ ty (PySem.F.args_tuple_repr_1 _) ?_))
  show wpOwn _ _ _ (tupleReprAt 0 ⟨[.ref a], []⟩) _ _ s
  rw [tuple_repr_tree, tupleReprUnderWay_eq]
  refine wpOwn_bind (wpOwn_stackTailAny hg (tupGuardF_off _) (tupGuardF_pos _) ?_)
  refine wpOwn_of_wpAny ?_
  show wpAny _ _ (tupleReprRest 0 (.ref a)) _ _ s
  unfold tupleReprRest Builtin.Tuple.tupleItemsOf
  refine wpAny_bind (wpAny_bind (wpAny_seqItems ho hd (wpAny_pure ?_)))
  rw [← Array.forIn_toList]
  refine wpAny_bind (tup_fold (m := m) (guards_under_guard (A := A.in1) (isGuard_tuple_repr _) (show A.in1.guards = some [] from hg)) (Sz.cons (n := m) Sz.nil (Nat.le_refl _) (.inr ⟨_, hr, hno, hm⟩)) (ArOk.guard ?_ (units_under_tuple_repr A.in1 _) ?_ (ArOk.in1 ar)) its.toList vs ts #[] 0 s _ rv hlen hT (by omega) J fun s' J' => ?_)
  · first | rfl | decide +kernel | simp [Code.weight, isGuard_tuple_repr, Code.frames, Code.isFrame, Code.isCreation, Code.isCaller]
  · first | rfl | simp [Code.envs, Code.isFrame]
  · refine wpAny_bind (wpAny_mkStr (wpAny_pure ?_) (by simpa [tupleText, hits] using whole))
    have z := q _ s'.toks (J'.tok (t := s'.toks + 1))
    have e : ∀ Y : Str, Y = tupleText ts → callEnd (fun r s₁ => ∃ x t, r = Value.str x t ∧ Q r s₁) X.xe (.ok (.ret (.str Y s'.toks))) { s' with toks := s'.toks + 1 } := fun Y h => by
      subst h; exact ⟨_, _, rfl, z⟩
    refine e _ ?_
    simp [tupleText, hits]
theorem top_dct {a : Addr} {d : Nat} {ks : List (Key × T)} {z : Str} (r : Rep cA G0 (.dct ks) (.ref a)) (hno : noS (.dct ks) = true) (e : reprP (d + 1) (.dct ks) = some z) : RpTop X cA al G0 st sto k d (.ref a) z := by
  intro u A pins s Q rel hg ar J q
  have eu : u = Value.ref a := rel
  subst eu
  have J0 := J
  obtain ⟨G, H, sb, rr, I⟩ := J
  unfold reprP at e
  rw [Option.bind_eq_some_iff] at e
  obtain ⟨ts, h1, h2⟩ := e
  obtain ⟨rfl, hz⟩ := fit_some h2
  have r2 := r
  unfold Rep at r2
  obtain ⟨a', kvs, ea, hv, rl⟩ := r2
  cases ea
  obtain ⟨_, hsys, us, hkv, o, es, ep, ho, hx, hd, _, hp, _⟩ : ObjOk X.prog X.w H s.heap a (.dK kvs) := I.hok a _ (rr.sub _ _ (sb _ _ hv))
  obtain ⟨as, hall, hats⟩ := reprPd_ok (P := X.prog) (w := X.w) I.hok (sb.trans rr.sub) d ks kvs us es.toList ts rl hkv hp (by unfold noS at hno; exact hno) h1
  have ty : s.TypeIs (.ref a) "dict" := ⟨o, ho, hx.1⟩
  refine call_repr_slot (by have := ar.un; omega) ty PySem.F.slot_dict_repr ?_
  exact call_dict_reprK ho hx.1 hd hsys (hats.notIn r hno (by unfold tsz; omega)) hall hg (fun b _ => Clear.nil b) (by have := ar.un; show A.units + 1 + (d + 1) < _; omega) (fun _ _ e => e) (fun h' u tk hk => ⟨_, _, rfl, q _ _ ⟨G, H, sb, rr, I.kept (h' := h') (t' := tk) hk⟩⟩) (by omega)
/-- repr of a tree -/
theorem reprT_top (O : OwnRs X cA D cf k) {d : Nat} {t : T} {v : V} {z : Str} (r : Rep cA G0 t v) (hno : noS t = true) (h : reprT D cf sto (d + 1) t = some z) : RpTop X cA al G0 st sto k d v z := by
  cases t with
  | non => exact top_scal r (by unfold reprT at h; exact h)
  | bl b => exact top_scal r (by unfold reprT at h; exact h)
  | int b => exact top_scal r (by unfold reprT at h; exact h)
  | str b => exact top_scal r (by unfold reprT at h; exact h)
  | ty b => unfold reprT at h; cases h
  | scr b => cases hno
  | lst xs =>
    unfold reprT at h
    rw [Option.bind_eq_some_iff] at h
    obtain ⟨ts, h1, h2⟩ := h
    obtain ⟨rfl, hz⟩ := fit_some h2
    have r2 := r
    unfold Rep at r2
    obtain ⟨a, vs, rfl, hg, rl⟩ := r2
    obtain ⟨hl, hel⟩ := reprTs_ok O d xs vs ts (tszL xs) rl (by unfold noS at hno; exact hno) (Nat.le_refl _) h1
    exact top_list (m := tszL xs) r hno (by unfold tsz; omega) hl hg (by omega) hel
  | tup xs =>
    unfold reprT at h
    rw [Option.bind_eq_some_iff] at h
    obtain ⟨ts, h1, h2⟩ := h
    obtain ⟨rfl, hz⟩ := fit_some h2
    have r2 := r
    unfold Rep at r2
    obtain ⟨a, vs, rfl, hg, rl⟩ := r2
    obtain ⟨hl, hel⟩ := reprTs_ok O d xs vs ts (tszL xs) rl (by unfold noS at hno; exact hno) (Nat.le_refl _) h1
    exact top_tup (m := tszL xs) r hno (by unfold tsz; omega) hl hg (by omega) hel
  | dct ks =>
    have r2 := r
    unfold Rep at r2
    obtain ⟨a, kvs, rfl, _⟩ := r2
    exact top_dct r hno (by unfold reprT at h; exact h)
  | ins c fs =>
    unfold reprT at h
    rw [Option.bind_eq_some_iff] at h
    obtain ⟨i, h1, h2⟩ := h
    rw [Option.bind_eq_some_iff] at h2
    obtain ⟨y, h3, h4⟩ := h2
    obtain ⟨rfl, hz⟩ := fit_some h4
    obtain ⟨f, fd, ps, q1, q2, q3, q4, q5⟩ := O c i h1
    have r2 := r
    unfold Rep at r2
    obtain ⟨a, dx, gs, rfl, _⟩ := r2
    unfold ownR at h3
    split at h3
    · rename_i y s' e
      split at h3
      · rename_i es
        cases h3
        rw [stq_eq es] at e
        exact top_own r q1 q2 q3 q4 q5 e
      · cases h3
    · cases h3
/-- repr, as the rules ask for it -/
def rpT (D : Defs) (cf : CF) (d : Nat) (s : Store) (t : T) : Out Str := if noS t then ofO s (reprT D cf s (d + 1) t) else .bad
theorem call_repr (O : OwnRs X cA D cf k) {d B : Nat} (hr : Room (B + 1) X.A) (hB : k + d ≤ B) (hg : X.A.guards = some []) : CallR X (.builtin "repr") (rRp cA (rpT D cf d)) := by
  intro pins s st H xs us Q I rv h
  obtain ⟨al, G, sto, t, v, z, s', rfl, rl, rp, e, q⟩ := h
  unfold rpT at e
  split at e
  · rename_i hno
    cases hz : reprT D cf sto (d + 1) t with
    | none => rw [hz] at e; cases e
    | some y =>
      rw [hz] at e
      cases e
      cases rv with
      | cons ru rn =>
        cases rn
        refine reprT_top (al := al) (st := st) O rp hno hz _ X.A pins s _ ru hg ⟨rfl, hr.hd, by have := hr.dp; omega, by have := hr.un; omega⟩ ⟨G, H, Sb.rfl', rl, I⟩ fun s1 tk j => ?_
        obtain ⟨G1, H1, sb, r1, I1⟩ := j
        exact ⟨.str z, H1, I1, ⟨tk, rfl⟩, q G1 H1 sb r1⟩
  · cases e
end
end Tw
set_option maxHeartbeats 4000000
namespace Tw
open PySem PySem.Spec PyProof.Rows L2
/-! ## a program as data -/
structure FI where
  id : Nat
  nm : Str
  /-- the class whose method it is -/
  cl : Option Nat
  N : List Str
  np : Nat
  st : Stmt
  body : S
  /-- it calls repr -/
  rp : Bool := false
  dfl : List T := []
structure CI where
  id : Nat
  nm : Str
  flds : List Str := []
  om : List (Str × Nat) := []
  ini : Option Nat := none
  rep : Option Nat := none
  pr : List (Str × Nat) := []
  own : Bool := false
  sup : List Nat := []
  /-- instances are made -/
  ins : Bool := false
structure Pg where
  fs : List FI
  cs : List CI
  gi : List (Str × Int)
  gcd : List Blt
  kws : List (Nat × List Str × List Nat)
  bt : List String
def FI.ps (i : FI) : List Str := i.N.take i.np
namespace Pg
variable (p : Pg)
/-- the def, the class of a number -/
def fa (f : Nat) : Option FI := p.fs.find? fun i => Nat.beq i.id f
def ca (c : Nat) : Option CI := p.cs.find? fun i => Nat.beq i.id c
def cnmD (c : Nat) : Str := match p.ca c with | some i => i.nm | none => Str.empty
def kitD (c : CR) (t : T) : Bool := (match c with | .ty n => p.bt.contains n && !(n == "object") | .cl d => (p.ca d).isSome) && (match t with
  | .ty _ => false
  | .scr _ => false
  | .ins d _ => (match p.ca d with | some i => i.ins | none => false)
  | _ => true)
def D (b : Bool) : Defs where
  fn f := (p.fa f).map fun i => ⟨i.np, i.N.length, if b || !i.rp then i.body else .junk⟩
  om c m := (p.ca c).bind fun i => i.om.lookup m
  fld c f := match p.ca c with | some i => i.flds.contains f | none => false
  sub a c := match p.ca a with | some i => i.sup.contains c | none => false
  ini c := (p.ca c).bind (·.ini)
  exf _ := none
  rep c := (p.ca c).bind (·.rep)
  pr c m := (p.ca c).bind fun i => i.pr.lookup m
  dfl f := match p.fa f with | some i => i.dfl | none => []
  kit := p.kitD
  cls c := match p.ca c with | some i => i.ins | none => false
  own c := match p.ca c with | some i => i.own | none => false
def M (b : Bool) : Nms where
  fnm f := (p.fa f).bind fun i => if i.cl.isNone then some i.nm else none
  cnm c := (p.ca c).map (·.nm)
  gint x := p.gi.lookup x
  gcd b := p.gcd.contains b
  gd := b
  kws f ks pm := p.kws.any fun q => decide (q.1 = f) && (decide (q.2.1 = ks) && decide (q.2.2 = pm))
/-! ### where it stands -/
variable (K : PySem.W.Frag)
def cAf (c : Nat) : Addr := He.ga K (p.cnmD c)
def cA : CA := ⟨p.cAf K, fun a ns => ∀ H, SqL K H a (ns.map V.int)⟩
def at_ (i : FI) : Str × Option Str := match i.cl with
  | none => (i.nm, none)
  | some c => (p.cnmD c, some i.nm)
def qual (i : FI) : Str := match i.cl with
  | none => i.nm
  | some c => p.cnmD c ++ "." ++ i.nm
def fA (f : Nat) : Addr := match p.fa f with
  | some i => He.fAd K (p.at_ i)
  | none => 0
def fdA (f : Nat) : FuncData := match K.lookup (p.fA K f) with
  | some ⟨_, _, .func fd, _⟩ => fd
  | _ => PySem.W.fnOf "" "" ⟨[], [], none, [], [], none, []⟩ [] ⟨.function, [], false, false, []⟩ .none .none .none .none none .none .none
def psA (f : Nat) : List Str := match p.fa f with
  | some i => i.ps
  | none => []
def fval (i : FI) : He.FnW := some (i.nm, p.qual i, defArgs i.st, .stmts (defBody i.st), defScope i.st, mainGlobals, [], builtinsNs)
def cV : T → V
  | .bl b => .bl b
  | .int i => .int i
  | .str x => .str x
  | _ => .non
def isC : T → Bool
  | .bl _ => true | .int _ => true | .str _ => true | .non => true | _ => false
/-! ### the facts, decided -/
open He in
def fnOkB (i : FI) : Bool := (match K.lookup (fAd K (p.at_ i)) with
  | some ⟨_, _, .func fd, _⟩ => PySem.W.codeIn K fd.code (p.qual i) && (dflB K fd.defaults (i.dfl.map cV) && i.dfl.all isC)
  | _ => false) && (match i.cl with
  | none => eqO (PySem.W.nsIn K mainGlobals i.nm) (some (some (.ref (ga K i.nm)))) && PySem.W.keepIn K (.ref (ga K i.nm))
  | some _ => true)
open He in
def methB (C : Addr) (m : Str) (f : Addr) : Bool := eqO (PySem.W.findIn K (.ref C) m) (some (some (.ref f))) && (PySem.W.isFn K (.ref f) && PySem.W.keepIn K (.ref f))
open He in
def insB (C : Addr) : Bool := eqO (PySem.W.findIn K (.ref C) "__class__") (some (some (.builtin "object.__class__"))) && (eqO (PySem.W.specialIn K (.builtin "object.__class__") "__get__") (some (some (.builtin "getset_descriptor.__get__"))) &&
  (decide (PySem.W.takesIn K (.builtin "object.__class__") = some true) && decide (PySem.W.mroIn K C (.type "object") = some true)))
open He in
def clOkB (i : CI) : Bool := eqO (PySem.W.nsIn K mainGlobals i.nm) (some (some (.ref (ga K i.nm)))) && (!i.ins || ((Fa.cls i.nm).ok K && ((i.flds.all fun f => (Fa.noat i.nm f).ok K) && ((i.om.all fun q => methB K (ga K i.nm) q.1 (p.fA K q.2)) &&
  ((match i.ini with | none => true | some f => PySem.W.makesIn K (ga K i.nm) && methB K (ga K i.nm) "__init__" (p.fA K f)) && (PySem.W.keepIn K (.ref (ga K i.nm)) && ((match i.rep with | none => true | some f => methB K (ga K i.nm) "__repr__" (p.fA K f)) &&
  insB K (ga K i.nm))))))))
def tvs : List (T × Value) := [(.non, .type "NoneType"), (.bl true, .type "bool"), (.int 0, .type "int"), (.str Str.empty, .type "str"), (.lst [], .type "list"), (.tup [], .type "tuple"), (.dct [], .type "dict")]
def crs : List CR := (p.bt.filter fun n => !(n == "object")).map .ty ++ p.cs.map fun i => .cl i.id
def tts : List T := [.non, .bl true, .int 0, .str Str.empty, .lst [], .tup [], .dct []] ++ (p.cs.filter fun i => i.ins).map fun i => .ins i.id []
def kitB (b : Bool) : Bool := p.crs.all fun c => p.tts.all fun t => decide (PySem.W.kitOne K (tyT (p.cA K) t) (crU (p.cA K) c) = some (isiP (p.D b).sub c t))
def refB : Option (Option Value) → Bool
  | some (some (.ref _)) => true
  | _ => false
def noneOrRef : Option (Option Value) → Bool
  | some none => true
  | some (some (.ref _)) => true
  | _ => false
open He in
/-- own operators -/
def ownB (nm : Str) (C : Addr) : Bool := (Fa.cls nm).ok K && (PySem.W.selfFirst K C && ((["add", "sub", "mul"].all fun n => (!refB (PySem.W.findIn K (.ref C) (dunderR n)) || refB (PySem.W.findIn K (.ref C) (PySem.dunder n))) &&
  (noneOrRef (PySem.W.findIn K (.ref C) (dunderR n)) && ((PySem.W.findIn K (.type "int") (PySem.dunder n)).isSome && (PySem.W.findIn K (.type "int") (dunderR n)).isSome))) &&
  ((["int", "list", "tuple", "str", "bool", "NoneType"].all fun T => decide (PySem.W.subIn K (.type T) (.ref C) = some false)) && (decide (PySem.W.mroIn K C (.type "int") = some false) &&
  (eqO (PySem.W.findIn K (.ref C) "__ne__") (some (some (.builtin "object.__ne__"))) && decide (PySem.W.mroIn K C (.type "object") = some true))))))
open He in
/-- a property -/
def propB (C : Addr) (f : Str) (g : Addr) : Bool := match PySem.W.findIn K (.ref C) f with
  | some (some (.ref q)) => eqO (PySem.W.specialIn K (.ref q) "__get__") (some (some (.builtin "property.__get__"))) && (decide (PySem.W.takesIn K (.ref q) = some true) && (match PySem.W.recIn K q "property" with
    | some (v :: _) => decide (v = .ref g)
    | _ => false))
  | _ => false
open He in
def chk : Bool := (bnames.all fun x => eqO (PySem.W.nsIn K mainGlobals x) (some none)) && ((p.gi.all fun q => (Fa.int q.1 q.2).ok K) && ((p.gcd.all fun b => eqO (PySem.W.nsIn K mainGlobals (bltNm b)) (some (some (bltV b)))) &&
  ((p.cs.all fun i => p.clOkB K i) && ((p.fs.all fun i => p.fnOkB K i) && (p.kitB K true && (p.cs.all fun i => (!i.own || ownB K i.nm (ga K i.nm)) && (i.pr.isEmpty || ((Fa.cls i.nm).ok K && i.pr.all fun q => propB K (ga K i.nm) q.1 (p.fA K q.2)))))))))
end Pg
/-! ### what the text itself says -/
/-- of a def -/
structure FiOk (p : Pg) (fw : Nat) (i : FI) : Prop where
  sc : FnScope i.N i.ps (defScope i.st)
  np : i.ps.length = i.np
  bd : i.dfl = [] → ∀ (kV doc pm : Value) (an : Option Addr) (cdv ct : Value) (us : List Value), us.length = i.np → bindArgs (PySem.W.fnOf i.nm (p.qual i) (defArgs i.st) (defBody i.st) (defScope i.st) .none kV doc pm an cdv ct) ⟨us, []⟩ = pure (i.ps.zip us)
  dd : i.dfl ≠ [] → ∀ n, n ≤ i.dfl.length → n ≤ i.np ∧ ∀ (T : Addr) (kV doc pm : Value) (an : Option Addr) (cdv ct : Value) (us its : List Value), us.length = i.np - n → its.length = i.dfl.length →
    ∃ k, bindArgs (PySem.W.fnOf i.nm (p.qual i) (defArgs i.st) (defBody i.st) (defScope i.st) (.ref T) kV doc pm an cdv ct) ⟨us, []⟩ = seqItems? (.ref T) >>= k ∧ k (some its.toArray) = pure (i.ps.zip (us ++ its.drop (i.dfl.length - n)))
  body : ∀ (b : Bool) (cA : CA) (fA : Nat → Addr) (fdA : Nat → FuncData) (psA : Nat → List Str) (k : Nat) (cf : CF) (rp : Store → T → Out Str), Kb ⟨p.D b, p.M b, cA, fA, fdA, psA, k, cf, rp, fw⟩ i.N (defScope i.st) (defBody i.st) (if b || !i.rp then i.body else .junk)
/-- of a call by keywords alone -/
def KwOk (p : Pg) (q : Nat × List Str × List Nat) : Prop := ∀ i, p.fa q.1 = some i → q.2.2.length = i.np ∧ (i.dfl = [] → ∀ (kV doc pm : Value) (an : Option Addr) (cdv ct : Value) (ws zs : List Value), ws.length = q.2.1.length → pick q.2.2 ws = some zs →
  bindArgs (PySem.W.fnOf i.nm (p.qual i) (defArgs i.st) (defBody i.st) (defScope i.st) .none kV doc pm an cdv ct) ⟨[], q.2.1.zip ws⟩ = pure (i.ps.zip zs)) ∧
  (i.dfl ≠ [] → ∀ (T : Addr) (kV doc pm : Value) (an : Option Addr) (cdv ct : Value) (ws zs its : List Value), ws.length = q.2.1.length → pick q.2.2 ws = some zs → its.length = i.dfl.length →
  ∃ k, bindArgs (PySem.W.fnOf i.nm (p.qual i) (defArgs i.st) (defBody i.st) (defScope i.st) (.ref T) kV doc pm an cdv ct) ⟨[], q.2.1.zip ws⟩ = seqItems? (.ref T) >>= k ∧ k (some its.toArray) = pure (i.ps.zip zs))
theorem Pg.fa_mem {p : Pg} {f : Nat} {i : FI} (e : p.fa f = some i) : i ∈ p.fs := List.mem_of_find?_eq_some e
theorem Pg.ca_mem {p : Pg} {f : Nat} {i : CI} (e : p.ca f = some i) : i ∈ p.cs := List.mem_of_find?_eq_some e
theorem Pg.ca_id {p : Pg} {c : Nat} {i : CI} (e : p.ca c = some i) : i.id = c := by
  have z := List.find?_some (p := fun i : CI => Nat.beq i.id c) e
  exact Nat.eq_of_beq_eq_true z
inductive Each {α : Type} (F : α → Prop) : List α → Prop where
  | nil : Each F []
  | cons {a : α} {l : List α} : F a → Each F l → Each F (a :: l)
theorem Each.get {α : Type} {F : α → Prop} : ∀ {l : List α} {i : Nat} {a : α}, Each F l → l[i]? = some a → F a
  | _, _, _, .nil, e => by simp at e
  | _, 0, _, .cons h _, e => by simp at e; subst e; exact h
  | _, i + 1, _, .cons _ h, e => h.get (i := i) (by simpa using e)
theorem Each.mem {α : Type} {F : α → Prop} {l : List α} {a : α} (h : Each F l) (m : a ∈ l) : F a := by
  obtain ⟨i, hi, e⟩ := List.mem_iff_getElem.mp m
  exact h.get (i := i) (by rw [List.getElem?_eq_getElem hi, e])
structure Pg.Ok (p : Pg) (fw : Nat) : Prop where
  fs : Each (FiOk p fw) p.fs
  kws : Each (KwOk p) p.kws
section
open He
variable {p : Pg} {fw : Nat} {P : Program} {w : World} {K : PySem.W.Frag} {mg : Str → Option Value} {base h : Heap}
theorem Pg.cls_at (X : K.In h) (G : h.Ns mainGlobals mg) (hc : (p.cs.all fun i => p.clOkB K i) = true) {c : Nat} {i : CI} (e : p.ca c = some i) : mg i.nm = some (.ref (p.cAf K c)) ∧ p.clOkB K i = true := by
  have z := List.all_eq_true.mp hc i (Pg.ca_mem e)
  refine ⟨?_, z⟩
  unfold Pg.clOkB at z
  have y := mg_of' X G (eqO_ok (ba z).1)
  rw [y]
  unfold Pg.cAf Pg.cnmD
  rw [e]
where
  mg_of' (X : K.In h) (G : h.Ns mainGlobals mg) {x : Str} {v : Value} (e : PySem.W.nsIn K mainGlobals x = some (some v)) : mg x = some v := PySem.W.mg_of X G e
theorem Pg.ins_at (hc : (p.cs.all fun i => p.clOkB K i) = true) {c : Nat} {i : CI} (e : p.ca c = some i) (hi : i.ins = true) :
    Cls K (p.cAf K c) ∧ (∀ f, i.flds.contains f = true → NoAttr K (p.cAf K c) f) ∧ (∀ m f, i.om.lookup m = some f → Meth K (p.cAf K c) m (p.fA K f)) ∧ (∀ f, i.ini = some f → Mk K (p.cAf K c) (p.fA K f)) ∧
      (∀ f, i.rep = some f → Meth K (p.cAf K c) "__repr__" (p.fA K f)) ∧ InsTy K (p.cAf K c) := by
  have z := List.all_eq_true.mp hc i (Pg.ca_mem e)
  unfold Pg.clOkB at z
  have eC : ga K i.nm = p.cAf K c := by unfold Pg.cAf Pg.cnmD; rw [e]
  rw [hi] at z
  simp only [Bool.not_true, Bool.false_or] at z
  obtain ⟨_, z⟩ := ba z
  obtain ⟨z1, z⟩ := ba z
  obtain ⟨z2, z⟩ := ba z
  obtain ⟨z3, z⟩ := ba z
  obtain ⟨z4, z⟩ := ba z
  obtain ⟨z5, z⟩ := ba z
  obtain ⟨z6, z7⟩ := ba z
  have me : ∀ {m : Str} {f : Addr}, Pg.methB K (ga K i.nm) m f = true → Meth K (p.cAf K c) m f := fun {m f} q => by
    rw [eC] at q
    obtain ⟨q1, q⟩ := ba q
    obtain ⟨q2, q3⟩ := ba q
    exact ⟨eqO_ok q1, q2, q3⟩
  have cl := cls_ok z1
  rw [eC] at cl
  refine ⟨cl, fun f hf => ?_, fun m f hm => ?_, fun f hf => ?_, fun f hf => ?_, ?_⟩
  · have := noat_ok (List.all_eq_true.mp z2 f (by simpa using hf))
    rw [eC] at this; exact this
  · have hm' : (m, f) ∈ i.om := by
      have : ∀ {l : List (Str × Nat)}, l.lookup m = some f → (m, f) ∈ l := by
        intro l
        induction l with
        | nil => intro h; simp at h
        | cons q r ih =>
          obtain ⟨k, v⟩ := q
          intro h
          rw [List.lookup_cons] at h
          cases hk : (m == k) with
          | true => rw [hk] at h; simp at h; subst h; rw [beq_iff_eq.mp hk]; exact List.mem_cons_self
          | false => rw [hk] at h; exact List.mem_cons_of_mem _ (ih h)
      exact this hm
    exact me (List.all_eq_true.mp z3 _ hm')
  · rw [hf] at z4
    obtain ⟨q1, q2⟩ := ba z4
    have q := me q2
    rw [eC] at q1 z5
    exact ⟨q1, q.at_, q.fn, z5⟩
  · rw [hf] at z6
    exact me z6
  · rw [eC] at z7
    obtain ⟨q1, q⟩ := ba z7
    obtain ⟨q2, q⟩ := ba q
    obtain ⟨q3, q4⟩ := ba q
    exact ⟨cl, eqO_ok q1, eqO_ok q2, of_decide_eq_true q3, of_decide_eq_true q4⟩
theorem Pg.fn_at (hf : (p.fs.all fun i => p.fnOkB K i) = true) (hv : p.fs.map (fun i => fnW K (p.at_ i)) = p.fs.map p.fval) {f : Nat} {i : FI} (e : p.fa f = some i) :
    ∃ (oc : Value) (od : Option Addr) (dV kV doc pm : Value) (an : Option Addr) (cdv ct : Value) (osl : Array (Option Value)),
      p.fdA K f = PySem.W.fnOf i.nm (p.qual i) (defArgs i.st) (defBody i.st) (defScope i.st) dV kV doc pm an cdv ct ∧ K.lookup (p.fA K f) = some ⟨oc, od, .func (p.fdA K f), osl⟩ ∧ PySem.W.codeIn K cdv (p.qual i) = true ∧ DflV K dV (i.dfl.map Pg.cV) ∧ i.dfl.all Pg.isC = true := by
  have z := List.all_eq_true.mp hf i (Pg.fa_mem e)
  have e2 : fnW K (p.at_ i) = p.fval i := by
    obtain ⟨j, hj, ej⟩ := List.mem_iff_getElem.mp (Pg.fa_mem e)
    have e2 : (p.fs.map fun i => fnW K (p.at_ i))[j]? = (p.fs.map p.fval)[j]? := by rw [hv]
    rw [List.getElem?_map, List.getElem?_map, List.getElem?_eq_getElem hj, ej] at e2
    exact Option.some.inj e2
  have eA : p.fA K f = fAd K (p.at_ i) := by unfold Pg.fA; rw [e]
  unfold Pg.fnOkB at z
  obtain ⟨z, _⟩ := ba z
  unfold fnW at e2
  unfold Pg.fdA
  rw [eA]
  cases q : K.lookup (fAd K (p.at_ i)) with
  | none => rw [q] at z; cases z
  | some o =>
    obtain ⟨oc, od, dt, osl⟩ := o
    rw [q] at z e2
    cases dt with
    | func fd =>
      obtain ⟨n1, n2, n3, n4, n5, n6, n7, n8, n9, n10, n11, n12, n13, n14, n15⟩ := fd
      have e3 : (some (n1, n2, n3, n4, n5, n6, n7, n15) : FnW) = some (i.nm, p.qual i, defArgs i.st, .stmts (defBody i.st), defScope i.st, mainGlobals, [], builtinsNs) := e2
      simp only [Option.some.injEq, Prod.mk.injEq] at e3
      obtain ⟨h1, h2, h3, h4, h5, h6, h7, h8⟩ := e3
      subst h1 h2 h3 h4 h5 h6 h7 h8
      have c3 : (PySem.W.codeIn K n13 (p.qual i) && (dflB K n8 (i.dfl.map Pg.cV) && i.dfl.all Pg.isC)) = true := z
      obtain ⟨k1, k2⟩ := ba c3
      obtain ⟨k3, k4⟩ := ba k2
      exact ⟨oc, od, n8, n9, n10, n11, n12, n13, n14, osl, rfl, rfl, k1, dflB_ok k3, k4⟩
    | _ => cases z
theorem cV_rep {cA : CA} {G : Hp} : ∀ {ts : List T}, ts.all Pg.isC = true → RepL cA G ts (ts.map Pg.cV)
  | [], _ => .nil
  | t :: ts, h => by
    rw [List.all_cons, Bool.and_eq_true] at h
    refine .cons ?_ (cV_rep h.2)
    cases t <;> first | (unfold Rep; rfl) | (cases h.1)
theorem kit_all {b : Bool} (hk : p.kitB K true = true) {c : CR} {t : T} (h : p.kitD c t = true) : PySem.W.kitOne K (tyT (p.cA K) t) (crU (p.cA K) c) = some (isiP (p.D b).sub c t) := by
  unfold Pg.kitD at h
  obtain ⟨h1, h2⟩ := ba h
  have hc : c ∈ p.crs := by
    unfold Pg.crs
    cases c with
    | ty n =>
      simp only at h1
      obtain ⟨h3, h4⟩ := ba h1
      exact List.mem_append_left _ (List.mem_map.mpr ⟨n, List.mem_filter.mpr ⟨by simpa using h3, h4⟩, rfl⟩)
    | cl d =>
      obtain ⟨i, hi⟩ := Option.isSome_iff_exists.mp h1
      exact List.mem_append_right _ (List.mem_map.mpr ⟨i, Pg.ca_mem hi, by rw [Pg.ca_id hi]⟩)
  have hno : ∀ n, c = .ty n → (n == "object") = false := fun n e => by
    subst e
    simp only at h1
    obtain ⟨h3, h4⟩ := ba h1
    simpa using h4
  have key : ∀ t', t' ∈ p.tts → PySem.W.kitOne K (tyT (p.cA K) t') (crU (p.cA K) c) = some (isiP (p.D true).sub c t') := fun t' ht' => of_decide_eq_true (List.all_eq_true.mp (List.all_eq_true.mp hk c hc) t' ht')
  have pre : ∀ t' ∈ ([.non, .bl true, .int 0, .str Str.empty, .lst [], .tup [], .dct []] : List T), t' ∈ p.tts := fun t' ht' => List.mem_append_left _ ht'
  have sb : (p.D b).sub = (p.D true).sub := rfl
  rw [sb]
  cases t with
  | non => exact key .non (pre _ (by simp))
  | bl _ => have := key (.bl true) (pre _ (by simp)); cases c <;> exact this
  | int _ => have := key (.int 0) (pre _ (by simp)); cases c <;> exact this
  | str _ => have := key (.str Str.empty) (pre _ (by simp)); cases c <;> exact this
  | lst _ => have := key (.lst []) (pre _ (by simp)); cases c <;> exact this
  | tup _ => have := key (.tup []) (pre _ (by simp)); cases c <;> exact this
  | dct _ => have := key (.dct []) (pre _ (by simp)); cases c <;> exact this
  | ty _ => cases h2
  | scr _ => cases h2
  | ins d fs =>
    have hd : T.ins d [] ∈ p.tts := by
      cases e : p.ca d with
      | none => simp only [e] at h2; cases h2
      | some i =>
        simp only [e] at h2
        exact List.mem_append_right _ (List.mem_map.mpr ⟨i, List.mem_filter.mpr ⟨Pg.ca_mem e, h2⟩, by rw [Pg.ca_id e]⟩)
    have := key (.ins d []) hd
    cases c <;> exact this
theorem refB_ok {o : Option (Option Value)} (h : Pg.refB o = true) : ∃ g : Addr, o = some (some (.ref g)) := by
  unfold Pg.refB at h
  split at h
  · exact ⟨_, rfl⟩
  · cases h
theorem noneOrRef_ok {o : Option (Option Value)} (h : Pg.noneOrRef o = true) : ∃ rc, o = some rc ∧ (rc = none ∨ ∃ g : Addr, rc = some (.ref g)) := by
  unfold Pg.noneOrRef at h
  split at h
  · exact ⟨none, rfl, .inl rfl⟩
  · exact ⟨_, rfl, .inr ⟨_, rfl⟩⟩
  · cases h
theorem ownB_ok {nm : Str} (h : Pg.ownB K nm (ga K nm) = true) : OwnK K (ga K nm) := by
  unfold Pg.ownB at h
  obtain ⟨h1, h⟩ := ba h
  obtain ⟨h2, h⟩ := ba h
  obtain ⟨h3, h⟩ := ba h
  obtain ⟨h4, h⟩ := ba h
  obtain ⟨h5, h⟩ := ba h
  obtain ⟨h6, h7⟩ := ba h
  refine ⟨cls_ok h1, h2, fun n hn g hg => ?_, fun n hn => ?_, fun n hn => ?_, fun T hT => ?_, of_decide_eq_true h5, eqO_ok h6, of_decide_eq_true h7⟩
  · obtain ⟨z, _⟩ := ba (List.all_eq_true.mp h3 n hn)
    rw [hg] at z
    exact refB_ok (by simpa [Pg.refB] using z)
  · obtain ⟨_, z⟩ := ba (List.all_eq_true.mp h3 n hn)
    exact noneOrRef_ok (ba z).1
  · obtain ⟨_, z⟩ := ba (List.all_eq_true.mp h3 n hn)
    obtain ⟨_, z⟩ := ba z
    obtain ⟨z1, z2⟩ := ba z
    obtain ⟨fo, e1⟩ := Option.isSome_iff_exists.mp z1
    obtain ⟨ro, e2⟩ := Option.isSome_iff_exists.mp z2
    exact ⟨fo, ro, e1, e2⟩
  · exact of_decide_eq_true (List.all_eq_true.mp h4 T hT)
theorem propB_ok {C : Addr} {f : Str} {g : Addr} (h : Pg.propB K C f g = true) : PropAt K C f g := by
  unfold Pg.propB at h
  split at h
  · rename_i q hq
    obtain ⟨h1, h⟩ := ba h
    obtain ⟨h2, h3⟩ := ba h
    split at h3
    · rename_i v r hr
      have e := of_decide_eq_true h3
      subst e
      exact ⟨q, hq, eqO_ok h1, of_decide_eq_true h2, _, hr⟩
    · cases h3
  · cases h
theorem tx_of (X : K.In h) (G : h.Ns mainGlobals mg) (c : p.chk K = true) (hv : p.fs.map (fun i => fnW K (p.at_ i)) = p.fs.map p.fval) (O : p.Ok fw) (b : Bool) (hcl : ∀ i ∈ p.cs, (i.ins = false → i.flds = [] ∧ i.om = [] ∧ i.ini = none ∧ i.rep = none)) (hoe : ∀ i ∈ p.cs, i.om.lookup Str.empty = none) :
    Tx P w K mg base (p.D b) (p.M b) (p.cA K) (p.fA K) (p.fdA K) p.psA fw := by
  unfold Pg.chk at c
  obtain ⟨c1, c⟩ := ba c
  obtain ⟨c2, c⟩ := ba c
  obtain ⟨c3, c⟩ := ba c
  obtain ⟨c4, c⟩ := ba c
  obtain ⟨c5, c⟩ := ba c
  obtain ⟨c6, c7⟩ := ba c
  have fnd : ∀ f d, (p.D b).fn f = some d → ∃ i, p.fa f = some i ∧ d = ⟨i.np, i.N.length, if b || !i.rp then i.body else .junk⟩ := fun f d e => by
    have e : ((p.fa f).map fun i => (⟨i.np, i.N.length, if b || !i.rp then i.body else .junk⟩ : FD)) = some d := e
    rw [Option.map_eq_some_iff] at e
    obtain ⟨i, e1, e2⟩ := e
    exact ⟨i, e1, e2.symm⟩
  have ins_of : ∀ (c : Nat) (i : CI), p.ca c = some i → (i.flds ≠ [] ∨ i.om ≠ [] ∨ i.ini ≠ none ∨ i.rep ≠ none) → i.ins = true := fun c i e h => by
    cases hi : i.ins with
    | true => rfl
    | false =>
      obtain ⟨h1, h2, h3, h4⟩ := hcl i (Pg.ca_mem e) hi
      rcases h with h | h | h | h
      · exact absurd h1 h
      · exact absurd h2 h
      · exact absurd h3 h
      · exact absurd h4 h
  refine ⟨fun x hx => ?_, fun x i e => ?_, fun b hb e => ?_, fun c f e => ?_, fun f d e => ?_, fun f d e => ?_, fun f d n e hn hn2 => ?_, fun f x e => ?_, fun c x f e1 e2 => ?_, fun c x e => ?_, fun c t e => kit_all c6 e, fun c e => ?_, fun c m f e1 => ?_, fun c e => ?_, fun c => ?_, fun c m f e => ?_, fun f d ks pm e1 e2 => ?_, fun a ns h => h, ⟨fun e c h => (by cases h), fun c f e => (by cases e)⟩, fun f d e => ?_⟩
  · exact PySem.W.mg_none_of X G (eqO_ok (List.all_eq_true.mp c1 x hx))
  · have e : p.gi.lookup x = some i := e
    have hm : (x, i) ∈ p.gi := by
      have : ∀ {l : List (Str × Int)}, l.lookup x = some i → (x, i) ∈ l := by
        intro l
        induction l with
        | nil => intro h; simp at h
        | cons q r ih =>
          obtain ⟨k, v⟩ := q
          intro h
          rw [List.lookup_cons] at h
          cases hk : (x == k) with
          | true => rw [hk] at h; simp at h; subst h; rw [beq_iff_eq.mp hk]; exact List.mem_cons_self
          | false => rw [hk] at h; exact List.mem_cons_of_mem _ (ih h)
      exact this e
    exact int_ok X G (List.all_eq_true.mp c2 _ hm)
  · have e : p.gcd.contains b = true := e
    exact PySem.W.mg_of X G (eqO_ok (List.all_eq_true.mp c3 b (by simpa using e)))
  · have e : (match p.ca c with | some i => i.flds.contains f | none => false) = true := e
    cases hi : p.ca c with
    | none => rw [hi] at e; cases e
    | some i =>
      rw [hi] at e
      have e : i.flds.contains f = true := e
      have := Pg.ins_at c4 hi (ins_of c i hi (.inl fun z => by rw [z] at e; cases e))
      exact ⟨this.1, this.2.1 f e⟩
  · obtain ⟨i, hi, rfl⟩ := fnd f d e
    have := (O.fs.mem (Pg.fa_mem hi)).np
    unfold Pg.psA
    rw [hi]; exact this
  · obtain ⟨i, hi, rfl⟩ := fnd f d e
    obtain ⟨oc, od, dV, kV, doc, pm, an, cdv, ct, osl, h1, h2, h3, hD, hc⟩ := Pg.fn_at c5 hv hi
    rw [h1]
    have O1 := O.fs.mem (Pg.fa_mem hi)
    unfold Pg.psA
    rw [hi]
    rcases hD with ⟨e0, rfl⟩ | ⟨hne, T, o, its, m, rfl, lT, oT, rT⟩
    · have e1 : i.dfl = [] := by cases h : i.dfl with | nil => rfl | cons _ _ => rw [h] at e0; cases e0
      exact .all fun us hl => O1.bd e1 _ _ _ _ _ _ us (hl.trans O1.np)
    · have e1 : i.dfl ≠ [] := fun z => hne (by rw [z]; rfl)
      have l1 : its.length = i.dfl.length := by rw [← rT.length, List.length_map]
      refine fun s us X hl => ?_
      rw [List.append_nil] at hl ⊢
      obtain ⟨k, e2, e3⟩ := (O1.dd e1 0 (Nat.zero_le _)).2 T kV doc pm an cdv ct us its (by rw [hl]; exact O1.np) l1
      rw [Nat.sub_zero, ← l1, List.drop_length, List.append_nil] at e3
      refine BindsTo.of_looks fun M => ?_
      rw [e2]
      exact looks_items X lT oT (.of_pure e3)
  · obtain ⟨i, hi, rfl⟩ := fnd f d e
    have hn2 : n ≤ i.dfl.length := by
      have z : (p.D b).dfl f = i.dfl := by show (match p.fa f with | some i => i.dfl | none => []) = _; rw [hi]
      rw [z] at hn2; exact hn2
    have z : (p.D b).dfl f = i.dfl := by show (match p.fa f with | some i => i.dfl | none => []) = _; rw [hi]
    rw [z]
    obtain ⟨oc, od, dV, kV, doc, pm, an, cdv, ct, osl, h1, h2, h3, hD, hc⟩ := Pg.fn_at c5 hv hi
    have O1 := O.fs.mem (Pg.fa_mem hi)
    unfold Pg.psA
    rw [hi]
    have hne : i.dfl ≠ [] := fun z => by rw [z] at hn2; simp at hn2; omega
    obtain ⟨hnp, dd⟩ := O1.dd hne n hn2
    rcases hD with ⟨e0, _⟩ | ⟨_, T, o, its, m, rfl, lT, oT, rT⟩
    · have e1 : i.dfl.length = 0 := by rw [← List.length_map (f := Pg.cV), e0]; rfl
      omega
    · have l1 : its.length = i.dfl.length := by rw [← rT.length, List.length_map]
      refine ⟨its.drop (i.dfl.length - n), (i.dfl.map Pg.cV).drop (i.dfl.length - n), fun s us X hlen => ?_, rT.drop _, fun G => (cV_rep hc).drop _⟩
      have l2 : us.length = i.np - n := by
        have hlen : (us ++ its.drop (i.dfl.length - n)).length = i.ps.length := hlen
        rw [List.length_append, List.length_drop, l1, O1.np] at hlen
        omega
      obtain ⟨k, e1, e2⟩ := dd T kV doc pm an cdv ct us its l2 l1
      refine BindsTo.of_looks fun M => ?_
      rw [h1, e1]
      exact looks_items X lT oT (.of_pure e2)
  · have e : ((p.fa f).bind fun i => if i.cl.isNone then some i.nm else none) = some x := e
    rw [Option.bind_eq_some_iff] at e
    obtain ⟨i, hi, e⟩ := e
    split at e
    · rename_i hcl
      cases e
      have z := List.all_eq_true.mp c5 i (Pg.fa_mem hi)
      unfold Pg.fnOkB at z
      obtain ⟨_, z⟩ := ba z
      cases hc : i.cl with
      | some _ => rw [hc] at hcl; cases hcl
      | none =>
        rw [hc] at z
        obtain ⟨z1, z2⟩ := ba z
        have eA : p.fA K f = ga K i.nm := by
          unfold Pg.fA Pg.at_
          rw [hi]; simp only [hc]; rfl
        rw [eA]
        exact ⟨PySem.W.mg_of X G (eqO_ok z1), z2⟩
    · cases e
  · have e1 : (p.ca c).map (·.nm) = some x := e1
    have e2 : (p.ca c).bind (·.ini) = some f := e2
    rw [Option.map_eq_some_iff] at e1
    obtain ⟨i, hi, rfl⟩ := e1
    rw [hi, Option.bind_some] at e2
    have := Pg.ins_at c4 hi (ins_of c i hi (.inr (.inr (.inl (by rw [e2]; simp)))))
    exact ⟨(Pg.cls_at X G c4 hi).1, this.2.2.2.1 f e2⟩
  · have e1 : (p.ca c).map (·.nm) = some x := e
    rw [Option.map_eq_some_iff] at e1
    obtain ⟨i, hi, rfl⟩ := e1
    exact (Pg.cls_at X G c4 hi).1
  · have e : (match p.ca c with | some i => i.ins | none => false) = true := e
    cases hi : p.ca c with
    | none => rw [hi] at e; cases e
    | some i =>
      rw [hi] at e
      exact (Pg.ins_at c4 hi e).2.2.2.2.2
  · have e1 : ((p.ca c).bind fun i => i.om.lookup m) = some f := e1
    rw [Option.bind_eq_some_iff] at e1
    obtain ⟨i, hi, e1⟩ := e1
    have := Pg.ins_at c4 hi (ins_of c i hi (.inr (.inl fun z => by rw [z] at e1; cases e1)))
    exact ⟨this.1, this.2.2.1 m f e1⟩
  · have e : (match p.ca c with | some i => i.own | none => false) = true := e
    cases hi : p.ca c with
    | none => rw [hi] at e; cases e
    | some i =>
      rw [hi] at e
      have e : i.own = true := e
      obtain ⟨z, _⟩ := ba (List.all_eq_true.mp c7 i (Pg.ca_mem hi))
      rw [e] at z
      have eC : ga K i.nm = p.cAf K c := by unfold Pg.cAf Pg.cnmD; rw [hi]
      have := ownB_ok (by simpa using z)
      rw [eC] at this
      exact this
  · show ((p.ca c).bind fun i => i.om.lookup Str.empty) = none
    cases hi : p.ca c with
    | none => rfl
    | some i => exact hoe i (Pg.ca_mem hi)
  · have e : ((p.ca c).bind fun i => i.pr.lookup m) = some f := e
    rw [Option.bind_eq_some_iff] at e
    obtain ⟨i, hi, e⟩ := e
    have eC : ga K i.nm = p.cAf K c := by unfold Pg.cAf Pg.cnmD; rw [hi]
    obtain ⟨_, z⟩ := ba (List.all_eq_true.mp c7 i (Pg.ca_mem hi))
    have hm' : (m, f) ∈ i.pr := by
      have : ∀ {l : List (Str × Nat)}, l.lookup m = some f → (m, f) ∈ l := by
        intro l
        induction l with
        | nil => intro h; simp at h
        | cons q r ih =>
          obtain ⟨k, v⟩ := q
          intro h
          rw [List.lookup_cons] at h
          cases hk : (m == k) with
          | true => rw [hk] at h; simp at h; subst h; rw [beq_iff_eq.mp hk]; exact List.mem_cons_self
          | false => rw [hk] at h; exact List.mem_cons_of_mem _ (ih h)
      exact this e
    have hne : i.pr.isEmpty = false := by cases h : i.pr with | nil => rw [h] at hm'; cases hm' | cons _ _ => rfl
    rw [hne, Bool.false_or] at z
    obtain ⟨z1, z2⟩ := ba z
    have a1 := cls_ok z1
    have a2 := propB_ok (List.all_eq_true.mp z2 _ hm')
    rw [eC] at a1 a2
    exact ⟨a1, a2⟩
  · obtain ⟨i, hi, rfl⟩ := fnd f d e1
    have e2 : (p.kws.any fun q => decide (q.1 = f) && (decide (q.2.1 = ks) && decide (q.2.2 = pm))) = true := e2
    rw [List.any_eq_true] at e2
    obtain ⟨q, hq, e3⟩ := e2
    obtain ⟨a1, e3⟩ := ba e3
    obtain ⟨a2, a3⟩ := ba e3
    have k := O.kws.mem hq
    obtain ⟨q1, q2, q3⟩ := q
    simp only [decide_eq_true_eq] at a1 a2 a3
    subst a1 a2 a3
    obtain ⟨k1, k2, k3⟩ := k i hi
    refine ⟨k1, fun s ws zs hK hl hp => ?_⟩
    obtain ⟨oc, od, dV, kV, doc, pm, an, cdv, ct, osl, h1, h2, h3, hD, hc⟩ := Pg.fn_at c5 hv hi
    rw [h1]
    unfold Pg.psA
    rw [hi]
    rcases hD with ⟨e0, rfl⟩ | ⟨hne, T, o, its, m, rfl, lT, oT, rT⟩
    · have e1 : i.dfl = [] := by cases h : i.dfl with | nil => rfl | cons _ _ => rw [h] at e0; cases e0
      exact .of_eq (k2 e1 _ _ _ _ _ _ ws zs hl hp)
    · have e1 : i.dfl ≠ [] := fun z => hne (by rw [z]; rfl)
      have l1 : its.length = i.dfl.length := by rw [← rT.length, List.length_map]
      obtain ⟨k, e2, e3⟩ := k3 e1 T kV doc pm an cdv ct ws zs its hl hp l1
      refine BindsTo.of_looks fun M => ?_
      rw [e2]
      exact looks_items hK lT oT (.of_pure e3)
  · obtain ⟨i, hi, rfl⟩ := fnd f d e
    obtain ⟨oc, od, dV, kV, doc, pm, an, cdv, ct, osl, h1, h2, h3, _, _⟩ := Pg.fn_at c5 hv hi
    have O1 := O.fs.mem (Pg.fa_mem hi)
    refine ⟨i.nm, p.qual i, i.st, i.N, ⟨oc, od, dV, kV, doc, pm, an, cdv, ct, osl, h1, h2, h3⟩, ?_, rfl, fun k cf rp => O1.body b _ _ _ _ k cf rp⟩
    unfold Pg.psA
    rw [hi]; exact O1.sc
end
end Tw
set_option maxHeartbeats 4000000
namespace Tw
open PySem PySem.Spec PyProof.Rows L2
/-! ## rules for what a law does not reach -/
theorem t_junk {C : Cl} {N : List Str} {sc : Scope} {t : Stmt} : Ks C N sc t .junk := fun X W c F => ⟨fun pins s st H D I q => by
  obtain ⟨_, _, _, _, _, _, p⟩ := q
  simp only [evS] at p
  exact p.elim⟩
theorem k_junk {C : Cl} {N : List Str} {sc : Scope} {a : Expr} : Ke C N sc a .junk := fun X W c F => ⟨fun pins s st H Q I q => by
  obtain ⟨_, _, _, _, _, _, p⟩ := q
  simp only [ev] at p
  exact p.elim⟩
/-- a number of the module's own, as a number -/
theorem k_gi {C : Cl} {N : List Str} {sc : Scope} {n : Str} {i : Int} {p : Pos} (hg : glB sc n = true) (h : C.M.gint n = some i) : Ke C N sc (.Name n p) (.int i) := fun X W c F => s_gint F.pf c h hg
/-! ## the Hook: all facts at once -/
def obsP (p : Pg) (K : PySem.W.Frag) : He.AlD := (p.chk K, p.fs.map fun i => He.fnW K (p.at_ i))
def valP (p : Pg) : He.AlD := (true, p.fs.map p.fval)
def obsPG (n : Nat) (p : Pg) (g : Addr → Option Obj) : He.AlD := obsP p (He.frG g (He.asD g n))
def hookP (n : Nat) (p : Pg) : PySem.W.Hook where
  α := He.AlD
  obs := fun s => obsPG n p s.heap.get?
  val := fun _ => valP p
  says := fun _ h => ∃ K : PySem.W.Frag, K.In h ∧ obsP p K = valP p
  of := fun _ _ e => ⟨_, He.frG_in, e⟩
  keeps := fun _ _ _ ⟨K, hK, c⟩ k => ⟨K, PySem.W.Frag.In.keeps hK k, c⟩
theorem obsPG_eq {n : Nat} {p : Pg} {g : Addr → Option Obj} {s : Shared} (h : ∀ a, g a = s.heap.get? a) : obsPG n p g = (hookP n p).obs s := by
  have e : g = s.heap.get? := funext h
  rw [e] <;> rfl
def obP (n : Nat) (p : Pg) (s : PySem.W.SharedT) : He.AlD := obsPG n p (HandSHeadRun.getT s)
theorem obP_eq (n : Nat) (p : Pg) (s : PySem.W.SharedT) : obP n p s = (hookP n p).obs s.abs := obsPG_eq (HandSHeadRun.getT_eq s)
/-! ## repr by the tables without repr -/
/-- static: what is told of the classes -/
def Pg.statB (p : Pg) : Bool := (p.cs.all fun i => (i.om.lookup Str.empty).isNone) && p.cs.all fun i => (i.ins || (i.flds.isEmpty && (i.om.isEmpty && (i.ini.isNone && i.rep.isNone)))) && (match i.rep with
  | none => true
  | some r => match p.fa r with
    | some f => decide (f.np = 1)
    | none => false)
theorem Pg.stat1 {p : Pg} (h : p.statB = true) : ∀ i ∈ p.cs, (i.ins = false → i.flds = [] ∧ i.om = [] ∧ i.ini = none ∧ i.rep = none) := fun i hi e => by
  obtain ⟨h1, _⟩ := He.ba (List.all_eq_true.mp (He.ba h).2 i hi)
  rw [e] at h1
  simp only [Bool.false_or, Bool.and_eq_true, List.isEmpty_iff, Option.isNone_iff_eq_none] at h1
  exact ⟨h1.1, h1.2.1, h1.2.2.1, h1.2.2.2⟩
theorem Pg.stat0 {p : Pg} (h : p.statB = true) : ∀ i ∈ p.cs, i.om.lookup Str.empty = none := fun i hi => Option.isNone_iff_eq_none.mp (List.all_eq_true.mp (He.ba h).1 i hi)
def rp0 : CF → Store → T → Out Str := fun _ _ _ => .bad
/-- repr's texts: own __repr__ by calls of depth n0 of the tables without repr, nests of depth d -/
noncomputable def Pg.rp (p : Pg) (fw n0 d : Nat) : CF → Store → T → Out Str := fun _ => rpT (p.D false) (callN (p.D false) rp0 fw n0) d
section
open He
variable {p : Pg} {fw n0 d : Nat} {P : Program} {w : World} {K : PySem.W.Frag} {mg : Str → Option Value} {base h : Heap}
theorem fn_false (X : K.In h) (G : h.Ns mainGlobals mg) (e : obsP p K = valP p) (O : p.Ok fw) (st : p.statB = true) (n : Nat) (f : Nat) (dd : FD) (hd : (p.D false).fn f = some dd) :
    FnG P w K mg base false (2 * n + 3) (p.fA K f) (p.fdA K f) (p.psA f) (spF (p.cA K) (callN (p.D false) rp0 fw n) f dd.np) := by
  have c : p.chk K = true := congrArg (fun z : AlD => z.1) e
  have hv : p.fs.map (fun i => fnW K (p.at_ i)) = p.fs.map p.fval := congrArg (fun z : AlD => z.2) e
  exact fn_all (M := p.M false) 3 (Nat.le_refl _) (tx_of X G c hv O false (Pg.stat1 st) (Pg.stat0 st)) (fun _ _ _ _ _ _ _ z => by cases z) n f dd hd
theorem fn_true (X : K.In h) (G : h.Ns mainGlobals mg) (e : obsP p K = valP p) (O : p.Ok fw) (st : p.statB = true) (n : Nat) (f : Nat) (dd : FD) (hd : (p.D true).fn f = some dd) :
    FnG P w K mg base true (2 * n + (2 * n0 + 3 + d)) (p.fA K f) (p.fdA K f) (p.psA f) (spF (p.cA K) (callN (p.D true) (p.rp fw n0 d) fw n) f dd.np) := by
  have c : p.chk K = true := congrArg (fun z : AlD => z.1) e
  have hv : p.fs.map (fun i => fnW K (p.at_ i)) = p.fs.map p.fval := congrArg (fun z : AlD => z.2) e
  refine fn_all (M := p.M true) (2 * n0 + 3 + d) (by omega) (tx_of X G c hv O true (Pg.stat1 st) (Pg.stat0 st)) (fun Y k cf hk a5 calm F g => ?_) n f dd hd
  obtain ⟨e1, e2, e3, e4, e5⟩ := a5
  have hchk := c
  unfold Pg.chk at c
  obtain ⟨_, c⟩ := ba c
  obtain ⟨_, c⟩ := ba c
  obtain ⟨_, c⟩ := ba c
  obtain ⟨c4, c⟩ := ba c
  obtain ⟨c5, _⟩ := ba c
  have own : OwnRs Y (p.cA K) (p.D false) (callN (p.D false) rp0 fw n0) (2 * n0 + 3) := fun ci r hr => by
    have hr : (p.ca ci).bind (·.rep) = some r := hr
    rw [Option.bind_eq_some_iff] at hr
    obtain ⟨i, hi, hr⟩ := hr
    have hins : i.ins = true := by
      cases q : i.ins with
      | true => rfl
      | false => have := (Pg.stat1 st i (Pg.ca_mem hi) q).2.2.2; rw [hr] at this; cases this
    have m := (Pg.ins_at c4 hi hins).2.2.2.2.1 r hr
    obtain ⟨_, z⟩ := ba (List.all_eq_true.mp (He.ba st).2 i (Pg.ca_mem hi))
    rw [hr] at z
    cases hf : p.fa r with
    | none => simp only [hf] at z; cases z
    | some fi =>
      simp only [hf] at z
      have hnp : fi.np = 1 := of_decide_eq_true z
      have hD : (p.D false).fn r = some ⟨fi.np, fi.N.length, if false || !fi.rp then fi.body else .junk⟩ := by
        show (p.fa r).map _ = _
        rw [hf]; rfl
      have T := tx_of (fw := fw) (P := P) (w := w) (base := base) X G hchk hv O false (Pg.stat1 st) (Pg.stat0 st)
      have ff := fn_false (P := P) (w := w) (base := base) X G e O st n0 r _ hD
      simp only [hnp] at ff
      refine ⟨p.fA K r, p.fdA K r, p.psA r, ?_, ?_, ?_, ?_, ?_⟩
      · rw [e3]; exact m.at_
      · rw [e3]; exact m.fn
      · rw [e1, e2, e3, e4, e5]; exact ff
      · rw [e3]; exact T.bd r _ hD
      · have := T.ps r _ hD
        simp only [hnp] at this
        exact this
  exact call_repr own F.room (by omega) (F.gd g)
end
/-- the end: a law's call, the written part by a Hook -/
theorem walkGE {l : PySem.W.OpenLaw} {n k : Nat} {q : Program} {loose : List Str} {XP : (Str → Option Value) → Heap → Prop} {YP : World → Heap → Prop} {d : DefRec} {x : Str}
    (hn : l.most = some n) (hn2 : n ≤ sizeLine) (hdf : d.params.defaults = []) (hr : Room k callerA)
    (F : ∀ (w : World) (mg : Str → Option Value) (fa : Addr) (h : Heap), YP w h → h.Ns mainGlobals mg → mg d.name = some (.ref fa) →
      ∃ (K : PySem.W.Frag) (fd : FuncData) (sp : Sp), K.In h ∧ (∀ (s : Shared) (u : Value), BindsTo s fd ⟨[u], []⟩ [(x, u)]) ∧ (∀ base : Heap, K.In base → base.Ns mainGlobals mg → FnG l.prog w K mg base true k fa fd [x] sp) ∧
        ∀ (H : Hp) (a : Addr) (ns : List Int), ns.length ≤ n → Only H → SqL K H a (ns.map V.int) → sp [.ref a] H (fun v _ => v = .bl true) fun _ _ _ => False) :
    PySem.W.WalkO q loose XP YP l.row.toRowW d [] (fun f vs => PySem.call f vs) := by
  refine Att.attach_call hn hdf fun w s₀ s₁ mg mb fa o pm cd doc a vs ns G Y ho hd hcd hmg hobj hints hlen hg => ?_
  obtain ⟨K, fd, sp, KX, hb, hF, hsp⟩ := F w mg fa _ Y G.T.g hmg
  exact law_callG KX G.T.g G.T.b G.T.builtins G.T.nolimit hg hobj hints (Nat.le_trans hlen hn2) hr hF hb fun H hO hS => hsp H a ns hlen hO hS
/-- .. for a program as data: the pure law is left -/
theorem walkP {l : PySem.W.OpenLaw} {n : Nat} {q : Program} {loose : List Str} {XP : (Str → Option Value) → Heap → Prop} {d : DefRec} {x : Str} {p : Pg} {fw n0 dp m m0 : Nat} {i0 : FI}
    (hn : l.most = some n) (hn2 : n ≤ sizeLine) (hdf : d.params.defaults = []) (hr : Room (2 * m + (2 * n0 + 3 + dp)) callerA) (hi : p.fa m0 = some i0) (hnm : i0.nm = d.name) (hcl : i0.cl = none) (hps : i0.ps = [x]) (hdfl : i0.dfl = [])
    (O : p.Ok fw) (st : p.statB = true) {hs : Nat} (pure : ∀ ns : List Int, ns.length ≤ n → ∃ s, callN (p.D true) (p.rp fw n0 dp) fw m m0 [.t (.scr ns)] [] = .ok (.t (.bl true)) s) :
    PySem.W.WalkO q loose XP (hookP hs p).says l.row.toRowW d [] (fun f vs => PySem.call f vs) := by
  refine walkGE (k := 2 * m + (2 * n0 + 3 + dp)) (x := x) hn hn2 hdf hr fun w mg fa h Y G hmg => ?_
  obtain ⟨K, KX, e⟩ := Y
  have c : p.chk K = true := congrArg (fun z : He.AlD => z.1) e
  have hv : p.fs.map (fun i => He.fnW K (p.at_ i)) = p.fs.map p.fval := congrArg (fun z : He.AlD => z.2) e
  have hnp : i0.np = 1 := by
    have := (O.fs.mem (Pg.fa_mem hi)).np
    rw [hps] at this
    exact this.symm
  have hD : (p.D true).fn m0 = some ⟨i0.np, i0.N.length, if true || !i0.rp then i0.body else .junk⟩ := by
    show (p.fa m0).map _ = _
    rw [hi]; rfl
  have T := fun base : Heap => tx_of (fw := fw) (P := l.prog) (w := w) (base := base) KX G c hv O true (Pg.stat1 st) (Pg.stat0 st)
  have efa : fa = p.fA K m0 := by
    have gf := ((T h).gf m0 i0.nm (by show (p.fa m0).bind _ = _; rw [hi]; simp [hcl])).1
    rw [hnm] at gf
    have := hmg.symm.trans gf
    cases this; rfl
  subst efa
  have hpsA : p.psA m0 = [x] := by unfold Pg.psA; rw [hi]; exact hps
  refine ⟨K, p.fdA K m0, spF (p.cA K) (callN (p.D true) (p.rp fw n0 dp) fw m) m0 1, KX, fun s u => ?_, fun base hb hg => ?_, fun H a ns hl only seq => ?_⟩
  · unfold Pg.chk at c
    obtain ⟨_, c⟩ := He.ba c
    obtain ⟨_, c⟩ := He.ba c
    obtain ⟨_, c⟩ := He.ba c
    obtain ⟨_, c⟩ := He.ba c
    obtain ⟨c5, _⟩ := He.ba c
    obtain ⟨oc, od, dV, kV, doc, pm, an, cdv, ct, osl, h1, _, _, hD, _⟩ := Pg.fn_at c5 hv hi
    rw [h1]
    rcases hD with ⟨_, rfl⟩ | ⟨hne, _⟩
    · have := (O.fs.mem (Pg.fa_mem hi)).bd hdfl kV doc pm an cdv ct [u] (by rw [hnp]; rfl)
      rw [hps] at this
      exact .of_eq this
    · exact absurd (by rw [hdfl]; rfl) hne
  · have := fn_true (P := l.prog) (w := w) (base := base) (n0 := n0) (d := dp) KX G e O st m m0 _ hD
    rw [hpsA] at this
    simp only [hnp] at this
    exact this
  · exact sp_law (fun a ns h => h) pure H a ns hl only seq
end Tw
namespace Tw
open PySem L2
/-- is_integer -/
def N_basics_is_integer : List Str := ["value"]
def S_basics_is_integer : S := (.ret false (.and (.isi (.var 0) [.ty "int"]) (.not (.isi (.var 0) [.ty "bool"]))))
def F_basics_is_integer : FD := ⟨1, 1, S_basics_is_integer⟩
/-- is_count -/
def N_basics_is_count : List Str := ["value"]
def S_basics_is_count : S := (.ret false (.and (.cal 31 (.cons (.var 0) .nil)) (.cmp .GtE (.var 0) (.int 0))))
def F_basics_is_count : FD := ⟨1, 1, S_basics_is_count⟩
/-- is_list -/
def N_basics_is_list : List Str := ["value"]
def S_basics_is_list : S := (.ret false (.isi (.var 0) [.ty "list", .ty "tuple"]))
def F_basics_is_list : FD := ⟨1, 1, S_basics_is_list⟩
/-- want_five -/
def N_fives_want_five : List Str := ["value", "number"]
def LC_fives_want_five_0 : E := .lc false [1] (.gn 1) (.iseq (.var 0)) .omit (.cal 356 (.cons (.var 1) .nil))
def S_fives_want_five : S := (.seq (.ite (.or (.not (.isi (.var 0) [.ty "tuple"])) (.not (.cal 420 (.cons (.var 0) (.cons (.int 5) .nil))))) .junk .skip)
    (.ret false (.blt .tuple (.cons LC_fives_want_five_0 .nil))))
def F_fives_want_five : FD := ⟨1, 2, S_fives_want_five⟩
/-- is_short_word -/
def N_fives_is_short_word : List Str := ["value", "letter"]
def LC_fives_is_short_word_0 : E := .lc false [1] (.gn 1) (.iseq (.var 0)) .omit (.and (.cal 32 (.cons (.var 1) .nil)) (.cmp .Lt (.var 1) (.int 2)))
def S_fives_is_short_word : S := (.ret false (.and (.cal 33 (.cons (.var 0) .nil)) (.and (.cmp .LtE (.blt .len (.cons (.var 0) .nil)) (.int 16)) (.blt .all (.cons LC_fives_is_short_word_0 .nil)))))
def F_fives_is_short_word : FD := ⟨1, 2, S_fives_is_short_word⟩
/-- half_less -/
def N_fives_half_less : List Str := ["total", "squares"]
def S_fives_half_less : S := (.ret false (.mth 55 "over" (.bin .Sub (.bin .Mult (.var 0) (.var 0)) (.var 1)) (.cons (.int 2) .nil)))
def F_fives_half_less : FD := ⟨2, 2, S_fives_half_less⟩
/-- led_first -/
def N_fives_led_first : List Str := ["told", "state", "one", "other", "ones", "both", "others", "idle", "near", "far", "last", "low"]
def S_fives_led_first : S := (.seq (.asg (.gt (.cons (.gn 2) (.cons (.gn 3) (.cons (.gn 4) (.cons (.gn 5) (.cons (.gn 6) .nil)))))) (.var 0))
    (.seq (.asg (.gt (.cons (.gn 7) (.cons (.gn 8) (.cons (.gn 9) (.cons (.gn 10) .nil))))) (.var 1))
    (.seq (.asg (.gn 11) (.cal 190 (.cons (.var 2) (.cons (.var 4) .nil))))
    (.ret false (.tup (.cons (.bin .Sub (.bin .Sub (.bin .Mult (.var 9) (.bin .Sub (.var 5) (.bin .Mult (.var 2) (.var 3)))) (.bin .Mult (.var 8) (.var 11))) (.bin .Mult (.bin .Mult (.var 10) (.var 3)) (.var 11))) (.cons (.bin .Add (.bin .Add (.bin .Add (.var 7) (.bin .Mult (.var 8) (.var 2))) (.bin .Mult (.var 9) (.var 3))) (.bin .Mult (.var 10) (.var 5))) (.cons (.bin .Add (.bin .Mult (.var 9) (.var 2)) (.bin .Mult (.var 10) (.var 11))) (.cons (.neg (.var 9)) .nil)))))))))
def F_fives_led_first : FD := ⟨2, 12, S_fives_led_first⟩
/-- led_second -/
def N_fives_led_second : List Str := ["told", "state", "one", "other", "ones", "both", "others", "idle", "near", "far", "last", "low"]
def S_fives_led_second : S := (.seq (.asg (.gt (.cons (.gn 2) (.cons (.gn 3) (.cons (.gn 4) (.cons (.gn 5) (.cons (.gn 6) .nil)))))) (.var 0))
    (.seq (.asg (.gt (.cons (.gn 7) (.cons (.gn 8) (.cons (.gn 9) (.cons (.gn 10) .nil))))) (.var 1))
    (.seq (.asg (.gn 11) (.cal 190 (.cons (.var 3) (.cons (.var 6) .nil))))
    (.ret false (.tup (.cons (.neg (.bin .Mult (.var 9) (.var 11))) (.cons (.neg (.bin .Mult (.var 10) (.var 11))) (.cons (.bin .Add (.var 7) (.bin .Mult (.var 9) (.var 3))) (.cons (.bin .Add (.var 8) (.bin .Mult (.var 10) (.var 3))) .nil)))))))))
def F_fives_led_second : FD := ⟨2, 12, S_fives_led_second⟩
/-- sum_by -/
def N_fives_sum_by : List Str := ["told", "word", "state", "letter", "idle", "near", "far", "last"]
def FB_fives_sum_by_0 : S := (.asg (.gn 2) (.ite (.cmp .Eq (.var 3) (.int 0)) (.cal 191 (.cons (.var 0) (.cons (.var 2) .nil))) (.cal 192 (.cons (.var 0) (.cons (.var 2) .nil)))))
def FS_fives_sum_by_0 : S := .for (.gn 3) (.iseq (.var 1)) FB_fives_sum_by_0
def S_fives_sum_by : S := (.seq (.asg (.gn 2) (.tup (.cons (.mk 55 (.cons (.int 1) .nil)) (.cons (.mk 55 (.cons (.int 0) .nil)) (.cons (.mk 55 (.cons (.int 0) .nil)) (.cons (.mk 55 (.cons (.int 0) .nil)) .nil))))))
    (.seq FS_fives_sum_by_0
    (.seq (.asg (.gt (.cons (.gn 4) (.cons (.gn 5) (.cons (.gn 6) (.cons (.gn 7) .nil))))) (.var 2))
    (.ret false (.bin .Add (.bin .Add (.bin .Add (.bin .Mult (.var 4) (.int 2)) (.bin .Mult (.var 5) (.ix (.var 0) (.int 0)))) (.bin .Mult (.var 6) (.ix (.var 0) (.int 1)))) (.bin .Mult (.var 7) (.ix (.var 0) (.int 3))))))))
def F_fives_sum_by : FD := ⟨2, 8, S_fives_sum_by⟩
/-- word_by -/
def N_fives_word_by : List Str := ["five", "word", "told"]
def S_fives_word_by : S := (.seq (.asg (.gn 2) (.cal 188 (.cons (.var 0) .nil)))
    (.seq (.ite (.not (.cal 189 (.cons (.var 1) .nil))) .junk .skip)
    (.ret false (.cal 193 (.cons (.var 2) (.cons (.var 1) .nil))))))
def F_fives_word_by : FD := ⟨2, 3, S_fives_word_by⟩
/-- letters_in -/
def N_houses_letters_in : List Str := ["value", "found", "table"]
def LC_houses_letters_in_0 : E := .lc false [2] (.gn 2) (.iseq (.var 0)) .omit (.cal 436 (.cons (.var 2) .nil))
def LC_houses_letters_in_1 : E := .lc false [2] (.gn 2) (.iseq (.var 1)) .omit (.cmp .Is (.var 2) .non)
def LC_houses_letters_in_2 : E := .lc false [2] (.gn 2) (.iseq (.var 1)) .omit (.cmp .Eq (.blt .len (.cons (.var 2) .nil)) (.blt .len (.cons (.ix (.var 1) (.int 0)) .nil)))
def S_houses_letters_in : S := (.seq (.ite (.or (.not (.cal 33 (.cons (.var 0) .nil))) (.not (.cmp2 .LtE .LtE (.int 1) (.blt .len (.cons (.var 0) .nil)) (.int 3)))) (.ret false .non) .skip)
    (.seq (.asg (.gn 1) LC_houses_letters_in_0)
    (.seq (.ite (.blt .any (.cons LC_houses_letters_in_1 .nil)) (.ret false .non) .skip)
    (.ret false (.ite (.blt .all (.cons LC_houses_letters_in_2 .nil)) (.var 1) .non)))))
def F_houses_letters_in : FD := ⟨1, 3, S_houses_letters_in⟩
/-- House.__init__ -/
def N_houses_House___init__ : List Str := ["self", "letters", "found"]
def S_houses_House___init__ : S := (.seq (.asg (.gn 2) (.cal 198 (.cons (.var 1) .nil)))
    (.seq (.ite (.cmp .Is (.var 2) .non) .junk .skip)
    (.seq (.satt (.var 0) "own_letters" (.var 2))
    (.satt (.var 0) "own_width" (.blt .len (.cons (.ix (.var 2) (.int 0)) .nil))))))
def F_houses_House___init__ : FD := ⟨2, 3, S_houses_House___init__⟩
/-- want_house -/
def N_houses_want_house : List Str := ["value"]
def S_houses_want_house : S := (.seq (.ite (.not (.isi (.var 0) [.cl 49])) .junk .skip)
    (.ret false (.var 0)))
def F_houses_want_house : FD := ⟨1, 1, S_houses_want_house⟩
/-- word_in -/
def N_houses_word_in : List Str := ["house", "value", "many", "letter"]
def LC_houses_word_in_0 : E := .lc false [3] (.gn 3) (.iseq (.var 1)) .omit (.and (.cal 32 (.cons (.var 3) .nil)) (.cmp .Lt (.var 3) (.var 2)))
def S_houses_word_in : S := (.seq (.ite (.or (.not (.cal 33 (.cons (.var 1) .nil))) (.cmp .Gt (.blt .len (.cons (.var 1) .nil)) (.int 16))) (.ret false .non) .skip)
    (.seq (.asg (.gn 2) (.blt .len (.cons (.att (.var 0) "own_letters") .nil)))
    (.ret false (.ite (.blt .all (.cons LC_houses_word_in_0 .nil)) (.blt .list (.cons (.var 1) .nil)) .non))))
def F_houses_word_in : FD := ⟨2, 4, S_houses_word_in⟩
/-- is_word -/
def N_houses_is_word : List Str := ["house", "value"]
def S_houses_is_word : S := (.ret false (.cmp .IsNot (.cal 209 (.cons (.cal 207 (.cons (.var 0) .nil)) (.cons (.var 1) .nil))) .non))
def F_houses_is_word : FD := ⟨2, 2, S_houses_is_word⟩
/-- digits_of -/
def N_ratios_digits_of : List Str := ["number", "left", "told", "part", "sign"]
def FB_ratios_digits_of_0 : S := (.seq (.asg (.gn 3) (.bin .Add (.bin .Mod (.blt .int (.cons (.var 1) .nil)) (.int 1000000000000000000000000000000000000000000000000000000000000)) (.int 1000000000000000000000000000000000000000000000000000000000000)))
    (.seq (.asg (.gn 2) (.fst (.cons (.fmt (.sl (.blt .str (.cons (.var 3) .nil)) (.int 1) .omit)) (.cons (.fmt (.var 2)) .nil))))
    (.asg (.gn 1) (.bin .FloorDiv (.var 1) (.int 1000000000000000000000000000000000000000000000000000000000000)))))
def WC_ratios_digits_of_0 : E := (.cmp .GtE (.var 1) (.int 1000000000000000000000000000000000000000000000000000000000000))
def FS_ratios_digits_of_0 : S := .whl WC_ratios_digits_of_0 FB_ratios_digits_of_0
def S_ratios_digits_of : S := (.seq (.par (.cons (.gn 1) (.cons (.gn 2) .nil)) (.cons (.ite (.cmp .GtE (.var 0) (.int 0)) (.var 0) (.bin .Sub (.int 0) (.var 0))) (.cons (.str "") .nil)))
    (.seq FS_ratios_digits_of_0
    (.seq (.asg (.gn 4) (.ite (.cmp .Lt (.var 0) (.int 0)) (.str "-") (.str "")))
    (.ret false (.fst (.cons (.fmt (.var 4)) (.cons (.fmt (.var 1)) (.cons (.fmt (.var 2)) .nil))))))))
def F_ratios_digits_of : FD := ⟨1, 5, S_ratios_digits_of⟩
/-- divisor_of -/
def N_ratios_divisor_of : List Str := ["one", "other"]
def S_ratios_divisor_of : S := (.ret false (.blt .gcd (.cons (.var 0) (.cons (.var 1) .nil))))
def F_ratios_divisor_of : FD := ⟨2, 2, S_ratios_divisor_of⟩
/-- Ratio.__init__ -/
def N_ratios_Ratio___init__ : List Str := ["self", "top", "bottom", "common"]
def S_ratios_Ratio___init__ : S := (.seq (.ite (.not (.cal 31 (.cons (.var 1) .nil))) .junk .skip)
    (.seq (.ite (.or (.not (.cal 31 (.cons (.var 2) .nil))) (.cmp .Eq (.var 2) (.int 0))) .junk .skip)
    (.seq (.asg (.gn 3) (.cal 333 (.cons (.var 1) (.cons (.var 2) .nil))))
    (.seq (.ite (.cmp .Lt (.var 2) (.int 0)) (.asg (.gn 3) (.bin .Sub (.int 0) (.var 3))) .skip)
    (.seq (.satt (.var 0) "own_top" (.bin .FloorDiv (.var 1) (.var 3)))
    (.satt (.var 0) "own_bottom" (.bin .FloorDiv (.var 2) (.var 3))))))))
def F_ratios_Ratio___init__ : FD := ⟨3, 4, S_ratios_Ratio___init__⟩
/-- Ratio.__add__ -/
def N_ratios_Ratio___add__ : List Str := ["self", "other", "top", "bottom"]
def S_ratios_Ratio___add__ : S := (.seq (.asg (.gt (.cons (.gn 2) (.cons (.gn 3) .nil))) (.cal 354 (.cons (.var 1) .nil)))
    (.ret false (.mk 55 (.cons (.bin .Add (.bin .Mult (.att (.var 0) "own_top") (.var 3)) (.bin .Mult (.var 2) (.att (.var 0) "own_bottom"))) (.cons (.bin .Mult (.att (.var 0) "own_bottom") (.var 3)) .nil)))))
def F_ratios_Ratio___add__ : FD := ⟨2, 4, S_ratios_Ratio___add__⟩
/-- Ratio.__sub__ -/
def N_ratios_Ratio___sub__ : List Str := ["self", "other", "top", "bottom"]
def S_ratios_Ratio___sub__ : S := (.seq (.asg (.gt (.cons (.gn 2) (.cons (.gn 3) .nil))) (.cal 354 (.cons (.var 1) .nil)))
    (.ret false (.mk 55 (.cons (.bin .Sub (.bin .Mult (.att (.var 0) "own_top") (.var 3)) (.bin .Mult (.var 2) (.att (.var 0) "own_bottom"))) (.cons (.bin .Mult (.att (.var 0) "own_bottom") (.var 3)) .nil)))))
def F_ratios_Ratio___sub__ : FD := ⟨2, 4, S_ratios_Ratio___sub__⟩
/-- Ratio.__mul__ -/
def N_ratios_Ratio___mul__ : List Str := ["self", "other", "top", "bottom"]
def S_ratios_Ratio___mul__ : S := (.seq (.asg (.gt (.cons (.gn 2) (.cons (.gn 3) .nil))) (.cal 354 (.cons (.var 1) .nil)))
    (.ret false (.mk 55 (.cons (.bin .Mult (.att (.var 0) "own_top") (.var 2)) (.cons (.bin .Mult (.att (.var 0) "own_bottom") (.var 3)) .nil)))))
def F_ratios_Ratio___mul__ : FD := ⟨2, 4, S_ratios_Ratio___mul__⟩
/-- Ratio.__neg__ -/
def N_ratios_Ratio___neg__ : List Str := ["self"]
def S_ratios_Ratio___neg__ : S := (.ret false (.mk 55 (.cons (.bin .Sub (.int 0) (.att (.var 0) "own_top")) (.cons (.att (.var 0) "own_bottom") .nil))))
def F_ratios_Ratio___neg__ : FD := ⟨1, 1, S_ratios_Ratio___neg__⟩
/-- Ratio.over -/
def N_ratios_Ratio_over : List Str := ["self", "other", "top", "bottom"]
def S_ratios_Ratio_over : S := (.seq (.asg (.gt (.cons (.gn 2) (.cons (.gn 3) .nil))) (.cal 354 (.cons (.var 1) .nil)))
    (.seq (.ite (.cmp .Eq (.var 2) (.int 0)) .junk .skip)
    (.ret false (.mk 55 (.cons (.bin .Mult (.att (.var 0) "own_top") (.var 3)) (.cons (.bin .Mult (.att (.var 0) "own_bottom") (.var 2)) .nil))))))
def F_ratios_Ratio_over : FD := ⟨2, 4, S_ratios_Ratio_over⟩
/-- Ratio.__eq__ -/
def N_ratios_Ratio___eq__ : List Str := ["self", "other"]
def S_ratios_Ratio___eq__ : S := (.seq (.ite (.not (.isi (.var 1) [.cl 55])) (.ret false (.bl false)) .skip)
    (.ret false (.and (.cmp .Eq (.att (.var 0) "own_top") (.att (.var 1) "own_top")) (.cmp .Eq (.att (.var 0) "own_bottom") (.att (.var 1) "own_bottom")))))
def F_ratios_Ratio___eq__ : FD := ⟨2, 2, S_ratios_Ratio___eq__⟩
/-- Ratio.__repr__ -/
def N_ratios_Ratio___repr__ : List Str := ["self"]
def S_ratios_Ratio___repr__ : S := (.ret false (.fst (.cons (.str "Ratio(") (.cons (.fmt (.cal 332 (.cons (.att (.var 0) "own_top") .nil))) (.cons (.str ", ") (.cons (.fmt (.cal 332 (.cons (.att (.var 0) "own_bottom") .nil))) (.cons (.str ")") .nil)))))))
def F_ratios_Ratio___repr__ : FD := ⟨1, 1, S_ratios_Ratio___repr__⟩
/-- told_pair -/
def N_ratios_told_pair : List Str := ["value"]
def S_ratios_told_pair : S := (.seq (.ite (.isi (.var 0) [.cl 55]) (.ret false (.tup (.cons (.att (.var 0) "own_top") (.cons (.att (.var 0) "own_bottom") .nil)))) .skip)
    (.seq (.ite (.not (.cal 31 (.cons (.var 0) .nil))) .junk .skip)
    (.ret false (.tup (.cons (.var 0) (.cons (.int 1) .nil))))))
def F_ratios_told_pair : FD := ⟨1, 1, S_ratios_told_pair⟩
/-- is_number -/
def N_ratios_is_number : List Str := ["value"]
def S_ratios_is_number : S := (.ret false (.or (.cal 31 (.cons (.var 0) .nil)) (.isi (.var 0) [.cl 55])))
def F_ratios_is_number : FD := ⟨1, 1, S_ratios_is_number⟩
/-- ratio_of -/
def N_ratios_ratio_of : List Str := ["number"]
def S_ratios_ratio_of : S := (.ret false (.ite (.isi (.var 0) [.cl 55]) (.var 0) (.mk 55 (.cons (.var 0) .nil))))
def F_ratios_ratio_of : FD := ⟨1, 1, S_ratios_ratio_of⟩
/-- are_numbers -/
def N_solved_are_numbers : List Str := ["value", "wide", "number"]
def LC_solved_are_numbers_0 : E := .lc false [2] (.gn 2) (.iseq (.var 0)) .omit (.cal 355 (.cons (.var 2) .nil))
def S_solved_are_numbers : S := (.ret false (.and (.cal 33 (.cons (.var 0) .nil)) (.and (.cmp .Eq (.blt .len (.cons (.var 0) .nil)) (.var 1)) (.blt .all (.cons LC_solved_are_numbers_0 .nil)))))
def F_solved_are_numbers : FD := ⟨2, 3, S_solved_are_numbers⟩
/-- table_in -/
def N_tables_table_in : List Str := ["value", "row", "number"]
def LC_tables_table_in_0 : E := .lc false [1] (.gn 1) (.iseq (.var 0)) .omit (.cal 420 (.cons (.var 1) (.cons (.blt .len (.cons (.var 0) .nil)) .nil)))
def LC_tables_table_in_1 : E := .lc false [2] (.gn 2) (.iseq (.var 1)) .omit (.cal 356 (.cons (.var 2) .nil))
def LC_tables_table_in_2 : E := .lc false [1] (.gn 1) (.iseq (.var 0)) .omit LC_tables_table_in_1
def S_tables_table_in : S := (.seq (.ite (.or (.not (.cal 33 (.cons (.var 0) .nil))) (.not (.cmp2 .LtE .LtE (.int 1) (.blt .len (.cons (.var 0) .nil)) (.int 4)))) (.ret false .non) .skip)
    (.seq (.ite (.not (.blt .all (.cons LC_tables_table_in_0 .nil))) (.ret false .non) .skip)
    (.ret false LC_tables_table_in_2)))
def F_tables_table_in : FD := ⟨1, 3, S_tables_table_in⟩
end Tw
set_option maxHeartbeats 8000000
namespace Tw
open PySem PySem.Spec PyProof.Rows L2
def top (i : Nat) : Stmt := PySem.Challenge.pw_tracewords_k87_any_five_and_its_words.main.body.getD i (.Pass ⟨0, 0, 0, 0⟩)
def inner (i j : Nat) : Stmt := match top i with
  | .ClassDef _ _ _ body .. => body.getD j (.Pass ⟨0, 0, 0, 0⟩)
  | s => s
/-- Ratio.__radd__ -/
def N_ratios_Ratio___radd__ : List Str := ["self", "other", "top", "bottom"]
def S_ratios_Ratio___radd__ : S := (.seq (.asg (.gt (.cons (.gn 2) (.cons (.gn 3) .nil))) (.cal 354 (.cons (.var 1) .nil)))
    (.ret false (.mk 55 (.cons (.bin .Add (.bin .Mult (.att (.var 0) "own_top") (.var 3)) (.bin .Mult (.var 2) (.att (.var 0) "own_bottom"))) (.cons (.bin .Mult (.att (.var 0) "own_bottom") (.var 3)) .nil)))))
def F_ratios_Ratio___radd__ : FD := ⟨2, 4, S_ratios_Ratio___radd__⟩
/-- Ratio.__rsub__ -/
def N_ratios_Ratio___rsub__ : List Str := ["self", "other", "top", "bottom"]
def S_ratios_Ratio___rsub__ : S := (.seq (.asg (.gt (.cons (.gn 2) (.cons (.gn 3) .nil))) (.cal 354 (.cons (.var 1) .nil)))
    (.ret false (.mk 55 (.cons (.bin .Sub (.bin .Mult (.var 2) (.att (.var 0) "own_bottom")) (.bin .Mult (.att (.var 0) "own_top") (.var 3))) (.cons (.bin .Mult (.att (.var 0) "own_bottom") (.var 3)) .nil)))))
def F_ratios_Ratio___rsub__ : FD := ⟨2, 4, S_ratios_Ratio___rsub__⟩
/-- Ratio.__rmul__ -/
def N_ratios_Ratio___rmul__ : List Str := ["self", "other", "top", "bottom"]
def S_ratios_Ratio___rmul__ : S := (.seq (.asg (.gt (.cons (.gn 2) (.cons (.gn 3) .nil))) (.cal 354 (.cons (.var 1) .nil)))
    (.ret false (.mk 55 (.cons (.bin .Mult (.att (.var 0) "own_top") (.var 2)) (.cons (.bin .Mult (.att (.var 0) "own_bottom") (.var 3)) .nil)))))
def F_ratios_Ratio___rmul__ : FD := ⟨2, 4, S_ratios_Ratio___rmul__⟩
/-- _law_pot -/
def N_L_pot : List Str := ["_law_script", "_law_k", "_law_cell"]
def S_L_pot : S := (.seq (.asg (.gn 2) (.bin .Add (.bin .Add (.bin .Mult (.int 431) (.var 1)) (.int 359)) (.bin .Mod (.blt .sum (.cons (.sl (.var 0) .omit (.int 1)) .nil)) (.int 1000003))))
    (.seq (.ite (.cmp .Lt (.var 1) (.blt .len (.cons (.var 0) .nil))) (.asg (.gn 2) (.blt .abs (.cons (.ix (.var 0) (.var 1)) .nil))) .skip)
    (.ret true (.lst true (.cons (.blt .max (.cons (.int 0) (.cons (.bin .Sub (.var 2) (.bin .Pow (.int 10) (.int 18))) .nil))) (.cons (.bin .Add (.bin .Mod (.bin .Mult (.bin .Add (.bin .Mod (.var 2) (.int 2147483549)) (.int 18539)) (.bin .Pow (.bin .Add (.bin .Mult (.int 2) (.var 1)) (.int 5)) (.int 3))) (.int 2147483477)) (.int 1)) .nil))))))
def F_L_pot : FD := ⟨2, 3, S_L_pot⟩
/-- _law_draw -/
def N_L_draw : List Str := ["_law_pot_here", "_law_many", "_law_digit"]
def S_L_draw : S := (.seq (.ite (.cmp .Gt (.ix (.var 0) (.int 0)) (.int 0)) (.seq (.asg (.gt (.cons (.ix (.var 0) (.int 0)) (.cons (.gn 2) .nil))) (.blt .divmod (.cons (.ix (.var 0) (.int 0)) (.cons (.var 1) .nil))))
    (.ret false (.var 2))) .skip)
    (.seq (.asg (.ix (.var 0) (.int 1)) (.bin .Mod (.bin .Add (.bin .Mult (.ix (.var 0) (.int 1)) (.int 48271)) (.int 18539)) (.int 2147483587)))
    (.ret false (.bin .Mod (.bin .FloorDiv (.bin .Mod (.bin .Mult (.ix (.var 0) (.int 1)) (.ix (.var 0) (.int 1))) (.int 2147483549)) (.int 13)) (.var 1)))))
def F_L_draw : FD := ⟨2, 3, S_L_draw⟩
/-- _law_number -/
def N_L_number : List Str := ["_law_pot_here", "_law_top"]
def S_L_number : S := (.seq (.asg (.gn 1) (.bin .Sub (.cal 1002 (.cons (.var 0) (.cons (.int 13) .nil))) (.int 6)))
    (.ret false (.ite (.cmp .Eq (.cal 1002 (.cons (.var 0) (.cons (.int 4) .nil))) (.int 0)) (.mk 55 (.cons (.var 1) (.cons (.int 2) .nil))) (.var 1))))
def F_L_number : FD := ⟨1, 2, S_L_number⟩
/-- _law_word -/
def N_L_word : List Str := ["_law_pot_here", "_law_most", "_law_found", "_law_turn"]
def FB_L_word_0 : S := (.app 2 (.cal 1002 (.cons (.var 0) (.cons (.int 2) .nil))))
def FS_L_word_0 : S := .for (.gn 3) (.irng1 (.bin .Add (.cal 1002 (.cons (.var 0) (.cons (.var 1) .nil))) (.int 1))) FB_L_word_0
def S_L_word : S := (.seq (.asg (.gn 2) (.lst true .nil))
    (.seq FS_L_word_0
    (.ret false (.var 2))))
def F_L_word : FD := ⟨2, 4, S_L_word⟩
/-- _law_right -/
def N_L_right : List Str := ["_law_pot_here", "_law_numbers", "_law_s", "_law_t", "_law_u", "_law_m", "_law_v", "_law_short", "_law_p", "_law_q", "_law_turn", "_law_word_here", "_law_told", "_law_at", "_law_apart", "_law_letter", "_law_rise", "_law_fall", "_law_number_here"]
def LC_L_right_0 : E := .lc false [18] (.gn 18) (.iseq (.var 1)) .omit (.bin .Add (.mk 55 (.cons (.int 0) .nil)) (.var 18))
def LC_L_right_1 : E := .lc false [11] (.gn 11) (.iseq (.lst false (.cons (.lst false (.cons (.int 0) .nil)) (.cons (.lst false (.cons (.int 1) .nil)) (.cons (.lst false (.cons (.int 0) (.cons (.int 0) .nil))) (.cons (.lst false (.cons (.int 0) (.cons (.int 1) .nil))) (.cons (.lst false (.cons (.int 1) (.cons (.int 1) .nil))) (.cons (.lst false (.cons (.int 1) (.cons (.int 0) .nil))) .nil)))))))) .omit (.cal 196 (.cons (.var 1) (.cons (.var 11) .nil)))
def FB_L_right_0 : S := (.asg (.gn 14) (.bin .Mult (.var 14) (.ite (.cmp .Eq (.var 15) (.int 0)) (.var 8) (.var 9))))
def FS_L_right_0 : S := .for (.gn 15) (.iseq (.var 11)) FB_L_right_0
def FB_L_right_1 : S := (.ite (.cmp .NotEq (.cal 196 (.cons (.var 1) (.cons (.bin .Add (.lst false (.cons (.var 15) (.cons (.var 15) .nil))) (.var 11)) .nil))) (.bin .Sub (.bin .Mult (.var 16) (.cal 196 (.cons (.var 1) (.cons (.bin .Add (.lst false (.cons (.var 15) .nil)) (.var 11)) .nil)))) (.bin .Mult (.var 17) (.var 12)))) (.ret false (.bl false)) .skip)
def FS_L_right_1 : S := .for (.gt (.cons (.gn 15) (.cons (.gn 16) (.cons (.gn 17) .nil)))) (.iseq (.lst false (.cons (.tup (.cons (.int 0) (.cons (.var 2) (.cons (.var 8) .nil)))) (.cons (.tup (.cons (.int 1) (.cons (.var 3) (.cons (.var 9) .nil)))) .nil)))) FB_L_right_1
def FB_L_right_2 : S := (.seq (.asg (.gn 11) (.cal 1004 (.cons (.var 0) (.cons (.int 6) .nil))))
    (.seq (.par (.cons (.gn 12) (.cons (.gn 13) .nil)) (.cons (.cal 196 (.cons (.var 1) (.cons (.var 11) .nil))) (.cons (.cal 1002 (.cons (.var 0) (.cons (.blt .len (.cons (.var 11) .nil)) .nil))) .nil)))
    (.seq (.ite (.or (.not (.isi (.var 12) [.cl 55])) (.cmp .NotEq (.cal 196 (.cons (.var 1) (.cons (.bin .Add (.sl (.var 11) (.var 13) .omit) (.sl (.var 11) .omit (.var 13))) .nil))) (.var 12))) (.ret false (.bl false)) .skip)
    (.seq (.ite (.cmp .NotEq (.calk 196 (.cons (.rev (.var 11)) (.cons (.var 1) .nil)) [1, 0]) (.var 12)) (.ret false (.bl false)) .skip)
    (.seq (.asg (.gn 14) (.mk 55 (.cons (.int 1) .nil)))
    (.seq FS_L_right_0
    (.seq (.ite (.cmp .NotEq (.cal 196 (.cons (.var 1) (.cons (.bin .Add (.var 11) (.var 11)) .nil))) (.bin .Sub (.bin .Mult (.var 12) (.var 12)) (.bin .Mult (.var 14) (.int 2)))) (.ret false (.bl false)) .skip)
    FS_L_right_1)))))))
def FS_L_right_2 : S := .for (.gn 10) (.irng1 (.int 3)) FB_L_right_2
def S_L_right : S := (.seq (.asg (.gn 1) (.tup (.cons (.cal 1003 (.cons (.var 0) .nil)) (.cons (.cal 1003 (.cons (.var 0) .nil)) (.cons (.cal 1003 (.cons (.var 0) .nil)) (.cons (.cal 1003 (.cons (.var 0) .nil)) (.cons (.cal 1003 (.cons (.var 0) .nil)) .nil)))))))
    (.seq (.asg (.gt (.cons (.gn 2) (.cons (.gn 3) (.cons (.gn 4) (.cons (.gn 5) (.cons (.gn 6) .nil)))))) LC_L_right_0)
    (.seq (.asg (.gn 7) LC_L_right_1)
    (.seq (.ite (.or (.cmp .NotEq (.var 7) (.lst false (.cons (.var 2) (.cons (.var 3) (.cons (.var 4) (.cons (.var 5) (.cons (.var 6) (.cons (.var 5) .nil)))))))) (.cmp .NotEq (.cal 196 (.cons (.var 1) (.cons (.lst false .nil) .nil))) (.mk 55 (.cons (.int 2) .nil)))) (.ret false (.bl false)) .skip)
    (.seq (.par (.cons (.gn 8) (.cons (.gn 9) .nil)) (.cons (.mth 55 "over" (.bin .Sub (.bin .Mult (.var 2) (.var 2)) (.var 4)) (.cons (.int 2) .nil)) (.cons (.mth 55 "over" (.bin .Sub (.bin .Mult (.var 3) (.var 3)) (.var 6)) (.cons (.int 2) .nil)) .nil)))
    (.seq FS_L_right_2
    (.ret false (.bl true))))))))
def F_L_right : FD := ⟨1, 19, S_L_right⟩
/-- law -/
def N_L_law : List Str := ["_law_script", "_law_k"]
def LC_L_law_0 : E := .lc false [1] (.gn 1) (.irng1 (.blt .max (.cons (.int 1) (.cons (.blt .min (.cons (.int 2) (.cons (.blt .len (.cons (.var 0) .nil)) .nil))) .nil)))) .omit (.cal 1005 (.cons (.cal 1001 (.cons (.var 0) (.cons (.var 1) .nil))) .nil))
def S_L_law : S := (.ret false (.blt .all (.cons LC_L_law_0 .nil)))
def F_L_law : FD := ⟨1, 2, S_L_law⟩
abbrev st31 : Stmt := top 9
def fi31 : FI := { id := 31, nm := "is_integer", cl := none, N := N_basics_is_integer, np := 1, st := st31, body := S_basics_is_integer, rp := false, dfl := [] }
abbrev st32 : Stmt := top 10
def fi32 : FI := { id := 32, nm := "is_count", cl := none, N := N_basics_is_count, np := 1, st := st32, body := S_basics_is_count, rp := false, dfl := [] }
abbrev st33 : Stmt := top 11
def fi33 : FI := { id := 33, nm := "is_list", cl := none, N := N_basics_is_list, np := 1, st := st33, body := S_basics_is_list, rp := false, dfl := [] }
abbrev st188 : Stmt := top 26
def fi188 : FI := { id := 188, nm := "want_five", cl := none, N := N_fives_want_five, np := 1, st := st188, body := S_fives_want_five, rp := false, dfl := [] }
abbrev st189 : Stmt := top 27
def fi189 : FI := { id := 189, nm := "is_short_word", cl := none, N := N_fives_is_short_word, np := 1, st := st189, body := S_fives_is_short_word, rp := false, dfl := [] }
abbrev st190 : Stmt := top 28
def fi190 : FI := { id := 190, nm := "half_less", cl := none, N := N_fives_half_less, np := 2, st := st190, body := S_fives_half_less, rp := false, dfl := [] }
abbrev st191 : Stmt := top 29
def fi191 : FI := { id := 191, nm := "led_first", cl := none, N := N_fives_led_first, np := 2, st := st191, body := S_fives_led_first, rp := false, dfl := [] }
abbrev st192 : Stmt := top 30
def fi192 : FI := { id := 192, nm := "led_second", cl := none, N := N_fives_led_second, np := 2, st := st192, body := S_fives_led_second, rp := false, dfl := [] }
abbrev st193 : Stmt := top 31
def fi193 : FI := { id := 193, nm := "sum_by", cl := none, N := N_fives_sum_by, np := 2, st := st193, body := S_fives_sum_by, rp := false, dfl := [] }
abbrev st196 : Stmt := top 32
def fi196 : FI := { id := 196, nm := "word_by", cl := none, N := N_fives_word_by, np := 2, st := st196, body := S_fives_word_by, rp := false, dfl := [] }
abbrev st333 : Stmt := top 15
def fi333 : FI := { id := 333, nm := "divisor_of", cl := none, N := N_ratios_divisor_of, np := 2, st := st333, body := S_ratios_divisor_of, rp := false, dfl := [] }
abbrev st334 : Stmt := inner 16 0
def fi334 : FI := { id := 334, nm := "__init__", cl := some 55, N := N_ratios_Ratio___init__, np := 3, st := st334, body := S_ratios_Ratio___init__, rp := false, dfl := [.int 1] }
abbrev st340 : Stmt := inner 16 6
def fi340 : FI := { id := 340, nm := "__add__", cl := some 55, N := N_ratios_Ratio___add__, np := 2, st := st340, body := S_ratios_Ratio___add__, rp := false, dfl := [] }
abbrev st341 : Stmt := inner 16 7
def fi341 : FI := { id := 341, nm := "__radd__", cl := some 55, N := N_ratios_Ratio___radd__, np := 2, st := st341, body := S_ratios_Ratio___radd__, rp := false, dfl := [] }
abbrev st342 : Stmt := inner 16 8
def fi342 : FI := { id := 342, nm := "__sub__", cl := some 55, N := N_ratios_Ratio___sub__, np := 2, st := st342, body := S_ratios_Ratio___sub__, rp := false, dfl := [] }
abbrev st343 : Stmt := inner 16 9
def fi343 : FI := { id := 343, nm := "__rsub__", cl := some 55, N := N_ratios_Ratio___rsub__, np := 2, st := st343, body := S_ratios_Ratio___rsub__, rp := false, dfl := [] }
abbrev st344 : Stmt := inner 16 10
def fi344 : FI := { id := 344, nm := "__mul__", cl := some 55, N := N_ratios_Ratio___mul__, np := 2, st := st344, body := S_ratios_Ratio___mul__, rp := false, dfl := [] }
abbrev st345 : Stmt := inner 16 11
def fi345 : FI := { id := 345, nm := "__rmul__", cl := some 55, N := N_ratios_Ratio___rmul__, np := 2, st := st345, body := S_ratios_Ratio___rmul__, rp := false, dfl := [] }
abbrev st346 : Stmt := inner 16 12
def fi346 : FI := { id := 346, nm := "__neg__", cl := some 55, N := N_ratios_Ratio___neg__, np := 1, st := st346, body := S_ratios_Ratio___neg__, rp := false, dfl := [] }
abbrev st347 : Stmt := inner 16 13
def fi347 : FI := { id := 347, nm := "over", cl := some 55, N := N_ratios_Ratio_over, np := 2, st := st347, body := S_ratios_Ratio_over, rp := false, dfl := [] }
abbrev st351 : Stmt := inner 16 17
def fi351 : FI := { id := 351, nm := "__eq__", cl := some 55, N := N_ratios_Ratio___eq__, np := 2, st := st351, body := S_ratios_Ratio___eq__, rp := false, dfl := [] }
abbrev st354 : Stmt := top 17
def fi354 : FI := { id := 354, nm := "told_pair", cl := none, N := N_ratios_told_pair, np := 1, st := st354, body := S_ratios_told_pair, rp := false, dfl := [] }
abbrev st355 : Stmt := top 18
def fi355 : FI := { id := 355, nm := "is_number", cl := none, N := N_ratios_is_number, np := 1, st := st355, body := S_ratios_is_number, rp := false, dfl := [] }
abbrev st356 : Stmt := top 19
def fi356 : FI := { id := 356, nm := "ratio_of", cl := none, N := N_ratios_ratio_of, np := 1, st := st356, body := S_ratios_ratio_of, rp := false, dfl := [] }
abbrev st420 : Stmt := top 23
def fi420 : FI := { id := 420, nm := "are_numbers", cl := none, N := N_solved_are_numbers, np := 2, st := st420, body := S_solved_are_numbers, rp := false, dfl := [] }
abbrev st1001 : Stmt := top 34
def fi1001 : FI := { id := 1001, nm := "_law_pot", cl := none, N := N_L_pot, np := 2, st := st1001, body := S_L_pot, rp := false, dfl := [] }
abbrev st1002 : Stmt := top 35
def fi1002 : FI := { id := 1002, nm := "_law_draw", cl := none, N := N_L_draw, np := 2, st := st1002, body := S_L_draw, rp := false, dfl := [] }
abbrev st1003 : Stmt := top 36
def fi1003 : FI := { id := 1003, nm := "_law_number", cl := none, N := N_L_number, np := 1, st := st1003, body := S_L_number, rp := false, dfl := [] }
abbrev st1004 : Stmt := top 37
def fi1004 : FI := { id := 1004, nm := "_law_word", cl := none, N := N_L_word, np := 2, st := st1004, body := S_L_word, rp := false, dfl := [] }
abbrev st1005 : Stmt := top 38
def fi1005 : FI := { id := 1005, nm := "_law_right", cl := none, N := N_L_right, np := 1, st := st1005, body := S_L_right, rp := false, dfl := [] }
abbrev st1006 : Stmt := top 39
def fi1006 : FI := { id := 1006, nm := "law", cl := none, N := N_L_law, np := 1, st := st1006, body := S_L_law, rp := false, dfl := [] }
def PT : Pg where
  fs := [fi31, fi32, fi33, fi188, fi189, fi190, fi191, fi192, fi193, fi196, fi333, fi334, fi340, fi341, fi342, fi343, fi344, fi345, fi346, fi347, fi351, fi354, fi355, fi356, fi420, fi1001, fi1002, fi1003, fi1004, fi1005, fi1006]
  cs := [{ id := 55, nm := "Ratio", flds := ["own_top", "own_bottom"], om := [("__add__", 340), ("__radd__", 341), ("__sub__", 342), ("__rsub__", 343), ("__mul__", 344), ("__rmul__", 345), ("__neg__", 346), ("__eq__", 351), ("over", 347)], ini := some 334, rep := none, pr := [], own := true, sup := [55], ins := true }]
  gi := [("PART", 1000000000000000000000000000000000000000000000000000000000000), ("MOST_WORD", 16)]
  gcd := [.gcd]
  kws := [(196, ["word", "five"], [1, 0])]
  bt := ["bool", "int", "list", "tuple"]
abbrev CC (b : Bool) (cA : CA) (fA : Nat → Addr) (fdA : Nat → FuncData) (psA : Nat → List Str) (fw : Nat) (k : Nat) (cf : CF) (rp : Store → T → Out Str) : Cl := ⟨PT.D b, PT.M b, cA, fA, fdA, psA, k, cf, rp, fw⟩
variable {cA : CA} {fA : Nat → Addr} {fdA : Nat → FuncData} {psA : Nat → List Str} {fw : Nat}
theorem body31 (b : Bool) (k : Nat) (cf : CF) (rp : Store → T → Out Str) : Kb (CC b cA fA fdA psA fw k cf rp) N_basics_is_integer (defScope st31) (defBody st31) S_basics_is_integer :=
  (b_one (t_ret (k_and (k_isi1 (by decide +kernel) rfl (k_var rfl (by decide +kernel)) (k_ty (by decide +kernel) (by decide +kernel))) (k_one (k_not (k_isi1 (by decide +kernel) rfl (k_var rfl (by decide +kernel)) (k_ty (by decide +kernel) (by decide +kernel))))))))
theorem ok31 : FiOk PT fw fi31 := ⟨⟨rfl, rfl, rfl, by decide +kernel, rfl, by decide +kernel, by decide +kernel⟩, rfl,
  fun _ kV doc pm an cdv ct us hl => match us, hl with | [_], _ => rfl,
  fun h => absurd rfl h,
  fun b cA fA fdA psA k cf rp => match b with | true => body31 true k cf rp | false => body31 false k cf rp⟩
theorem body32 (b : Bool) (k : Nat) (cf : CF) (rp : Store → T → Out Str) : Kb (CC b cA fA fdA psA fw k cf rp) N_basics_is_count (defScope st32) (defBody st32) S_basics_is_count :=
  (b_one (t_ret (k_and (k_cal rfl (by decide +kernel) rfl rfl (k_cons rfl (k_var rfl (by decide +kernel)) k_nil) (fun h => nomatch h)) (k_one (k_cmp rfl (k_var rfl (by decide +kernel)) k_int)))))
theorem ok32 : FiOk PT fw fi32 := ⟨⟨rfl, rfl, rfl, by decide +kernel, rfl, by decide +kernel, by decide +kernel⟩, rfl,
  fun _ kV doc pm an cdv ct us hl => match us, hl with | [_], _ => rfl,
  fun h => absurd rfl h,
  fun b cA fA fdA psA k cf rp => match b with | true => body32 true k cf rp | false => body32 false k cf rp⟩
theorem body33 (b : Bool) (k : Nat) (cf : CF) (rp : Store → T → Out Str) : Kb (CC b cA fA fdA psA fw k cf rp) N_basics_is_list (defScope st33) (defBody st33) S_basics_is_list :=
  (b_one (t_ret (k_isiT (by decide +kernel) rfl (by decide) (k_var rfl (by decide +kernel)) (.cons (k_ty (by decide +kernel) (by decide +kernel)) (.cons (k_ty (by decide +kernel) (by decide +kernel)) .nil)))))
theorem ok33 : FiOk PT fw fi33 := ⟨⟨rfl, rfl, rfl, by decide +kernel, rfl, by decide +kernel, by decide +kernel⟩, rfl,
  fun _ kV doc pm an cdv ct us hl => match us, hl with | [_], _ => rfl,
  fun h => absurd rfl h,
  fun b cA fA fdA psA k cf rp => match b with | true => body33 true k cf rp | false => body33 false k cf rp⟩
theorem body188 (b : Bool) (k : Nat) (cf : CF) (rp : Store → T → Out Str) : Kb (CC b cA fA fdA psA fw k cf rp) N_fives_want_five (defScope st188) (defBody st188) S_fives_want_five :=
  (b_cons (t_if (k_tw (k_wor (k_tnot (k_tv rfl (k_isi1 (by decide +kernel) rfl (k_var rfl (by decide +kernel)) (k_ty (by decide +kernel) (by decide +kernel))))) (k_w1o (k_tnot (k_tv rfl (k_cal rfl (by decide +kernel) rfl rfl (k_cons rfl (k_var rfl (by decide +kernel)) (k_cons rfl k_int k_nil)) (fun h => nomatch h))))))) (b_one t_junk) b_nil)
    (b_one (t_ret (k_blt (by decide +kernel) (by decide) (by decide +kernel) (fun h => nomatch h) rfl (k_cons rfl (k_lc ⟨(by decide +kernel), (by decide +kernel), rfl, (by decide +kernel)⟩ (k_iseq (k_var rfl (by decide +kernel))) k_ts0 (k_cal rfl (by decide +kernel) rfl rfl (k_cons rfl (k_var rfl (by decide +kernel)) k_nil) (fun h => nomatch h))) k_nil)))))
theorem ok188 : FiOk PT fw fi188 := ⟨⟨rfl, rfl, rfl, by decide +kernel, rfl, by decide +kernel, by decide +kernel⟩, rfl,
  fun _ kV doc pm an cdv ct us hl => match us, hl with | [_], _ => rfl,
  fun h => absurd rfl h,
  fun b cA fA fdA psA k cf rp => match b with | true => body188 true k cf rp | false => body188 false k cf rp⟩
theorem body189 (b : Bool) (k : Nat) (cf : CF) (rp : Store → T → Out Str) : Kb (CC b cA fA fdA psA fw k cf rp) N_fives_is_short_word (defScope st189) (defBody st189) S_fives_is_short_word :=
  (b_one (t_ret (k_and (k_cal rfl (by decide +kernel) rfl rfl (k_cons rfl (k_var rfl (by decide +kernel)) k_nil) (fun h => nomatch h)) (k_and (k_cmp rfl (k_blt (by decide +kernel) (by decide) (by decide +kernel) (fun h => nomatch h) rfl (k_cons rfl (k_var rfl (by decide +kernel)) k_nil)) (k_gi (by decide +kernel) rfl)) (k_one (k_blt (by decide +kernel) (by decide) (by decide +kernel) (fun h => nomatch h) rfl (k_cons rfl (k_lc ⟨(by decide +kernel), (by decide +kernel), rfl, (by decide +kernel)⟩ (k_iseq (k_var rfl (by decide +kernel))) k_ts0 (k_and (k_cal rfl (by decide +kernel) rfl rfl (k_cons rfl (k_var rfl (by decide +kernel)) k_nil) (fun h => nomatch h)) (k_one (k_cmp rfl (k_var rfl (by decide +kernel)) k_int)))) k_nil)))))))
theorem ok189 : FiOk PT fw fi189 := ⟨⟨rfl, rfl, rfl, by decide +kernel, rfl, by decide +kernel, by decide +kernel⟩, rfl,
  fun _ kV doc pm an cdv ct us hl => match us, hl with | [_], _ => rfl,
  fun h => absurd rfl h,
  fun b cA fA fdA psA k cf rp => match b with | true => body189 true k cf rp | false => body189 false k cf rp⟩
theorem body190 (b : Bool) (k : Nat) (cf : CF) (rp : Store → T → Out Str) : Kb (CC b cA fA fdA psA fw k cf rp) N_fives_half_less (defScope st190) (defBody st190) S_fives_half_less :=
  (b_one (t_ret (k_mth rfl rfl rfl rfl (by decide) rfl rfl (k_bin (k_bin (k_var rfl (by decide +kernel)) (k_var rfl (by decide +kernel))) (k_var rfl (by decide +kernel))) (k_cons rfl k_int k_nil) (fun h => nomatch h))))
theorem ok190 : FiOk PT fw fi190 := ⟨⟨rfl, rfl, rfl, by decide +kernel, rfl, by decide +kernel, by decide +kernel⟩, rfl,
  fun _ kV doc pm an cdv ct us hl => match us, hl with | [_, _], _ => rfl,
  fun h => absurd rfl h,
  fun b cA fA fdA psA k cf rp => match b with | true => body190 true k cf rp | false => body190 false k cf rp⟩
theorem body191 (b : Bool) (k : Nat) (cf : CF) (rp : Store → T → Out Str) : Kb (CC b cA fA fdA psA fw k cf rp) N_fives_led_first (defScope st191) (defBody st191) S_fives_led_first :=
  (b_cons (t_asg (fun _ _ => rfl) (fun _ _ => rfl) (fun _ => rfl) (g_gt rfl rfl (g_pcons rfl (g_gn rfl (by decide +kernel)) (g_pcons rfl (g_gn rfl (by decide +kernel)) (g_pcons rfl (g_gn rfl (by decide +kernel)) (g_pcons rfl (g_gn rfl (by decide +kernel)) (g_pcons rfl (g_gn rfl (by decide +kernel)) g_pnil)))))) (k_var rfl (by decide +kernel)))
    (b_cons (t_asg (fun _ _ => rfl) (fun _ _ => rfl) (fun _ => rfl) (g_gt rfl rfl (g_pcons rfl (g_gn rfl (by decide +kernel)) (g_pcons rfl (g_gn rfl (by decide +kernel)) (g_pcons rfl (g_gn rfl (by decide +kernel)) (g_pcons rfl (g_gn rfl (by decide +kernel)) g_pnil))))) (k_var rfl (by decide +kernel)))
    (b_cons (t_asg (fun _ _ => rfl) (fun _ _ => rfl) (fun _ => rfl) (g_gn rfl (by decide +kernel)) (k_cal rfl (by decide +kernel) rfl rfl (k_cons rfl (k_var rfl (by decide +kernel)) (k_cons rfl (k_var rfl (by decide +kernel)) k_nil)) (fun h => nomatch h)))
    (b_one (t_ret (k_tup (k_cons rfl (k_bin (k_bin (k_bin (k_var rfl (by decide +kernel)) (k_bin (k_var rfl (by decide +kernel)) (k_bin (k_var rfl (by decide +kernel)) (k_var rfl (by decide +kernel))))) (k_bin (k_var rfl (by decide +kernel)) (k_var rfl (by decide +kernel)))) (k_bin (k_bin (k_var rfl (by decide +kernel)) (k_var rfl (by decide +kernel))) (k_var rfl (by decide +kernel)))) (k_cons rfl (k_bin (k_bin (k_bin (k_var rfl (by decide +kernel)) (k_bin (k_var rfl (by decide +kernel)) (k_var rfl (by decide +kernel)))) (k_bin (k_var rfl (by decide +kernel)) (k_var rfl (by decide +kernel)))) (k_bin (k_var rfl (by decide +kernel)) (k_var rfl (by decide +kernel)))) (k_cons rfl (k_bin (k_bin (k_var rfl (by decide +kernel)) (k_var rfl (by decide +kernel))) (k_bin (k_var rfl (by decide +kernel)) (k_var rfl (by decide +kernel)))) (k_cons rfl (k_neg (k_var rfl (by decide +kernel))) k_nil))))))))))
theorem ok191 : FiOk PT fw fi191 := ⟨⟨rfl, rfl, rfl, by decide +kernel, rfl, by decide +kernel, by decide +kernel⟩, rfl,
  fun _ kV doc pm an cdv ct us hl => match us, hl with | [_, _], _ => rfl,
  fun h => absurd rfl h,
  fun b cA fA fdA psA k cf rp => match b with | true => body191 true k cf rp | false => body191 false k cf rp⟩
theorem body192 (b : Bool) (k : Nat) (cf : CF) (rp : Store → T → Out Str) : Kb (CC b cA fA fdA psA fw k cf rp) N_fives_led_second (defScope st192) (defBody st192) S_fives_led_second :=
  (b_cons (t_asg (fun _ _ => rfl) (fun _ _ => rfl) (fun _ => rfl) (g_gt rfl rfl (g_pcons rfl (g_gn rfl (by decide +kernel)) (g_pcons rfl (g_gn rfl (by decide +kernel)) (g_pcons rfl (g_gn rfl (by decide +kernel)) (g_pcons rfl (g_gn rfl (by decide +kernel)) (g_pcons rfl (g_gn rfl (by decide +kernel)) g_pnil)))))) (k_var rfl (by decide +kernel)))
    (b_cons (t_asg (fun _ _ => rfl) (fun _ _ => rfl) (fun _ => rfl) (g_gt rfl rfl (g_pcons rfl (g_gn rfl (by decide +kernel)) (g_pcons rfl (g_gn rfl (by decide +kernel)) (g_pcons rfl (g_gn rfl (by decide +kernel)) (g_pcons rfl (g_gn rfl (by decide +kernel)) g_pnil))))) (k_var rfl (by decide +kernel)))
    (b_cons (t_asg (fun _ _ => rfl) (fun _ _ => rfl) (fun _ => rfl) (g_gn rfl (by decide +kernel)) (k_cal rfl (by decide +kernel) rfl rfl (k_cons rfl (k_var rfl (by decide +kernel)) (k_cons rfl (k_var rfl (by decide +kernel)) k_nil)) (fun h => nomatch h)))
    (b_one (t_ret (k_tup (k_cons rfl (k_neg (k_bin (k_var rfl (by decide +kernel)) (k_var rfl (by decide +kernel)))) (k_cons rfl (k_neg (k_bin (k_var rfl (by decide +kernel)) (k_var rfl (by decide +kernel)))) (k_cons rfl (k_bin (k_var rfl (by decide +kernel)) (k_bin (k_var rfl (by decide +kernel)) (k_var rfl (by decide +kernel)))) (k_cons rfl (k_bin (k_var rfl (by decide +kernel)) (k_bin (k_var rfl (by decide +kernel)) (k_var rfl (by decide +kernel)))) k_nil))))))))))
theorem ok192 : FiOk PT fw fi192 := ⟨⟨rfl, rfl, rfl, by decide +kernel, rfl, by decide +kernel, by decide +kernel⟩, rfl,
  fun _ kV doc pm an cdv ct us hl => match us, hl with | [_, _], _ => rfl,
  fun h => absurd rfl h,
  fun b cA fA fdA psA k cf rp => match b with | true => body192 true k cf rp | false => body192 false k cf rp⟩
theorem body193 (b : Bool) (k : Nat) (cf : CF) (rp : Store → T → Out Str) : Kb (CC b cA fA fdA psA fw k cf rp) N_fives_sum_by (defScope st193) (defBody st193) S_fives_sum_by :=
  (b_cons (t_asg (fun env h => by cases env; cases h; rfl) (fun env h => by cases env; cases h; rfl) (fun _ => rfl) (g_gn rfl (by decide +kernel)) (k_tup (k_cons rfl (k_mk rfl rfl (by decide +kernel) rfl rfl (k_cons rfl k_int k_nil)) (k_cons rfl (k_mk rfl rfl (by decide +kernel) rfl rfl (k_cons rfl k_int k_nil)) (k_cons rfl (k_mk rfl rfl (by decide +kernel) rfl rfl (k_cons rfl k_int k_nil)) (k_cons rfl (k_mk rfl rfl (by decide +kernel) rfl rfl (k_cons rfl k_int k_nil)) k_nil))))))
    (b_cons (t_for rfl (by decide +kernel) (k_iseq (k_var rfl (by decide +kernel))) (b_one (t_asg (fun _ _ => rfl) (fun _ _ => rfl) (fun _ => rfl) (g_gn rfl (by decide +kernel)) (k_ite (k_tcmp rfl (k_var rfl (by decide +kernel)) k_int) (k_cal rfl (by decide +kernel) rfl rfl (k_cons rfl (k_var rfl (by decide +kernel)) (k_cons rfl (k_var rfl (by decide +kernel)) k_nil)) (fun h => nomatch h)) (k_cal rfl (by decide +kernel) rfl rfl (k_cons rfl (k_var rfl (by decide +kernel)) (k_cons rfl (k_var rfl (by decide +kernel)) k_nil)) (fun h => nomatch h))))))
    (b_cons (t_asg (fun _ _ => rfl) (fun _ _ => rfl) (fun _ => rfl) (g_gt rfl rfl (g_pcons rfl (g_gn rfl (by decide +kernel)) (g_pcons rfl (g_gn rfl (by decide +kernel)) (g_pcons rfl (g_gn rfl (by decide +kernel)) (g_pcons rfl (g_gn rfl (by decide +kernel)) g_pnil))))) (k_var rfl (by decide +kernel)))
    (b_one (t_ret (k_bin (k_bin (k_bin (k_bin (k_var rfl (by decide +kernel)) k_int) (k_bin (k_var rfl (by decide +kernel)) (k_ix rfl (k_var rfl (by decide +kernel)) k_int))) (k_bin (k_var rfl (by decide +kernel)) (k_ix rfl (k_var rfl (by decide +kernel)) k_int))) (k_bin (k_var rfl (by decide +kernel)) (k_ix rfl (k_var rfl (by decide +kernel)) k_int))))))))
theorem ok193 : FiOk PT fw fi193 := ⟨⟨rfl, rfl, rfl, by decide +kernel, rfl, by decide +kernel, by decide +kernel⟩, rfl,
  fun _ kV doc pm an cdv ct us hl => match us, hl with | [_, _], _ => rfl,
  fun h => absurd rfl h,
  fun b cA fA fdA psA k cf rp => match b with | true => body193 true k cf rp | false => body193 false k cf rp⟩
theorem body196 (b : Bool) (k : Nat) (cf : CF) (rp : Store → T → Out Str) : Kb (CC b cA fA fdA psA fw k cf rp) N_fives_word_by (defScope st196) (defBody st196) S_fives_word_by :=
  (b_cons (t_asg (fun _ _ => rfl) (fun _ _ => rfl) (fun _ => rfl) (g_gn rfl (by decide +kernel)) (k_cal rfl (by decide +kernel) rfl rfl (k_cons rfl (k_var rfl (by decide +kernel)) k_nil) (fun h => nomatch h)))
    (b_cons (t_if (k_tnot (k_tv rfl (k_cal rfl (by decide +kernel) rfl rfl (k_cons rfl (k_var rfl (by decide +kernel)) k_nil) (fun h => nomatch h)))) (b_one t_junk) b_nil)
    (b_one (t_ret (k_cal rfl (by decide +kernel) rfl rfl (k_cons rfl (k_var rfl (by decide +kernel)) (k_cons rfl (k_var rfl (by decide +kernel)) k_nil)) (fun h => nomatch h))))))
theorem ok196 : FiOk PT fw fi196 := ⟨⟨rfl, rfl, rfl, by decide +kernel, rfl, by decide +kernel, by decide +kernel⟩, rfl,
  fun _ kV doc pm an cdv ct us hl => match us, hl with | [_, _], _ => rfl,
  fun h => absurd rfl h,
  fun b cA fA fdA psA k cf rp => match b with | true => body196 true k cf rp | false => body196 false k cf rp⟩
theorem body333 (b : Bool) (k : Nat) (cf : CF) (rp : Store → T → Out Str) : Kb (CC b cA fA fdA psA fw k cf rp) N_ratios_divisor_of (defScope st333) (defBody st333) S_ratios_divisor_of :=
  (b_one (t_ret (k_blt (by decide +kernel) (by decide) (by decide +kernel) (fun _ => rfl) rfl (k_cons rfl (k_var rfl (by decide +kernel)) (k_cons rfl (k_var rfl (by decide +kernel)) k_nil)))))
theorem ok333 : FiOk PT fw fi333 := ⟨⟨rfl, rfl, rfl, by decide +kernel, rfl, by decide +kernel, by decide +kernel⟩, rfl,
  fun _ kV doc pm an cdv ct us hl => match us, hl with | [_, _], _ => rfl,
  fun h => absurd rfl h,
  fun b cA fA fdA psA k cf rp => match b with | true => body333 true k cf rp | false => body333 false k cf rp⟩
theorem body334 (b : Bool) (k : Nat) (cf : CF) (rp : Store → T → Out Str) : Kb (CC b cA fA fdA psA fw k cf rp) N_ratios_Ratio___init__ (defScope st334) (defBody st334) S_ratios_Ratio___init__ :=
  (b_cons (t_if (k_tnot (k_tv rfl (k_cal rfl (by decide +kernel) rfl rfl (k_cons rfl (k_var rfl (by decide +kernel)) k_nil) (fun h => nomatch h)))) (b_one t_junk) b_nil)
    (b_cons (t_if (k_tw (k_wor (k_tnot (k_tv rfl (k_cal rfl (by decide +kernel) rfl rfl (k_cons rfl (k_var rfl (by decide +kernel)) k_nil) (fun h => nomatch h)))) (k_w1o (k_tcmp rfl (k_var rfl (by decide +kernel)) k_int)))) (b_one t_junk) b_nil)
    (b_cons (t_asg (fun _ _ => rfl) (fun _ _ => rfl) (fun _ => rfl) (g_gn rfl (by decide +kernel)) (k_cal rfl (by decide +kernel) rfl rfl (k_cons rfl (k_var rfl (by decide +kernel)) (k_cons rfl (k_var rfl (by decide +kernel)) k_nil)) (fun h => nomatch h)))
    (b_cons (t_if (k_tcmp rfl (k_var rfl (by decide +kernel)) k_int) (b_one (t_asg (fun _ _ => rfl) (fun _ _ => rfl) (fun _ => rfl) (g_gn rfl (by decide +kernel)) (k_bin k_int (k_var rfl (by decide +kernel))))) b_nil)
    (b_cons (t_satt (fun _ => rfl) (k_var rfl (by decide +kernel)) (k_bin (k_var rfl (by decide +kernel)) (k_var rfl (by decide +kernel))))
    (b_one (t_satt (fun _ => rfl) (k_var rfl (by decide +kernel)) (k_bin (k_var rfl (by decide +kernel)) (k_var rfl (by decide +kernel))))))))))
theorem ok334 : FiOk PT fw fi334 := ⟨⟨rfl, rfl, rfl, by decide +kernel, rfl, by decide +kernel, by decide +kernel⟩, rfl,
  fun h => (by cases h),
  fun _ n h => match n, h with | 0, _ => ⟨by decide, fun T kV doc pm an cdv ct us its hu hi => match us, its, hu, hi with | [_, _, _], [_], _, _ => ⟨_, rfl, rfl⟩⟩ | 1, _ => ⟨by decide, fun T kV doc pm an cdv ct us its hu hi => match us, its, hu, hi with | [_, _], [_], _, _ => ⟨_, rfl, rfl⟩⟩ | n + 2, h => (Nat.not_succ_le_zero _ (Nat.le_of_add_le_add_right (b := 1) (show n + 1 + 1 ≤ 0 + 1 from h))).elim,
  fun b cA fA fdA psA k cf rp => match b with | true => body334 true k cf rp | false => body334 false k cf rp⟩
theorem body340 (b : Bool) (k : Nat) (cf : CF) (rp : Store → T → Out Str) : Kb (CC b cA fA fdA psA fw k cf rp) N_ratios_Ratio___add__ (defScope st340) (defBody st340) S_ratios_Ratio___add__ :=
  (b_cons (t_asg (fun _ _ => rfl) (fun _ _ => rfl) (fun _ => rfl) (g_gt rfl rfl (g_pcons rfl (g_gn rfl (by decide +kernel)) (g_pcons rfl (g_gn rfl (by decide +kernel)) g_pnil))) (k_cal rfl (by decide +kernel) rfl rfl (k_cons rfl (k_var rfl (by decide +kernel)) k_nil) (fun h => nomatch h)))
    (b_one (t_ret (k_mk rfl rfl (by decide +kernel) rfl rfl (k_cons rfl (k_bin (k_bin (k_att rfl (k_var rfl (by decide +kernel))) (k_var rfl (by decide +kernel))) (k_bin (k_var rfl (by decide +kernel)) (k_att rfl (k_var rfl (by decide +kernel))))) (k_cons rfl (k_bin (k_att rfl (k_var rfl (by decide +kernel))) (k_var rfl (by decide +kernel))) k_nil))))))
theorem ok340 : FiOk PT fw fi340 := ⟨⟨rfl, rfl, rfl, by decide +kernel, rfl, by decide +kernel, by decide +kernel⟩, rfl,
  fun _ kV doc pm an cdv ct us hl => match us, hl with | [_, _], _ => rfl,
  fun h => absurd rfl h,
  fun b cA fA fdA psA k cf rp => match b with | true => body340 true k cf rp | false => body340 false k cf rp⟩
theorem body341 (b : Bool) (k : Nat) (cf : CF) (rp : Store → T → Out Str) : Kb (CC b cA fA fdA psA fw k cf rp) N_ratios_Ratio___radd__ (defScope st341) (defBody st341) S_ratios_Ratio___radd__ :=
  (b_cons (t_asg (fun _ _ => rfl) (fun _ _ => rfl) (fun _ => rfl) (g_gt rfl rfl (g_pcons rfl (g_gn rfl (by decide +kernel)) (g_pcons rfl (g_gn rfl (by decide +kernel)) g_pnil))) (k_cal rfl (by decide +kernel) rfl rfl (k_cons rfl (k_var rfl (by decide +kernel)) k_nil) (fun h => nomatch h)))
    (b_one (t_ret (k_mk rfl rfl (by decide +kernel) rfl rfl (k_cons rfl (k_bin (k_bin (k_att rfl (k_var rfl (by decide +kernel))) (k_var rfl (by decide +kernel))) (k_bin (k_var rfl (by decide +kernel)) (k_att rfl (k_var rfl (by decide +kernel))))) (k_cons rfl (k_bin (k_att rfl (k_var rfl (by decide +kernel))) (k_var rfl (by decide +kernel))) k_nil))))))
theorem ok341 : FiOk PT fw fi341 := ⟨⟨rfl, rfl, rfl, by decide +kernel, rfl, by decide +kernel, by decide +kernel⟩, rfl,
  fun _ kV doc pm an cdv ct us hl => match us, hl with | [_, _], _ => rfl,
  fun h => absurd rfl h,
  fun b cA fA fdA psA k cf rp => match b with | true => body341 true k cf rp | false => body341 false k cf rp⟩
theorem body342 (b : Bool) (k : Nat) (cf : CF) (rp : Store → T → Out Str) : Kb (CC b cA fA fdA psA fw k cf rp) N_ratios_Ratio___sub__ (defScope st342) (defBody st342) S_ratios_Ratio___sub__ :=
  (b_cons (t_asg (fun _ _ => rfl) (fun _ _ => rfl) (fun _ => rfl) (g_gt rfl rfl (g_pcons rfl (g_gn rfl (by decide +kernel)) (g_pcons rfl (g_gn rfl (by decide +kernel)) g_pnil))) (k_cal rfl (by decide +kernel) rfl rfl (k_cons rfl (k_var rfl (by decide +kernel)) k_nil) (fun h => nomatch h)))
    (b_one (t_ret (k_mk rfl rfl (by decide +kernel) rfl rfl (k_cons rfl (k_bin (k_bin (k_att rfl (k_var rfl (by decide +kernel))) (k_var rfl (by decide +kernel))) (k_bin (k_var rfl (by decide +kernel)) (k_att rfl (k_var rfl (by decide +kernel))))) (k_cons rfl (k_bin (k_att rfl (k_var rfl (by decide +kernel))) (k_var rfl (by decide +kernel))) k_nil))))))
theorem ok342 : FiOk PT fw fi342 := ⟨⟨rfl, rfl, rfl, by decide +kernel, rfl, by decide +kernel, by decide +kernel⟩, rfl,
  fun _ kV doc pm an cdv ct us hl => match us, hl with | [_, _], _ => rfl,
  fun h => absurd rfl h,
  fun b cA fA fdA psA k cf rp => match b with | true => body342 true k cf rp | false => body342 false k cf rp⟩
theorem body343 (b : Bool) (k : Nat) (cf : CF) (rp : Store → T → Out Str) : Kb (CC b cA fA fdA psA fw k cf rp) N_ratios_Ratio___rsub__ (defScope st343) (defBody st343) S_ratios_Ratio___rsub__ :=
  (b_cons (t_asg (fun _ _ => rfl) (fun _ _ => rfl) (fun _ => rfl) (g_gt rfl rfl (g_pcons rfl (g_gn rfl (by decide +kernel)) (g_pcons rfl (g_gn rfl (by decide +kernel)) g_pnil))) (k_cal rfl (by decide +kernel) rfl rfl (k_cons rfl (k_var rfl (by decide +kernel)) k_nil) (fun h => nomatch h)))
    (b_one (t_ret (k_mk rfl rfl (by decide +kernel) rfl rfl (k_cons rfl (k_bin (k_bin (k_var rfl (by decide +kernel)) (k_att rfl (k_var rfl (by decide +kernel)))) (k_bin (k_att rfl (k_var rfl (by decide +kernel))) (k_var rfl (by decide +kernel)))) (k_cons rfl (k_bin (k_att rfl (k_var rfl (by decide +kernel))) (k_var rfl (by decide +kernel))) k_nil))))))
theorem ok343 : FiOk PT fw fi343 := ⟨⟨rfl, rfl, rfl, by decide +kernel, rfl, by decide +kernel, by decide +kernel⟩, rfl,
  fun _ kV doc pm an cdv ct us hl => match us, hl with | [_, _], _ => rfl,
  fun h => absurd rfl h,
  fun b cA fA fdA psA k cf rp => match b with | true => body343 true k cf rp | false => body343 false k cf rp⟩
theorem body344 (b : Bool) (k : Nat) (cf : CF) (rp : Store → T → Out Str) : Kb (CC b cA fA fdA psA fw k cf rp) N_ratios_Ratio___mul__ (defScope st344) (defBody st344) S_ratios_Ratio___mul__ :=
  (b_cons (t_asg (fun _ _ => rfl) (fun _ _ => rfl) (fun _ => rfl) (g_gt rfl rfl (g_pcons rfl (g_gn rfl (by decide +kernel)) (g_pcons rfl (g_gn rfl (by decide +kernel)) g_pnil))) (k_cal rfl (by decide +kernel) rfl rfl (k_cons rfl (k_var rfl (by decide +kernel)) k_nil) (fun h => nomatch h)))
    (b_one (t_ret (k_mk rfl rfl (by decide +kernel) rfl rfl (k_cons rfl (k_bin (k_att rfl (k_var rfl (by decide +kernel))) (k_var rfl (by decide +kernel))) (k_cons rfl (k_bin (k_att rfl (k_var rfl (by decide +kernel))) (k_var rfl (by decide +kernel))) k_nil))))))
theorem ok344 : FiOk PT fw fi344 := ⟨⟨rfl, rfl, rfl, by decide +kernel, rfl, by decide +kernel, by decide +kernel⟩, rfl,
  fun _ kV doc pm an cdv ct us hl => match us, hl with | [_, _], _ => rfl,
  fun h => absurd rfl h,
  fun b cA fA fdA psA k cf rp => match b with | true => body344 true k cf rp | false => body344 false k cf rp⟩
theorem body345 (b : Bool) (k : Nat) (cf : CF) (rp : Store → T → Out Str) : Kb (CC b cA fA fdA psA fw k cf rp) N_ratios_Ratio___rmul__ (defScope st345) (defBody st345) S_ratios_Ratio___rmul__ :=
  (b_cons (t_asg (fun _ _ => rfl) (fun _ _ => rfl) (fun _ => rfl) (g_gt rfl rfl (g_pcons rfl (g_gn rfl (by decide +kernel)) (g_pcons rfl (g_gn rfl (by decide +kernel)) g_pnil))) (k_cal rfl (by decide +kernel) rfl rfl (k_cons rfl (k_var rfl (by decide +kernel)) k_nil) (fun h => nomatch h)))
    (b_one (t_ret (k_mk rfl rfl (by decide +kernel) rfl rfl (k_cons rfl (k_bin (k_att rfl (k_var rfl (by decide +kernel))) (k_var rfl (by decide +kernel))) (k_cons rfl (k_bin (k_att rfl (k_var rfl (by decide +kernel))) (k_var rfl (by decide +kernel))) k_nil))))))
theorem ok345 : FiOk PT fw fi345 := ⟨⟨rfl, rfl, rfl, by decide +kernel, rfl, by decide +kernel, by decide +kernel⟩, rfl,
  fun _ kV doc pm an cdv ct us hl => match us, hl with | [_, _], _ => rfl,
  fun h => absurd rfl h,
  fun b cA fA fdA psA k cf rp => match b with | true => body345 true k cf rp | false => body345 false k cf rp⟩
theorem body346 (b : Bool) (k : Nat) (cf : CF) (rp : Store → T → Out Str) : Kb (CC b cA fA fdA psA fw k cf rp) N_ratios_Ratio___neg__ (defScope st346) (defBody st346) S_ratios_Ratio___neg__ :=
  (b_one (t_ret (k_mk rfl rfl (by decide +kernel) rfl rfl (k_cons rfl (k_bin k_int (k_att rfl (k_var rfl (by decide +kernel)))) (k_cons rfl (k_att rfl (k_var rfl (by decide +kernel))) k_nil)))))
theorem ok346 : FiOk PT fw fi346 := ⟨⟨rfl, rfl, rfl, by decide +kernel, rfl, by decide +kernel, by decide +kernel⟩, rfl,
  fun _ kV doc pm an cdv ct us hl => match us, hl with | [_], _ => rfl,
  fun h => absurd rfl h,
  fun b cA fA fdA psA k cf rp => match b with | true => body346 true k cf rp | false => body346 false k cf rp⟩
theorem body347 (b : Bool) (k : Nat) (cf : CF) (rp : Store → T → Out Str) : Kb (CC b cA fA fdA psA fw k cf rp) N_ratios_Ratio_over (defScope st347) (defBody st347) S_ratios_Ratio_over :=
  (b_cons (t_asg (fun _ _ => rfl) (fun _ _ => rfl) (fun _ => rfl) (g_gt rfl rfl (g_pcons rfl (g_gn rfl (by decide +kernel)) (g_pcons rfl (g_gn rfl (by decide +kernel)) g_pnil))) (k_cal rfl (by decide +kernel) rfl rfl (k_cons rfl (k_var rfl (by decide +kernel)) k_nil) (fun h => nomatch h)))
    (b_cons (t_if (k_tcmp rfl (k_var rfl (by decide +kernel)) k_int) (b_one t_junk) b_nil)
    (b_one (t_ret (k_mk rfl rfl (by decide +kernel) rfl rfl (k_cons rfl (k_bin (k_att rfl (k_var rfl (by decide +kernel))) (k_var rfl (by decide +kernel))) (k_cons rfl (k_bin (k_att rfl (k_var rfl (by decide +kernel))) (k_var rfl (by decide +kernel))) k_nil)))))))
theorem ok347 : FiOk PT fw fi347 := ⟨⟨rfl, rfl, rfl, by decide +kernel, rfl, by decide +kernel, by decide +kernel⟩, rfl,
  fun _ kV doc pm an cdv ct us hl => match us, hl with | [_, _], _ => rfl,
  fun h => absurd rfl h,
  fun b cA fA fdA psA k cf rp => match b with | true => body347 true k cf rp | false => body347 false k cf rp⟩
theorem body351 (b : Bool) (k : Nat) (cf : CF) (rp : Store → T → Out Str) : Kb (CC b cA fA fdA psA fw k cf rp) N_ratios_Ratio___eq__ (defScope st351) (defBody st351) S_ratios_Ratio___eq__ :=
  (b_cons (t_if (k_tnot (k_tv rfl (k_isi1 (by decide +kernel) rfl (k_var rfl (by decide +kernel)) (k_cls (by decide +kernel) rfl)))) (b_one (t_ret k_bl)) b_nil)
    (b_one (t_ret (k_and (k_cmp rfl (k_att rfl (k_var rfl (by decide +kernel))) (k_att rfl (k_var rfl (by decide +kernel)))) (k_one (k_cmp rfl (k_att rfl (k_var rfl (by decide +kernel))) (k_att rfl (k_var rfl (by decide +kernel)))))))))
theorem ok351 : FiOk PT fw fi351 := ⟨⟨rfl, rfl, rfl, by decide +kernel, rfl, by decide +kernel, by decide +kernel⟩, rfl,
  fun _ kV doc pm an cdv ct us hl => match us, hl with | [_, _], _ => rfl,
  fun h => absurd rfl h,
  fun b cA fA fdA psA k cf rp => match b with | true => body351 true k cf rp | false => body351 false k cf rp⟩
theorem body354 (b : Bool) (k : Nat) (cf : CF) (rp : Store → T → Out Str) : Kb (CC b cA fA fdA psA fw k cf rp) N_ratios_told_pair (defScope st354) (defBody st354) S_ratios_told_pair :=
  (b_cons (t_if (k_tv rfl (k_isi1 (by decide +kernel) rfl (k_var rfl (by decide +kernel)) (k_cls (by decide +kernel) rfl))) (b_one (t_ret (k_tup (k_cons rfl (k_att rfl (k_var rfl (by decide +kernel))) (k_cons rfl (k_att rfl (k_var rfl (by decide +kernel))) k_nil))))) b_nil)
    (b_cons (t_if (k_tnot (k_tv rfl (k_cal rfl (by decide +kernel) rfl rfl (k_cons rfl (k_var rfl (by decide +kernel)) k_nil) (fun h => nomatch h)))) (b_one t_junk) b_nil)
    (b_one (t_ret (k_tup (k_cons rfl (k_var rfl (by decide +kernel)) (k_cons rfl k_int k_nil)))))))
theorem ok354 : FiOk PT fw fi354 := ⟨⟨rfl, rfl, rfl, by decide +kernel, rfl, by decide +kernel, by decide +kernel⟩, rfl,
  fun _ kV doc pm an cdv ct us hl => match us, hl with | [_], _ => rfl,
  fun h => absurd rfl h,
  fun b cA fA fdA psA k cf rp => match b with | true => body354 true k cf rp | false => body354 false k cf rp⟩
theorem body355 (b : Bool) (k : Nat) (cf : CF) (rp : Store → T → Out Str) : Kb (CC b cA fA fdA psA fw k cf rp) N_ratios_is_number (defScope st355) (defBody st355) S_ratios_is_number :=
  (b_one (t_ret (k_or (k_cal rfl (by decide +kernel) rfl rfl (k_cons rfl (k_var rfl (by decide +kernel)) k_nil) (fun h => nomatch h)) (k_one (k_isi1 (by decide +kernel) rfl (k_var rfl (by decide +kernel)) (k_cls (by decide +kernel) rfl))))))
theorem ok355 : FiOk PT fw fi355 := ⟨⟨rfl, rfl, rfl, by decide +kernel, rfl, by decide +kernel, by decide +kernel⟩, rfl,
  fun _ kV doc pm an cdv ct us hl => match us, hl with | [_], _ => rfl,
  fun h => absurd rfl h,
  fun b cA fA fdA psA k cf rp => match b with | true => body355 true k cf rp | false => body355 false k cf rp⟩
theorem body356 (b : Bool) (k : Nat) (cf : CF) (rp : Store → T → Out Str) : Kb (CC b cA fA fdA psA fw k cf rp) N_ratios_ratio_of (defScope st356) (defBody st356) S_ratios_ratio_of :=
  (b_one (t_ret (k_ite (k_tv rfl (k_isi1 (by decide +kernel) rfl (k_var rfl (by decide +kernel)) (k_cls (by decide +kernel) rfl))) (k_var rfl (by decide +kernel)) (k_mk rfl rfl (by decide +kernel) rfl rfl (k_cons rfl (k_var rfl (by decide +kernel)) k_nil)))))
theorem ok356 : FiOk PT fw fi356 := ⟨⟨rfl, rfl, rfl, by decide +kernel, rfl, by decide +kernel, by decide +kernel⟩, rfl,
  fun _ kV doc pm an cdv ct us hl => match us, hl with | [_], _ => rfl,
  fun h => absurd rfl h,
  fun b cA fA fdA psA k cf rp => match b with | true => body356 true k cf rp | false => body356 false k cf rp⟩
theorem body420 (b : Bool) (k : Nat) (cf : CF) (rp : Store → T → Out Str) : Kb (CC b cA fA fdA psA fw k cf rp) N_solved_are_numbers (defScope st420) (defBody st420) S_solved_are_numbers :=
  (b_one (t_ret (k_and (k_cal rfl (by decide +kernel) rfl rfl (k_cons rfl (k_var rfl (by decide +kernel)) k_nil) (fun h => nomatch h)) (k_and (k_cmp rfl (k_blt (by decide +kernel) (by decide) (by decide +kernel) (fun h => nomatch h) rfl (k_cons rfl (k_var rfl (by decide +kernel)) k_nil)) (k_var rfl (by decide +kernel))) (k_one (k_blt (by decide +kernel) (by decide) (by decide +kernel) (fun h => nomatch h) rfl (k_cons rfl (k_lc ⟨(by decide +kernel), (by decide +kernel), rfl, (by decide +kernel)⟩ (k_iseq (k_var rfl (by decide +kernel))) k_ts0 (k_cal rfl (by decide +kernel) rfl rfl (k_cons rfl (k_var rfl (by decide +kernel)) k_nil) (fun h => nomatch h))) k_nil)))))))
theorem ok420 : FiOk PT fw fi420 := ⟨⟨rfl, rfl, rfl, by decide +kernel, rfl, by decide +kernel, by decide +kernel⟩, rfl,
  fun _ kV doc pm an cdv ct us hl => match us, hl with | [_, _], _ => rfl,
  fun h => absurd rfl h,
  fun b cA fA fdA psA k cf rp => match b with | true => body420 true k cf rp | false => body420 false k cf rp⟩
theorem body1001 (b : Bool) (k : Nat) (cf : CF) (rp : Store → T → Out Str) : Kb (CC b cA fA fdA psA fw k cf rp) N_L_pot (defScope st1001) (defBody st1001) S_L_pot :=
  (b_cons (t_asg (fun _ _ => rfl) (fun _ _ => rfl) (fun _ => rfl) (g_gn rfl (by decide +kernel)) (k_bin (k_bin (k_bin k_int (k_var rfl (by decide +kernel))) k_int) (k_bin (k_blt (by decide +kernel) (by decide) (by decide +kernel) (fun h => nomatch h) rfl (k_cons rfl (k_sl (k_var rfl (by decide +kernel)) k_omit (k_part rfl k_int)) k_nil)) k_int)))
    (b_cons (t_if (k_tcmp rfl (k_var rfl (by decide +kernel)) (k_blt (by decide +kernel) (by decide) (by decide +kernel) (fun h => nomatch h) rfl (k_cons rfl (k_var rfl (by decide +kernel)) k_nil))) (b_one (t_asg (fun _ _ => rfl) (fun _ _ => rfl) (fun _ => rfl) (g_gn rfl (by decide +kernel)) (k_blt (by decide +kernel) (by decide) (by decide +kernel) (fun h => nomatch h) rfl (k_cons rfl (k_ix rfl (k_var rfl (by decide +kernel)) (k_var rfl (by decide +kernel))) k_nil)))) b_nil)
    (b_one (t_ret (k_lst (k_cons rfl (k_blt (by decide +kernel) (by decide) (by decide +kernel) (fun h => nomatch h) rfl (k_cons rfl k_int (k_cons rfl (k_bin (k_var rfl (by decide +kernel)) (k_bin k_int k_int)) k_nil))) (k_cons rfl (k_bin (k_bin (k_bin (k_bin (k_bin (k_var rfl (by decide +kernel)) k_int) k_int) (k_bin (k_bin (k_bin k_int (k_var rfl (by decide +kernel))) k_int) k_int)) k_int) k_int) k_nil)))))))
theorem ok1001 : FiOk PT fw fi1001 := ⟨⟨rfl, rfl, rfl, by decide +kernel, rfl, by decide +kernel, by decide +kernel⟩, rfl,
  fun _ kV doc pm an cdv ct us hl => match us, hl with | [_, _], _ => rfl,
  fun h => absurd rfl h,
  fun b cA fA fdA psA k cf rp => match b with | true => body1001 true k cf rp | false => body1001 false k cf rp⟩
theorem body1002 (b : Bool) (k : Nat) (cf : CF) (rp : Store → T → Out Str) : Kb (CC b cA fA fdA psA fw k cf rp) N_L_draw (defScope st1002) (defBody st1002) S_L_draw :=
  (b_cons (t_if (k_tcmp rfl (k_ix rfl (k_var rfl (by decide +kernel)) k_int) k_int) (b_cons (t_asg (fun _ _ => rfl) (fun _ _ => rfl) (fun _ => rfl) (g_gt rfl rfl (g_pcons rfl (g_ix (fun _ _ => rfl) (k_var rfl (by decide +kernel)) k_int) (g_pcons rfl (g_gn rfl (by decide +kernel)) g_pnil))) (k_blt (by decide +kernel) (by decide) (by decide +kernel) (fun h => nomatch h) rfl (k_cons rfl (k_ix rfl (k_var rfl (by decide +kernel)) k_int) (k_cons rfl (k_var rfl (by decide +kernel)) k_nil))))
    (b_one (t_ret (k_var rfl (by decide +kernel))))) b_nil)
    (b_cons (t_asg (fun _ _ => rfl) (fun _ _ => rfl) (fun _ => rfl) (g_ix (fun _ _ => rfl) (k_var rfl (by decide +kernel)) k_int) (k_bin (k_bin (k_bin (k_ix rfl (k_var rfl (by decide +kernel)) k_int) k_int) k_int) k_int))
    (b_one (t_ret (k_bin (k_bin (k_bin (k_bin (k_ix rfl (k_var rfl (by decide +kernel)) k_int) (k_ix rfl (k_var rfl (by decide +kernel)) k_int)) k_int) k_int) (k_var rfl (by decide +kernel)))))))
theorem ok1002 : FiOk PT fw fi1002 := ⟨⟨rfl, rfl, rfl, by decide +kernel, rfl, by decide +kernel, by decide +kernel⟩, rfl,
  fun _ kV doc pm an cdv ct us hl => match us, hl with | [_, _], _ => rfl,
  fun h => absurd rfl h,
  fun b cA fA fdA psA k cf rp => match b with | true => body1002 true k cf rp | false => body1002 false k cf rp⟩
theorem body1003 (b : Bool) (k : Nat) (cf : CF) (rp : Store → T → Out Str) : Kb (CC b cA fA fdA psA fw k cf rp) N_L_number (defScope st1003) (defBody st1003) S_L_number :=
  (b_cons (t_asg (fun _ _ => rfl) (fun _ _ => rfl) (fun _ => rfl) (g_gn rfl (by decide +kernel)) (k_bin (k_cal rfl (by decide +kernel) rfl rfl (k_cons rfl (k_var rfl (by decide +kernel)) (k_cons rfl k_int k_nil)) (fun h => nomatch h)) k_int))
    (b_one (t_ret (k_ite (k_tcmp rfl (k_cal rfl (by decide +kernel) rfl rfl (k_cons rfl (k_var rfl (by decide +kernel)) (k_cons rfl k_int k_nil)) (fun h => nomatch h)) k_int) (k_mk rfl rfl (by decide +kernel) rfl rfl (k_cons rfl (k_var rfl (by decide +kernel)) (k_cons rfl k_int k_nil))) (k_var rfl (by decide +kernel))))))
theorem ok1003 : FiOk PT fw fi1003 := ⟨⟨rfl, rfl, rfl, by decide +kernel, rfl, by decide +kernel, by decide +kernel⟩, rfl,
  fun _ kV doc pm an cdv ct us hl => match us, hl with | [_], _ => rfl,
  fun h => absurd rfl h,
  fun b cA fA fdA psA k cf rp => match b with | true => body1003 true k cf rp | false => body1003 false k cf rp⟩
theorem body1004 (b : Bool) (k : Nat) (cf : CF) (rp : Store → T → Out Str) : Kb (CC b cA fA fdA psA fw k cf rp) N_L_word (defScope st1004) (defBody st1004) S_L_word :=
  (b_cons (t_asg (fun _ _ => rfl) (fun _ _ => rfl) (fun _ => rfl) (g_gn rfl (by decide +kernel)) (k_lst k_nil))
    (b_cons (t_for rfl (by decide +kernel) (k_irng1 (by decide +kernel) rfl (k_bin (k_cal rfl (by decide +kernel) rfl rfl (k_cons rfl (k_var rfl (by decide +kernel)) (k_cons rfl (k_var rfl (by decide +kernel)) k_nil)) (fun h => nomatch h)) k_int)) (b_one (t_app rfl (by decide +kernel) rfl rfl (k_cal rfl (by decide +kernel) rfl rfl (k_cons rfl (k_var rfl (by decide +kernel)) (k_cons rfl k_int k_nil)) (fun h => nomatch h)))))
    (b_one (t_ret (k_var rfl (by decide +kernel))))))
theorem ok1004 : FiOk PT fw fi1004 := ⟨⟨rfl, rfl, rfl, by decide +kernel, rfl, by decide +kernel, by decide +kernel⟩, rfl,
  fun _ kV doc pm an cdv ct us hl => match us, hl with | [_, _], _ => rfl,
  fun h => absurd rfl h,
  fun b cA fA fdA psA k cf rp => match b with | true => body1004 true k cf rp | false => body1004 false k cf rp⟩
theorem body1005 (b : Bool) (k : Nat) (cf : CF) (rp : Store → T → Out Str) : Kb (CC b cA fA fdA psA fw k cf rp) N_L_right (defScope st1005) (defBody st1005) S_L_right :=
  (b_cons (t_asg (fun env h => by cases env; cases h; rfl) (fun env h => by cases env; cases h; rfl) (fun _ => rfl) (g_gn rfl (by decide +kernel)) (k_tup (k_cons rfl (k_cal rfl (by decide +kernel) rfl rfl (k_cons rfl (k_var rfl (by decide +kernel)) k_nil) (fun h => nomatch h)) (k_cons rfl (k_cal rfl (by decide +kernel) rfl rfl (k_cons rfl (k_var rfl (by decide +kernel)) k_nil) (fun h => nomatch h)) (k_cons rfl (k_cal rfl (by decide +kernel) rfl rfl (k_cons rfl (k_var rfl (by decide +kernel)) k_nil) (fun h => nomatch h)) (k_cons rfl (k_cal rfl (by decide +kernel) rfl rfl (k_cons rfl (k_var rfl (by decide +kernel)) k_nil) (fun h => nomatch h)) (k_cons rfl (k_cal rfl (by decide +kernel) rfl rfl (k_cons rfl (k_var rfl (by decide +kernel)) k_nil) (fun h => nomatch h)) k_nil)))))))
    (b_cons (t_asg (fun env h => by cases env; cases h; rfl) (fun env h => by cases env; cases h; rfl) (fun _ => rfl) (g_gt rfl rfl (g_pcons rfl (g_gn rfl (by decide +kernel)) (g_pcons rfl (g_gn rfl (by decide +kernel)) (g_pcons rfl (g_gn rfl (by decide +kernel)) (g_pcons rfl (g_gn rfl (by decide +kernel)) (g_pcons rfl (g_gn rfl (by decide +kernel)) g_pnil)))))) (k_lc ⟨(by decide +kernel), (by decide +kernel), rfl, (by decide +kernel)⟩ (k_iseq (k_var rfl (by decide +kernel))) k_ts0 (k_bin (k_mk rfl rfl (by decide +kernel) rfl rfl (k_cons rfl k_int k_nil)) (k_var rfl (by decide +kernel)))))
    (b_cons (t_lc rfl (by decide +kernel) (by decide +kernel) rfl (by decide +kernel) ⟨(by decide +kernel), (by decide +kernel), rfl, (by decide +kernel)⟩ (k_iseq (k_lst (k_cons rfl (k_lst (k_cons rfl k_int k_nil)) (k_cons rfl (k_lst (k_cons rfl k_int k_nil)) (k_cons rfl (k_lst (k_cons rfl k_int (k_cons rfl k_int k_nil))) (k_cons rfl (k_lst (k_cons rfl k_int (k_cons rfl k_int k_nil))) (k_cons rfl (k_lst (k_cons rfl k_int (k_cons rfl k_int k_nil))) (k_cons rfl (k_lst (k_cons rfl k_int (k_cons rfl k_int k_nil))) k_nil)))))))) k_ts0 (k_cal rfl (by decide +kernel) rfl rfl (k_cons rfl (k_var rfl (by decide +kernel)) (k_cons rfl (k_var rfl (by decide +kernel)) k_nil)) (fun h => nomatch h)))
    (b_cons (t_if (k_tw (k_wor (k_tcmp rfl (k_var rfl (by decide +kernel)) (k_lst (k_cons rfl (k_var rfl (by decide +kernel)) (k_cons rfl (k_var rfl (by decide +kernel)) (k_cons rfl (k_var rfl (by decide +kernel)) (k_cons rfl (k_var rfl (by decide +kernel)) (k_cons rfl (k_var rfl (by decide +kernel)) (k_cons rfl (k_var rfl (by decide +kernel)) k_nil)))))))) (k_w1o (k_tcmp rfl (k_cal rfl (by decide +kernel) rfl rfl (k_cons rfl (k_var rfl (by decide +kernel)) (k_cons rfl (k_lst k_nil) k_nil)) (fun h => nomatch h)) (k_mk rfl rfl (by decide +kernel) rfl rfl (k_cons rfl k_int k_nil)))))) (b_one (t_ret k_bl)) b_nil)
    (b_cons (t_par2 rfl rfl (by decide) (by decide +kernel) (by decide +kernel) (fun env h => by cases env; cases h; rfl) (k_cons rfl (k_mth rfl rfl rfl rfl (by decide) rfl rfl (k_bin (k_bin (k_var rfl (by decide +kernel)) (k_var rfl (by decide +kernel))) (k_var rfl (by decide +kernel))) (k_cons rfl k_int k_nil) (fun h => nomatch h)) (k_cons rfl (k_mth rfl rfl rfl rfl (by decide) rfl rfl (k_bin (k_bin (k_var rfl (by decide +kernel)) (k_var rfl (by decide +kernel))) (k_var rfl (by decide +kernel))) (k_cons rfl k_int k_nil) (fun h => nomatch h)) k_nil)))
    (b_cons (t_for rfl (by decide +kernel) (k_irng1 (by decide +kernel) rfl k_int) (b_cons (t_asg (fun _ _ => rfl) (fun _ _ => rfl) (fun _ => rfl) (g_gn rfl (by decide +kernel)) (k_cal rfl (by decide +kernel) rfl rfl (k_cons rfl (k_var rfl (by decide +kernel)) (k_cons rfl k_int k_nil)) (fun h => nomatch h)))
    (b_cons (t_par2 rfl rfl (by decide) (by decide +kernel) (by decide +kernel) (fun env h => by cases env; cases h; rfl) (k_cons rfl (k_cal rfl (by decide +kernel) rfl rfl (k_cons rfl (k_var rfl (by decide +kernel)) (k_cons rfl (k_var rfl (by decide +kernel)) k_nil)) (fun h => nomatch h)) (k_cons rfl (k_cal rfl (by decide +kernel) rfl rfl (k_cons rfl (k_var rfl (by decide +kernel)) (k_cons rfl (k_blt (by decide +kernel) (by decide) (by decide +kernel) (fun h => nomatch h) rfl (k_cons rfl (k_var rfl (by decide +kernel)) k_nil)) k_nil)) (fun h => nomatch h)) k_nil)))
    (b_cons (t_if (k_tw (k_wor (k_tnot (k_tv rfl (k_isi1 (by decide +kernel) rfl (k_var rfl (by decide +kernel)) (k_cls (by decide +kernel) rfl)))) (k_w1o (k_tcmp rfl (k_cal rfl (by decide +kernel) rfl rfl (k_cons rfl (k_var rfl (by decide +kernel)) (k_cons rfl (k_bin (k_sl (k_var rfl (by decide +kernel)) (k_part rfl (k_var rfl (by decide +kernel))) k_omit) (k_sl (k_var rfl (by decide +kernel)) k_omit (k_part rfl (k_var rfl (by decide +kernel))))) k_nil)) (fun h => nomatch h)) (k_var rfl (by decide +kernel)))))) (b_one (t_ret k_bl)) b_nil)
    (b_cons (t_if (k_tcmp rfl (k_calk rfl (by decide +kernel) rfl rfl rfl (kkw_cons (k_rev (k_var rfl (by decide +kernel))) (kkw_cons (k_var rfl (by decide +kernel)) kkw_nil))) (k_var rfl (by decide +kernel))) (b_one (t_ret k_bl)) b_nil)
    (b_cons (t_asg (fun _ _ => rfl) (fun _ _ => rfl) (fun _ => rfl) (g_gn rfl (by decide +kernel)) (k_mk rfl rfl (by decide +kernel) rfl rfl (k_cons rfl k_int k_nil)))
    (b_cons (t_for rfl (by decide +kernel) (k_iseq (k_var rfl (by decide +kernel))) (b_one (t_asg (fun _ _ => rfl) (fun _ _ => rfl) (fun _ => rfl) (g_gn rfl (by decide +kernel)) (k_bin (k_var rfl (by decide +kernel)) (k_ite (k_tcmp rfl (k_var rfl (by decide +kernel)) k_int) (k_var rfl (by decide +kernel)) (k_var rfl (by decide +kernel)))))))
    (b_cons (t_if (k_tcmp rfl (k_cal rfl (by decide +kernel) rfl rfl (k_cons rfl (k_var rfl (by decide +kernel)) (k_cons rfl (k_bin (k_var rfl (by decide +kernel)) (k_var rfl (by decide +kernel))) k_nil)) (fun h => nomatch h)) (k_bin (k_bin (k_var rfl (by decide +kernel)) (k_var rfl (by decide +kernel))) (k_bin (k_var rfl (by decide +kernel)) k_int))) (b_one (t_ret k_bl)) b_nil)
    (b_one (t_for rfl (by decide +kernel) (k_iseq (k_lst (k_cons rfl (k_tup (k_cons rfl k_int (k_cons rfl (k_var rfl (by decide +kernel)) (k_cons rfl (k_var rfl (by decide +kernel)) k_nil)))) (k_cons rfl (k_tup (k_cons rfl k_int (k_cons rfl (k_var rfl (by decide +kernel)) (k_cons rfl (k_var rfl (by decide +kernel)) k_nil)))) k_nil)))) (b_one (t_if (k_tcmp rfl (k_cal rfl (by decide +kernel) rfl rfl (k_cons rfl (k_var rfl (by decide +kernel)) (k_cons rfl (k_bin (k_lst (k_cons rfl (k_var rfl (by decide +kernel)) (k_cons rfl (k_var rfl (by decide +kernel)) k_nil))) (k_var rfl (by decide +kernel))) k_nil)) (fun h => nomatch h)) (k_bin (k_bin (k_var rfl (by decide +kernel)) (k_cal rfl (by decide +kernel) rfl rfl (k_cons rfl (k_var rfl (by decide +kernel)) (k_cons rfl (k_bin (k_lst (k_cons rfl (k_var rfl (by decide +kernel)) k_nil)) (k_var rfl (by decide +kernel))) k_nil)) (fun h => nomatch h))) (k_bin (k_var rfl (by decide +kernel)) (k_var rfl (by decide +kernel))))) (b_one (t_ret k_bl)) b_nil))))))))))))
    (b_one (t_ret k_bl))))))))
theorem ok1005 : FiOk PT fw fi1005 := ⟨⟨rfl, rfl, rfl, by decide +kernel, rfl, by decide +kernel, by decide +kernel⟩, rfl,
  fun _ kV doc pm an cdv ct us hl => match us, hl with | [_], _ => rfl,
  fun h => absurd rfl h,
  fun b cA fA fdA psA k cf rp => match b with | true => body1005 true k cf rp | false => body1005 false k cf rp⟩
theorem body1006 (b : Bool) (k : Nat) (cf : CF) (rp : Store → T → Out Str) : Kb (CC b cA fA fdA psA fw k cf rp) N_L_law (defScope st1006) (defBody st1006) S_L_law :=
  (b_one (t_ret (k_blt (by decide +kernel) (by decide) (by decide +kernel) (fun h => nomatch h) rfl (k_cons rfl (k_lc ⟨(by decide +kernel), (by decide +kernel), rfl, (by decide +kernel)⟩ (k_irng1 (by decide +kernel) rfl (k_blt (by decide +kernel) (by decide) (by decide +kernel) (fun h => nomatch h) rfl (k_cons rfl k_int (k_cons rfl (k_blt (by decide +kernel) (by decide) (by decide +kernel) (fun h => nomatch h) rfl (k_cons rfl k_int (k_cons rfl (k_blt (by decide +kernel) (by decide) (by decide +kernel) (fun h => nomatch h) rfl (k_cons rfl (k_var rfl (by decide +kernel)) k_nil)) k_nil))) k_nil)))) k_ts0 (k_cal rfl (by decide +kernel) rfl rfl (k_cons rfl (k_cal rfl (by decide +kernel) rfl rfl (k_cons rfl (k_var rfl (by decide +kernel)) (k_cons rfl (k_var rfl (by decide +kernel)) k_nil)) (fun h => nomatch h)) k_nil) (fun h => nomatch h))) k_nil))))
theorem ok1006 : FiOk PT fw fi1006 := ⟨⟨rfl, rfl, rfl, by decide +kernel, rfl, by decide +kernel, by decide +kernel⟩, rfl,
  fun _ kV doc pm an cdv ct us hl => match us, hl with | [_], _ => rfl,
  fun h => absurd rfl h,
  fun b cA fA fdA psA k cf rp => match b with | true => body1006 true k cf rp | false => body1006 false k cf rp⟩
theorem kw0 : KwOk PT (196, ["word", "five"], [1, 0]) := fun i e => by
  cases e
  exact ⟨rfl, fun _ kV doc pm an cdv ct ws zs hw hp => match ws, hw with | [_, _], _ => by cases hp; rfl, fun h => absurd rfl h⟩
theorem okPT : PT.Ok fw := ⟨(.cons ok31 (.cons ok32 (.cons ok33 (.cons ok188 (.cons ok189 (.cons ok190 (.cons ok191 (.cons ok192 (.cons ok193 (.cons ok196 (.cons ok333 (.cons ok334 (.cons ok340 (.cons ok341 (.cons ok342 (.cons ok343 (.cons ok344 (.cons ok345 (.cons ok346 (.cons ok347 (.cons ok351 (.cons ok354 (.cons ok355 (.cons ok356 (.cons ok420 (.cons ok1001 (.cons ok1002 (.cons ok1003 (.cons ok1004 (.cons ok1005 (.cons ok1006 .nil))))))))))))))))))))))))))))))),
  (.cons kw0 .nil)⟩
theorem statPT : PT.statB = true := by decide +kernel
def looseL : List Str := (["gcd", "_wall", "__name__", "TableError", "InvalidNumber", "InvalidWord", "DividedByZero", "InvalidFive", "is_integer", "is_count", "is_list", "PART", "digits_of", "divisor_of", "Ratio", "told_pair", "is_number", "ratio_of", "want_number", "total_of", "are_numbers", "MOST_WORD", "want_five", "is_short_word", "half_less", "led_first", "led_second", "sum_by", "word_by", "_law_pot"] : List Str) ++ (["_law_draw", "_law_number", "_law_word", "_law_right"] : List Str)
end Tw
set_option maxHeartbeats 0
namespace Tw
open PySem PySem.Spec PyProof.Rows L2
abbrev RR : PySem.W.OpenRow := PySem.W.OpenLaw.row PySem.Challenge.rw_tracewords_k87_any_five_and_its_words
theorem run (w : World) : HandSHeadRun.RunEqI RR (PySem.W.view RR.prog [0, 39]) (hookP 5 PT) (obP 5 PT) 6000 looseL w := by
  unfold HandSHeadRun.RunEqI
  kernel_rfl
end Tw
namespace Tw
open PySem L2
/-! ## the evaluator, reckoned with -/
/-- an equation that simp is not to take as a matter of reckoning (the kernel would reckon on the wrong side) -/
theorem nrfl {α : Sort _} {a b : α} (h : a = b) : a = b := h
class Is (p : Prop) : Prop where
  h : p
/-- a call's end -/
def endC (s : Store) (x : Fl) : Out VV := match x with
  | .nx _ s1 => fin s.length (.t .non) s1
  | .rt y s1 => fin s.length y s1
  | .ex e _ s1 => .ex e (s1.take s.length)
  | _ => .bad
section
variable {D : Defs} {rp : CF → Store → T → Out Str} {fw n f : Nat} {args : List VV} {s : Store} {d : FD}
theorem callN_go (h : D.fn f = some d) (hl : args.length = d.np) :
    callN D rp fw (n + 1) f args s = endC s (evS D (callN D rp fw n) (rp (callN D rp fw n)) fw d.body (args.map some ++ List.replicate (d.nl - d.np) none) s) := by
  conv => lhs; unfold callN
  rw [h]
  simp only [hl, if_true]
  rfl
theorem endC_rt {x : T} : endC s (.rt (.t x) s) = .ok (.t x) s := by simp [endC, fin]
theorem endC_nx {l : Loc} : endC s (.nx l s) = .ok (.t .non) s := by simp [endC, fin]
/-- .. in a store that has grown -/
theorem endC_rt' {x : T} {s1 s2 : Store} (h : s1.take s.length = s2) : endC s (.rt (.t x) s1) = .ok (.t x) s2 := by simp [endC, fin, h]
theorem endC_nx' {l : Loc} {s1 s2 : Store} (h : s1.take s.length = s2) : endC s (.nx l s1) = .ok (.t .non) s2 := by simp [endC, fin, h]
theorem take_app {a b : Store} : (a ++ b).take a.length = a := by simp
theorem take_set {a b : Store} {k : Nat} {c : Cell} (h : k < a.length) : ((a ++ b).set k c).take a.length = a.set k c := by
  rw [List.set_append_left _ _ h]
  have : a.length = (a.set k c).length := by simp
  rw [this]; simp
end
section
variable {α β : Type} {a : α} {s : Store} {f : α → Store → Out β} {loc : Loc} {g : α → Store → Fl}
theorem bind_ok : (Out.ok a s).bind f = f a s := nrfl rfl
theorem toFl_ok : (Out.ok a s).toFl loc g = g a s := nrfl rfl
theorem seq_nx {k : Loc → Store → Fl} : (Fl.nx loc s).seq k = k loc s := nrfl rfl
theorem seq_rt {y : VV} {k : Loc → Store → Fl} : (Fl.rt y s).seq k = .rt y s := nrfl rfl
theorem seq_ite {c : Prop} [Decidable c] {x y : Fl} {k : Loc → Store → Fl} : (if c then x else y).seq k = if c then x.seq k else y.seq k := by split <;> rfl
theorem bind_ite {c : Prop} [Decidable c] {x y : Out α} {k : α → Store → Out β} : (if c then x else y).bind k = if c then x.bind k else y.bind k := by split <;> rfl
theorem toFl_ite {c : Prop} [Decidable c] {x y : Out α} : (if c then x else y).toFl loc g = if c then x.toFl loc g else y.toFl loc g := by split <;> rfl
theorem rd_t {x : T} : rd s (.t x) = some x := nrfl rfl
theorem rd_c {k : Nat} : rd s (.c k) = (s[k]?).map Cell.tree := nrfl rfl
theorem rd_c' {k : Nat} {c : Cell} (h : s[k]? = some c) : rd s (.c k) = some c.tree := by rw [rd_c, h]; rfl
theorem emb_t {x : T} : emb s (.t x) = some (x, s) := nrfl rfl
theorem ofO_some {a : α} : ofO s (some a) = .ok a s := nrfl rfl
theorem ofT_some {x : T} : ofT s (some x) = .ok (.t x) s := nrfl rfl
theorem embLM_nil : embLM s [] = .ok [] s := nrfl rfl
theorem noex_ok {a : α} : noex (Out.ok a s) = .ok a s := nrfl rfl
theorem putFl_ok {l : Loc} : putFl (.ok l s) = .nx l s := nrfl rfl
end
/-- several values that are trees -/
theorem embL_t (s : Store) : ∀ xs : List T, embL s (xs.map VV.t) = some (xs, s)
  | [] => rfl
  | x :: xs => by simp [embL, emb, embL_t s xs]
theorem embL_cons {s s1 s2 : Store} {y : VV} {ys : List VV} {x : T} {xs : List T} (h : emb s y = some (x, s1)) (h2 : embL s1 ys = some (xs, s2)) : embL s (y :: ys) = some (x :: xs, s2) := by
  simp [embL, h, h2]
/-! ### the walked -/
theorem at_lst {s : Store} {y : VV} {xs : List T} (h : rd s y = some (.lst xs)) (i : Nat) : Src.at s (.lst y) i = some xs[i]? := by simp [Src.at, lstAt, h]
theorem at_enu {s : Store} {y : VV} {xs : List T} (h : rd s y = some (.lst xs)) (i : Nat) : Src.at s (.enu y) i = some ((xs[i]?).map fun a => .tup [.int i, a]) := by simp [Src.at, lstAt, h]
theorem most_lst {s : Store} {y : VV} {xs : List T} (h : rd s y = some (.lst xs)) : Src.most s (.lst y) = xs.length + 1 := by simp [Src.most, lstAt, h]
theorem most_enu {s : Store} {y : VV} {xs : List T} (h : rd s y = some (.lst xs)) : Src.most s (.enu y) = xs.length + 1 := by simp [Src.most, lstAt, h]
theorem at_tup {s : Store} {xs : List T} (i : Nat) : Src.at s (.tup xs) i = some xs[i]? := rfl
theorem most_tup {s : Store} {xs : List T} : Src.most s (.tup xs) = xs.length + 1 := rfl
def rngL (lo hi : Int) : List T := (List.range (hi - lo).toNat).map fun i => .int (lo + (i : Nat))
theorem at_rng {s : Store} {lo hi : Int} (i : Nat) : Src.at s (.rng lo hi) i = some (rngL lo hi)[i]? := by
  simp only [Src.at, rngL, List.getElem?_map, List.getElem?_range]
  by_cases h : i < (hi - lo).toNat
  · rw [if_pos h]; simp [h]
  · rw [if_neg h]; simp [h]
theorem most_rng {s : Store} {lo hi : Int} : Src.most s (.rng lo hi) = (rngL lo hi).length + 1 := by simp [Src.most, rngL]
/-! ### loops by what holds between the turns -/
theorem loopF_inv {src : Src} {g : E} {body : Loc → Store → Fl} {xs : List T} (Inv : Nat → Loc → Store → Prop)
    (hat : ∀ i loc s, Inv i loc s → src.at s i = some xs[i]?)
    (step : ∀ i x loc s, xs[i]? = some x → Inv i loc s → ∃ l1, bindG g x loc = some l1 ∧ ∃ l2 s2, (body l1 s = .nx l2 s2 ∨ body l1 s = .ct l2 s2) ∧ Inv (i + 1) l2 s2) :
    ∀ m i loc s, xs.length - i < m → i ≤ xs.length → Inv i loc s → ∃ l2 s2, loopF src g body m i loc s = .nx l2 s2 ∧ Inv xs.length l2 s2
  | 0, i, loc, s, hm, _, _ => by omega
  | m + 1, i, loc, s, hm, hi, I => by
    unfold loopF
    rw [hat i loc s I]
    cases hx : xs[i]? with
    | none =>
      have : i = xs.length := by have := List.getElem?_eq_none_iff.mp hx; omega
      subst this
      exact ⟨loc, s, rfl, I⟩
    | some x =>
      have hlt := (List.getElem?_eq_some_iff.mp hx).1
      obtain ⟨l1, hb, l2, s2, hbody, I2⟩ := step i x loc s hx I
      simp only [hb]
      obtain ⟨l3, s3, h3, I3⟩ := loopF_inv Inv hat step m (i + 1) l2 s2 (by omega) (by omega) I2
      rcases hbody with h | h <;> simp only [h] <;> exact ⟨l3, s3, h3, I3⟩
/-- .. a loop that may be left by return -/
theorem loopF_ret {src : Src} {g : E} {body : Loc → Store → Fl} {xs : List T} (Inv : Nat → Loc → Store → Prop) (R : Fl → Prop)
    (hat : ∀ i loc s, Inv i loc s → src.at s i = some xs[i]?)
    (step : ∀ i x loc s, xs[i]? = some x → Inv i loc s → ∃ l1, bindG g x loc = some l1 ∧ ((∃ l2 s2, (body l1 s = .nx l2 s2 ∨ body l1 s = .ct l2 s2) ∧ Inv (i + 1) l2 s2) ∨ ((∃ y s2, body l1 s = .rt y s2) ∧ R (body l1 s))))
    (done : ∀ loc s, Inv xs.length loc s → R (.nx loc s)) :
    ∀ m i loc s, xs.length - i < m → i ≤ xs.length → Inv i loc s → R (loopF src g body m i loc s)
  | 0, i, loc, s, hm, _, _ => by omega
  | m + 1, i, loc, s, hm, hi, I => by
    unfold loopF
    rw [hat i loc s I]
    cases hx : xs[i]? with
    | none =>
      have : i = xs.length := by have := List.getElem?_eq_none_iff.mp hx; omega
      subst this
      exact done loc s I
    | some x =>
      have hlt := (List.getElem?_eq_some_iff.mp hx).1
      obtain ⟨l1, hb, hh⟩ := step i x loc s hx I
      simp only [hb]
      rcases hh with ⟨l2, s2, h | h, I2⟩ | ⟨⟨y, s2, h⟩, hr⟩
      · simp only [h]
        exact loopF_ret Inv R hat step done m (i + 1) l2 s2 (by omega) (by omega) I2
      · simp only [h]
        exact loopF_ret Inv R hat step done m (i + 1) l2 s2 (by omega) (by omega) I2
      · rw [h] at hr ⊢
        exact hr
/-- a comprehension: what holds of the store ahead of the growing list, and of that list -/
theorem loopC_inv {src : Src} {g : E} {cond : Loc → Store → Out Bool} {elt : Loc → Store → Out VV} {lw : Loc} {n0 : Nat} {xs : List T} (Inv : Nat → List T → Store → Prop)
    (hn : ∀ i acc s, Inv i acc s → s.length = n0) (hz : xs.length ≤ sizeLine) (hacc : ∀ i acc s, Inv i acc s → acc.length ≤ i)
    (hat : ∀ i acc s, Inv i acc s → src.at (s ++ [.lst acc]) i = some xs[i]?)
    (step : ∀ i x acc s, xs[i]? = some x → Inv i acc s → ∃ l1, bindG g x lw = some l1 ∧ ((∃ s1, cond l1 (s ++ [.lst acc]) = .ok false (s1 ++ [.lst acc]) ∧ Inv (i + 1) acc s1) ∨
      ∃ s1 y s2 t s3, cond l1 (s ++ [.lst acc]) = .ok true s1 ∧ elt l1 s1 = .ok y s2 ∧ emb s2 y = some (t, s3 ++ [.lst acc]) ∧ Inv (i + 1) (acc ++ [t]) s3)) :
    ∀ m i acc s, xs.length - i < m → i ≤ xs.length → Inv i acc s → ∃ acc' s', loopC src g cond elt lw n0 m i (s ++ [.lst acc]) = .ok () (s' ++ [.lst acc']) ∧ Inv xs.length acc' s'
  | 0, i, acc, s, hm, _, _ => by omega
  | m + 1, i, acc, s, hm, hi, I => by
    unfold loopC
    rw [hat i acc s I]
    cases hx : xs[i]? with
    | none =>
      have : i = xs.length := by have := List.getElem?_eq_none_iff.mp hx; omega
      subst this
      exact ⟨acc, s, rfl, I⟩
    | some x =>
      have hlt := (List.getElem?_eq_some_iff.mp hx).1
      obtain ⟨l1, hb, hh⟩ := step i x acc s hx I
      simp only [hb]
      rcases hh with ⟨s1, h1, I1⟩ | ⟨s1, y, s2, t, s3, h1, h2, h3, I3⟩
      · simp only [h1]
        exact loopC_inv Inv hn hz hacc hat step m (i + 1) acc s1 (by omega) (by omega) I1
      · simp only [h1, h2, h3]
        have e3 := hn _ _ _ I3
        have el : (s3 ++ [Cell.lst acc])[n0]? = some (.lst acc) := by rw [← e3]; simp
        simp only [el]
        have : acc.length < sizeLine := by have := hacc _ _ _ I; omega
        rw [if_pos this]
        have es : (s3 ++ [Cell.lst acc]).set n0 (.lst (acc ++ [t])) = s3 ++ [.lst (acc ++ [t])] := by rw [← e3]; simp
        rw [es]
        exact loopC_inv Inv hn hz hacc hat step m (i + 1) (acc ++ [t]) s3 (by omega) (by omega) I3
section
variable {D : Defs} {cf : CF} {rp : Store → T → Out Str} {loc : Loc} {s : Store}
theorem ev_lc {own : List Nat} {g it c e : E} {src : Src} {s1 s2 : Store} {ys : List T} (h1 : evI D cf rp it loc s = .ok src s1)
    (h2 : loopC src g (fun l s => if c.isOmit then .ok true s else (ev D cf rp c l s).bind fun y s1 => ofO s1 ((rd s1 y).bind tru)) (ev D cf rp e) (wipeL loc own) s1.length (src.most s1) 0 (s1 ++ [.lst []]) = .ok () (s2 ++ [.lst ys])) (hl : s2.length = s1.length) :
    ev D cf rp (.lc false own g it c e) loc s = .ok (.t (.lst ys)) s2 := by
  unfold ev
  rw [h1, bind_ok, h2, bind_ok]
  unfold lcEnd
  rw [← hl]
  simp [Cell.tree]
theorem ev_lcm {own : List Nat} {g it c e : E} {src : Src} {s1 s2 : Store} {ys : List T} (h1 : evI D cf rp it loc s = .ok src s1)
    (h2 : loopC src g (fun l s => if c.isOmit then .ok true s else (ev D cf rp c l s).bind fun y s1 => ofO s1 ((rd s1 y).bind tru)) (ev D cf rp e) (wipeL loc own) s1.length (src.most s1) 0 (s1 ++ [.lst []]) = .ok () (s2 ++ [.lst ys])) (hl : s2.length = s1.length) :
    ev D cf rp (.lc true own g it c e) loc s = .ok (.c s1.length) (s2 ++ [.lst ys]) := by
  unfold ev
  rw [h1, bind_ok, h2, bind_ok]
  unfold lcEnd
  rw [if_pos rfl, ← hl, List.take_of_length_le (by simp)]
/-- what a source walks, in stores that begin alike -/
structure Walks (s : Store) (src : Src) (xs : List T) : Prop where
  at_ : ∀ acc i, src.at (s ++ [.lst acc]) i = some xs[i]?
  most : src.most s = xs.length + 1
theorem Walks.tree {xs : List T} : Walks s (.lst (.t (.lst xs))) xs := ⟨fun acc i => at_lst rfl i, most_lst rfl⟩
theorem Walks.tup {xs : List T} : Walks s (.tup xs) xs := ⟨fun acc i => rfl, rfl⟩
theorem Walks.rng {lo hi : Int} : Walks s (.rng lo hi) (rngL lo hi) := ⟨fun acc i => at_rng i, most_rng⟩
theorem Walks.cell {k : Nat} {c : Cell} {xs : List T} (h : s[k]? = some c) (e : c.tree = .lst xs) : Walks s (.lst (.c k)) xs := by
  refine ⟨fun acc i => at_lst ?_ i, most_lst ?_⟩
  · rw [rd_c, List.getElem?_append_left (List.getElem?_eq_some_iff.mp h).1, h]; simp [e]
  · rw [rd_c, h]; simp [e]
/-- a comprehension without a test whose elements leave the store -/
theorem ev_lc_map {own : List Nat} {g it e : E} {src : Src} {xs : List T} (f : T → T) (h1 : evI D cf rp it loc s = .ok src s) (hw : Walks s src xs) (hz : xs.length ≤ sizeLine)
    (h : ∀ x ∈ xs, ∃ l1, bindG g x (wipeL loc own) = some l1 ∧ ∀ acc, ev D cf rp e l1 (s ++ [.lst acc]) = .ok (.t (f x)) (s ++ [.lst acc])) :
    ev D cf rp (.lc false own g it .omit e) loc s = .ok (.t (.lst (xs.map f))) s := by
  obtain ⟨acc, s2, h2, rfl, rfl⟩ := loopC_inv (src := src) (g := g) (cond := fun l s => if E.omit.isOmit then .ok true s else (ev D cf rp E.omit l s).bind fun y s1 => ofO s1 ((rd s1 y).bind tru)) (elt := ev D cf rp e) (lw := wipeL loc own) (n0 := s.length) (xs := xs)
    (fun i acc s' => s' = s ∧ acc = (xs.take i).map f) (fun i acc s' h => by rw [h.1]) hz (fun i acc s' h => by rw [h.2]; simp; omega) (fun i acc s' h => by rw [h.1]; exact hw.at_ acc i)
    (fun i x acc s' hx hI => by
      obtain ⟨rfl, rfl⟩ := hI
      obtain ⟨l1, hb, he⟩ := h x (List.mem_of_getElem? hx)
      refine ⟨l1, hb, .inr ⟨_, _, _, f x, s', rfl, he _, rfl, rfl, ?_⟩⟩
      rw [List.take_add_one, hx]; simp)
    (xs.length + 1) 0 [] s (by omega) (Nat.zero_le _) ⟨rfl, by simp⟩
  rw [hw.most.symm] at h2
  rw [List.take_length] at h2
  exact ev_lc h1 h2 rfl
/-- .. with a test -/
theorem ev_lc_filter {own : List Nat} {g it c e : E} {src : Src} {xs : List T} (p : T → Bool) (f : T → T) (h1 : evI D cf rp it loc s = .ok src s) (hw : Walks s src xs) (hz : xs.length ≤ sizeLine) (hc : c.isOmit = false)
    (h : ∀ x ∈ xs, ∃ l1, bindG g x (wipeL loc own) = some l1 ∧ ∀ acc, (∃ y t, ev D cf rp c l1 (s ++ [.lst acc]) = .ok y (s ++ [.lst acc]) ∧ rd (s ++ [.lst acc]) y = some t ∧ tru t = some (p x)) ∧ (p x = true → ev D cf rp e l1 (s ++ [.lst acc]) = .ok (.t (f x)) (s ++ [.lst acc]))) :
    ev D cf rp (.lc false own g it c e) loc s = .ok (.t (.lst ((xs.filter p).map f))) s := by
  obtain ⟨acc, s2, h2, rfl, rfl⟩ := loopC_inv (src := src) (g := g) (cond := fun l s => if c.isOmit then .ok true s else (ev D cf rp c l s).bind fun y s1 => ofO s1 ((rd s1 y).bind tru)) (elt := ev D cf rp e) (lw := wipeL loc own) (n0 := s.length) (xs := xs)
    (fun i acc s' => s' = s ∧ acc = ((xs.take i).filter p).map f) (fun i acc s' h => by rw [h.1]) hz (fun i acc s' h => by rw [h.2]; have := List.length_filter_le p (xs.take i); simp at this ⊢; omega) (fun i acc s' h => by rw [h.1]; exact hw.at_ acc i)
    (fun i x acc s' hx hI => by
      obtain ⟨rfl, rfl⟩ := hI
      obtain ⟨l1, hb, he⟩ := h x (List.mem_of_getElem? hx)
      refine ⟨l1, hb, ?_⟩
      obtain ⟨⟨y, t, e1, e2, e3⟩, e4⟩ := he (List.map f (List.filter p (List.take i xs)))
      cases hp : p x with
      | false =>
        refine .inl ⟨s', ?_, rfl, ?_⟩
        · rw [hc, if_neg Bool.false_ne_true, e1, bind_ok, e2, Option.bind_some, e3, hp]; rfl
        · rw [List.take_add_one, hx]; simp [hp]
      | true =>
        refine .inr ⟨_, _, _, f x, s', ?_, e4 hp, rfl, rfl, ?_⟩
        · rw [hc, if_neg Bool.false_ne_true, e1, bind_ok, e2, Option.bind_some, e3, hp]; rfl
        · rw [List.take_add_one, hx]; simp [hp])
    (xs.length + 1) 0 [] s (by omega) (Nat.zero_le _) ⟨rfl, by simp⟩
  rw [hw.most.symm] at h2
  rw [List.take_length] at h2
  exact ev_lc h1 h2 rfl
end
/-! ### all, any, sum -/
theorem allB_eq (bs : List Bool) : bltP.allB (bs.map T.bl) = some (.bl (bs.all id)) := by
  induction bs with
  | nil => rfl
  | cons b r ih => simp [bltP.allB, ih]
theorem anyB_eq (bs : List Bool) : bltP.anyB (bs.map T.bl) = some (.bl (bs.any id)) := by
  induction bs with
  | nil => rfl
  | cons b r ih => simp [bltP.anyB, ih]
theorem sumI_eq (bs : List Int) : bltP.sumI (bs.map T.int) = some (.int bs.sum) := by
  induction bs with
  | nil => rfl
  | cons b r ih => simp [bltP.sumI, ih]
theorem all_map {α : Type} (f : α → Bool) (xs : List α) : bltP.allB (xs.map fun x => T.bl (f x)) = some (.bl (xs.all f)) := by
  have := allB_eq (xs.map f)
  rw [List.map_map] at this
  rw [show (fun x => T.bl (f x)) = T.bl ∘ f from rfl, this]
  simp [List.all_map]
theorem any_map {α : Type} (f : α → Bool) (xs : List α) : bltP.anyB (xs.map fun x => T.bl (f x)) = some (.bl (xs.any f)) := by
  have := anyB_eq (xs.map f)
  rw [List.map_map] at this
  rw [show (fun x => T.bl (f x)) = T.bl ∘ f from rfl, this]
  simp [List.any_map]
/-! ### operations at trees whose kinds are known -/
section
variable {D : Defs} {cf : CF} {s : Store} {a b : T} {i j : Int} {p q : Bool} {x y : Str} {xs ys : List T}
theorem bin_add : binV D cf .Add (.t (.int i)) (.t (.int j)) s = .ok (.t (.int (i + j))) s := nrfl rfl
theorem bin_sub : binV D cf .Sub (.t (.int i)) (.t (.int j)) s = .ok (.t (.int (i - j))) s := nrfl rfl
theorem bin_mul (h : mulOk i j = true) : binV D cf .Mult (.t (.int i)) (.t (.int j)) s = .ok (.t (.int (i * j))) s := by simp [binV, rd, binP, h]
theorem bin_fdiv (h : j ≠ 0) (h2 : j.natAbs.log2 < 9000) : binV D cf .FloorDiv (.t (.int i)) (.t (.int j)) s = .ok (.t (.int (i.fdiv j))) s := by simp [binV, rd, binP, h, h2]
theorem bin_mod (h : j ≠ 0) : binV D cf .Mod (.t (.int i)) (.t (.int j)) s = .ok (.t (.int (i.fmod j))) s := by simp [binV, rd, binP, h]
theorem bin_addl (h : xs.length + ys.length ≤ sizeLine) : binV D cf .Add (.t (.lst xs)) (.t (.lst ys)) s = .ok (.t (.lst (xs ++ ys))) s := by simp [binV, rd, binP, h]
theorem bin_addt (h : xs.length + ys.length ≤ sizeLine) : binV D cf .Add (.t (.tup xs)) (.t (.tup ys)) s = .ok (.t (.tup (xs ++ ys))) s := by simp [binV, rd, binP, h]
theorem bin_adds (h : x.length + y.length ≤ sizeLine) : binV D cf .Add (.t (.str x)) (.t (.str y)) s = .ok (.t (.str (x ++ y))) s := by simp [binV, rd, binP, h]
theorem mthOk_ins {c : Nat} {m : Str} {fs : List (Str × T)} : mthOk D c m (.t (.ins c fs)) s = (D.om c m).bind fun g => if fs.lookup m = none then some g else none := by
  unfold mthOk
  rw [show rd s (.t (.ins c fs)) = some (.ins c fs) from rfl]
  cases D.om c m with
  | none => rfl
  | some g =>
    by_cases h : fs.lookup m = none
    · simp only [Option.bind_some, true_and]
    · simp only [Option.bind_some, true_and]
theorem attV_ins {c : Nat} {f : Str} {fs : List (Str × T)} : attV D f (.t (.ins c fs)) s = if D.fld c f then ofT s (fs.lookup f) else .bad := nrfl rfl
theorem cmpP_lt : cmpP .Lt (.int i) (.int j) = some (decide (i < j)) := nrfl rfl
theorem cmpP_le : cmpP .LtE (.int i) (.int j) = some (decide (i ≤ j)) := nrfl rfl
theorem cmpP_gt : cmpP .Gt (.int i) (.int j) = some (decide (j < i)) := nrfl rfl
theorem cmpP_ge : cmpP .GtE (.int i) (.int j) = some (decide (j ≤ i)) := nrfl rfl
theorem cmp_lt : cmpV D cf .Lt (.t (.int i)) (.t (.int j)) s = some (decide (i < j)) := nrfl rfl
theorem cmp_le : cmpV D cf .LtE (.t (.int i)) (.t (.int j)) s = some (decide (i ≤ j)) := nrfl rfl
theorem cmp_gt : cmpV D cf .Gt (.t (.int i)) (.t (.int j)) s = some (decide (j < i)) := nrfl rfl
theorem cmp_ge : cmpV D cf .GtE (.t (.int i)) (.t (.int j)) s = some (decide (j ≤ i)) := nrfl rfl
theorem cmp_eqi : cmpV D cf .Eq (.t (.int i)) (.t (.int j)) s = some (decide (i = j)) := nrfl rfl
theorem cmp_eqs : cmpV D cf .Eq (.t (.str x)) (.t (.str y)) s = some (decide (x = y)) := nrfl rfl
theorem cmp_eqb : cmpV D cf .Eq (.t (.bl p)) (.t (.bl q)) s = some (decide (p = q)) := nrfl rfl
theorem cmp_nei : cmpV D cf .NotEq (.t (.int i)) (.t (.int j)) s = some (!decide (i = j)) := nrfl rfl
theorem cmp_nes : cmpV D cf .NotEq (.t (.str x)) (.t (.str y)) s = some (!decide (x = y)) := nrfl rfl
theorem cmp_neb : cmpV D cf .NotEq (.t (.bl p)) (.t (.bl q)) s = some (!decide (p = q)) := nrfl rfl
def isNon : T → Bool
  | .non => true
  | _ => false
theorem cmp_isn : cmpV D cf .Is (.t (a)) (.t (.non)) s = some (isNon a) := by cases a <;> rfl
theorem cmp_nin : cmpV D cf .IsNot (.t (a)) (.t (.non)) s = some (!isNon a) := by cases a <;> rfl
theorem cmp_isb : cmpV D cf .Is (.t (.bl p)) (.t (.bl q)) s = some (decide (p = q)) := nrfl rfl
theorem cmp_nib : cmpV D cf .IsNot (.t (.bl p)) (.t (.bl q)) s = some (!decide (p = q)) := nrfl rfl
theorem tru_bl : tru (.bl p) = some p := nrfl rfl
theorem tru_int : tru (.int i) = some (i != 0) := nrfl rfl
theorem isNon_lst : isNon (.lst xs) = false := rfl
theorem isNon_non : isNon .non = true := rfl
theorem item_l : itemP (.lst xs) (.int i) = atI xs i := nrfl rfl
theorem item_t : itemP (.tup xs) (.int i) = atI xs i := nrfl rfl
theorem blt_lenl : bltP .len [.lst xs] = some (.int xs.length) := nrfl rfl
theorem blt_lent : bltP .len [.tup xs] = some (.int xs.length) := nrfl rfl
theorem blt_lend {ks : List (Key × T)} : bltP .len [.dct ks] = some (.int ks.length) := nrfl rfl
theorem mapM_nil : List.mapM (rd s) [] = some [] := nrfl rfl
theorem mapM_cons {v : VV} {vs : List VV} {x : T} {xs : List T} (h : rd s v = some x) (h2 : vs.mapM (rd s) = some xs) : (v :: vs).mapM (rd s) = some (x :: xs) := by simp [List.mapM_cons, h, h2]
theorem mapM_t1 {x : T} : List.mapM (rd s) [.t x] = some [x] := nrfl rfl
theorem mapM_t2 {x y : T} : List.mapM (rd s) [.t x, .t y] = some [x, y] := nrfl rfl
theorem embLM_t0 : embLM s [] = .ok [] s := nrfl rfl
theorem embLM_t1 {x : T} : embLM s [.t x] = .ok [x] s := nrfl rfl
theorem embLM_t2 {x y : T} : embLM s [.t x, .t y] = .ok [x, y] s := nrfl rfl
theorem embLM_t3 {x y z : T} : embLM s [.t x, .t y, .t z] = .ok [x, y, z] s := nrfl rfl
end
theorem blt_all {α : Type} {f : α → Bool} {xs : List α} : bltP .all [.lst (xs.map fun x => T.bl (f x))] = some (.bl (xs.all f)) := all_map f xs
theorem blt_any {α : Type} {f : α → Bool} {xs : List α} : bltP .any [.lst (xs.map fun x => T.bl (f x))] = some (.bl (xs.any f)) := any_map f xs
theorem atI_nat {α : Type} {xs : List α} {i : Nat} {x : α} (h : xs[i]? = some x) : atI xs (i : Int) = some x := by
  have hl := (List.getElem?_eq_some_iff.mp h).1
  unfold atI ixN
  have h0 : (0 : Int) ≤ (i : Int) := by omega
  have h1 : (i : Int) < (xs.length : Int) := by omega
  rw [if_pos h0, if_pos h1, Option.bind_some, Int.toNat_natCast, h]
theorem atI_0 {α : Type} {x : α} {xs : List α} : atI (x :: xs) 0 = some x := atI_nat (i := 0) rfl
theorem atI_1 {α : Type} {x y : α} {xs : List α} : atI (x :: y :: xs) 1 = some y := atI_nat (i := 1) rfl
theorem atI_2 {α : Type} {x y z : α} {xs : List α} : atI (x :: y :: z :: xs) 2 = some z := atI_nat (i := 2) rfl
end Tw
namespace Tw
open PySem L2
section
variable {D : Defs} {rp : CF → Store → T → Out Str} {fw n : Nat}
theorem om_55_over [h : Is (D.om 55 "over" = some 347)] : D.om 55 "over" = some 347 := h.h
theorem ini_55 [h : Is (D.ini 55 = some 334)] : D.ini 55 = some 334 := h.h
theorem cls_55 [h : Is (D.cls 55 = true)] : D.cls 55 = true := h.h
theorem fld_49_own_letters [h : Is (D.fld 49 "own_letters" = true)] : D.fld 49 "own_letters" = true := h.h
theorem fld_49_own_width [h : Is (D.fld 49 "own_width" = true)] : D.fld 49 "own_width" = true := h.h
theorem sub_49 [h : Is (∀ d, D.sub d 49 = decide (d = 49))] (d : Nat) : D.sub d 49 = decide (d = 49) := h.h d
theorem cls_49 [h : Is (D.cls 49 = true)] : D.cls 49 = true := h.h
theorem fld_55_own_top [h : Is (D.fld 55 "own_top" = true)] : D.fld 55 "own_top" = true := h.h
theorem fld_55_own_bottom [h : Is (D.fld 55 "own_bottom" = true)] : D.fld 55 "own_bottom" = true := h.h
theorem sub_55 [h : Is (∀ d, D.sub d 55 = decide (d = 55))] (d : Nat) : D.sub d 55 = decide (d = 55) := h.h d
theorem go_basics_is_integer [hf : Is (D.fn 31 = some F_basics_is_integer)] (a0 : VV) (s : Store) : callN D rp fw (n + 1) 31 [a0] s = endC s (evS D (callN D rp fw n) (rp (callN D rp fw n)) fw S_basics_is_integer [some a0] s) := callN_go hf.h rfl
theorem fl_basics_is_integer [hf : Is (D.fn 31 = some F_basics_is_integer)] (a0 : VV) : fill D 31 [a0] = [a0] := by unfold fill; rw [hf.h]; rfl
theorem go_basics_is_count [hf : Is (D.fn 32 = some F_basics_is_count)] (a0 : VV) (s : Store) : callN D rp fw (n + 1) 32 [a0] s = endC s (evS D (callN D rp fw n) (rp (callN D rp fw n)) fw S_basics_is_count [some a0] s) := callN_go hf.h rfl
theorem fl_basics_is_count [hf : Is (D.fn 32 = some F_basics_is_count)] (a0 : VV) : fill D 32 [a0] = [a0] := by unfold fill; rw [hf.h]; rfl
theorem go_basics_is_list [hf : Is (D.fn 33 = some F_basics_is_list)] (a0 : VV) (s : Store) : callN D rp fw (n + 1) 33 [a0] s = endC s (evS D (callN D rp fw n) (rp (callN D rp fw n)) fw S_basics_is_list [some a0] s) := callN_go hf.h rfl
theorem fl_basics_is_list [hf : Is (D.fn 33 = some F_basics_is_list)] (a0 : VV) : fill D 33 [a0] = [a0] := by unfold fill; rw [hf.h]; rfl
theorem go_fives_want_five [hf : Is (D.fn 188 = some F_fives_want_five)] (a0 : VV) (s : Store) : callN D rp fw (n + 1) 188 [a0] s = endC s (evS D (callN D rp fw n) (rp (callN D rp fw n)) fw S_fives_want_five [some a0, none] s) := callN_go hf.h rfl
theorem fl_fives_want_five [hf : Is (D.fn 188 = some F_fives_want_five)] (a0 : VV) : fill D 188 [a0] = [a0] := by unfold fill; rw [hf.h]; rfl
theorem go_fives_is_short_word [hf : Is (D.fn 189 = some F_fives_is_short_word)] (a0 : VV) (s : Store) : callN D rp fw (n + 1) 189 [a0] s = endC s (evS D (callN D rp fw n) (rp (callN D rp fw n)) fw S_fives_is_short_word [some a0, none] s) := callN_go hf.h rfl
theorem fl_fives_is_short_word [hf : Is (D.fn 189 = some F_fives_is_short_word)] (a0 : VV) : fill D 189 [a0] = [a0] := by unfold fill; rw [hf.h]; rfl
theorem go_fives_half_less [hf : Is (D.fn 190 = some F_fives_half_less)] (a0 a1 : VV) (s : Store) : callN D rp fw (n + 1) 190 [a0, a1] s = endC s (evS D (callN D rp fw n) (rp (callN D rp fw n)) fw S_fives_half_less [some a0, some a1] s) := callN_go hf.h rfl
theorem fl_fives_half_less [hf : Is (D.fn 190 = some F_fives_half_less)] (a0 a1 : VV) : fill D 190 [a0, a1] = [a0, a1] := by unfold fill; rw [hf.h]; rfl
theorem go_fives_led_first [hf : Is (D.fn 191 = some F_fives_led_first)] (a0 a1 : VV) (s : Store) : callN D rp fw (n + 1) 191 [a0, a1] s = endC s (evS D (callN D rp fw n) (rp (callN D rp fw n)) fw S_fives_led_first [some a0, some a1, none, none, none, none, none, none, none, none, none, none] s) := callN_go hf.h rfl
theorem fl_fives_led_first [hf : Is (D.fn 191 = some F_fives_led_first)] (a0 a1 : VV) : fill D 191 [a0, a1] = [a0, a1] := by unfold fill; rw [hf.h]; rfl
theorem go_fives_led_second [hf : Is (D.fn 192 = some F_fives_led_second)] (a0 a1 : VV) (s : Store) : callN D rp fw (n + 1) 192 [a0, a1] s = endC s (evS D (callN D rp fw n) (rp (callN D rp fw n)) fw S_fives_led_second [some a0, some a1, none, none, none, none, none, none, none, none, none, none] s) := callN_go hf.h rfl
theorem fl_fives_led_second [hf : Is (D.fn 192 = some F_fives_led_second)] (a0 a1 : VV) : fill D 192 [a0, a1] = [a0, a1] := by unfold fill; rw [hf.h]; rfl
theorem go_fives_sum_by [hf : Is (D.fn 193 = some F_fives_sum_by)] (a0 a1 : VV) (s : Store) : callN D rp fw (n + 1) 193 [a0, a1] s = endC s (evS D (callN D rp fw n) (rp (callN D rp fw n)) fw S_fives_sum_by [some a0, some a1, none, none, none, none, none, none] s) := callN_go hf.h rfl
theorem fl_fives_sum_by [hf : Is (D.fn 193 = some F_fives_sum_by)] (a0 a1 : VV) : fill D 193 [a0, a1] = [a0, a1] := by unfold fill; rw [hf.h]; rfl
theorem go_fives_word_by [hf : Is (D.fn 196 = some F_fives_word_by)] (a0 a1 : VV) (s : Store) : callN D rp fw (n + 1) 196 [a0, a1] s = endC s (evS D (callN D rp fw n) (rp (callN D rp fw n)) fw S_fives_word_by [some a0, some a1, none] s) := callN_go hf.h rfl
theorem fl_fives_word_by [hf : Is (D.fn 196 = some F_fives_word_by)] (a0 a1 : VV) : fill D 196 [a0, a1] = [a0, a1] := by unfold fill; rw [hf.h]; rfl
theorem go_houses_letters_in [hf : Is (D.fn 198 = some F_houses_letters_in)] (a0 : VV) (s : Store) : callN D rp fw (n + 1) 198 [a0] s = endC s (evS D (callN D rp fw n) (rp (callN D rp fw n)) fw S_houses_letters_in [some a0, none, none] s) := callN_go hf.h rfl
theorem fl_houses_letters_in [hf : Is (D.fn 198 = some F_houses_letters_in)] (a0 : VV) : fill D 198 [a0] = [a0] := by unfold fill; rw [hf.h]; rfl
theorem go_houses_House___init__ [hf : Is (D.fn 199 = some F_houses_House___init__)] (a0 a1 : VV) (s : Store) : callN D rp fw (n + 1) 199 [a0, a1] s = endC s (evS D (callN D rp fw n) (rp (callN D rp fw n)) fw S_houses_House___init__ [some a0, some a1, none] s) := callN_go hf.h rfl
theorem fl_houses_House___init__ [hf : Is (D.fn 199 = some F_houses_House___init__)] (a0 a1 : VV) : fill D 199 [a0, a1] = [a0, a1] := by unfold fill; rw [hf.h]; rfl
theorem go_houses_want_house [hf : Is (D.fn 207 = some F_houses_want_house)] (a0 : VV) (s : Store) : callN D rp fw (n + 1) 207 [a0] s = endC s (evS D (callN D rp fw n) (rp (callN D rp fw n)) fw S_houses_want_house [some a0] s) := callN_go hf.h rfl
theorem fl_houses_want_house [hf : Is (D.fn 207 = some F_houses_want_house)] (a0 : VV) : fill D 207 [a0] = [a0] := by unfold fill; rw [hf.h]; rfl
theorem go_houses_word_in [hf : Is (D.fn 209 = some F_houses_word_in)] (a0 a1 : VV) (s : Store) : callN D rp fw (n + 1) 209 [a0, a1] s = endC s (evS D (callN D rp fw n) (rp (callN D rp fw n)) fw S_houses_word_in [some a0, some a1, none, none] s) := callN_go hf.h rfl
theorem fl_houses_word_in [hf : Is (D.fn 209 = some F_houses_word_in)] (a0 a1 : VV) : fill D 209 [a0, a1] = [a0, a1] := by unfold fill; rw [hf.h]; rfl
theorem go_houses_is_word [hf : Is (D.fn 212 = some F_houses_is_word)] (a0 a1 : VV) (s : Store) : callN D rp fw (n + 1) 212 [a0, a1] s = endC s (evS D (callN D rp fw n) (rp (callN D rp fw n)) fw S_houses_is_word [some a0, some a1] s) := callN_go hf.h rfl
theorem fl_houses_is_word [hf : Is (D.fn 212 = some F_houses_is_word)] (a0 a1 : VV) : fill D 212 [a0, a1] = [a0, a1] := by unfold fill; rw [hf.h]; rfl
theorem go_ratios_digits_of [hf : Is (D.fn 332 = some F_ratios_digits_of)] (a0 : VV) (s : Store) : callN D rp fw (n + 1) 332 [a0] s = endC s (evS D (callN D rp fw n) (rp (callN D rp fw n)) fw S_ratios_digits_of [some a0, none, none, none, none] s) := callN_go hf.h rfl
theorem fl_ratios_digits_of [hf : Is (D.fn 332 = some F_ratios_digits_of)] (a0 : VV) : fill D 332 [a0] = [a0] := by unfold fill; rw [hf.h]; rfl
theorem go_ratios_divisor_of [hf : Is (D.fn 333 = some F_ratios_divisor_of)] (a0 a1 : VV) (s : Store) : callN D rp fw (n + 1) 333 [a0, a1] s = endC s (evS D (callN D rp fw n) (rp (callN D rp fw n)) fw S_ratios_divisor_of [some a0, some a1] s) := callN_go hf.h rfl
theorem fl_ratios_divisor_of [hf : Is (D.fn 333 = some F_ratios_divisor_of)] (a0 a1 : VV) : fill D 333 [a0, a1] = [a0, a1] := by unfold fill; rw [hf.h]; rfl
theorem go_ratios_Ratio___init__ [hf : Is (D.fn 334 = some F_ratios_Ratio___init__)] (a0 a1 a2 : VV) (s : Store) : callN D rp fw (n + 1) 334 [a0, a1, a2] s = endC s (evS D (callN D rp fw n) (rp (callN D rp fw n)) fw S_ratios_Ratio___init__ [some a0, some a1, some a2, none] s) := callN_go hf.h rfl
theorem fl_ratios_Ratio___init__ [hf : Is (D.fn 334 = some F_ratios_Ratio___init__)] (a0 a1 a2 : VV) : fill D 334 [a0, a1, a2] = [a0, a1, a2] := by unfold fill; rw [hf.h]; rfl
theorem fl1_ratios_Ratio___init__ [hf : Is (D.fn 334 = some F_ratios_Ratio___init__)] [hd : Is (D.dfl 334 = [.int 1])] (a0 a1 : VV) : fill D 334 [a0, a1] = [a0, a1, .t (.int 1)] := by unfold fill; rw [hf.h, hd.h]; rfl
theorem go_ratios_Ratio___add__ [hf : Is (D.fn 340 = some F_ratios_Ratio___add__)] (a0 a1 : VV) (s : Store) : callN D rp fw (n + 1) 340 [a0, a1] s = endC s (evS D (callN D rp fw n) (rp (callN D rp fw n)) fw S_ratios_Ratio___add__ [some a0, some a1, none, none] s) := callN_go hf.h rfl
theorem fl_ratios_Ratio___add__ [hf : Is (D.fn 340 = some F_ratios_Ratio___add__)] (a0 a1 : VV) : fill D 340 [a0, a1] = [a0, a1] := by unfold fill; rw [hf.h]; rfl
theorem go_ratios_Ratio___sub__ [hf : Is (D.fn 342 = some F_ratios_Ratio___sub__)] (a0 a1 : VV) (s : Store) : callN D rp fw (n + 1) 342 [a0, a1] s = endC s (evS D (callN D rp fw n) (rp (callN D rp fw n)) fw S_ratios_Ratio___sub__ [some a0, some a1, none, none] s) := callN_go hf.h rfl
theorem fl_ratios_Ratio___sub__ [hf : Is (D.fn 342 = some F_ratios_Ratio___sub__)] (a0 a1 : VV) : fill D 342 [a0, a1] = [a0, a1] := by unfold fill; rw [hf.h]; rfl
theorem go_ratios_Ratio___mul__ [hf : Is (D.fn 344 = some F_ratios_Ratio___mul__)] (a0 a1 : VV) (s : Store) : callN D rp fw (n + 1) 344 [a0, a1] s = endC s (evS D (callN D rp fw n) (rp (callN D rp fw n)) fw S_ratios_Ratio___mul__ [some a0, some a1, none, none] s) := callN_go hf.h rfl
theorem fl_ratios_Ratio___mul__ [hf : Is (D.fn 344 = some F_ratios_Ratio___mul__)] (a0 a1 : VV) : fill D 344 [a0, a1] = [a0, a1] := by unfold fill; rw [hf.h]; rfl
theorem go_ratios_Ratio___neg__ [hf : Is (D.fn 346 = some F_ratios_Ratio___neg__)] (a0 : VV) (s : Store) : callN D rp fw (n + 1) 346 [a0] s = endC s (evS D (callN D rp fw n) (rp (callN D rp fw n)) fw S_ratios_Ratio___neg__ [some a0] s) := callN_go hf.h rfl
theorem fl_ratios_Ratio___neg__ [hf : Is (D.fn 346 = some F_ratios_Ratio___neg__)] (a0 : VV) : fill D 346 [a0] = [a0] := by unfold fill; rw [hf.h]; rfl
theorem go_ratios_Ratio_over [hf : Is (D.fn 347 = some F_ratios_Ratio_over)] (a0 a1 : VV) (s : Store) : callN D rp fw (n + 1) 347 [a0, a1] s = endC s (evS D (callN D rp fw n) (rp (callN D rp fw n)) fw S_ratios_Ratio_over [some a0, some a1, none, none] s) := callN_go hf.h rfl
theorem fl_ratios_Ratio_over [hf : Is (D.fn 347 = some F_ratios_Ratio_over)] (a0 a1 : VV) : fill D 347 [a0, a1] = [a0, a1] := by unfold fill; rw [hf.h]; rfl
theorem go_ratios_Ratio___eq__ [hf : Is (D.fn 351 = some F_ratios_Ratio___eq__)] (a0 a1 : VV) (s : Store) : callN D rp fw (n + 1) 351 [a0, a1] s = endC s (evS D (callN D rp fw n) (rp (callN D rp fw n)) fw S_ratios_Ratio___eq__ [some a0, some a1] s) := callN_go hf.h rfl
theorem fl_ratios_Ratio___eq__ [hf : Is (D.fn 351 = some F_ratios_Ratio___eq__)] (a0 a1 : VV) : fill D 351 [a0, a1] = [a0, a1] := by unfold fill; rw [hf.h]; rfl
theorem go_ratios_Ratio___repr__ [hf : Is (D.fn 353 = some F_ratios_Ratio___repr__)] (a0 : VV) (s : Store) : callN D rp fw (n + 1) 353 [a0] s = endC s (evS D (callN D rp fw n) (rp (callN D rp fw n)) fw S_ratios_Ratio___repr__ [some a0] s) := callN_go hf.h rfl
theorem fl_ratios_Ratio___repr__ [hf : Is (D.fn 353 = some F_ratios_Ratio___repr__)] (a0 : VV) : fill D 353 [a0] = [a0] := by unfold fill; rw [hf.h]; rfl
theorem go_ratios_told_pair [hf : Is (D.fn 354 = some F_ratios_told_pair)] (a0 : VV) (s : Store) : callN D rp fw (n + 1) 354 [a0] s = endC s (evS D (callN D rp fw n) (rp (callN D rp fw n)) fw S_ratios_told_pair [some a0] s) := callN_go hf.h rfl
theorem fl_ratios_told_pair [hf : Is (D.fn 354 = some F_ratios_told_pair)] (a0 : VV) : fill D 354 [a0] = [a0] := by unfold fill; rw [hf.h]; rfl
theorem go_ratios_is_number [hf : Is (D.fn 355 = some F_ratios_is_number)] (a0 : VV) (s : Store) : callN D rp fw (n + 1) 355 [a0] s = endC s (evS D (callN D rp fw n) (rp (callN D rp fw n)) fw S_ratios_is_number [some a0] s) := callN_go hf.h rfl
theorem fl_ratios_is_number [hf : Is (D.fn 355 = some F_ratios_is_number)] (a0 : VV) : fill D 355 [a0] = [a0] := by unfold fill; rw [hf.h]; rfl
theorem go_ratios_ratio_of [hf : Is (D.fn 356 = some F_ratios_ratio_of)] (a0 : VV) (s : Store) : callN D rp fw (n + 1) 356 [a0] s = endC s (evS D (callN D rp fw n) (rp (callN D rp fw n)) fw S_ratios_ratio_of [some a0] s) := callN_go hf.h rfl
theorem fl_ratios_ratio_of [hf : Is (D.fn 356 = some F_ratios_ratio_of)] (a0 : VV) : fill D 356 [a0] = [a0] := by unfold fill; rw [hf.h]; rfl
theorem go_solved_are_numbers [hf : Is (D.fn 420 = some F_solved_are_numbers)] (a0 a1 : VV) (s : Store) : callN D rp fw (n + 1) 420 [a0, a1] s = endC s (evS D (callN D rp fw n) (rp (callN D rp fw n)) fw S_solved_are_numbers [some a0, some a1, none] s) := callN_go hf.h rfl
theorem fl_solved_are_numbers [hf : Is (D.fn 420 = some F_solved_are_numbers)] (a0 a1 : VV) : fill D 420 [a0, a1] = [a0, a1] := by unfold fill; rw [hf.h]; rfl
theorem go_tables_table_in [hf : Is (D.fn 436 = some F_tables_table_in)] (a0 : VV) (s : Store) : callN D rp fw (n + 1) 436 [a0] s = endC s (evS D (callN D rp fw n) (rp (callN D rp fw n)) fw S_tables_table_in [some a0, none, none] s) := callN_go hf.h rfl
theorem fl_tables_table_in [hf : Is (D.fn 436 = some F_tables_table_in)] (a0 : VV) : fill D 436 [a0] = [a0] := by unfold fill; rw [hf.h]; rfl
end
end Tw
namespace Tw
open PySem L2
/-! ## the package's defs: whole numbers, lists, ratios -/
def okT (D : Defs) (t : T) : Bool := match t with
  | .ty _ => false
  | .scr _ => false
  | .ins c _ => D.cls c
  | _ => true
theorem isiOk_of {D : Defs} {cs : List CR} {x : T} (h : okT D x = true) (hk : ∀ c ∈ cs, D.kit c x = true) : isiOk D.kit D.cls cs x = true := by
  unfold isiOk
  rw [Bool.and_eq_true]
  refine ⟨List.all_eq_true.mpr hk, ?_⟩
  unfold okT at h
  cases x <;> first | rfl | exact h
def isInt : T → Bool
  | .int _ => true
  | _ => false
def isSeq : T → Bool
  | .lst _ => true
  | .tup _ => true
  | _ => false
def isRat : T → Bool
  | .ins c _ => decide (c = 55)
  | _ => false
def isNum (x : T) : Bool := isInt x || isRat x
def isCnt : T → Bool
  | .int i => decide (0 ≤ i)
  | _ => false
section
variable {D : Defs} {rp : CF → Store → T → Out Str} {fw n : Nat} {s : Store}
theorem is_integer_ok [Is (D.fn 31 = some F_basics_is_integer)] [Is (∀ t, okT D t = true → D.kit (.ty "int") t = true)] [Is (∀ t, okT D t = true → D.kit (.ty "bool") t = true)] {x : T} (hx : okT D x = true) : callN D rp fw (n + 1) 31 [.t x] s = .ok (.t (.bl (isInt x))) s := by
  rw [go_basics_is_integer]
  have h1 : isiOk D.kit D.cls [.ty "int"] x = true := isiOk_of hx (by simp only [List.mem_singleton, forall_eq]; exact (Is.h (p := ∀ t, okT D t = true → D.kit (.ty "int") t = true) _ hx))
  have h2 : isiOk D.kit D.cls [.ty "bool"] x = true := isiOk_of hx (by simp only [List.mem_singleton, forall_eq]; exact (Is.h (p := ∀ t, okT D t = true → D.kit (.ty "bool") t = true) _ hx))
  simp only [S_basics_is_integer, evS, ev, evs, evF, evI, put, putL, bindV, bind_ok, toFl_ok, seq_nx, seq_rt, putFl_ok, rd_t, emb_t, ofO_some, ofT_some, noex_ok, E.isOmit, List.map_cons, List.map_nil, List.replicate, List.cons_append, List.nil_append, List.length_cons, List.length_nil, List.set_cons_zero, List.set_cons_succ, List.getElem?_cons_zero, List.getElem?_cons_succ, Bool.false_eq_true, if_true, if_false, reduceIte, Nat.reduceAdd, Nat.reduceSub, Nat.reduceLT, Nat.reduceLeDiff, Nat.lt_irrefl, evT, bin_add, bin_sub, mthOk_ins, attV_ins, cmpP_lt, cmpP_le, cmpP_gt, cmpP_ge, cmp_lt, cmp_le, cmp_gt, cmp_ge, cmp_eqi, cmp_eqs, cmp_eqb, cmp_nei, cmp_nes, cmp_neb, cmp_isn, cmp_nin, cmp_isb, cmp_nib, tru_bl, tru_int, isNon_lst, isNon_non, item_l, item_t, blt_lenl, blt_lent, blt_lend, blt_all, blt_any, mapM_t1, mapM_t2, embLM_t0, embLM_t1, embLM_t2, embLM_t3, Option.bind_some, Option.map_some, Bool.not_true, Bool.not_false, endC_rt, endC_nx, decide_eq_true_eq, List.mapM_nil, h1, h2]
  cases x <;> simp [isiP, isInt, toFl_ok, bind_ok, emb_t, rd_t, ofO_some, ofT_some, endC, fin, seq_nx, seq_rt, tru, ofT, ofO]
theorem is_list_ok [Is (D.fn 33 = some F_basics_is_list)] [Is (∀ t, okT D t = true → D.kit (.ty "list") t = true)] [Is (∀ t, okT D t = true → D.kit (.ty "tuple") t = true)] {x : T} (hx : okT D x = true) : callN D rp fw (n + 1) 33 [.t x] s = .ok (.t (.bl (isSeq x))) s := by
  rw [go_basics_is_list]
  have h1 : isiOk D.kit D.cls [.ty "list", .ty "tuple"] x = true := isiOk_of hx (by
    intro c hc
    simp only [List.mem_cons, List.not_mem_nil, or_false] at hc
    rcases hc with rfl | rfl
    · exact (Is.h (p := ∀ t, okT D t = true → D.kit (.ty "list") t = true) _ hx)
    · exact (Is.h (p := ∀ t, okT D t = true → D.kit (.ty "tuple") t = true) _ hx))
  simp only [S_basics_is_list, evS, ev, evs, evF, evI, put, putL, bindV, bind_ok, toFl_ok, seq_nx, seq_rt, putFl_ok, rd_t, emb_t, ofO_some, ofT_some, noex_ok, E.isOmit, List.map_cons, List.map_nil, List.replicate, List.cons_append, List.nil_append, List.length_cons, List.length_nil, List.set_cons_zero, List.set_cons_succ, List.getElem?_cons_zero, List.getElem?_cons_succ, Bool.false_eq_true, if_true, if_false, reduceIte, Nat.reduceAdd, Nat.reduceSub, Nat.reduceLT, Nat.reduceLeDiff, Nat.lt_irrefl, evT, bin_add, bin_sub, mthOk_ins, attV_ins, cmpP_lt, cmpP_le, cmpP_gt, cmpP_ge, cmp_lt, cmp_le, cmp_gt, cmp_ge, cmp_eqi, cmp_eqs, cmp_eqb, cmp_nei, cmp_nes, cmp_neb, cmp_isn, cmp_nin, cmp_isb, cmp_nib, tru_bl, tru_int, isNon_lst, isNon_non, item_l, item_t, blt_lenl, blt_lent, blt_lend, blt_all, blt_any, mapM_t1, mapM_t2, embLM_t0, embLM_t1, embLM_t2, embLM_t3, Option.bind_some, Option.map_some, Bool.not_true, Bool.not_false, endC_rt, endC_nx, decide_eq_true_eq, List.mapM_nil, h1]
  cases x <;> simp [isiP, isSeq, toFl_ok, bind_ok, emb_t, rd_t, ofO_some, ofT_some, endC, fin, seq_nx, seq_rt, tru, ofT, ofO]
theorem is_count_ok [Is (D.fn 32 = some F_basics_is_count)] [Is (D.fn 31 = some F_basics_is_integer)] [Is (∀ t, okT D t = true → D.kit (.ty "int") t = true)] [Is (∀ t, okT D t = true → D.kit (.ty "bool") t = true)] {x : T} (hx : okT D x = true) : callN D rp fw (n + 2) 32 [.t x] s = .ok (.t (.bl (isCnt x))) s := by
  rw [go_basics_is_count]
  simp only [S_basics_is_count, fl_basics_is_integer, evS, ev, evs, evF, evI, put, putL, bindV, bind_ok, toFl_ok, seq_nx, seq_rt, putFl_ok, rd_t, emb_t, ofO_some, ofT_some, noex_ok, E.isOmit, List.map_cons, List.map_nil, List.replicate, List.cons_append, List.nil_append, List.length_cons, List.length_nil, List.set_cons_zero, List.set_cons_succ, List.getElem?_cons_zero, List.getElem?_cons_succ, Bool.false_eq_true, if_true, if_false, reduceIte, Nat.reduceAdd, Nat.reduceSub, Nat.reduceLT, Nat.reduceLeDiff, Nat.lt_irrefl, evT, bin_add, bin_sub, mthOk_ins, attV_ins, cmpP_lt, cmpP_le, cmpP_gt, cmpP_ge, cmp_lt, cmp_le, cmp_gt, cmp_ge, cmp_eqi, cmp_eqs, cmp_eqb, cmp_nei, cmp_nes, cmp_neb, cmp_isn, cmp_nin, cmp_isb, cmp_nib, tru_bl, tru_int, isNon_lst, isNon_non, item_l, item_t, blt_lenl, blt_lent, blt_lend, blt_all, blt_any, mapM_t1, mapM_t2, embLM_t0, embLM_t1, embLM_t2, embLM_t3, Option.bind_some, Option.map_some, Bool.not_true, Bool.not_false, endC_rt, endC_nx, decide_eq_true_eq, List.mapM_nil, is_integer_ok hx]
  cases x <;> simp [isInt, isCnt, cmp_ge, toFl_ok, bind_ok, emb_t, rd_t, ofO_some, ofT_some, endC, fin, seq_nx, seq_rt, tru, ofT, ofO]
end
end Tw
namespace Tw
open PySem L2
/-! ## ratios -/
def ratF (a b : Int) : List (Str × T) := [("own_top", .int a), ("own_bottom", .int b)]
def ratT (a b : Int) : T := .ins 55 (ratF a b)
/-- what is made of top and bottom -/
def cmn (a b : Int) : Int := if b < 0 then 0 - (Nat.gcd a.natAbs b.natAbs : Int) else (Nat.gcd a.natAbs b.natAbs : Int)
def mkR (a b : Int) : T := ratT (a.fdiv (cmn a b)) (b.fdiv (cmn a b))
theorem app_get {s : Store} {c : Cell} : (s ++ [c])[s.length]? = some c := by simp
theorem app_set {s : Store} {c c' : Cell} : (s ++ [c]).set s.length c' = s ++ [c'] := by simp
theorem app_take {s : Store} {c : Cell} : (s ++ [c]).take s.length = s := by simp
theorem app_take1 {s : Store} {c : Cell} : (s ++ [c]).take (s.length + 1) = s ++ [c] := List.take_of_length_le (by simp)
theorem mkEnd_app {s : Store} {c : Cell} : mkEnd s.length (.t .non) (s ++ [c]) = .ok (.t c.tree) s := by
  unfold mkEnd finT
  rw [app_get, app_take]
theorem tb_ne : ¬ ((Str.ofString "own_top") = Str.ofString "own_bottom") := by decide
theorem cmn_ne {a b : Int} (h : b ≠ 0) : cmn a b ≠ 0 := by
  have : Nat.gcd a.natAbs b.natAbs ≠ 0 := fun z => by have := Nat.eq_zero_of_gcd_eq_zero_right z; omega
  unfold cmn
  split <;> omega
theorem cmn_abs {a b : Int} : (cmn a b).natAbs = Nat.gcd a.natAbs b.natAbs := by
  unfold cmn
  split <;> omega
theorem log2_mono {a b : Nat} (h : a ≤ b) : a.log2 ≤ b.log2 := by
  by_cases ha : a = 0
  · subst ha; simp
  · have hb : b ≠ 0 := by omega
    exact (Nat.le_log2 hb).mpr (Nat.le_trans (Nat.log2_self_le ha) h)
theorem cmn_log {a b : Int} (h : b ≠ 0) (h2 : b.natAbs.log2 < 9000) : (cmn a b).natAbs.log2 < 9000 := by
  rw [cmn_abs]
  exact Nat.lt_of_le_of_lt (log2_mono (Nat.le_of_dvd (by omega) (Nat.gcd_dvd_right _ _))) h2
section
variable {D : Defs} {rp : CF → Store → T → Out Str} {fw n : Nat} {s : Store}
theorem divisor_of_ok [Is (D.fn 333 = some F_ratios_divisor_of)] {a b : Int} : callN D rp fw (n + 1) 333 [.t (.int a), .t (.int b)] s = .ok (.t (.int ((Nat.gcd a.natAbs b.natAbs : Nat) : Int))) s := by
  rw [go_ratios_divisor_of]
  simp only [S_ratios_divisor_of, evS, ev, evs, evF, evI, put, putL, bindV, bind_ok, toFl_ok, seq_nx, seq_rt, putFl_ok, rd_t, emb_t, ofO_some, ofT_some, noex_ok, E.isOmit, List.map_cons, List.map_nil, List.replicate, List.cons_append, List.nil_append, List.length_cons, List.length_nil, List.set_cons_zero, List.set_cons_succ, List.getElem?_cons_zero, List.getElem?_cons_succ, Bool.false_eq_true, if_true, if_false, reduceIte, Nat.reduceAdd, Nat.reduceSub, Nat.reduceLT, Nat.reduceLeDiff, Nat.lt_irrefl, evT, bin_add, bin_sub, mthOk_ins, attV_ins, cmpP_lt, cmpP_le, cmpP_gt, cmpP_ge, cmp_lt, cmp_le, cmp_gt, cmp_ge, cmp_eqi, cmp_eqs, cmp_eqb, cmp_nei, cmp_nes, cmp_neb, cmp_isn, cmp_nin, cmp_isb, cmp_nib, tru_bl, tru_int, isNon_lst, isNon_non, item_l, item_t, blt_lenl, blt_lent, blt_lend, blt_all, blt_any, mapM_t1, mapM_t2, embLM_t0, embLM_t1, embLM_t2, embLM_t3, Option.bind_some, Option.map_some, Bool.not_true, Bool.not_false, endC_rt, endC_nx, decide_eq_true_eq, List.mapM_nil]
  simp [bltP, toFl_ok, bind_ok, emb_t, rd_t, ofO_some, ofT_some, endC, fin, seq_nx, seq_rt, tru, ofT, ofO]
theorem okI {i : Int} : okT D (.int i) = true := rfl
theorem okB {i : Bool} : okT D (.bl i) = true := rfl
theorem ratio_init_ok [Is (D.fn 334 = some F_ratios_Ratio___init__)] [Is (D.fld 55 "own_top" = true)] [Is (D.fld 55 "own_bottom" = true)] [Is (D.dfl 334 = [.int 1])] [Is (D.fn 31 = some F_basics_is_integer)] [Is (∀ t, okT D t = true → D.kit (.ty "int") t = true)] [Is (∀ t, okT D t = true → D.kit (.ty "bool") t = true)] [Is (D.fn 333 = some F_ratios_divisor_of)] {a b : Int} (hb : b ≠ 0) (hl : b.natAbs.log2 < 9000) :
    callN D rp fw (n + 2) 334 [.c s.length, .t (.int a), .t (.int b)] (s ++ [.ins 55 []]) = .ok (.t .non) (s ++ [.ins 55 (ratF (a.fdiv (cmn a b)) (b.fdiv (cmn a b)))]) := by
  have h1 := cmn_ne (a := a) hb
  have h2 := cmn_log (a := a) hb hl
  rw [go_ratios_Ratio___init__]
  have hbf : (b = 0) = False := by simp [hb]
  by_cases hneg : b < 0
  · have e : (0 - (Nat.gcd a.natAbs b.natAbs : Int)) = cmn a b := by unfold cmn; rw [if_pos hneg]
    simp only [S_ratios_Ratio___init__, fl_basics_is_integer, fl_ratios_divisor_of, evS, ev, evs, evF, evI, put, putL, bindV, bind_ok, toFl_ok, seq_nx, seq_rt, putFl_ok, rd_t, emb_t, ofO_some, ofT_some, noex_ok, E.isOmit, List.map_cons, List.map_nil, List.replicate, List.cons_append, List.nil_append, List.length_cons, List.length_nil, List.set_cons_zero, List.set_cons_succ, List.getElem?_cons_zero, List.getElem?_cons_succ, Bool.false_eq_true, if_true, if_false, reduceIte, Nat.reduceAdd, Nat.reduceSub, Nat.reduceLT, Nat.reduceLeDiff, Nat.lt_irrefl, evT, bin_add, bin_sub, mthOk_ins, attV_ins, cmpP_lt, cmpP_le, cmpP_gt, cmpP_ge, cmp_lt, cmp_le, cmp_gt, cmp_ge, cmp_eqi, cmp_eqs, cmp_eqb, cmp_nei, cmp_nes, cmp_neb, cmp_isn, cmp_nin, cmp_isb, cmp_nib, tru_bl, tru_int, isNon_lst, isNon_non, item_l, item_t, blt_lenl, blt_lent, blt_lend, blt_all, blt_any, mapM_t1, mapM_t2, embLM_t0, embLM_t1, embLM_t2, embLM_t3, Option.bind_some, Option.map_some, Bool.not_true, Bool.not_false, endC_rt, endC_nx, decide_eq_true_eq, List.mapM_nil, is_integer_ok okI, divisor_of_ok, isInt, hbf, decide_false, hneg, e, bin_fdiv h1 h2, attTo, app_get, app_set, fld_55_own_top, fld_55_own_bottom, decide_true, Bool.and_self]
    simp [endC, fin, putT, ratF, tb_ne, app_take1]
  · have e : (Nat.gcd a.natAbs b.natAbs : Int) = cmn a b := by unfold cmn; rw [if_neg hneg]
    simp only [S_ratios_Ratio___init__, fl_basics_is_integer, fl_ratios_divisor_of, evS, ev, evs, evF, evI, put, putL, bindV, bind_ok, toFl_ok, seq_nx, seq_rt, putFl_ok, rd_t, emb_t, ofO_some, ofT_some, noex_ok, E.isOmit, List.map_cons, List.map_nil, List.replicate, List.cons_append, List.nil_append, List.length_cons, List.length_nil, List.set_cons_zero, List.set_cons_succ, List.getElem?_cons_zero, List.getElem?_cons_succ, Bool.false_eq_true, if_true, if_false, reduceIte, Nat.reduceAdd, Nat.reduceSub, Nat.reduceLT, Nat.reduceLeDiff, Nat.lt_irrefl, evT, bin_add, bin_sub, mthOk_ins, attV_ins, cmpP_lt, cmpP_le, cmpP_gt, cmpP_ge, cmp_lt, cmp_le, cmp_gt, cmp_ge, cmp_eqi, cmp_eqs, cmp_eqb, cmp_nei, cmp_nes, cmp_neb, cmp_isn, cmp_nin, cmp_isb, cmp_nib, tru_bl, tru_int, isNon_lst, isNon_non, item_l, item_t, blt_lenl, blt_lent, blt_lend, blt_all, blt_any, mapM_t1, mapM_t2, embLM_t0, embLM_t1, embLM_t2, embLM_t3, Option.bind_some, Option.map_some, Bool.not_true, Bool.not_false, endC_rt, endC_nx, decide_eq_true_eq, List.mapM_nil, is_integer_ok okI, divisor_of_ok, isInt, hbf, decide_false, hneg, e, bin_fdiv h1 h2, attTo, app_get, app_set, fld_55_own_top, fld_55_own_bottom, decide_true, Bool.and_self]
    simp [endC, fin, putT, ratF, tb_ne, app_take1]
theorem fdiv_one (a : Int) : a.fdiv 1 = a := by simp
theorem mkR_int (a : Int) : mkR a 1 = ratT a 1 := by
  unfold mkR cmn
  simp
theorem is_number_ok [Is (D.fn 355 = some F_ratios_is_number)] [Is (∀ t, okT D t = true → D.kit (.cl 55) t = true)] [Is (∀ d, D.sub d 55 = decide (d = 55))] [Is (D.cls 55 = true)] [Is (D.fn 31 = some F_basics_is_integer)] [Is (∀ t, okT D t = true → D.kit (.ty "int") t = true)] [Is (∀ t, okT D t = true → D.kit (.ty "bool") t = true)] {x : T} (hx : okT D x = true) : callN D rp fw (n + 2) 355 [.t x] s = .ok (.t (.bl (isNum x))) s := by
  have h1 : isiOk D.kit D.cls [.cl 55] x = true := isiOk_of hx (by simp only [List.mem_singleton, forall_eq]; exact (Is.h (p := ∀ t, okT D t = true → D.kit (.cl 55) t = true) _ hx))
  rw [go_ratios_is_number]
  simp only [S_ratios_is_number, fl_basics_is_integer, evS, ev, evs, evF, evI, put, putL, bindV, bind_ok, toFl_ok, seq_nx, seq_rt, putFl_ok, rd_t, emb_t, ofO_some, ofT_some, noex_ok, E.isOmit, List.map_cons, List.map_nil, List.replicate, List.cons_append, List.nil_append, List.length_cons, List.length_nil, List.set_cons_zero, List.set_cons_succ, List.getElem?_cons_zero, List.getElem?_cons_succ, Bool.false_eq_true, if_true, if_false, reduceIte, Nat.reduceAdd, Nat.reduceSub, Nat.reduceLT, Nat.reduceLeDiff, Nat.lt_irrefl, evT, bin_add, bin_sub, mthOk_ins, attV_ins, cmpP_lt, cmpP_le, cmpP_gt, cmpP_ge, cmp_lt, cmp_le, cmp_gt, cmp_ge, cmp_eqi, cmp_eqs, cmp_eqb, cmp_nei, cmp_nes, cmp_neb, cmp_isn, cmp_nin, cmp_isb, cmp_nib, tru_bl, tru_int, isNon_lst, isNon_non, item_l, item_t, blt_lenl, blt_lent, blt_lend, blt_all, blt_any, mapM_t1, mapM_t2, embLM_t0, embLM_t1, embLM_t2, embLM_t3, Option.bind_some, Option.map_some, Bool.not_true, Bool.not_false, endC_rt, endC_nx, decide_eq_true_eq, List.mapM_nil, is_integer_ok hx, h1]
  cases x <;> simp [isNum, isInt, isRat, isiP, sub_55, toFl_ok, bind_ok, emb_t, rd_t, ofO_some, ofT_some, endC, fin, seq_nx, seq_rt, tru, ofT, ofO]
/-- a number as a ratio -/
def ratOf : T → T
  | .int i => ratT i 1
  | x => x
theorem ratio_of_ok [Is (D.fn 356 = some F_ratios_ratio_of)] [Is (∀ t, okT D t = true → D.kit (.cl 55) t = true)] [Is (∀ d, D.sub d 55 = decide (d = 55))] [Is (D.cls 55 = true)] [Is (D.ini 55 = some 334)] [Is (D.fn 334 = some F_ratios_Ratio___init__)] [Is (D.fld 55 "own_top" = true)] [Is (D.fld 55 "own_bottom" = true)] [Is (D.dfl 334 = [.int 1])] [Is (D.fn 31 = some F_basics_is_integer)] [Is (∀ t, okT D t = true → D.kit (.ty "int") t = true)] [Is (∀ t, okT D t = true → D.kit (.ty "bool") t = true)] [Is (D.fn 333 = some F_ratios_divisor_of)] {x : T} (hx : okT D x = true) (hn : isNum x = true) : callN D rp fw (n + 3) 356 [.t x] s = .ok (.t (ratOf x)) s := by
  have h1 : isiOk D.kit D.cls [.cl 55] x = true := isiOk_of hx (by simp only [List.mem_singleton, forall_eq]; exact (Is.h (p := ∀ t, okT D t = true → D.kit (.cl 55) t = true) _ hx))
  rw [go_ratios_ratio_of]
  cases x with
  | int i =>
    have h2 := ratio_init_ok (D := D) (rp := rp) (fw := fw) (n := n) (s := s) (a := i) (b := 1) (by omega) (by decide)
    simp only [S_ratios_ratio_of, fl_ratios_Ratio___init__, fl1_ratios_Ratio___init__, evS, ev, evs, evF, evI, put, putL, bindV, bind_ok, toFl_ok, seq_nx, seq_rt, putFl_ok, rd_t, emb_t, ofO_some, ofT_some, noex_ok, E.isOmit, List.map_cons, List.map_nil, List.replicate, List.cons_append, List.nil_append, List.length_cons, List.length_nil, List.set_cons_zero, List.set_cons_succ, List.getElem?_cons_zero, List.getElem?_cons_succ, Bool.false_eq_true, if_true, if_false, reduceIte, Nat.reduceAdd, Nat.reduceSub, Nat.reduceLT, Nat.reduceLeDiff, Nat.lt_irrefl, evT, bin_add, bin_sub, mthOk_ins, attV_ins, cmpP_lt, cmpP_le, cmpP_gt, cmpP_ge, cmp_lt, cmp_le, cmp_gt, cmp_ge, cmp_eqi, cmp_eqs, cmp_eqb, cmp_nei, cmp_nes, cmp_neb, cmp_isn, cmp_nin, cmp_isb, cmp_nib, tru_bl, tru_int, isNon_lst, isNon_non, item_l, item_t, blt_lenl, blt_lent, blt_lend, blt_all, blt_any, mapM_t1, mapM_t2, embLM_t0, embLM_t1, embLM_t2, embLM_t3, Option.bind_some, Option.map_some, Bool.not_true, Bool.not_false, endC_rt, endC_nx, decide_eq_true_eq, List.mapM_nil, h1, ini_55, h2, mkEnd_app, Cell.tree]
    have : mkR i 1 = ratT i 1 := mkR_int i
    unfold mkR ratT at this
    simp [ratOf, isiP, sub_55, toFl_ok, bind_ok, emb_t, rd_t, ofO_some, ofT_some, endC, fin, seq_nx, seq_rt, tru, ofT, ofO, h2, mkEnd_app, Cell.tree, ini_55, ratT, fl1_ratios_Ratio___init__, ev, evs]
    simpa using this
  | ins c fs =>
    have hc : c = 55 := by simpa [isNum, isInt, isRat] using hn
    subst hc
    simp only [S_ratios_ratio_of, fl_ratios_Ratio___init__, fl1_ratios_Ratio___init__, evS, ev, evs, evF, evI, put, putL, bindV, bind_ok, toFl_ok, seq_nx, seq_rt, putFl_ok, rd_t, emb_t, ofO_some, ofT_some, noex_ok, E.isOmit, List.map_cons, List.map_nil, List.replicate, List.cons_append, List.nil_append, List.length_cons, List.length_nil, List.set_cons_zero, List.set_cons_succ, List.getElem?_cons_zero, List.getElem?_cons_succ, Bool.false_eq_true, if_true, if_false, reduceIte, Nat.reduceAdd, Nat.reduceSub, Nat.reduceLT, Nat.reduceLeDiff, Nat.lt_irrefl, evT, bin_add, bin_sub, mthOk_ins, attV_ins, cmpP_lt, cmpP_le, cmpP_gt, cmpP_ge, cmp_lt, cmp_le, cmp_gt, cmp_ge, cmp_eqi, cmp_eqs, cmp_eqb, cmp_nei, cmp_nes, cmp_neb, cmp_isn, cmp_nin, cmp_isb, cmp_nib, tru_bl, tru_int, isNon_lst, isNon_non, item_l, item_t, blt_lenl, blt_lent, blt_lend, blt_all, blt_any, mapM_t1, mapM_t2, embLM_t0, embLM_t1, embLM_t2, embLM_t3, Option.bind_some, Option.map_some, Bool.not_true, Bool.not_false, endC_rt, endC_nx, decide_eq_true_eq, List.mapM_nil, h1]
    simp [ratOf, isiP, sub_55, toFl_ok, bind_ok, emb_t, rd_t, ofO_some, ofT_some, endC, fin, seq_nx, seq_rt, tru, ofT, ofO]
  | _ => cases hn
end
end Tw
namespace Tw
open PySem L2
/-! ## rows, tables, houses, words -/
def itms : T → List T
  | .lst xs => xs
  | .tup xs => xs
  | _ => []
/-- a value that the defs may look at: no types, no foreign instances, to a depth -/
def okN (D : Defs) : Nat → T → Prop
  | 0, x => okT D x = true
  | n + 1, x => okT D x = true ∧ (itms x).length ≤ sizeLine ∧ ∀ y ∈ itms x, okN D n y
theorem okN.t {D : Defs} : ∀ {n : Nat} {x : T}, okN D n x → okT D x = true
  | 0, _, h => h
  | _ + 1, _, h => h.1
theorem okN.down {D : Defs} : ∀ {n : Nat} {x : T}, okN D (n + 1) x → okN D n x
  | 0, _, h => h.1
  | n + 1, x, h => ⟨h.1, h.2.1, fun y hy => (h.2.2 y hy).down⟩
def isRow (x : T) (w : Int) : Bool := isSeq x && (decide (((itms x).length : Int) = w) && (itms x).all isNum)
def tblOk (x : T) : Bool := isSeq x && (decide (1 ≤ ((itms x).length : Int)) && decide (((itms x).length : Int) ≤ 4)) && (itms x).all fun r => isRow r (itms x).length
def toldT (x : T) : T := .lst ((itms x).map fun r => .lst ((itms r).map ratOf))
def tblIn (x : T) : T := if tblOk x then toldT x else .non
section
variable {D : Defs} {rp : CF → Store → T → Out Str} {fw n : Nat} {s : Store}
theorem seq_cases {x : T} (h : isSeq x = true) : ∃ xs, x = .lst xs ∨ x = .tup xs := by
  cases x <;> first | (cases h; done) | exact ⟨_, .inl rfl⟩ | exact ⟨_, .inr rfl⟩
theorem evI_seq {cf : CF} {rp : Store → T → Out Str} {e : E} {loc : Loc} {x : T} (hs : isSeq x = true) (h : ev D cf rp e loc s = .ok (.t x) s) : ∃ src, evI D cf rp (.iseq e) loc s = .ok src s ∧ Walks s src (itms x) := by
  obtain ⟨xs, rfl | rfl⟩ := seq_cases hs
  · exact ⟨.lst (.t (.lst xs)), by simp only [evI, h, bind_ok, rd_t], .tree⟩
  · exact ⟨.tup xs, by simp only [evI, h, bind_ok, rd_t], .tup⟩
theorem blt_len_seq {x : T} (hs : isSeq x = true) : bltP .len [x] = some (.int (itms x).length) := by
  obtain ⟨xs, rfl | rfl⟩ := seq_cases hs <;> rfl
theorem are_numbers_ok [Is (D.fn 420 = some F_solved_are_numbers)] [Is (D.fn 33 = some F_basics_is_list)] [Is (∀ t, okT D t = true → D.kit (.ty "list") t = true)] [Is (∀ t, okT D t = true → D.kit (.ty "tuple") t = true)] [Is (D.fn 355 = some F_ratios_is_number)] [Is (∀ t, okT D t = true → D.kit (.cl 55) t = true)] [Is (∀ d, D.sub d 55 = decide (d = 55))] [Is (D.cls 55 = true)] [Is (D.fn 31 = some F_basics_is_integer)] [Is (∀ t, okT D t = true → D.kit (.ty "int") t = true)] [Is (∀ t, okT D t = true → D.kit (.ty "bool") t = true)] {x : T} {w : Int} (hx : okN D 1 x) : callN D rp fw (n + 3) 420 [.t x, .t (.int w)] s = .ok (.t (.bl (isRow x w))) s := by
  rw [go_solved_are_numbers]
  cases hs : isSeq x with
  | false =>
    simp only [S_solved_are_numbers, fl_basics_is_list, fl_ratios_is_number, evS, ev, evs, evF, evI, put, putL, bindV, bind_ok, toFl_ok, seq_nx, seq_rt, putFl_ok, rd_t, emb_t, ofO_some, ofT_some, noex_ok, E.isOmit, List.map_cons, List.map_nil, List.replicate, List.cons_append, List.nil_append, List.length_cons, List.length_nil, List.set_cons_zero, List.set_cons_succ, List.getElem?_cons_zero, List.getElem?_cons_succ, Bool.false_eq_true, if_true, if_false, reduceIte, Nat.reduceAdd, Nat.reduceSub, Nat.reduceLT, Nat.reduceLeDiff, Nat.lt_irrefl, evT, bin_add, bin_sub, mthOk_ins, attV_ins, cmpP_lt, cmpP_le, cmpP_gt, cmpP_ge, cmp_lt, cmp_le, cmp_gt, cmp_ge, cmp_eqi, cmp_eqs, cmp_eqb, cmp_nei, cmp_nes, cmp_neb, cmp_isn, cmp_nin, cmp_isb, cmp_nib, tru_bl, tru_int, isNon_lst, isNon_non, item_l, item_t, blt_lenl, blt_lent, blt_lend, blt_all, blt_any, mapM_t1, mapM_t2, embLM_t0, embLM_t1, embLM_t2, embLM_t3, Option.bind_some, Option.map_some, Bool.not_true, Bool.not_false, endC_rt, endC_nx, decide_eq_true_eq, List.mapM_nil, is_list_ok hx.t, hs]
    simp [isRow, hs, toFl_ok, bind_ok, emb_t, rd_t, ofO_some, ofT_some, endC, fin, seq_nx, seq_rt, tru, ofT, ofO]
  | true =>
    by_cases hw : ((itms x).length : Int) = w
    · obtain ⟨src, h1, h2⟩ := evI_seq (s := s) (D := D) (cf := callN D rp fw (n + 2)) (rp := rp (callN D rp fw (n + 2))) (e := .var 0) (loc := [some (.t x), some (.t (.int w)), none]) hs (by simp only [evS, ev, evs, evF, evI, put, putL, bindV, bind_ok, toFl_ok, seq_nx, seq_rt, putFl_ok, rd_t, emb_t, ofO_some, ofT_some, noex_ok, E.isOmit, List.map_cons, List.map_nil, List.replicate, List.cons_append, List.nil_append, List.length_cons, List.length_nil, List.set_cons_zero, List.set_cons_succ, List.getElem?_cons_zero, List.getElem?_cons_succ, Bool.false_eq_true, if_true, if_false, reduceIte, Nat.reduceAdd, Nat.reduceSub, Nat.reduceLT, Nat.reduceLeDiff, Nat.lt_irrefl, evT, bin_add, bin_sub, mthOk_ins, attV_ins, cmpP_lt, cmpP_le, cmpP_gt, cmpP_ge, cmp_lt, cmp_le, cmp_gt, cmp_ge, cmp_eqi, cmp_eqs, cmp_eqb, cmp_nei, cmp_nes, cmp_neb, cmp_isn, cmp_nin, cmp_isb, cmp_nib, tru_bl, tru_int, isNon_lst, isNon_non, item_l, item_t, blt_lenl, blt_lent, blt_lend, blt_all, blt_any, mapM_t1, mapM_t2, embLM_t0, embLM_t1, embLM_t2, embLM_t3, Option.bind_some, Option.map_some, Bool.not_true, Bool.not_false, endC_rt, endC_nx, decide_eq_true_eq, List.mapM_nil])
      have hlc : ev D (callN D rp fw (n + 2)) (rp (callN D rp fw (n + 2))) LC_solved_are_numbers_0 [some (.t x), some (.t (.int w)), none] s = _ := ev_lc_map (fun y => .bl (isNum y)) h1 h2 hx.2.1 (fun y hy => ⟨[some (.t x), some (.t (.int w)), some (.t y)], by simp [bindG, wipeL], fun acc => by
        simp only [evS, ev, evs, evF, evI, put, putL, bindV, bind_ok, toFl_ok, seq_nx, seq_rt, putFl_ok, rd_t, emb_t, ofO_some, ofT_some, noex_ok, E.isOmit, List.map_cons, List.map_nil, List.replicate, List.cons_append, List.nil_append, List.length_cons, List.length_nil, List.set_cons_zero, List.set_cons_succ, List.getElem?_cons_zero, List.getElem?_cons_succ, Bool.false_eq_true, if_true, if_false, reduceIte, Nat.reduceAdd, Nat.reduceSub, Nat.reduceLT, Nat.reduceLeDiff, Nat.lt_irrefl, evT, bin_add, bin_sub, mthOk_ins, attV_ins, cmpP_lt, cmpP_le, cmpP_gt, cmpP_ge, cmp_lt, cmp_le, cmp_gt, cmp_ge, cmp_eqi, cmp_eqs, cmp_eqb, cmp_nei, cmp_nes, cmp_neb, cmp_isn, cmp_nin, cmp_isb, cmp_nib, tru_bl, tru_int, isNon_lst, isNon_non, item_l, item_t, blt_lenl, blt_lent, blt_lend, blt_all, blt_any, mapM_t1, mapM_t2, embLM_t0, embLM_t1, embLM_t2, embLM_t3, Option.bind_some, Option.map_some, Bool.not_true, Bool.not_false, endC_rt, endC_nx, decide_eq_true_eq, List.mapM_nil, fl_ratios_is_number, is_number_ok (hx.2.2 y hy)]⟩)
      simp only [S_solved_are_numbers, fl_basics_is_list, fl_ratios_is_number, evS, ev, evs, evF, evI, put, putL, bindV, bind_ok, toFl_ok, seq_nx, seq_rt, putFl_ok, rd_t, emb_t, ofO_some, ofT_some, noex_ok, E.isOmit, List.map_cons, List.map_nil, List.replicate, List.cons_append, List.nil_append, List.length_cons, List.length_nil, List.set_cons_zero, List.set_cons_succ, List.getElem?_cons_zero, List.getElem?_cons_succ, Bool.false_eq_true, if_true, if_false, reduceIte, Nat.reduceAdd, Nat.reduceSub, Nat.reduceLT, Nat.reduceLeDiff, Nat.lt_irrefl, evT, bin_add, bin_sub, mthOk_ins, attV_ins, cmpP_lt, cmpP_le, cmpP_gt, cmpP_ge, cmp_lt, cmp_le, cmp_gt, cmp_ge, cmp_eqi, cmp_eqs, cmp_eqb, cmp_nei, cmp_nes, cmp_neb, cmp_isn, cmp_nin, cmp_isb, cmp_nib, tru_bl, tru_int, isNon_lst, isNon_non, item_l, item_t, blt_lenl, blt_lent, blt_lend, blt_all, blt_any, mapM_t1, mapM_t2, embLM_t0, embLM_t1, embLM_t2, embLM_t3, Option.bind_some, Option.map_some, Bool.not_true, Bool.not_false, endC_rt, endC_nx, decide_eq_true_eq, List.mapM_nil, is_list_ok hx.t, hs, blt_len_seq hs, hw, decide_true, hlc]
      simp [bltP, all_map, isRow, hs, hw, toFl_ok, bind_ok, emb_t, rd_t, ofO_some, ofT_some, endC, fin, seq_nx, seq_rt, tru, ofT, ofO]
    · simp only [S_solved_are_numbers, fl_basics_is_list, fl_ratios_is_number, evS, ev, evs, evF, evI, put, putL, bindV, bind_ok, toFl_ok, seq_nx, seq_rt, putFl_ok, rd_t, emb_t, ofO_some, ofT_some, noex_ok, E.isOmit, List.map_cons, List.map_nil, List.replicate, List.cons_append, List.nil_append, List.length_cons, List.length_nil, List.set_cons_zero, List.set_cons_succ, List.getElem?_cons_zero, List.getElem?_cons_succ, Bool.false_eq_true, if_true, if_false, reduceIte, Nat.reduceAdd, Nat.reduceSub, Nat.reduceLT, Nat.reduceLeDiff, Nat.lt_irrefl, evT, bin_add, bin_sub, mthOk_ins, attV_ins, cmpP_lt, cmpP_le, cmpP_gt, cmpP_ge, cmp_lt, cmp_le, cmp_gt, cmp_ge, cmp_eqi, cmp_eqs, cmp_eqb, cmp_nei, cmp_nes, cmp_neb, cmp_isn, cmp_nin, cmp_isb, cmp_nib, tru_bl, tru_int, isNon_lst, isNon_non, item_l, item_t, blt_lenl, blt_lent, blt_lend, blt_all, blt_any, mapM_t1, mapM_t2, embLM_t0, embLM_t1, embLM_t2, embLM_t3, Option.bind_some, Option.map_some, Bool.not_true, Bool.not_false, endC_rt, endC_nx, decide_eq_true_eq, List.mapM_nil, is_list_ok hx.t, hs, blt_len_seq hs, hw, decide_false]
      simp [isRow, hs, hw, toFl_ok, bind_ok, emb_t, rd_t, ofO_some, ofT_some, endC, fin, seq_nx, seq_rt, tru, ofT, ofO]
theorem not_tru {b : Bool} : (!b) = !b := rfl
theorem table_in_ok [Is (D.fn 436 = some F_tables_table_in)] [Is (D.fn 33 = some F_basics_is_list)] [Is (∀ t, okT D t = true → D.kit (.ty "list") t = true)] [Is (∀ t, okT D t = true → D.kit (.ty "tuple") t = true)] [Is (D.fn 420 = some F_solved_are_numbers)] [Is (D.fn 356 = some F_ratios_ratio_of)] [Is (∀ t, okT D t = true → D.kit (.cl 55) t = true)] [Is (∀ d, D.sub d 55 = decide (d = 55))] [Is (D.cls 55 = true)] [Is (D.ini 55 = some 334)] [Is (D.fn 355 = some F_ratios_is_number)] [Is (D.fn 334 = some F_ratios_Ratio___init__)] [Is (D.fld 55 "own_top" = true)] [Is (D.fld 55 "own_bottom" = true)] [Is (D.dfl 334 = [.int 1])] [Is (D.fn 31 = some F_basics_is_integer)] [Is (∀ t, okT D t = true → D.kit (.ty "int") t = true)] [Is (∀ t, okT D t = true → D.kit (.ty "bool") t = true)] [Is (D.fn 333 = some F_ratios_divisor_of)] {x : T} (hx : okN D 2 x) : callN D rp fw (n + 4) 436 [.t x] s = .ok (.t (tblIn x)) s := by
  rw [go_tables_table_in]
  cases hs : isSeq x with
  | false =>
    simp only [S_tables_table_in, fl_basics_is_list, fl_solved_are_numbers, fl_ratios_ratio_of, evS, ev, evs, evF, evI, put, putL, bindV, bind_ok, toFl_ok, seq_nx, seq_rt, putFl_ok, rd_t, emb_t, ofO_some, ofT_some, noex_ok, E.isOmit, List.map_cons, List.map_nil, List.replicate, List.cons_append, List.nil_append, List.length_cons, List.length_nil, List.set_cons_zero, List.set_cons_succ, List.getElem?_cons_zero, List.getElem?_cons_succ, Bool.false_eq_true, if_true, if_false, reduceIte, Nat.reduceAdd, Nat.reduceSub, Nat.reduceLT, Nat.reduceLeDiff, Nat.lt_irrefl, evT, bin_add, bin_sub, mthOk_ins, attV_ins, cmpP_lt, cmpP_le, cmpP_gt, cmpP_ge, cmp_lt, cmp_le, cmp_gt, cmp_ge, cmp_eqi, cmp_eqs, cmp_eqb, cmp_nei, cmp_nes, cmp_neb, cmp_isn, cmp_nin, cmp_isb, cmp_nib, tru_bl, tru_int, isNon_lst, isNon_non, item_l, item_t, blt_lenl, blt_lent, blt_lend, blt_all, blt_any, mapM_t1, mapM_t2, embLM_t0, embLM_t1, embLM_t2, embLM_t3, Option.bind_some, Option.map_some, Bool.not_true, Bool.not_false, endC_rt, endC_nx, decide_eq_true_eq, List.mapM_nil, is_list_ok hx.t, hs]
    simp [tblIn, tblOk, hs, toFl_ok, bind_ok, emb_t, rd_t, ofO_some, ofT_some, endC, fin, seq_nx, seq_rt, tru, ofT, ofO]
  | true =>
    by_cases h1 : 1 ≤ ((itms x).length : Int)
    · by_cases h4 : ((itms x).length : Int) ≤ 4
      · obtain ⟨src, e1, e2⟩ := evI_seq (s := s) (D := D) (cf := callN D rp fw (n + 3)) (rp := rp (callN D rp fw (n + 3))) (e := .var 0) (loc := [some (.t x), none, none]) hs (by simp only [evS, ev, evs, evF, evI, put, putL, bindV, bind_ok, toFl_ok, seq_nx, seq_rt, putFl_ok, rd_t, emb_t, ofO_some, ofT_some, noex_ok, E.isOmit, List.map_cons, List.map_nil, List.replicate, List.cons_append, List.nil_append, List.length_cons, List.length_nil, List.set_cons_zero, List.set_cons_succ, List.getElem?_cons_zero, List.getElem?_cons_succ, Bool.false_eq_true, if_true, if_false, reduceIte, Nat.reduceAdd, Nat.reduceSub, Nat.reduceLT, Nat.reduceLeDiff, Nat.lt_irrefl, evT, bin_add, bin_sub, mthOk_ins, attV_ins, cmpP_lt, cmpP_le, cmpP_gt, cmpP_ge, cmp_lt, cmp_le, cmp_gt, cmp_ge, cmp_eqi, cmp_eqs, cmp_eqb, cmp_nei, cmp_nes, cmp_neb, cmp_isn, cmp_nin, cmp_isb, cmp_nib, tru_bl, tru_int, isNon_lst, isNon_non, item_l, item_t, blt_lenl, blt_lent, blt_lend, blt_all, blt_any, mapM_t1, mapM_t2, embLM_t0, embLM_t1, embLM_t2, embLM_t3, Option.bind_some, Option.map_some, Bool.not_true, Bool.not_false, endC_rt, endC_nx, decide_eq_true_eq, List.mapM_nil])
        have l0 : ev D (callN D rp fw (n + 3)) (rp (callN D rp fw (n + 3))) LC_tables_table_in_0 [some (.t x), none, none] s = _ := ev_lc_map (fun y => .bl (isRow y (itms x).length)) e1 e2 hx.2.1 (fun y hy => ⟨[some (.t x), some (.t y), none], by simp [bindG, wipeL], fun acc => by
          simp only [evS, ev, evs, evF, evI, put, putL, bindV, bind_ok, toFl_ok, seq_nx, seq_rt, putFl_ok, rd_t, emb_t, ofO_some, ofT_some, noex_ok, E.isOmit, List.map_cons, List.map_nil, List.replicate, List.cons_append, List.nil_append, List.length_cons, List.length_nil, List.set_cons_zero, List.set_cons_succ, List.getElem?_cons_zero, List.getElem?_cons_succ, Bool.false_eq_true, if_true, if_false, reduceIte, Nat.reduceAdd, Nat.reduceSub, Nat.reduceLT, Nat.reduceLeDiff, Nat.lt_irrefl, evT, bin_add, bin_sub, mthOk_ins, attV_ins, cmpP_lt, cmpP_le, cmpP_gt, cmpP_ge, cmp_lt, cmp_le, cmp_gt, cmp_ge, cmp_eqi, cmp_eqs, cmp_eqb, cmp_nei, cmp_nes, cmp_neb, cmp_isn, cmp_nin, cmp_isb, cmp_nib, tru_bl, tru_int, isNon_lst, isNon_non, item_l, item_t, blt_lenl, blt_lent, blt_lend, blt_all, blt_any, mapM_t1, mapM_t2, embLM_t0, embLM_t1, embLM_t2, embLM_t3, Option.bind_some, Option.map_some, Bool.not_true, Bool.not_false, endC_rt, endC_nx, decide_eq_true_eq, List.mapM_nil, fl_solved_are_numbers, blt_len_seq hs, are_numbers_ok (hx.2.2 y hy)]⟩)
        cases ha : ((itms x).all fun r => isRow r (itms x).length) with
        | false =>
          simp only [S_tables_table_in, fl_basics_is_list, fl_solved_are_numbers, fl_ratios_ratio_of, evS, ev, evs, evF, evI, put, putL, bindV, bind_ok, toFl_ok, seq_nx, seq_rt, putFl_ok, rd_t, emb_t, ofO_some, ofT_some, noex_ok, E.isOmit, List.map_cons, List.map_nil, List.replicate, List.cons_append, List.nil_append, List.length_cons, List.length_nil, List.set_cons_zero, List.set_cons_succ, List.getElem?_cons_zero, List.getElem?_cons_succ, Bool.false_eq_true, if_true, if_false, reduceIte, Nat.reduceAdd, Nat.reduceSub, Nat.reduceLT, Nat.reduceLeDiff, Nat.lt_irrefl, evT, bin_add, bin_sub, mthOk_ins, attV_ins, cmpP_lt, cmpP_le, cmpP_gt, cmpP_ge, cmp_lt, cmp_le, cmp_gt, cmp_ge, cmp_eqi, cmp_eqs, cmp_eqb, cmp_nei, cmp_nes, cmp_neb, cmp_isn, cmp_nin, cmp_isb, cmp_nib, tru_bl, tru_int, isNon_lst, isNon_non, item_l, item_t, blt_lenl, blt_lent, blt_lend, blt_all, blt_any, mapM_t1, mapM_t2, embLM_t0, embLM_t1, embLM_t2, embLM_t3, Option.bind_some, Option.map_some, Bool.not_true, Bool.not_false, endC_rt, endC_nx, decide_eq_true_eq, List.mapM_nil, is_list_ok hx.t, hs, blt_len_seq hs, h1, h4, decide_true, l0, ha]
          simp [ tblIn, tblOk, hs, h1, h4, ha, toFl_ok, bind_ok, emb_t, rd_t, ofO_some, ofT_some, endC, fin, seq_nx, seq_rt, tru, ofT, ofO]
        | true =>
          have l2 : ev D (callN D rp fw (n + 3)) (rp (callN D rp fw (n + 3))) LC_tables_table_in_2 [some (.t x), none, none] s = _ := ev_lc_map (fun y => .lst ((itms y).map ratOf)) e1 e2 hx.2.1 (fun y hy => ⟨[some (.t x), some (.t y), none], by simp [bindG, wipeL], fun acc => by
            have hr := List.all_eq_true.mp ha y hy
            have hy1 := hx.2.2 y hy
            unfold isRow at hr
            simp only [Bool.and_eq_true] at hr
            obtain ⟨src, i1, i2⟩ := evI_seq (s := s ++ [.lst acc]) (D := D) (cf := callN D rp fw (n + 3)) (rp := rp (callN D rp fw (n + 3))) (e := .var 1) (loc := [some (.t x), some (.t y), none]) hr.1 (by simp only [evS, ev, evs, evF, evI, put, putL, bindV, bind_ok, toFl_ok, seq_nx, seq_rt, putFl_ok, rd_t, emb_t, ofO_some, ofT_some, noex_ok, E.isOmit, List.map_cons, List.map_nil, List.replicate, List.cons_append, List.nil_append, List.length_cons, List.length_nil, List.set_cons_zero, List.set_cons_succ, List.getElem?_cons_zero, List.getElem?_cons_succ, Bool.false_eq_true, if_true, if_false, reduceIte, Nat.reduceAdd, Nat.reduceSub, Nat.reduceLT, Nat.reduceLeDiff, Nat.lt_irrefl, evT, bin_add, bin_sub, mthOk_ins, attV_ins, cmpP_lt, cmpP_le, cmpP_gt, cmpP_ge, cmp_lt, cmp_le, cmp_gt, cmp_ge, cmp_eqi, cmp_eqs, cmp_eqb, cmp_nei, cmp_nes, cmp_neb, cmp_isn, cmp_nin, cmp_isb, cmp_nib, tru_bl, tru_int, isNon_lst, isNon_non, item_l, item_t, blt_lenl, blt_lent, blt_lend, blt_all, blt_any, mapM_t1, mapM_t2, embLM_t0, embLM_t1, embLM_t2, embLM_t3, Option.bind_some, Option.map_some, Bool.not_true, Bool.not_false, endC_rt, endC_nx, decide_eq_true_eq, List.mapM_nil])
            exact ev_lc_map (g := .gn 2) (own := [2]) ratOf i1 i2 hy1.2.1 (fun z hz => ⟨[some (.t x), some (.t y), some (.t z)], by simp [bindG, wipeL], fun acc => by
              simp only [evS, ev, evs, evF, evI, put, putL, bindV, bind_ok, toFl_ok, seq_nx, seq_rt, putFl_ok, rd_t, emb_t, ofO_some, ofT_some, noex_ok, E.isOmit, List.map_cons, List.map_nil, List.replicate, List.cons_append, List.nil_append, List.length_cons, List.length_nil, List.set_cons_zero, List.set_cons_succ, List.getElem?_cons_zero, List.getElem?_cons_succ, Bool.false_eq_true, if_true, if_false, reduceIte, Nat.reduceAdd, Nat.reduceSub, Nat.reduceLT, Nat.reduceLeDiff, Nat.lt_irrefl, evT, bin_add, bin_sub, mthOk_ins, attV_ins, cmpP_lt, cmpP_le, cmpP_gt, cmpP_ge, cmp_lt, cmp_le, cmp_gt, cmp_ge, cmp_eqi, cmp_eqs, cmp_eqb, cmp_nei, cmp_nes, cmp_neb, cmp_isn, cmp_nin, cmp_isb, cmp_nib, tru_bl, tru_int, isNon_lst, isNon_non, item_l, item_t, blt_lenl, blt_lent, blt_lend, blt_all, blt_any, mapM_t1, mapM_t2, embLM_t0, embLM_t1, embLM_t2, embLM_t3, Option.bind_some, Option.map_some, Bool.not_true, Bool.not_false, endC_rt, endC_nx, decide_eq_true_eq, List.mapM_nil, fl_ratios_ratio_of, ratio_of_ok (hy1.2.2 z hz) (List.all_eq_true.mp hr.2.2 z hz)]⟩)⟩)
          simp only [S_tables_table_in, fl_basics_is_list, fl_solved_are_numbers, fl_ratios_ratio_of, evS, ev, evs, evF, evI, put, putL, bindV, bind_ok, toFl_ok, seq_nx, seq_rt, putFl_ok, rd_t, emb_t, ofO_some, ofT_some, noex_ok, E.isOmit, List.map_cons, List.map_nil, List.replicate, List.cons_append, List.nil_append, List.length_cons, List.length_nil, List.set_cons_zero, List.set_cons_succ, List.getElem?_cons_zero, List.getElem?_cons_succ, Bool.false_eq_true, if_true, if_false, reduceIte, Nat.reduceAdd, Nat.reduceSub, Nat.reduceLT, Nat.reduceLeDiff, Nat.lt_irrefl, evT, bin_add, bin_sub, mthOk_ins, attV_ins, cmpP_lt, cmpP_le, cmpP_gt, cmpP_ge, cmp_lt, cmp_le, cmp_gt, cmp_ge, cmp_eqi, cmp_eqs, cmp_eqb, cmp_nei, cmp_nes, cmp_neb, cmp_isn, cmp_nin, cmp_isb, cmp_nib, tru_bl, tru_int, isNon_lst, isNon_non, item_l, item_t, blt_lenl, blt_lent, blt_lend, blt_all, blt_any, mapM_t1, mapM_t2, embLM_t0, embLM_t1, embLM_t2, embLM_t3, Option.bind_some, Option.map_some, Bool.not_true, Bool.not_false, endC_rt, endC_nx, decide_eq_true_eq, List.mapM_nil, is_list_ok hx.t, hs, blt_len_seq hs, h1, h4, decide_true, l0, l2, ha]
          simp [ tblIn, tblOk, toldT, hs, h1, h4, ha, toFl_ok, bind_ok, emb_t, rd_t, ofO_some, ofT_some, endC, fin, seq_nx, seq_rt, tru, ofT, ofO]
      · simp only [S_tables_table_in, fl_basics_is_list, fl_solved_are_numbers, fl_ratios_ratio_of, evS, ev, evs, evF, evI, put, putL, bindV, bind_ok, toFl_ok, seq_nx, seq_rt, putFl_ok, rd_t, emb_t, ofO_some, ofT_some, noex_ok, E.isOmit, List.map_cons, List.map_nil, List.replicate, List.cons_append, List.nil_append, List.length_cons, List.length_nil, List.set_cons_zero, List.set_cons_succ, List.getElem?_cons_zero, List.getElem?_cons_succ, Bool.false_eq_true, if_true, if_false, reduceIte, Nat.reduceAdd, Nat.reduceSub, Nat.reduceLT, Nat.reduceLeDiff, Nat.lt_irrefl, evT, bin_add, bin_sub, mthOk_ins, attV_ins, cmpP_lt, cmpP_le, cmpP_gt, cmpP_ge, cmp_lt, cmp_le, cmp_gt, cmp_ge, cmp_eqi, cmp_eqs, cmp_eqb, cmp_nei, cmp_nes, cmp_neb, cmp_isn, cmp_nin, cmp_isb, cmp_nib, tru_bl, tru_int, isNon_lst, isNon_non, item_l, item_t, blt_lenl, blt_lent, blt_lend, blt_all, blt_any, mapM_t1, mapM_t2, embLM_t0, embLM_t1, embLM_t2, embLM_t3, Option.bind_some, Option.map_some, Bool.not_true, Bool.not_false, endC_rt, endC_nx, decide_eq_true_eq, List.mapM_nil, is_list_ok hx.t, hs, blt_len_seq hs, h1, h4, decide_true, decide_false]
        simp [tblIn, tblOk, hs, h1, h4, toFl_ok, bind_ok, emb_t, rd_t, ofO_some, ofT_some, endC, fin, seq_nx, seq_rt, tru, ofT, ofO]
    · simp only [S_tables_table_in, fl_basics_is_list, fl_solved_are_numbers, fl_ratios_ratio_of, evS, ev, evs, evF, evI, put, putL, bindV, bind_ok, toFl_ok, seq_nx, seq_rt, putFl_ok, rd_t, emb_t, ofO_some, ofT_some, noex_ok, E.isOmit, List.map_cons, List.map_nil, List.replicate, List.cons_append, List.nil_append, List.length_cons, List.length_nil, List.set_cons_zero, List.set_cons_succ, List.getElem?_cons_zero, List.getElem?_cons_succ, Bool.false_eq_true, if_true, if_false, reduceIte, Nat.reduceAdd, Nat.reduceSub, Nat.reduceLT, Nat.reduceLeDiff, Nat.lt_irrefl, evT, bin_add, bin_sub, mthOk_ins, attV_ins, cmpP_lt, cmpP_le, cmpP_gt, cmpP_ge, cmp_lt, cmp_le, cmp_gt, cmp_ge, cmp_eqi, cmp_eqs, cmp_eqb, cmp_nei, cmp_nes, cmp_neb, cmp_isn, cmp_nin, cmp_isb, cmp_nib, tru_bl, tru_int, isNon_lst, isNon_non, item_l, item_t, blt_lenl, blt_lent, blt_lend, blt_all, blt_any, mapM_t1, mapM_t2, embLM_t0, embLM_t1, embLM_t2, embLM_t3, Option.bind_some, Option.map_some, Bool.not_true, Bool.not_false, endC_rt, endC_nx, decide_eq_true_eq, List.mapM_nil, is_list_ok hx.t, hs, blt_len_seq hs, h1, decide_false]
      simp [tblIn, tblOk, hs, h1, toFl_ok, bind_ok, emb_t, rd_t, ofO_some, ofT_some, endC, fin, seq_nx, seq_rt, tru, ofT, ofO]
/-! ### houses -/
def lettersOk (x : T) : Bool := isSeq x && (decide (1 ≤ ((itms x).length : Int)) && decide (((itms x).length : Int) ≤ 3)) && ((itms x).all tblOk && (itms x).all fun r => decide ((itms r).length = (itms ((itms x).getD 0 .non)).length))
def toldL (x : T) : T := .lst ((itms x).map toldT)
def lettersIn (x : T) : T := if lettersOk x then toldL x else .non
theorem len_told {z : T} : bltP .len [toldT z] = some (.int (itms z).length) := by simp [toldT, bltP]
theorem itms_told {z : T} : (itms (toldT z)).length = (itms z).length := by simp [toldT, itms]
theorem isNon_tblIn {x : T} : isNon (tblIn x) = !tblOk x := by
  unfold tblIn
  cases tblOk x <;> rfl
theorem letters_in_ok [Is (D.fn 198 = some F_houses_letters_in)] [Is (D.fn 33 = some F_basics_is_list)] [Is (∀ t, okT D t = true → D.kit (.ty "list") t = true)] [Is (∀ t, okT D t = true → D.kit (.ty "tuple") t = true)] [Is (D.fn 436 = some F_tables_table_in)] [Is (D.fn 420 = some F_solved_are_numbers)] [Is (D.fn 356 = some F_ratios_ratio_of)] [Is (∀ t, okT D t = true → D.kit (.cl 55) t = true)] [Is (∀ d, D.sub d 55 = decide (d = 55))] [Is (D.cls 55 = true)] [Is (D.ini 55 = some 334)] [Is (D.fn 355 = some F_ratios_is_number)] [Is (D.fn 334 = some F_ratios_Ratio___init__)] [Is (D.fld 55 "own_top" = true)] [Is (D.fld 55 "own_bottom" = true)] [Is (D.dfl 334 = [.int 1])] [Is (D.fn 31 = some F_basics_is_integer)] [Is (∀ t, okT D t = true → D.kit (.ty "int") t = true)] [Is (∀ t, okT D t = true → D.kit (.ty "bool") t = true)] [Is (D.fn 333 = some F_ratios_divisor_of)] {x : T} (hx : okN D 3 x) : callN D rp fw (n + 5) 198 [.t x] s = .ok (.t (lettersIn x)) s := by
  rw [go_houses_letters_in]
  cases hs : isSeq x with
  | false =>
    simp only [S_houses_letters_in, fl_basics_is_list, fl_tables_table_in, evS, ev, evs, evF, evI, put, putL, bindV, bind_ok, toFl_ok, seq_nx, seq_rt, putFl_ok, rd_t, emb_t, ofO_some, ofT_some, noex_ok, E.isOmit, List.map_cons, List.map_nil, List.replicate, List.cons_append, List.nil_append, List.length_cons, List.length_nil, List.set_cons_zero, List.set_cons_succ, List.getElem?_cons_zero, List.getElem?_cons_succ, Bool.false_eq_true, if_true, if_false, reduceIte, Nat.reduceAdd, Nat.reduceSub, Nat.reduceLT, Nat.reduceLeDiff, Nat.lt_irrefl, evT, bin_add, bin_sub, mthOk_ins, attV_ins, cmpP_lt, cmpP_le, cmpP_gt, cmpP_ge, cmp_lt, cmp_le, cmp_gt, cmp_ge, cmp_eqi, cmp_eqs, cmp_eqb, cmp_nei, cmp_nes, cmp_neb, cmp_isn, cmp_nin, cmp_isb, cmp_nib, tru_bl, tru_int, isNon_lst, isNon_non, item_l, item_t, blt_lenl, blt_lent, blt_lend, blt_all, blt_any, mapM_t1, mapM_t2, embLM_t0, embLM_t1, embLM_t2, embLM_t3, Option.bind_some, Option.map_some, Bool.not_true, Bool.not_false, endC_rt, endC_nx, decide_eq_true_eq, List.mapM_nil, is_list_ok hx.t, hs]
    simp [lettersIn, lettersOk, hs, toFl_ok, bind_ok, emb_t, rd_t, ofO_some, ofT_some, endC, fin, seq_nx, seq_rt, tru, ofT, ofO]
  | true =>
    by_cases h1 : 1 ≤ ((itms x).length : Int)
    · by_cases h4 : ((itms x).length : Int) ≤ 3
      · obtain ⟨src, e1, e2⟩ := evI_seq (s := s) (D := D) (cf := callN D rp fw (n + 4)) (rp := rp (callN D rp fw (n + 4))) (e := .var 0) (loc := [some (.t x), none, none]) hs (by simp only [evS, ev, evs, evF, evI, put, putL, bindV, bind_ok, toFl_ok, seq_nx, seq_rt, putFl_ok, rd_t, emb_t, ofO_some, ofT_some, noex_ok, E.isOmit, List.map_cons, List.map_nil, List.replicate, List.cons_append, List.nil_append, List.length_cons, List.length_nil, List.set_cons_zero, List.set_cons_succ, List.getElem?_cons_zero, List.getElem?_cons_succ, Bool.false_eq_true, if_true, if_false, reduceIte, Nat.reduceAdd, Nat.reduceSub, Nat.reduceLT, Nat.reduceLeDiff, Nat.lt_irrefl, evT, bin_add, bin_sub, mthOk_ins, attV_ins, cmpP_lt, cmpP_le, cmpP_gt, cmpP_ge, cmp_lt, cmp_le, cmp_gt, cmp_ge, cmp_eqi, cmp_eqs, cmp_eqb, cmp_nei, cmp_nes, cmp_neb, cmp_isn, cmp_nin, cmp_isb, cmp_nib, tru_bl, tru_int, isNon_lst, isNon_non, item_l, item_t, blt_lenl, blt_lent, blt_lend, blt_all, blt_any, mapM_t1, mapM_t2, embLM_t0, embLM_t1, embLM_t2, embLM_t3, Option.bind_some, Option.map_some, Bool.not_true, Bool.not_false, endC_rt, endC_nx, decide_eq_true_eq, List.mapM_nil])
        have l0 : ev D (callN D rp fw (n + 4)) (rp (callN D rp fw (n + 4))) LC_houses_letters_in_0 [some (.t x), none, none] s = _ := ev_lc_map tblIn e1 e2 hx.2.1 (fun y hy => ⟨[some (.t x), none, some (.t y)], by simp [bindG, wipeL], fun acc => by
          simp only [evS, ev, evs, evF, evI, put, putL, bindV, bind_ok, toFl_ok, seq_nx, seq_rt, putFl_ok, rd_t, emb_t, ofO_some, ofT_some, noex_ok, E.isOmit, List.map_cons, List.map_nil, List.replicate, List.cons_append, List.nil_append, List.length_cons, List.length_nil, List.set_cons_zero, List.set_cons_succ, List.getElem?_cons_zero, List.getElem?_cons_succ, Bool.false_eq_true, if_true, if_false, reduceIte, Nat.reduceAdd, Nat.reduceSub, Nat.reduceLT, Nat.reduceLeDiff, Nat.lt_irrefl, evT, bin_add, bin_sub, mthOk_ins, attV_ins, cmpP_lt, cmpP_le, cmpP_gt, cmpP_ge, cmp_lt, cmp_le, cmp_gt, cmp_ge, cmp_eqi, cmp_eqs, cmp_eqb, cmp_nei, cmp_nes, cmp_neb, cmp_isn, cmp_nin, cmp_isb, cmp_nib, tru_bl, tru_int, isNon_lst, isNon_non, item_l, item_t, blt_lenl, blt_lent, blt_lend, blt_all, blt_any, mapM_t1, mapM_t2, embLM_t0, embLM_t1, embLM_t2, embLM_t3, Option.bind_some, Option.map_some, Bool.not_true, Bool.not_false, endC_rt, endC_nx, decide_eq_true_eq, List.mapM_nil, fl_tables_table_in, table_in_ok (hx.2.2 y hy)]⟩)
        have hlen : ((itms x).map tblIn).length ≤ sizeLine := by rw [List.length_map]; exact hx.2.1
        have l1 : ev D (callN D rp fw (n + 4)) (rp (callN D rp fw (n + 4))) LC_houses_letters_in_1 [some (.t x), some (.t (.lst ((itms x).map tblIn))), none] s = _ := ev_lc_map (fun y => .bl (isNon y)) (by simp only [evS, ev, evs, evF, evI, put, putL, bindV, bind_ok, toFl_ok, seq_nx, seq_rt, putFl_ok, rd_t, emb_t, ofO_some, ofT_some, noex_ok, E.isOmit, List.map_cons, List.map_nil, List.replicate, List.cons_append, List.nil_append, List.length_cons, List.length_nil, List.set_cons_zero, List.set_cons_succ, List.getElem?_cons_zero, List.getElem?_cons_succ, Bool.false_eq_true, if_true, if_false, reduceIte, Nat.reduceAdd, Nat.reduceSub, Nat.reduceLT, Nat.reduceLeDiff, Nat.lt_irrefl, evT, bin_add, bin_sub, mthOk_ins, attV_ins, cmpP_lt, cmpP_le, cmpP_gt, cmpP_ge, cmp_lt, cmp_le, cmp_gt, cmp_ge, cmp_eqi, cmp_eqs, cmp_eqb, cmp_nei, cmp_nes, cmp_neb, cmp_isn, cmp_nin, cmp_isb, cmp_nib, tru_bl, tru_int, isNon_lst, isNon_non, item_l, item_t, blt_lenl, blt_lent, blt_lend, blt_all, blt_any, mapM_t1, mapM_t2, embLM_t0, embLM_t1, embLM_t2, embLM_t3, Option.bind_some, Option.map_some, Bool.not_true, Bool.not_false, endC_rt, endC_nx, decide_eq_true_eq, List.mapM_nil]) .tree hlen (fun y hy => ⟨[some (.t x), some (.t (.lst ((itms x).map tblIn))), some (.t y)], by simp [bindG, wipeL], fun acc => by
          simp only [evS, ev, evs, evF, evI, put, putL, bindV, bind_ok, toFl_ok, seq_nx, seq_rt, putFl_ok, rd_t, emb_t, ofO_some, ofT_some, noex_ok, E.isOmit, List.map_cons, List.map_nil, List.replicate, List.cons_append, List.nil_append, List.length_cons, List.length_nil, List.set_cons_zero, List.set_cons_succ, List.getElem?_cons_zero, List.getElem?_cons_succ, Bool.false_eq_true, if_true, if_false, reduceIte, Nat.reduceAdd, Nat.reduceSub, Nat.reduceLT, Nat.reduceLeDiff, Nat.lt_irrefl, evT, bin_add, bin_sub, mthOk_ins, attV_ins, cmpP_lt, cmpP_le, cmpP_gt, cmpP_ge, cmp_lt, cmp_le, cmp_gt, cmp_ge, cmp_eqi, cmp_eqs, cmp_eqb, cmp_nei, cmp_nes, cmp_neb, cmp_isn, cmp_nin, cmp_isb, cmp_nib, tru_bl, tru_int, isNon_lst, isNon_non, item_l, item_t, blt_lenl, blt_lent, blt_lend, blt_all, blt_any, mapM_t1, mapM_t2, embLM_t0, embLM_t1, embLM_t2, embLM_t3, Option.bind_some, Option.map_some, Bool.not_true, Bool.not_false, endC_rt, endC_nx, decide_eq_true_eq, List.mapM_nil]⟩)
        cases ha : ((itms x).all tblOk) with
        | false =>
          have hany : ((itms x).map tblIn).any isNon = true := by
            rw [List.any_map, List.any_eq_true]
            rw [List.all_eq_false] at ha
            obtain ⟨y, hy, h⟩ := ha
            exact ⟨y, hy, by simp [isNon_tblIn, h]⟩
          simp only [S_houses_letters_in, fl_basics_is_list, fl_tables_table_in, evS, ev, evs, evF, evI, put, putL, bindV, bind_ok, toFl_ok, seq_nx, seq_rt, putFl_ok, rd_t, emb_t, ofO_some, ofT_some, noex_ok, E.isOmit, List.map_cons, List.map_nil, List.replicate, List.cons_append, List.nil_append, List.length_cons, List.length_nil, List.set_cons_zero, List.set_cons_succ, List.getElem?_cons_zero, List.getElem?_cons_succ, Bool.false_eq_true, if_true, if_false, reduceIte, Nat.reduceAdd, Nat.reduceSub, Nat.reduceLT, Nat.reduceLeDiff, Nat.lt_irrefl, evT, bin_add, bin_sub, mthOk_ins, attV_ins, cmpP_lt, cmpP_le, cmpP_gt, cmpP_ge, cmp_lt, cmp_le, cmp_gt, cmp_ge, cmp_eqi, cmp_eqs, cmp_eqb, cmp_nei, cmp_nes, cmp_neb, cmp_isn, cmp_nin, cmp_isb, cmp_nib, tru_bl, tru_int, isNon_lst, isNon_non, item_l, item_t, blt_lenl, blt_lent, blt_lend, blt_all, blt_any, mapM_t1, mapM_t2, embLM_t0, embLM_t1, embLM_t2, embLM_t3, Option.bind_some, Option.map_some, Bool.not_true, Bool.not_false, endC_rt, endC_nx, decide_eq_true_eq, List.mapM_nil, is_list_ok hx.t, hs, blt_len_seq hs, h1, h4, decide_true, put, l0, l1, hany]
          simp [lettersIn, lettersOk, hs, h1, h4, ha, toFl_ok, bind_ok, emb_t, rd_t, ofO_some, ofT_some, endC, fin, seq_nx, seq_rt, tru, ofT, ofO]
        | true =>
          have ht : ∀ y ∈ itms x, tblIn y = toldT y := fun y hy => by unfold tblIn; rw [if_pos (List.all_eq_true.mp ha y hy)]
          have hm : (itms x).map tblIn = (itms x).map toldT := List.map_congr_left ht
          have hany : ((itms x).map toldT).any isNon = false := by
            rw [List.any_map, List.any_eq_false]
            intro y hy; simp [toldT, isNon]
          obtain ⟨y0, r0, hr0⟩ : ∃ y0 r0, itms x = y0 :: r0 := by
            cases h : itms x with
            | nil => rw [h] at h1; simp at h1
            | cons a b => exact ⟨a, b, rfl⟩
          rw [hm] at l0 l1
          have l2 : ev D (callN D rp fw (n + 4)) (rp (callN D rp fw (n + 4))) LC_houses_letters_in_2 [some (.t x), some (.t (.lst ((itms x).map toldT))), none] s = _ := ev_lc_map (xs := (itms x).map toldT) (fun y => .bl (decide (((itms y).length : Int) = (itms y0).length))) (by simp only [evS, ev, evs, evF, evI, put, putL, bindV, bind_ok, toFl_ok, seq_nx, seq_rt, putFl_ok, rd_t, emb_t, ofO_some, ofT_some, noex_ok, E.isOmit, List.map_cons, List.map_nil, List.replicate, List.cons_append, List.nil_append, List.length_cons, List.length_nil, List.set_cons_zero, List.set_cons_succ, List.getElem?_cons_zero, List.getElem?_cons_succ, Bool.false_eq_true, if_true, if_false, reduceIte, Nat.reduceAdd, Nat.reduceSub, Nat.reduceLT, Nat.reduceLeDiff, Nat.lt_irrefl, evT, bin_add, bin_sub, mthOk_ins, attV_ins, cmpP_lt, cmpP_le, cmpP_gt, cmpP_ge, cmp_lt, cmp_le, cmp_gt, cmp_ge, cmp_eqi, cmp_eqs, cmp_eqb, cmp_nei, cmp_nes, cmp_neb, cmp_isn, cmp_nin, cmp_isb, cmp_nib, tru_bl, tru_int, isNon_lst, isNon_non, item_l, item_t, blt_lenl, blt_lent, blt_lend, blt_all, blt_any, mapM_t1, mapM_t2, embLM_t0, embLM_t1, embLM_t2, embLM_t3, Option.bind_some, Option.map_some, Bool.not_true, Bool.not_false, endC_rt, endC_nx, decide_eq_true_eq, List.mapM_nil]) .tree (by rw [← hm]; exact hlen) (fun y hy => ⟨[some (.t x), some (.t (.lst ((itms x).map toldT))), some (.t y)], by simp [bindG, wipeL], fun acc => by
            obtain ⟨z, hz, rfl⟩ := List.mem_map.mp hy
            have hat : atI ((itms x).map toldT) 0 = some (toldT y0) := by rw [hr0]; exact atI_0
            simp only [evS, ev, evs, evF, evI, put, putL, bindV, bind_ok, toFl_ok, seq_nx, seq_rt, putFl_ok, rd_t, emb_t, ofO_some, ofT_some, noex_ok, E.isOmit, List.map_cons, List.map_nil, List.replicate, List.cons_append, List.nil_append, List.length_cons, List.length_nil, List.set_cons_zero, List.set_cons_succ, List.getElem?_cons_zero, List.getElem?_cons_succ, Bool.false_eq_true, if_true, if_false, reduceIte, Nat.reduceAdd, Nat.reduceSub, Nat.reduceLT, Nat.reduceLeDiff, Nat.lt_irrefl, evT, bin_add, bin_sub, mthOk_ins, attV_ins, cmpP_lt, cmpP_le, cmpP_gt, cmpP_ge, cmp_lt, cmp_le, cmp_gt, cmp_ge, cmp_eqi, cmp_eqs, cmp_eqb, cmp_nei, cmp_nes, cmp_neb, cmp_isn, cmp_nin, cmp_isb, cmp_nib, tru_bl, tru_int, isNon_lst, isNon_non, item_l, item_t, blt_lenl, blt_lent, blt_lend, blt_all, blt_any, mapM_t1, mapM_t2, embLM_t0, embLM_t1, embLM_t2, embLM_t3, Option.bind_some, Option.map_some, Bool.not_true, Bool.not_false, endC_rt, endC_nx, decide_eq_true_eq, List.mapM_nil, hat, len_told, itms_told]⟩)
          have hdec : ∀ z, decide ((((itms (toldT z)).length : Nat) : Int) = (itms y0).length) = decide ((itms z).length = (itms y0).length) := fun z => by rw [itms_told]; simp only [Int.ofNat_inj]
          have hall : ((itms x).map toldT).all (fun y => decide (((itms y).length : Int) = (itms y0).length)) = (itms x).all fun r => decide ((itms r).length = (itms y0).length) := by
            rw [List.all_map]
            congr 1
            funext z
            exact hdec z
          simp only [S_houses_letters_in, fl_basics_is_list, fl_tables_table_in, evS, ev, evs, evF, evI, put, putL, bindV, bind_ok, toFl_ok, seq_nx, seq_rt, putFl_ok, rd_t, emb_t, ofO_some, ofT_some, noex_ok, E.isOmit, List.map_cons, List.map_nil, List.replicate, List.cons_append, List.nil_append, List.length_cons, List.length_nil, List.set_cons_zero, List.set_cons_succ, List.getElem?_cons_zero, List.getElem?_cons_succ, Bool.false_eq_true, if_true, if_false, reduceIte, Nat.reduceAdd, Nat.reduceSub, Nat.reduceLT, Nat.reduceLeDiff, Nat.lt_irrefl, evT, bin_add, bin_sub, mthOk_ins, attV_ins, cmpP_lt, cmpP_le, cmpP_gt, cmpP_ge, cmp_lt, cmp_le, cmp_gt, cmp_ge, cmp_eqi, cmp_eqs, cmp_eqb, cmp_nei, cmp_nes, cmp_neb, cmp_isn, cmp_nin, cmp_isb, cmp_nib, tru_bl, tru_int, isNon_lst, isNon_non, item_l, item_t, blt_lenl, blt_lent, blt_lend, blt_all, blt_any, mapM_t1, mapM_t2, embLM_t0, embLM_t1, embLM_t2, embLM_t3, Option.bind_some, Option.map_some, Bool.not_true, Bool.not_false, endC_rt, endC_nx, decide_eq_true_eq, List.mapM_nil, is_list_ok hx.t, hs, blt_len_seq hs, h1, h4, decide_true, put, l0, l1, l2, hany, hall]
          have hg : (itms x).getD 0 .non = y0 := by rw [hr0]; rfl
          simp only [lettersIn, lettersOk, hs, h1, h4, ha, hg, decide_true, Bool.true_and, Bool.and_true]
          cases ((itms x).all fun r => decide ((itms r).length = (itms y0).length)) <;> simp [toldL, toFl_ok, bind_ok, emb_t, rd_t, ofO_some, ofT_some, endC, fin, seq_nx, seq_rt, tru, ofT, ofO]
      · simp only [S_houses_letters_in, fl_basics_is_list, fl_tables_table_in, evS, ev, evs, evF, evI, put, putL, bindV, bind_ok, toFl_ok, seq_nx, seq_rt, putFl_ok, rd_t, emb_t, ofO_some, ofT_some, noex_ok, E.isOmit, List.map_cons, List.map_nil, List.replicate, List.cons_append, List.nil_append, List.length_cons, List.length_nil, List.set_cons_zero, List.set_cons_succ, List.getElem?_cons_zero, List.getElem?_cons_succ, Bool.false_eq_true, if_true, if_false, reduceIte, Nat.reduceAdd, Nat.reduceSub, Nat.reduceLT, Nat.reduceLeDiff, Nat.lt_irrefl, evT, bin_add, bin_sub, mthOk_ins, attV_ins, cmpP_lt, cmpP_le, cmpP_gt, cmpP_ge, cmp_lt, cmp_le, cmp_gt, cmp_ge, cmp_eqi, cmp_eqs, cmp_eqb, cmp_nei, cmp_nes, cmp_neb, cmp_isn, cmp_nin, cmp_isb, cmp_nib, tru_bl, tru_int, isNon_lst, isNon_non, item_l, item_t, blt_lenl, blt_lent, blt_lend, blt_all, blt_any, mapM_t1, mapM_t2, embLM_t0, embLM_t1, embLM_t2, embLM_t3, Option.bind_some, Option.map_some, Bool.not_true, Bool.not_false, endC_rt, endC_nx, decide_eq_true_eq, List.mapM_nil, is_list_ok hx.t, hs, blt_len_seq hs, h1, h4, decide_true, decide_false]
        simp [lettersIn, lettersOk, hs, h1, h4, toFl_ok, bind_ok, emb_t, rd_t, ofO_some, ofT_some, endC, fin, seq_nx, seq_rt, tru, ofT, ofO]
    · simp only [S_houses_letters_in, fl_basics_is_list, fl_tables_table_in, evS, ev, evs, evF, evI, put, putL, bindV, bind_ok, toFl_ok, seq_nx, seq_rt, putFl_ok, rd_t, emb_t, ofO_some, ofT_some, noex_ok, E.isOmit, List.map_cons, List.map_nil, List.replicate, List.cons_append, List.nil_append, List.length_cons, List.length_nil, List.set_cons_zero, List.set_cons_succ, List.getElem?_cons_zero, List.getElem?_cons_succ, Bool.false_eq_true, if_true, if_false, reduceIte, Nat.reduceAdd, Nat.reduceSub, Nat.reduceLT, Nat.reduceLeDiff, Nat.lt_irrefl, evT, bin_add, bin_sub, mthOk_ins, attV_ins, cmpP_lt, cmpP_le, cmpP_gt, cmpP_ge, cmp_lt, cmp_le, cmp_gt, cmp_ge, cmp_eqi, cmp_eqs, cmp_eqb, cmp_nei, cmp_nes, cmp_neb, cmp_isn, cmp_nin, cmp_isb, cmp_nib, tru_bl, tru_int, isNon_lst, isNon_non, item_l, item_t, blt_lenl, blt_lent, blt_lend, blt_all, blt_any, mapM_t1, mapM_t2, embLM_t0, embLM_t1, embLM_t2, embLM_t3, Option.bind_some, Option.map_some, Bool.not_true, Bool.not_false, endC_rt, endC_nx, decide_eq_true_eq, List.mapM_nil, is_list_ok hx.t, hs, blt_len_seq hs, h1, decide_false]
      simp [lettersIn, lettersOk, hs, h1, toFl_ok, bind_ok, emb_t, rd_t, ofO_some, ofT_some, endC, fin, seq_nx, seq_rt, tru, ofT, ofO]
end
end Tw
namespace Tw
open PySem L2
/-! ## houses made, words -/
def housF (ls : T) (w : Int) : List (Str × T) := [("own_letters", ls), ("own_width", .int w)]
def housT (ls : T) (w : Int) : T := .ins 49 (housF ls w)
/-- the house of good letters -/
def mkH (x : T) : T := housT (toldL x) (itms ((itms x).getD 0 .non)).length
theorem lw_ne : ¬ ((Str.ofString "own_letters") = Str.ofString "own_width") := by decide
theorem lettersIn_ok {x : T} (h : lettersOk x = true) : lettersIn x = toldL x := by unfold lettersIn; rw [if_pos h]
theorem toldL_0 {x : T} (h : lettersOk x = true) : atI ((itms x).map toldT) 0 = some (toldT ((itms x).getD 0 .non)) := by
  unfold lettersOk at h
  simp only [Bool.and_eq_true, decide_eq_true_eq] at h
  cases e : itms x with
  | nil => rw [e] at h; simp at h
  | cons a b => exact atI_0
section
variable {D : Defs} {rp : CF → Store → T → Out Str} {fw n : Nat} {s : Store}
theorem house_init_ok [Is (D.fn 199 = some F_houses_House___init__)] [Is (D.fld 49 "own_letters" = true)] [Is (D.fld 49 "own_width" = true)] [Is (D.fn 198 = some F_houses_letters_in)] [Is (D.fn 33 = some F_basics_is_list)] [Is (∀ t, okT D t = true → D.kit (.ty "list") t = true)] [Is (∀ t, okT D t = true → D.kit (.ty "tuple") t = true)] [Is (D.fn 436 = some F_tables_table_in)] [Is (D.fn 420 = some F_solved_are_numbers)] [Is (D.fn 356 = some F_ratios_ratio_of)] [Is (∀ t, okT D t = true → D.kit (.cl 55) t = true)] [Is (∀ d, D.sub d 55 = decide (d = 55))] [Is (D.cls 55 = true)] [Is (D.ini 55 = some 334)] [Is (D.fn 355 = some F_ratios_is_number)] [Is (D.fn 334 = some F_ratios_Ratio___init__)] [Is (D.fld 55 "own_top" = true)] [Is (D.fld 55 "own_bottom" = true)] [Is (D.dfl 334 = [.int 1])] [Is (D.fn 31 = some F_basics_is_integer)] [Is (∀ t, okT D t = true → D.kit (.ty "int") t = true)] [Is (∀ t, okT D t = true → D.kit (.ty "bool") t = true)] [Is (D.fn 333 = some F_ratios_divisor_of)] {x : T} (hx : okN D 3 x) (h : lettersOk x = true) :
    callN D rp fw (n + 6) 199 [.c s.length, .t x] (s ++ [.ins 49 []]) = .ok (.t .non) (s ++ [.ins 49 (housF (toldL x) (itms ((itms x).getD 0 .non)).length)]) := by
  rw [go_houses_House___init__]
  have e1 := letters_in_ok (D := D) (rp := rp) (fw := fw) (n := n) (s := s ++ [.ins 49 []]) hx
  rw [lettersIn_ok h] at e1
  have e0 := toldL_0 h
  have e2 : toldL x = .lst ((itms x).map toldT) := rfl
  rw [e2] at e1 ⊢
  simp only [S_houses_House___init__, fl_houses_letters_in, evS, ev, evs, evF, evI, put, putL, bindV, bind_ok, toFl_ok, seq_nx, seq_rt, putFl_ok, rd_t, emb_t, ofO_some, ofT_some, noex_ok, E.isOmit, List.map_cons, List.map_nil, List.replicate, List.cons_append, List.nil_append, List.length_cons, List.length_nil, List.set_cons_zero, List.set_cons_succ, List.getElem?_cons_zero, List.getElem?_cons_succ, Bool.false_eq_true, if_true, if_false, reduceIte, Nat.reduceAdd, Nat.reduceSub, Nat.reduceLT, Nat.reduceLeDiff, Nat.lt_irrefl, evT, bin_add, bin_sub, mthOk_ins, attV_ins, cmpP_lt, cmpP_le, cmpP_gt, cmpP_ge, cmp_lt, cmp_le, cmp_gt, cmp_ge, cmp_eqi, cmp_eqs, cmp_eqb, cmp_nei, cmp_nes, cmp_neb, cmp_isn, cmp_nin, cmp_isb, cmp_nib, tru_bl, tru_int, isNon_lst, isNon_non, item_l, item_t, blt_lenl, blt_lent, blt_lend, blt_all, blt_any, mapM_t1, mapM_t2, embLM_t0, embLM_t1, embLM_t2, embLM_t3, Option.bind_some, Option.map_some, Bool.not_true, Bool.not_false, endC_rt, endC_nx, decide_eq_true_eq, List.mapM_nil, e1, attTo, app_get, app_set, fld_49_own_letters, fld_49_own_width, decide_true, Bool.and_self, e0, len_told]
  simp [endC, fin, putT, housF, lw_ne, app_take1]
theorem isHouse {x : T} (hx : okT D x = true) [Is (D.fn 207 = some F_houses_want_house)] [Is (∀ t, okT D t = true → D.kit (.cl 49) t = true)] [Is (∀ d, D.sub d 49 = decide (d = 49))] [Is (D.cls 49 = true)] : isiOk D.kit D.cls [.cl 49] x = true := isiOk_of hx (by simp only [List.mem_singleton, forall_eq]; exact (Is.h (p := ∀ t, okT D t = true → D.kit (.cl 49) t = true) _ hx))
theorem okH [Is (D.fn 207 = some F_houses_want_house)] [Is (∀ t, okT D t = true → D.kit (.cl 49) t = true)] [Is (∀ d, D.sub d 49 = decide (d = 49))] [Is (D.cls 49 = true)] {ls : T} {w : Int} : okT D (housT ls w) = true := cls_49
theorem want_house_ok [Is (D.fn 207 = some F_houses_want_house)] [Is (∀ t, okT D t = true → D.kit (.cl 49) t = true)] [Is (∀ d, D.sub d 49 = decide (d = 49))] [Is (D.cls 49 = true)] {ls : T} {w : Int} : callN D rp fw (n + 1) 207 [.t (housT ls w)] s = .ok (.t (housT ls w)) s := by
  rw [go_houses_want_house]
  simp only [S_houses_want_house, evS, ev, evs, evF, evI, put, putL, bindV, bind_ok, toFl_ok, seq_nx, seq_rt, putFl_ok, rd_t, emb_t, ofO_some, ofT_some, noex_ok, E.isOmit, List.map_cons, List.map_nil, List.replicate, List.cons_append, List.nil_append, List.length_cons, List.length_nil, List.set_cons_zero, List.set_cons_succ, List.getElem?_cons_zero, List.getElem?_cons_succ, Bool.false_eq_true, if_true, if_false, reduceIte, Nat.reduceAdd, Nat.reduceSub, Nat.reduceLT, Nat.reduceLeDiff, Nat.lt_irrefl, evT, bin_add, bin_sub, mthOk_ins, attV_ins, cmpP_lt, cmpP_le, cmpP_gt, cmpP_ge, cmp_lt, cmp_le, cmp_gt, cmp_ge, cmp_eqi, cmp_eqs, cmp_eqb, cmp_nei, cmp_nes, cmp_neb, cmp_isn, cmp_nin, cmp_isb, cmp_nib, tru_bl, tru_int, isNon_lst, isNon_non, item_l, item_t, blt_lenl, blt_lent, blt_lend, blt_all, blt_any, mapM_t1, mapM_t2, embLM_t0, embLM_t1, embLM_t2, embLM_t3, Option.bind_some, Option.map_some, Bool.not_true, Bool.not_false, endC_rt, endC_nx, decide_eq_true_eq, List.mapM_nil, isHouse (okH (ls := ls) (w := w))]
  simp [housT, isiP, sub_49, toFl_ok, bind_ok, emb_t, rd_t, ofO_some, ofT_some, endC, fin, seq_nx, seq_rt, tru, ofT, ofO]
def ltM (many : Nat) : T → Bool
  | .int i => decide (i < many)
  | _ => false
def isWord (many : Nat) (x : T) : Bool := isSeq x && (decide ((itms x).length ≤ 16) && (itms x).all fun y => isCnt y && ltM many y)
def wordIn (many : Nat) (x : T) : T := if isWord many x then .lst (itms x) else .non
theorem word_in_ok [Is (D.fn 209 = some F_houses_word_in)] [Is (D.fld 49 "own_letters" = true)] [Is (D.fn 33 = some F_basics_is_list)] [Is (∀ t, okT D t = true → D.kit (.ty "list") t = true)] [Is (∀ t, okT D t = true → D.kit (.ty "tuple") t = true)] [Is (D.fn 32 = some F_basics_is_count)] [Is (D.fn 31 = some F_basics_is_integer)] [Is (∀ t, okT D t = true → D.kit (.ty "int") t = true)] [Is (∀ t, okT D t = true → D.kit (.ty "bool") t = true)] {x : T} {ls : List T} {w : Int} (hx : okN D 1 x) : callN D rp fw (n + 3) 209 [.t (housT (.lst ls) w), .t x] s = .ok (.t (wordIn ls.length x)) s := by
  rw [go_houses_word_in]
  cases hs : isSeq x with
  | false =>
    simp only [S_houses_word_in, fl_basics_is_list, fl_basics_is_count, evS, ev, evs, evF, evI, put, putL, bindV, bind_ok, toFl_ok, seq_nx, seq_rt, putFl_ok, rd_t, emb_t, ofO_some, ofT_some, noex_ok, E.isOmit, List.map_cons, List.map_nil, List.replicate, List.cons_append, List.nil_append, List.length_cons, List.length_nil, List.set_cons_zero, List.set_cons_succ, List.getElem?_cons_zero, List.getElem?_cons_succ, Bool.false_eq_true, if_true, if_false, reduceIte, Nat.reduceAdd, Nat.reduceSub, Nat.reduceLT, Nat.reduceLeDiff, Nat.lt_irrefl, evT, bin_add, bin_sub, mthOk_ins, attV_ins, cmpP_lt, cmpP_le, cmpP_gt, cmpP_ge, cmp_lt, cmp_le, cmp_gt, cmp_ge, cmp_eqi, cmp_eqs, cmp_eqb, cmp_nei, cmp_nes, cmp_neb, cmp_isn, cmp_nin, cmp_isb, cmp_nib, tru_bl, tru_int, isNon_lst, isNon_non, item_l, item_t, blt_lenl, blt_lent, blt_lend, blt_all, blt_any, mapM_t1, mapM_t2, embLM_t0, embLM_t1, embLM_t2, embLM_t3, Option.bind_some, Option.map_some, Bool.not_true, Bool.not_false, endC_rt, endC_nx, decide_eq_true_eq, List.mapM_nil, is_list_ok hx.t, hs]
    simp [wordIn, isWord, hs, toFl_ok, bind_ok, emb_t, rd_t, ofO_some, ofT_some, endC, fin, seq_nx, seq_rt, tru, ofT, ofO]
  | true =>
    by_cases h1 : (16 : Int) < ((itms x).length : Int)
    · have h2 : ¬ (itms x).length ≤ 16 := by omega
      simp only [S_houses_word_in, fl_basics_is_list, fl_basics_is_count, evS, ev, evs, evF, evI, put, putL, bindV, bind_ok, toFl_ok, seq_nx, seq_rt, putFl_ok, rd_t, emb_t, ofO_some, ofT_some, noex_ok, E.isOmit, List.map_cons, List.map_nil, List.replicate, List.cons_append, List.nil_append, List.length_cons, List.length_nil, List.set_cons_zero, List.set_cons_succ, List.getElem?_cons_zero, List.getElem?_cons_succ, Bool.false_eq_true, if_true, if_false, reduceIte, Nat.reduceAdd, Nat.reduceSub, Nat.reduceLT, Nat.reduceLeDiff, Nat.lt_irrefl, evT, bin_add, bin_sub, mthOk_ins, attV_ins, cmpP_lt, cmpP_le, cmpP_gt, cmpP_ge, cmp_lt, cmp_le, cmp_gt, cmp_ge, cmp_eqi, cmp_eqs, cmp_eqb, cmp_nei, cmp_nes, cmp_neb, cmp_isn, cmp_nin, cmp_isb, cmp_nib, tru_bl, tru_int, isNon_lst, isNon_non, item_l, item_t, blt_lenl, blt_lent, blt_lend, blt_all, blt_any, mapM_t1, mapM_t2, embLM_t0, embLM_t1, embLM_t2, embLM_t3, Option.bind_some, Option.map_some, Bool.not_true, Bool.not_false, endC_rt, endC_nx, decide_eq_true_eq, List.mapM_nil, is_list_ok hx.t, hs, blt_len_seq hs, h1, decide_true]
      simp [wordIn, isWord, hs, h2, toFl_ok, bind_ok, emb_t, rd_t, ofO_some, ofT_some, endC, fin, seq_nx, seq_rt, tru, ofT, ofO]
    · have h2 : (itms x).length ≤ 16 := by omega
      obtain ⟨src, e1, e2⟩ := evI_seq (s := s) (D := D) (cf := callN D rp fw (n + 2)) (rp := rp (callN D rp fw (n + 2))) (e := .var 1) (loc := [some (.t (housT (.lst ls) w)), some (.t x), some (.t (.int ls.length)), none]) hs (by simp only [evS, ev, evs, evF, evI, put, putL, bindV, bind_ok, toFl_ok, seq_nx, seq_rt, putFl_ok, rd_t, emb_t, ofO_some, ofT_some, noex_ok, E.isOmit, List.map_cons, List.map_nil, List.replicate, List.cons_append, List.nil_append, List.length_cons, List.length_nil, List.set_cons_zero, List.set_cons_succ, List.getElem?_cons_zero, List.getElem?_cons_succ, Bool.false_eq_true, if_true, if_false, reduceIte, Nat.reduceAdd, Nat.reduceSub, Nat.reduceLT, Nat.reduceLeDiff, Nat.lt_irrefl, evT, bin_add, bin_sub, mthOk_ins, attV_ins, cmpP_lt, cmpP_le, cmpP_gt, cmpP_ge, cmp_lt, cmp_le, cmp_gt, cmp_ge, cmp_eqi, cmp_eqs, cmp_eqb, cmp_nei, cmp_nes, cmp_neb, cmp_isn, cmp_nin, cmp_isb, cmp_nib, tru_bl, tru_int, isNon_lst, isNon_non, item_l, item_t, blt_lenl, blt_lent, blt_lend, blt_all, blt_any, mapM_t1, mapM_t2, embLM_t0, embLM_t1, embLM_t2, embLM_t3, Option.bind_some, Option.map_some, Bool.not_true, Bool.not_false, endC_rt, endC_nx, decide_eq_true_eq, List.mapM_nil])
      have l0 : ev D (callN D rp fw (n + 2)) (rp (callN D rp fw (n + 2))) LC_houses_word_in_0 [some (.t (housT (.lst ls) w)), some (.t x), some (.t (.int ls.length)), none] s = _ := ev_lc_map (fun y => .bl (isCnt y && ltM ls.length y)) e1 e2 hx.2.1 (fun y hy => ⟨[some (.t (housT (.lst ls) w)), some (.t x), some (.t (.int ls.length)), some (.t y)], by simp [bindG, wipeL], fun acc => by
        have hy1 := hx.2.2 y hy
        cases hc : isCnt y with
        | false => simp only [evS, ev, evs, evF, evI, put, putL, bindV, bind_ok, toFl_ok, seq_nx, seq_rt, putFl_ok, rd_t, emb_t, ofO_some, ofT_some, noex_ok, E.isOmit, List.map_cons, List.map_nil, List.replicate, List.cons_append, List.nil_append, List.length_cons, List.length_nil, List.set_cons_zero, List.set_cons_succ, List.getElem?_cons_zero, List.getElem?_cons_succ, Bool.false_eq_true, if_true, if_false, reduceIte, Nat.reduceAdd, Nat.reduceSub, Nat.reduceLT, Nat.reduceLeDiff, Nat.lt_irrefl, evT, bin_add, bin_sub, mthOk_ins, attV_ins, cmpP_lt, cmpP_le, cmpP_gt, cmpP_ge, cmp_lt, cmp_le, cmp_gt, cmp_ge, cmp_eqi, cmp_eqs, cmp_eqb, cmp_nei, cmp_nes, cmp_neb, cmp_isn, cmp_nin, cmp_isb, cmp_nib, tru_bl, tru_int, isNon_lst, isNon_non, item_l, item_t, blt_lenl, blt_lent, blt_lend, blt_all, blt_any, mapM_t1, mapM_t2, embLM_t0, embLM_t1, embLM_t2, embLM_t3, Option.bind_some, Option.map_some, Bool.not_true, Bool.not_false, endC_rt, endC_nx, decide_eq_true_eq, List.mapM_nil, fl_basics_is_count, is_count_ok (hy1), hc, Bool.false_and]
        | true =>
          cases y with
          | int i => simp only [evS, ev, evs, evF, evI, put, putL, bindV, bind_ok, toFl_ok, seq_nx, seq_rt, putFl_ok, rd_t, emb_t, ofO_some, ofT_some, noex_ok, E.isOmit, List.map_cons, List.map_nil, List.replicate, List.cons_append, List.nil_append, List.length_cons, List.length_nil, List.set_cons_zero, List.set_cons_succ, List.getElem?_cons_zero, List.getElem?_cons_succ, Bool.false_eq_true, if_true, if_false, reduceIte, Nat.reduceAdd, Nat.reduceSub, Nat.reduceLT, Nat.reduceLeDiff, Nat.lt_irrefl, evT, bin_add, bin_sub, mthOk_ins, attV_ins, cmpP_lt, cmpP_le, cmpP_gt, cmpP_ge, cmp_lt, cmp_le, cmp_gt, cmp_ge, cmp_eqi, cmp_eqs, cmp_eqb, cmp_nei, cmp_nes, cmp_neb, cmp_isn, cmp_nin, cmp_isb, cmp_nib, tru_bl, tru_int, isNon_lst, isNon_non, item_l, item_t, blt_lenl, blt_lent, blt_lend, blt_all, blt_any, mapM_t1, mapM_t2, embLM_t0, embLM_t1, embLM_t2, embLM_t3, Option.bind_some, Option.map_some, Bool.not_true, Bool.not_false, endC_rt, endC_nx, decide_eq_true_eq, List.mapM_nil, fl_basics_is_count, is_count_ok hy1, hc, Bool.true_and, ltM]
          | _ => cases hc⟩)
      have hl : List.lookup (Str.ofString "own_letters") (housF (.lst ls) w) = some (T.lst ls) := rfl
      simp only [S_houses_word_in, fl_basics_is_list, fl_basics_is_count, evS, ev, evs, evF, evI, put, putL, bindV, bind_ok, toFl_ok, seq_nx, seq_rt, putFl_ok, rd_t, emb_t, ofO_some, ofT_some, noex_ok, E.isOmit, List.map_cons, List.map_nil, List.replicate, List.cons_append, List.nil_append, List.length_cons, List.length_nil, List.set_cons_zero, List.set_cons_succ, List.getElem?_cons_zero, List.getElem?_cons_succ, Bool.false_eq_true, if_true, if_false, reduceIte, Nat.reduceAdd, Nat.reduceSub, Nat.reduceLT, Nat.reduceLeDiff, Nat.lt_irrefl, evT, bin_add, bin_sub, mthOk_ins, attV_ins, cmpP_lt, cmpP_le, cmpP_gt, cmpP_ge, cmp_lt, cmp_le, cmp_gt, cmp_ge, cmp_eqi, cmp_eqs, cmp_eqb, cmp_nei, cmp_nes, cmp_neb, cmp_isn, cmp_nin, cmp_isb, cmp_nib, tru_bl, tru_int, isNon_lst, isNon_non, item_l, item_t, blt_lenl, blt_lent, blt_lend, blt_all, blt_any, mapM_t1, mapM_t2, embLM_t0, embLM_t1, embLM_t2, embLM_t3, Option.bind_some, Option.map_some, Bool.not_true, Bool.not_false, endC_rt, endC_nx, decide_eq_true_eq, List.mapM_nil, is_list_ok hx.t, hs, blt_len_seq hs, h1, decide_false, housT, fld_49_own_letters, hl, put]
      simp only [housT] at l0
      simp only [evS, ev, evs, evF, evI, put, putL, bindV, bind_ok, toFl_ok, seq_nx, seq_rt, putFl_ok, rd_t, emb_t, ofO_some, ofT_some, noex_ok, E.isOmit, List.map_cons, List.map_nil, List.replicate, List.cons_append, List.nil_append, List.length_cons, List.length_nil, List.set_cons_zero, List.set_cons_succ, List.getElem?_cons_zero, List.getElem?_cons_succ, Bool.false_eq_true, if_true, if_false, reduceIte, Nat.reduceAdd, Nat.reduceSub, Nat.reduceLT, Nat.reduceLeDiff, Nat.lt_irrefl, evT, bin_add, bin_sub, mthOk_ins, attV_ins, cmpP_lt, cmpP_le, cmpP_gt, cmpP_ge, cmp_lt, cmp_le, cmp_gt, cmp_ge, cmp_eqi, cmp_eqs, cmp_eqb, cmp_nei, cmp_nes, cmp_neb, cmp_isn, cmp_nin, cmp_isb, cmp_nib, tru_bl, tru_int, isNon_lst, isNon_non, item_l, item_t, blt_lenl, blt_lent, blt_lend, blt_all, blt_any, mapM_t1, mapM_t2, embLM_t0, embLM_t1, embLM_t2, embLM_t3, Option.bind_some, Option.map_some, Bool.not_true, Bool.not_false, endC_rt, endC_nx, decide_eq_true_eq, List.mapM_nil, l0]
      obtain ⟨xs, rfl | rfl⟩ := seq_cases hs
      · simp only [wordIn, isWord, isSeq, h2, decide_true, Bool.true_and]
        cases ((itms (T.lst xs)).all fun y => isCnt y && ltM ls.length y) <;> simp [toFl_ok, bind_ok, emb_t, rd_t, ofO_some, ofT_some, endC, fin, seq_nx, seq_rt, tru, ofT, ofO, bltP, itms]
      · simp only [wordIn, isWord, isSeq, h2, decide_true, Bool.true_and]
        cases ((itms (T.tup xs)).all fun y => isCnt y && ltM ls.length y) <;> simp [toFl_ok, bind_ok, emb_t, rd_t, ofO_some, ofT_some, endC, fin, seq_nx, seq_rt, tru, ofT, ofO, bltP, itms]
theorem is_word_ok [Is (D.fn 212 = some F_houses_is_word)] [Is (D.fn 209 = some F_houses_word_in)] [Is (D.fld 49 "own_letters" = true)] [Is (D.fn 207 = some F_houses_want_house)] [Is (∀ t, okT D t = true → D.kit (.cl 49) t = true)] [Is (∀ d, D.sub d 49 = decide (d = 49))] [Is (D.cls 49 = true)] [Is (D.fn 33 = some F_basics_is_list)] [Is (∀ t, okT D t = true → D.kit (.ty "list") t = true)] [Is (∀ t, okT D t = true → D.kit (.ty "tuple") t = true)] [Is (D.fn 32 = some F_basics_is_count)] [Is (D.fn 31 = some F_basics_is_integer)] [Is (∀ t, okT D t = true → D.kit (.ty "int") t = true)] [Is (∀ t, okT D t = true → D.kit (.ty "bool") t = true)] {x : T} {ls : List T} {w : Int} (hx : okN D 1 x) : callN D rp fw (n + 4) 212 [.t (housT (.lst ls) w), .t x] s = .ok (.t (.bl (isWord ls.length x))) s := by
  rw [go_houses_is_word]
  simp only [S_houses_is_word, fl_houses_word_in, fl_houses_want_house, evS, ev, evs, evF, evI, put, putL, bindV, bind_ok, toFl_ok, seq_nx, seq_rt, putFl_ok, rd_t, emb_t, ofO_some, ofT_some, noex_ok, E.isOmit, List.map_cons, List.map_nil, List.replicate, List.cons_append, List.nil_append, List.length_cons, List.length_nil, List.set_cons_zero, List.set_cons_succ, List.getElem?_cons_zero, List.getElem?_cons_succ, Bool.false_eq_true, if_true, if_false, reduceIte, Nat.reduceAdd, Nat.reduceSub, Nat.reduceLT, Nat.reduceLeDiff, Nat.lt_irrefl, evT, bin_add, bin_sub, mthOk_ins, attV_ins, cmpP_lt, cmpP_le, cmpP_gt, cmpP_ge, cmp_lt, cmp_le, cmp_gt, cmp_ge, cmp_eqi, cmp_eqs, cmp_eqb, cmp_nei, cmp_nes, cmp_neb, cmp_isn, cmp_nin, cmp_isb, cmp_nib, tru_bl, tru_int, isNon_lst, isNon_non, item_l, item_t, blt_lenl, blt_lent, blt_lend, blt_all, blt_any, mapM_t1, mapM_t2, embLM_t0, embLM_t1, embLM_t2, embLM_t3, Option.bind_some, Option.map_some, Bool.not_true, Bool.not_false, endC_rt, endC_nx, decide_eq_true_eq, List.mapM_nil, want_house_ok, word_in_ok hx, wordIn]
  cases isWord ls.length x <;> simp [isNon, toFl_ok, bind_ok, emb_t, rd_t, ofO_some, ofT_some, endC, fin, seq_nx, seq_rt, tru, ofT, ofO]
end
end Tw
namespace Tw
open PySem L2
/-! ## texts of numbers, repr -/
theorem sizeL : sizeLine = 16777216 := by decide
theorem sOf_len (x : String) : (Str.ofString x).length = x.length := PySem.ofString_length x
theorem sApp_len (x y : Str) : (x ++ y).length = x.length + y.length := PySem.strLen_append x y
theorem sEmp_len : Str.empty.length = 0 := rfl
def absI (i : Int) : Int := if 0 ≤ i then i else 0 - i
def sgnS (i : Int) : Str := if i < 0 then "-" else ""
/-- the text of a number of at most 60 digits -/
def digS (i : Int) : Str := Str.empty ++ sgnS i ++ Str.ofString (toString (absI i)) ++ Str.ofString ""
def small (i : Int) : Prop := i.natAbs < 10 ^ 60
theorem absI_nat {i : Int} : (absI i).natAbs = i.natAbs := by unfold absI; split <;> omega
theorem small_log {i : Int} (h : small i) : i.natAbs.log2 < 1920 := by
  unfold small at h
  have : i.natAbs < 2 ^ 1920 := Nat.lt_of_lt_of_le h (by decide +kernel)
  by_cases h0 : i.natAbs = 0
  · rw [h0]; decide
  · exact (Nat.log2_lt h0).mpr this
theorem abs_len {i : Int} (h : small i) : (Str.ofString (toString (absI i))).length ≤ 61 := by
  rw [sOf_len]
  exact PySem.int_text_length_le10 (k := 60) (by decide) (by rw [absI_nat]; exact h)
theorem sgn_len {i : Int} : (sgnS i).length ≤ 1 := by unfold sgnS; split <;> decide
theorem digS_len {i : Int} (h : small i) : (digS i).length ≤ 62 := by
  have h1 := abs_len h
  have h2 := sgn_len (i := i)
  unfold digS
  rw [sApp_len, sApp_len, sApp_len]
  have e1 : (Str.empty).length = 0 := rfl
  have e2 : (Str.ofString "").length = 0 := by decide
  omega
theorem fmt_s {cf : CF} {D : Defs} {rp : Store → T → Out Str} {e : E} {loc : Loc} {s : Store} {x : Str} (h : ev D cf rp e loc s = .ok (.t (.str x)) s) (hl : x.length ≤ sizeLine) : ev D cf rp (.fmt e) loc s = .ok (.t (.str x)) s := by
  simp only [ev, h, bind_ok, rd_t, hl, if_true]
theorem fmt_i {cf : CF} {D : Defs} {rp : Store → T → Out Str} {e : E} {loc : Loc} {s : Store} {i : Int} (h : ev D cf rp e loc s = .ok (.t (.int i)) s) (hl : i.natAbs.log2 < 1920) : ev D cf rp (.fmt e) loc s = .ok (.t (.str (toString i))) s := by
  simp only [ev, h, bind_ok, rd_t, hl, if_true]
theorem evF_cons {cf : CF} {D : Defs} {rp : Store → T → Out Str} {e es : E} {loc : Loc} {s : Store} {x acc : Str} (h : ev D cf rp e loc s = .ok (.t (.str x)) s) (hl : (acc ++ x).length ≤ sizeLine) : evF D cf rp (.cons e es) loc s acc = evF D cf rp es loc s (acc ++ x) := by
  simp only [evF, h, bind_ok, rd_t, hl, if_true]
theorem loopW_done {cond : Loc → Store → Out Bool} {body : Loc → Store → Fl} {fw : Nat} {loc : Loc} {s : Store} (h : cond loc s = .ok false s) : loopW cond body (fw + 1) loc s = .nx loc s := by
  unfold loopW; rw [h]
section
variable {D : Defs} {rp : CF → Store → T → Out Str} {fw n : Nat} {s : Store}
theorem digits_of_ok [Is (D.fn 332 = some F_ratios_digits_of)] {i : Int} (h : small i) : callN D rp (fw + 1) (n + 1) 332 [.t (.int i)] s = .ok (.t (.str (digS i))) s := by
  rw [go_ratios_digits_of]
  have hl := sizeL
  have h1 := abs_len h
  have h2 := sgn_len (i := i)
  have h3 := small_log h
  have h4 : (absI i).natAbs.log2 < 1920 := by rw [absI_nat]; exact h3
  have hP : ¬ (1000000000000000000000000000000000000000000000000000000000000 : Int) ≤ absI i := by
    unfold small at h
    unfold absI
    split <;> omega
  have e1 : (Str.empty).length = 0 := rfl
  have e2 : (Str.ofString "").length = 0 := by decide
  have lw : ∀ loc : Loc, loc[1]? = some (some (.t (.int (absI i)))) → evS D (callN D rp (fw + 1) n) (rp (callN D rp (fw + 1) n)) (fw + 1) FS_ratios_digits_of_0 loc s = .nx loc s := fun loc hloc => by
    unfold FS_ratios_digits_of_0
    simp only [evS]
    refine loopW_done ?_
    unfold WC_ratios_digits_of_0
    simp only [evS, ev, evs, evF, evI, put, putL, bindV, bind_ok, toFl_ok, seq_nx, seq_rt, putFl_ok, rd_t, emb_t, ofO_some, ofT_some, noex_ok, E.isOmit, List.map_cons, List.map_nil, List.replicate, List.cons_append, List.nil_append, List.length_cons, List.length_nil, List.set_cons_zero, List.set_cons_succ, List.getElem?_cons_zero, List.getElem?_cons_succ, Bool.false_eq_true, if_true, if_false, reduceIte, Nat.reduceAdd, Nat.reduceSub, Nat.reduceLT, Nat.reduceLeDiff, Nat.lt_irrefl, evT, bin_add, bin_sub, mthOk_ins, attV_ins, cmpP_lt, cmpP_le, cmpP_gt, cmpP_ge, cmp_lt, cmp_le, cmp_gt, cmp_ge, cmp_eqi, cmp_eqs, cmp_eqb, cmp_nei, cmp_nes, cmp_neb, cmp_isn, cmp_nin, cmp_isb, cmp_nib, tru_bl, tru_int, isNon_lst, isNon_non, item_l, item_t, blt_lenl, blt_lent, blt_lend, blt_all, blt_any, mapM_t1, mapM_t2, embLM_t0, embLM_t1, embLM_t2, embLM_t3, Option.bind_some, Option.map_some, Bool.not_true, Bool.not_false, endC_rt, endC_nx, decide_eq_true_eq, List.mapM_nil, hloc, hP, decide_false]
  have fin : ∀ loc : Loc, loc[1]? = some (some (.t (.int (absI i)))) → loc[2]? = some (some (.t (.str (Str.ofString "")))) → loc[4]? = some (some (.t (.str (sgnS i)))) →
      evF D (callN D rp (fw + 1) n) (rp (callN D rp (fw + 1) n)) (.cons (.fmt (.var 4)) (.cons (.fmt (.var 1)) (.cons (.fmt (.var 2)) .nil))) loc s Str.empty = .ok (digS i) s := fun loc l1 l2 l4 => by
    rw [evF_cons (fmt_s (x := sgnS i) (by simp only [ev, l4]) (by omega)) (by rw [sApp_len]; omega)]
    rw [evF_cons (fmt_i (i := absI i) (by simp only [ev, l1]) h4) (by rw [sApp_len, sApp_len]; omega)]
    rw [evF_cons (fmt_s (x := Str.ofString "") (by simp only [ev, l2]) (by omega)) (by rw [sApp_len, sApp_len, sApp_len]; omega)]
    rfl
  by_cases h0 : (0 : Int) ≤ i
  · have hn : ¬ i < 0 := by omega
    have ea : absI i = i := by unfold absI; rw [if_pos h0]
    have es : sgnS i = Str.ofString "" := by unfold sgnS; rw [if_neg hn]
    rw [ea] at lw fin
    rw [es] at fin
    simp only [S_ratios_digits_of, evS, ev, evs, bindV, bind_ok, toFl_ok, seq_nx, seq_rt, rd_t, cmp_ge, cmp_lt, ofT_some, Option.map_some, tru_bl, Option.bind_some, h0, hn, decide_true, decide_false, List.getElem?_cons_zero, List.getElem?_cons_succ, List.length_cons, List.length_nil, List.set_cons_zero, List.set_cons_succ, Nat.reduceAdd, Nat.reduceLT, if_true, reduceIte, lw, put, putFl_ok, fin, emb_t, endC_rt, Bool.false_eq_true, if_false]
  · have hn : i < 0 := by omega
    have ea : absI i = 0 - i := by unfold absI; rw [if_neg h0]
    have es : sgnS i = Str.ofString "-" := by unfold sgnS; rw [if_pos hn]
    rw [ea] at lw fin
    rw [es] at fin
    simp only [S_ratios_digits_of, evS, ev, evs, bindV, bind_ok, toFl_ok, seq_nx, seq_rt, rd_t, cmp_ge, cmp_lt, ofT_some, Option.map_some, tru_bl, Option.bind_some, h0, hn, decide_true, decide_false, bin_sub, List.getElem?_cons_zero, List.getElem?_cons_succ, List.length_cons, List.length_nil, List.set_cons_zero, List.set_cons_succ, Nat.reduceAdd, Nat.reduceLT, if_true, reduceIte, lw, put, putFl_ok, fin, emb_t, endC_rt, Bool.false_eq_true, if_false]
/-- a ratio's repr -/
def ratS (a b : Int) : Str := Str.empty ++ Str.ofString "Ratio(" ++ digS a ++ Str.ofString ", " ++ digS b ++ Str.ofString ")"
theorem ratS_len {a b : Int} (ha : small a) (hb : small b) : (ratS a b).length ≤ 140 := by
  have h1 := digS_len ha
  have h2 := digS_len hb
  unfold ratS
  rw [sApp_len, sApp_len, sApp_len, sApp_len, sApp_len]
  have e1 : (Str.empty).length = 0 := rfl
  have e2 : (Str.ofString "Ratio(").length = 6 := by decide
  have e3 : (Str.ofString ", ").length = 2 := by decide
  have e4 : (Str.ofString ")").length = 1 := by decide
  omega
theorem ratio_repr_ok [Is (D.fn 353 = some F_ratios_Ratio___repr__)] [Is (D.fld 55 "own_top" = true)] [Is (D.fld 55 "own_bottom" = true)] [Is (D.fn 332 = some F_ratios_digits_of)] {a b : Int} (ha : small a) (hb : small b) : callN D rp (fw + 1) (n + 2) 353 [.t (ratT a b)] s = .ok (.t (.str (ratS a b))) s := by
  rw [go_ratios_Ratio___repr__]
  have hl := sizeL
  have h1 := digS_len ha
  have h2 := digS_len hb
  have e1 : (Str.empty).length = 0 := rfl
  have e2 : (Str.ofString "Ratio(").length = 6 := by decide
  have e3 : (Str.ofString ", ").length = 2 := by decide
  have e4 : (Str.ofString ")").length = 1 := by decide
  have l1 : List.lookup (Str.ofString "own_top") (ratF a b) = some (.int a) := rfl
  have l2 : List.lookup (Str.ofString "own_bottom") (ratF a b) = some (.int b) := rfl
  simp only [S_ratios_Ratio___repr__, fl_ratios_digits_of, evS, ev]
  rw [evF_cons (x := Str.ofString "Ratio(") (by simp only [ev]) (by rw [sApp_len]; omega)]
  rw [evF_cons (x := digS a) (fmt_s (by simp only [ev, evs, bind_ok, rd_t, ratT, attV_ins, fld_55_own_top, l1, ofT_some, if_true, List.getElem?_cons_zero, fl_ratios_digits_of, digits_of_ok ha]) (by omega)) (by rw [sApp_len, sApp_len]; omega)]
  rw [evF_cons (x := Str.ofString ", ") (by simp only [ev]) (by rw [sApp_len, sApp_len, sApp_len]; omega)]
  rw [evF_cons (x := digS b) (fmt_s (by simp only [ev, evs, bind_ok, rd_t, ratT, attV_ins, fld_55_own_bottom, l2, ofT_some, if_true, List.getElem?_cons_zero, fl_ratios_digits_of, digits_of_ok hb]) (by omega)) (by rw [sApp_len, sApp_len, sApp_len, sApp_len]; omega)]
  rw [evF_cons (x := Str.ofString ")") (by simp only [ev]) (by rw [sApp_len, sApp_len, sApp_len, sApp_len, sApp_len]; omega)]
  simp only [evF, bind_ok, toFl_ok, emb_t, Bool.false_eq_true, if_false, endC_rt]
  rfl
end
/-! ### repr of trees -/
/-- the text of a tree of numbers, texts, ratios, lists, dicts -/
theorem fit_of {z : Str} (h : z.length + 8 ≤ sizeLine) : fit z = some z := by unfold fit; rw [if_pos h]
/-- repr is defined, and tells a text of at most m signs -/
def Rpr (D : Defs) (cf : CF) (s : Store) (d : Nat) (t : T) (m : Nat) : Prop := ∃ z : Str, reprT D cf s d t = some z ∧ z.length ≤ m
def RprL (D : Defs) (cf : CF) (s : Store) (d : Nat) (ts : List T) (m : Nat) : Prop := ∃ zs : List Str, reprTs D cf s d ts = some zs ∧ piled zs ≤ m
section
variable {D : Defs} {cf : CF} {s : Store} {d m : Nat}
theorem Rpr.mono {t : T} {m' : Nat} (h : Rpr D cf s d t m) (hm : m ≤ m') : Rpr D cf s d t m' := let ⟨z, h1, h2⟩ := h; ⟨z, h1, by omega⟩
theorem reprT_non : reprT D cf s d .non = some "None" := by cases d <;> (unfold reprT; rfl)
theorem reprT_bl {b : Bool} : reprT D cf s d (.bl b) = some (if b then Str.ofString "True" else Str.ofString "False") := by cases d <;> (unfold reprT; rfl)
theorem reprT_int {i : Int} : reprT D cf s d (.int i) = if i.natAbs.log2 < 1920 then some (Str.ofString (toString i)) else none := by cases d <;> (unfold reprT; rfl)
theorem reprT_str {x : Str} : reprT D cf s d (.str x) = fit (reprText x) := by cases d <;> (unfold reprT; rfl)
theorem rpr_non : Rpr D cf s d .non 5 := ⟨"None", reprT_non, by decide⟩
theorem rpr_bl {b : Bool} : Rpr D cf s d (.bl b) 5 := ⟨_, reprT_bl, by cases b <;> decide⟩
theorem rpr_str {x : Str} (h : (reprText x).length ≤ m) (hm : m + 8 ≤ sizeLine) : Rpr D cf s d (.str x) m := ⟨_, reprT_str.trans (fit_of (by omega)), h⟩
theorem rpr_int {i : Int} (h : small i) : Rpr D cf s d (.int i) 62 := by
  refine ⟨Str.ofString (toString i), ?_, ?_⟩
  · rw [reprT_int, if_pos (small_log h)]
  · rw [sOf_len]; have := PySem.int_text_length_le10 (a := i) (k := 60) (by decide) h; omega
theorem rpr_rat {a b : Int} (hr : D.rep 55 = some 353) (ha : small a) (hb : small b) (h : cf 353 [.t (ratT a b)] s = .ok (.t (.str (ratS a b))) s) : Rpr D cf s (d + 1) (ratT a b) 140 := by
  refine ⟨ratS a b, ?_, ratS_len ha hb⟩
  unfold ratT reprT
  rw [hr, Option.bind_some]
  unfold ownR
  unfold ratT at h
  rw [h]
  simp only [stq_rfl, if_true, Option.bind_some]
  exact fit_of (by have := ratS_len ha hb; have := sizeL; omega)
theorem rprL_nil : RprL D cf s d [] 0 := ⟨[], by unfold reprTs; rfl, by decide⟩
theorem rprL_cons {t : T} {ts : List T} {m' : Nat} (h : Rpr D cf s d t m) (h' : RprL D cf s d ts m') : RprL D cf s d (t :: ts) (m + 2 + m') := by
  obtain ⟨z, h1, h2⟩ := h
  obtain ⟨zs, h3, h4⟩ := h'
  refine ⟨z :: zs, ?_, ?_⟩
  · unfold reprTs; rw [h1, Option.bind_some, h3]; rfl
  · rw [piled_cons]; omega
theorem rprL_all {ts : List T} (h : ∀ t ∈ ts, Rpr D cf s d t m) : RprL D cf s d ts ((m + 2) * ts.length) := by
  induction ts with
  | nil => exact ⟨[], by unfold reprTs; rfl, by simp [piled]⟩
  | cons t ts ih =>
    have := rprL_cons (h t List.mem_cons_self) (ih fun x hx => h x (List.mem_cons_of_mem _ hx))
    obtain ⟨z, h1, h2⟩ := this
    exact ⟨z, h1, by rw [List.length_cons, Nat.mul_succ]; omega⟩
theorem listText_len : ∀ (zs : List Str), (listText zs).length ≤ piled zs + 2 := by
  intro zs
  have hX : (listText zs).length = (textFrom 0 "[" zs).length + 1 := by
    show (textFrom 0 "[" zs ++ "]").length = _
    rw [sApp_len]; rfl
  have key : ∀ (zs : List Str) (i : Nat) (acc : Str), (textFrom i acc zs).length ≤ acc.length + piled zs := by
    intro zs
    induction zs with
    | nil => intro i acc; simp [textFrom, piled]
    | cons z zs ih =>
      intro i acc
      rw [piled_cons]
      unfold textFrom
      refine Nat.le_trans (ih _ _) ?_
      have e1 : (Str.ofString ", ").length = 2 := by decide
      have e0 : (Str.ofString "").length = 0 := by decide
      split <;> (simp only [sApp_len]; omega)
  rw [hX]
  have := key zs 0 "["
  have e1 : (Str.ofString "[").length = 1 := by decide
  omega
theorem rpr_lst {ts : List T} (h : RprL D cf s d ts m) (hm : m + 10 ≤ sizeLine) : Rpr D cf s (d + 1) (.lst ts) (m + 2) := by
  obtain ⟨zs, h1, h2⟩ := h
  have := listText_len zs
  refine ⟨listText zs, ?_, by omega⟩
  unfold reprT
  rw [h1, Option.bind_some]
  exact fit_of (by omega)
theorem rpr_tup {ts : List T} (h : RprL D cf s d ts m) (hm : m + 20 ≤ sizeLine) : Rpr D cf s (d + 1) (.tup ts) (m + 4) := by
  obtain ⟨zs, h1, h2⟩ := h
  have key : (tupleText zs).length ≤ piled zs + 4 := by
    unfold tupleText
    have hj : (Str.join ", " zs).length ≤ piled zs := by
      by_cases hz : zs = []
      · subst hz; decide
      · have := join_length_add zs hz; omega
    rw [sApp_len, sApp_len]
    have e1 : (Str.ofString "(").length = 1 := by decide
    have e2 : ∀ b : Bool, (Str.ofString (if b = true then ",)" else ")")).length ≤ 2 := by intro b; cases b <;> decide
    have := e2 (zs.length == 1)
    omega
  refine ⟨tupleText zs, ?_, by omega⟩
  unfold reprT
  rw [h1, Option.bind_some]
  exact fit_of (by omega)
end
/-! ## what a program's tables give -/
theorem kit_ty {p : Pg} {b : Bool} {n : String} (h : (p.bt.contains n && !(n == "object")) = true) : ∀ t, okT (p.D b) t = true → (p.D b).kit (.ty n) t = true := fun t ht => by
  show p.kitD (.ty n) t = true
  unfold Pg.kitD
  simp only [h, Bool.true_and]
  unfold okT at ht
  cases t <;> first | rfl | exact ht
theorem kit_cl {p : Pg} {b : Bool} {c : Nat} (h : (p.ca c).isSome = true) : ∀ t, okT (p.D b) t = true → (p.D b).kit (.cl c) t = true := fun t ht => by
  show p.kitD (.cl c) t = true
  unfold Pg.kitD
  simp only [h, Bool.true_and]
  unfold okT at ht
  cases t <;> first | rfl | exact ht
theorem sub_of {p : Pg} {b : Bool} {c : Nat} (h : (p.cs.all fun i => (i.sup.contains c) == Nat.beq i.id c) = true) (h2 : (p.ca c).isSome = true) : ∀ d, (p.D b).sub d c = decide (d = c) := fun d => by
  show (match p.ca d with | some i => i.sup.contains c | none => false) = decide (d = c)
  cases e : p.ca d with
  | none =>
    have : d ≠ c := fun z => by subst z; rw [e] at h2; cases h2
    simp [this]
  | some i =>
    have z := List.all_eq_true.mp h i (Pg.ca_mem e)
    have e2 := Pg.ca_id e
    simp only
    rw [eq_of_beq z, e2]
    by_cases hd : d = c
    · subst hd; simp
    · rw [decide_eq_false hd]
      cases q : Nat.beq d c with
      | false => rfl
      | true => exact absurd (Nat.eq_of_beq_eq_true q) hd
end Tw
namespace Tw
open PySem L2
instance : Is ((PT.D true).fn 31 = some F_basics_is_integer) := ⟨rfl⟩
instance : Is ((PT.D true).fn 32 = some F_basics_is_count) := ⟨rfl⟩
instance : Is ((PT.D true).fn 33 = some F_basics_is_list) := ⟨rfl⟩
instance : Is ((PT.D true).fn 188 = some F_fives_want_five) := ⟨rfl⟩
instance : Is ((PT.D true).fn 189 = some F_fives_is_short_word) := ⟨rfl⟩
instance : Is ((PT.D true).fn 190 = some F_fives_half_less) := ⟨rfl⟩
instance : Is ((PT.D true).fn 191 = some F_fives_led_first) := ⟨rfl⟩
instance : Is ((PT.D true).fn 192 = some F_fives_led_second) := ⟨rfl⟩
instance : Is ((PT.D true).fn 193 = some F_fives_sum_by) := ⟨rfl⟩
instance : Is ((PT.D true).fn 196 = some F_fives_word_by) := ⟨rfl⟩
instance : Is ((PT.D true).fn 333 = some F_ratios_divisor_of) := ⟨rfl⟩
instance : Is ((PT.D true).fn 334 = some F_ratios_Ratio___init__) := ⟨rfl⟩
instance : Is ((PT.D true).dfl 334 = [.int 1]) := ⟨rfl⟩
instance : Is ((PT.D true).fn 340 = some F_ratios_Ratio___add__) := ⟨rfl⟩
instance : Is ((PT.D true).fn 341 = some F_ratios_Ratio___radd__) := ⟨rfl⟩
instance : Is ((PT.D true).fn 342 = some F_ratios_Ratio___sub__) := ⟨rfl⟩
instance : Is ((PT.D true).fn 343 = some F_ratios_Ratio___rsub__) := ⟨rfl⟩
instance : Is ((PT.D true).fn 344 = some F_ratios_Ratio___mul__) := ⟨rfl⟩
instance : Is ((PT.D true).fn 345 = some F_ratios_Ratio___rmul__) := ⟨rfl⟩
instance : Is ((PT.D true).fn 346 = some F_ratios_Ratio___neg__) := ⟨rfl⟩
instance : Is ((PT.D true).fn 347 = some F_ratios_Ratio_over) := ⟨rfl⟩
instance : Is ((PT.D true).fn 351 = some F_ratios_Ratio___eq__) := ⟨rfl⟩
instance : Is ((PT.D true).fn 354 = some F_ratios_told_pair) := ⟨rfl⟩
instance : Is ((PT.D true).fn 355 = some F_ratios_is_number) := ⟨rfl⟩
instance : Is ((PT.D true).fn 356 = some F_ratios_ratio_of) := ⟨rfl⟩
instance : Is ((PT.D true).fn 420 = some F_solved_are_numbers) := ⟨rfl⟩
instance : Is ((PT.D true).fn 1001 = some F_L_pot) := ⟨rfl⟩
instance : Is ((PT.D true).fn 1002 = some F_L_draw) := ⟨rfl⟩
instance : Is ((PT.D true).fn 1003 = some F_L_number) := ⟨rfl⟩
instance : Is ((PT.D true).fn 1004 = some F_L_word) := ⟨rfl⟩
instance : Is ((PT.D true).fn 1005 = some F_L_right) := ⟨rfl⟩
instance : Is ((PT.D true).fn 1006 = some F_L_law) := ⟨rfl⟩
instance : Is (∀ t, okT (PT.D true) t = true → (PT.D true).kit (.ty "bool") t = true) := ⟨kit_ty (by decide)⟩
instance : Is (∀ t, okT (PT.D true) t = true → (PT.D true).kit (.ty "int") t = true) := ⟨kit_ty (by decide)⟩
instance : Is (∀ t, okT (PT.D true) t = true → (PT.D true).kit (.ty "list") t = true) := ⟨kit_ty (by decide)⟩
instance : Is (∀ t, okT (PT.D true) t = true → (PT.D true).kit (.ty "tuple") t = true) := ⟨kit_ty (by decide)⟩
instance : Is (∀ t, okT (PT.D true) t = true → (PT.D true).kit (.cl 55) t = true) := ⟨kit_cl rfl⟩
instance : Is (∀ d, (PT.D true).sub d 55 = decide (d = 55)) := ⟨sub_of (by decide) rfl⟩
instance : Is ((PT.D true).cls 55 = true) := ⟨rfl⟩
instance : Is ((PT.D true).ini 55 = some 334) := ⟨rfl⟩
instance : Is ((PT.D true).fld 55 "own_top" = true) := ⟨rfl⟩
instance : Is ((PT.D true).fld 55 "own_bottom" = true) := ⟨rfl⟩
instance : Is ((PT.D true).own 55 = true) := ⟨rfl⟩
instance : Is ((PT.D true).om 55 "__add__" = some 340) := ⟨rfl⟩
instance : Is ((PT.D true).om 55 "__radd__" = some 341) := ⟨rfl⟩
instance : Is ((PT.D true).om 55 "__sub__" = some 342) := ⟨rfl⟩
instance : Is ((PT.D true).om 55 "__rsub__" = some 343) := ⟨rfl⟩
instance : Is ((PT.D true).om 55 "__mul__" = some 344) := ⟨rfl⟩
instance : Is ((PT.D true).om 55 "__rmul__" = some 345) := ⟨rfl⟩
instance : Is ((PT.D true).om 55 "__neg__" = some 346) := ⟨rfl⟩
instance : Is ((PT.D true).om 55 "__eq__" = some 351) := ⟨rfl⟩
instance : Is ((PT.D true).om 55 "over" = some 347) := ⟨rfl⟩
instance : Is ((PT.D false).fn 31 = some F_basics_is_integer) := ⟨rfl⟩
instance : Is ((PT.D false).fn 32 = some F_basics_is_count) := ⟨rfl⟩
instance : Is ((PT.D false).fn 33 = some F_basics_is_list) := ⟨rfl⟩
instance : Is ((PT.D false).fn 188 = some F_fives_want_five) := ⟨rfl⟩
instance : Is ((PT.D false).fn 189 = some F_fives_is_short_word) := ⟨rfl⟩
instance : Is ((PT.D false).fn 190 = some F_fives_half_less) := ⟨rfl⟩
instance : Is ((PT.D false).fn 191 = some F_fives_led_first) := ⟨rfl⟩
instance : Is ((PT.D false).fn 192 = some F_fives_led_second) := ⟨rfl⟩
instance : Is ((PT.D false).fn 193 = some F_fives_sum_by) := ⟨rfl⟩
instance : Is ((PT.D false).fn 196 = some F_fives_word_by) := ⟨rfl⟩
instance : Is ((PT.D false).fn 333 = some F_ratios_divisor_of) := ⟨rfl⟩
instance : Is ((PT.D false).fn 334 = some F_ratios_Ratio___init__) := ⟨rfl⟩
instance : Is ((PT.D false).dfl 334 = [.int 1]) := ⟨rfl⟩
instance : Is ((PT.D false).fn 340 = some F_ratios_Ratio___add__) := ⟨rfl⟩
instance : Is ((PT.D false).fn 341 = some F_ratios_Ratio___radd__) := ⟨rfl⟩
instance : Is ((PT.D false).fn 342 = some F_ratios_Ratio___sub__) := ⟨rfl⟩
instance : Is ((PT.D false).fn 343 = some F_ratios_Ratio___rsub__) := ⟨rfl⟩
instance : Is ((PT.D false).fn 344 = some F_ratios_Ratio___mul__) := ⟨rfl⟩
instance : Is ((PT.D false).fn 345 = some F_ratios_Ratio___rmul__) := ⟨rfl⟩
instance : Is ((PT.D false).fn 346 = some F_ratios_Ratio___neg__) := ⟨rfl⟩
instance : Is ((PT.D false).fn 347 = some F_ratios_Ratio_over) := ⟨rfl⟩
instance : Is ((PT.D false).fn 351 = some F_ratios_Ratio___eq__) := ⟨rfl⟩
instance : Is ((PT.D false).fn 354 = some F_ratios_told_pair) := ⟨rfl⟩
instance : Is ((PT.D false).fn 355 = some F_ratios_is_number) := ⟨rfl⟩
instance : Is ((PT.D false).fn 356 = some F_ratios_ratio_of) := ⟨rfl⟩
instance : Is ((PT.D false).fn 420 = some F_solved_are_numbers) := ⟨rfl⟩
instance : Is ((PT.D false).fn 1001 = some F_L_pot) := ⟨rfl⟩
instance : Is ((PT.D false).fn 1002 = some F_L_draw) := ⟨rfl⟩
instance : Is ((PT.D false).fn 1003 = some F_L_number) := ⟨rfl⟩
instance : Is ((PT.D false).fn 1004 = some F_L_word) := ⟨rfl⟩
instance : Is ((PT.D false).fn 1005 = some F_L_right) := ⟨rfl⟩
instance : Is ((PT.D false).fn 1006 = some F_L_law) := ⟨rfl⟩
instance : Is (∀ t, okT (PT.D false) t = true → (PT.D false).kit (.ty "bool") t = true) := ⟨kit_ty (by decide)⟩
instance : Is (∀ t, okT (PT.D false) t = true → (PT.D false).kit (.ty "int") t = true) := ⟨kit_ty (by decide)⟩
instance : Is (∀ t, okT (PT.D false) t = true → (PT.D false).kit (.ty "list") t = true) := ⟨kit_ty (by decide)⟩
instance : Is (∀ t, okT (PT.D false) t = true → (PT.D false).kit (.ty "tuple") t = true) := ⟨kit_ty (by decide)⟩
instance : Is (∀ t, okT (PT.D false) t = true → (PT.D false).kit (.cl 55) t = true) := ⟨kit_cl rfl⟩
instance : Is (∀ d, (PT.D false).sub d 55 = decide (d = 55)) := ⟨sub_of (by decide) rfl⟩
instance : Is ((PT.D false).cls 55 = true) := ⟨rfl⟩
instance : Is ((PT.D false).ini 55 = some 334) := ⟨rfl⟩
instance : Is ((PT.D false).fld 55 "own_top" = true) := ⟨rfl⟩
instance : Is ((PT.D false).fld 55 "own_bottom" = true) := ⟨rfl⟩
instance : Is ((PT.D false).own 55 = true) := ⟨rfl⟩
instance : Is ((PT.D false).om 55 "__add__" = some 340) := ⟨rfl⟩
instance : Is ((PT.D false).om 55 "__radd__" = some 341) := ⟨rfl⟩
instance : Is ((PT.D false).om 55 "__sub__" = some 342) := ⟨rfl⟩
instance : Is ((PT.D false).om 55 "__rsub__" = some 343) := ⟨rfl⟩
instance : Is ((PT.D false).om 55 "__mul__" = some 344) := ⟨rfl⟩
instance : Is ((PT.D false).om 55 "__rmul__" = some 345) := ⟨rfl⟩
instance : Is ((PT.D false).om 55 "__neg__" = some 346) := ⟨rfl⟩
instance : Is ((PT.D false).om 55 "__eq__" = some 351) := ⟨rfl⟩
instance : Is ((PT.D false).om 55 "over" = some 347) := ⟨rfl⟩
section
variable {D : Defs} {rp : CF → Store → T → Out Str} {fw n : Nat}
theorem go_ratios_Ratio___radd__ [hf : Is (D.fn 341 = some F_ratios_Ratio___radd__)] (a0 a1 : VV) (s : Store) : callN D rp fw (n + 1) 341 [a0, a1] s = endC s (evS D (callN D rp fw n) (rp (callN D rp fw n)) fw S_ratios_Ratio___radd__ [some a0, some a1, none, none] s) := callN_go hf.h rfl
theorem fl_ratios_Ratio___radd__ [hf : Is (D.fn 341 = some F_ratios_Ratio___radd__)] (a0 a1 : VV) : fill D 341 [a0, a1] = [a0, a1] := by unfold fill; rw [hf.h]; rfl
theorem go_ratios_Ratio___rsub__ [hf : Is (D.fn 343 = some F_ratios_Ratio___rsub__)] (a0 a1 : VV) (s : Store) : callN D rp fw (n + 1) 343 [a0, a1] s = endC s (evS D (callN D rp fw n) (rp (callN D rp fw n)) fw S_ratios_Ratio___rsub__ [some a0, some a1, none, none] s) := callN_go hf.h rfl
theorem fl_ratios_Ratio___rsub__ [hf : Is (D.fn 343 = some F_ratios_Ratio___rsub__)] (a0 a1 : VV) : fill D 343 [a0, a1] = [a0, a1] := by unfold fill; rw [hf.h]; rfl
theorem go_ratios_Ratio___rmul__ [hf : Is (D.fn 345 = some F_ratios_Ratio___rmul__)] (a0 a1 : VV) (s : Store) : callN D rp fw (n + 1) 345 [a0, a1] s = endC s (evS D (callN D rp fw n) (rp (callN D rp fw n)) fw S_ratios_Ratio___rmul__ [some a0, some a1, none, none] s) := callN_go hf.h rfl
theorem fl_ratios_Ratio___rmul__ [hf : Is (D.fn 345 = some F_ratios_Ratio___rmul__)] (a0 a1 : VV) : fill D 345 [a0, a1] = [a0, a1] := by unfold fill; rw [hf.h]; rfl
theorem go_L_pot [hf : Is (D.fn 1001 = some F_L_pot)] (a0 a1 : VV) (s : Store) : callN D rp fw (n + 1) 1001 [a0, a1] s = endC s (evS D (callN D rp fw n) (rp (callN D rp fw n)) fw S_L_pot [some a0, some a1, none] s) := callN_go hf.h rfl
theorem fl_L_pot [hf : Is (D.fn 1001 = some F_L_pot)] (a0 a1 : VV) : fill D 1001 [a0, a1] = [a0, a1] := by unfold fill; rw [hf.h]; rfl
theorem go_L_draw [hf : Is (D.fn 1002 = some F_L_draw)] (a0 a1 : VV) (s : Store) : callN D rp fw (n + 1) 1002 [a0, a1] s = endC s (evS D (callN D rp fw n) (rp (callN D rp fw n)) fw S_L_draw [some a0, some a1, none] s) := callN_go hf.h rfl
theorem fl_L_draw [hf : Is (D.fn 1002 = some F_L_draw)] (a0 a1 : VV) : fill D 1002 [a0, a1] = [a0, a1] := by unfold fill; rw [hf.h]; rfl
theorem go_L_number [hf : Is (D.fn 1003 = some F_L_number)] (a0 : VV) (s : Store) : callN D rp fw (n + 1) 1003 [a0] s = endC s (evS D (callN D rp fw n) (rp (callN D rp fw n)) fw S_L_number [some a0, none] s) := callN_go hf.h rfl
theorem fl_L_number [hf : Is (D.fn 1003 = some F_L_number)] (a0 : VV) : fill D 1003 [a0] = [a0] := by unfold fill; rw [hf.h]; rfl
theorem go_L_word [hf : Is (D.fn 1004 = some F_L_word)] (a0 a1 : VV) (s : Store) : callN D rp fw (n + 1) 1004 [a0, a1] s = endC s (evS D (callN D rp fw n) (rp (callN D rp fw n)) fw S_L_word [some a0, some a1, none, none] s) := callN_go hf.h rfl
theorem fl_L_word [hf : Is (D.fn 1004 = some F_L_word)] (a0 a1 : VV) : fill D 1004 [a0, a1] = [a0, a1] := by unfold fill; rw [hf.h]; rfl
theorem go_L_right [hf : Is (D.fn 1005 = some F_L_right)] (a0 : VV) (s : Store) : callN D rp fw (n + 1) 1005 [a0] s = endC s (evS D (callN D rp fw n) (rp (callN D rp fw n)) fw S_L_right [some a0, none, none, none, none, none, none, none, none, none, none, none, none, none, none, none, none, none, none] s) := callN_go hf.h rfl
theorem fl_L_right [hf : Is (D.fn 1005 = some F_L_right)] (a0 : VV) : fill D 1005 [a0] = [a0] := by unfold fill; rw [hf.h]; rfl
theorem go_L_law [hf : Is (D.fn 1006 = some F_L_law)] (a0 : VV) (s : Store) : callN D rp fw (n + 1) 1006 [a0] s = endC s (evS D (callN D rp fw n) (rp (callN D rp fw n)) fw S_L_law [some a0, none] s) := callN_go hf.h rfl
theorem fl_L_law [hf : Is (D.fn 1006 = some F_L_law)] (a0 : VV) : fill D 1006 [a0] = [a0] := by unfold fill; rw [hf.h]; rfl
end
end Tw
namespace Tw
open PySem L2
/-! ## pots: a cell with two numbers, from which is drawn -/
abbrev potC (a b : Int) : Cell := .lst [.int a, .int b]
def PotAt (s : Store) (k : Nat) : Prop := ∃ a b, s[k]? = some (potC a b)
theorem PotAt.lt {s : Store} {k : Nat} (h : PotAt s k) : k < s.length := by
  obtain ⟨a, b, h⟩ := h
  exact (List.getElem?_eq_some_iff.mp h).1
theorem PotAt.set {s : Store} {k : Nat} {a b : Int} (h : k < s.length) : PotAt (s.set k (potC a b)) k := ⟨a, b, by rw [List.getElem?_set_self h]⟩
theorem PotAt.app {s j : Store} {k : Nat} (h : PotAt s k) : PotAt (s ++ j) k := by
  have hl := h.lt
  obtain ⟨a, b, h⟩ := h
  exact ⟨a, b, by rw [List.getElem?_append_left hl]; exact h⟩
theorem PotAt.put {s : Store} {k i : Nat} {c : Cell} (h : PotAt s k) (hi : i ≠ k) : PotAt (s.set i c) k := by
  obtain ⟨a, b, h⟩ := h
  exact ⟨a, b, by rw [List.getElem?_set_ne hi]; exact h⟩
theorem set_take {s : Store} {k : Nat} {c : Cell} : (s.set k c).take s.length = s.set k c := List.take_of_length_le (by simp)
theorem app_set1 {X j : Store} {k : Nat} {c : Cell} (h : k < X.length) : (X ++ j).set k c = X.set k c ++ j := List.set_append_left _ _ h
theorem app_get1 {X j : Store} {k : Nat} (h : k < X.length) : (X ++ j)[k]? = X[k]? := List.getElem?_append_left h
theorem mulOk_r {i j : Int} (h : j.natAbs.log2 < 60) : mulOk i j = true := by unfold mulOk; simp [h]
theorem log_lt {i : Int} (h0 : 0 ≤ i) (h : i < 2 ^ 59) : i.natAbs.log2 < 60 := by
  by_cases hz : i.natAbs = 0
  · rw [hz]; decide
  · exact (Nat.log2_lt hz).mpr (by omega)
theorem fmod_nn {i m : Int} (h : 0 < m) : 0 ≤ i.fmod m := Int.fmod_nonneg_of_pos _ h
theorem fmod_lt {i m : Int} (h : 0 < m) : i.fmod m < m := Int.fmod_lt_of_pos _ h
theorem ixN_0 {n : Nat} (h : 0 < n) : ixN n 0 = some 0 := by unfold ixN; simp; omega
theorem ixN_1 {n : Nat} (h : 1 < n) : ixN n 1 = some 1 := by unfold ixN; simp; omega
theorem endC_rtk {s s1 : Store} {x : T} (h : s1.take s.length = s1) : endC s (.rt (.t x) s1) = .ok (.t x) s1 := by simp [endC, fin, h]
theorem blt_int {i : Int} : bltP .int [.int i] = some (.int i) := rfl
theorem blt_dm {i j : Int} (h : 0 < j) (h2 : j < 1073741824) : bltP .divmod [.int i, .int j] = some (.tup [.int (i / j), .int (i % j)]) := by simp [bltP, h, h2]
theorem ct_lst {xs : List T} : Cell.tree (.lst xs) = .lst xs := rfl
/-- what a draw promises -/
def Draws (cf : CF) (f : Nat) : Prop := ∀ (s : Store) (k : Nat) (m : Int), PotAt s k → 0 < m → m < 1073741824 → ∃ d a b, 0 ≤ d ∧ d < m ∧ cf f [.c k, .t (.int m)] s = .ok (.t (.int d)) (s.set k (potC a b))
/-- what a pick promises: the list is a tree -/
def Picks (cf : CF) (f : Nat) : Prop := ∀ (s : Store) (k : Nat) (xs : List T), PotAt s k → 0 < xs.length → xs.length < 1073741824 → ∃ x a b, x ∈ xs ∧ cf f [.c k, .t (.lst xs)] s = .ok (.t x) (s.set k (potC a b))
theorem mem_at {xs : List T} {d : Int} (h0 : 0 ≤ d) (h : d < xs.length) : ∃ x, x ∈ xs ∧ atI xs d = some x := by
  obtain ⟨j, rfl⟩ : ∃ j : Nat, d = (j : Int) := ⟨d.toNat, by omega⟩
  have hl : j < xs.length := by omega
  exact ⟨xs[j], List.getElem_mem hl, atI_nat (List.getElem?_eq_getElem hl)⟩
/-! ### a comprehension in general -/
theorem loopC_gen {src : Src} {g : E} {cond : Loc → Store → Out Bool} {elt : Loc → Store → Out VV} {lw : Loc} {n0 : Nat} {xs : List T} (Inv : Nat → List T → Store → Prop)
    (hz : xs.length ≤ sizeLine) (hacc : ∀ i acc s, Inv i acc s → acc.length ≤ i)
    (hat : ∀ i acc s, Inv i acc s → src.at s i = some xs[i]?)
    (step : ∀ i x acc s, xs[i]? = some x → Inv i acc s → ∃ l1, bindG g x lw = some l1 ∧ ((∃ s1, cond l1 s = .ok false s1 ∧ Inv (i + 1) acc s1) ∨
      ∃ s1 y s2 t s3, cond l1 s = .ok true s1 ∧ elt l1 s1 = .ok y s2 ∧ emb s2 y = some (t, s3) ∧ s3[n0]? = some (.lst acc) ∧ Inv (i + 1) (acc ++ [t]) (s3.set n0 (.lst (acc ++ [t]))))) :
    ∀ m i acc s, xs.length - i < m → i ≤ xs.length → Inv i acc s → ∃ acc' s', loopC src g cond elt lw n0 m i s = .ok () s' ∧ Inv xs.length acc' s'
  | 0, i, acc, s, hm, _, _ => by omega
  | m + 1, i, acc, s, hm, hi, I => by
    unfold loopC
    rw [hat i acc s I]
    cases hx : xs[i]? with
    | none =>
      have : i = xs.length := by have := List.getElem?_eq_none_iff.mp hx; omega
      subst this
      exact ⟨acc, s, rfl, I⟩
    | some x =>
      have hlt := (List.getElem?_eq_some_iff.mp hx).1
      obtain ⟨l1, hb, hh⟩ := step i x acc s hx I
      simp only [hb]
      rcases hh with ⟨s1, h1, I1⟩ | ⟨s1, y, s2, t, s3, h1, h2, h3, h4, I3⟩
      · simp only [h1]
        exact loopC_gen Inv hz hacc hat step m (i + 1) acc s1 (by omega) (by omega) I1
      · simp only [h1, h2, h3, h4]
        have : acc.length < sizeLine := by have := hacc _ _ _ I; omega
        rw [if_pos this]
        exact loopC_gen Inv hz hacc hat step m (i + 1) (acc ++ [t]) _ (by omega) (by omega) I3
theorem ev_lc_gen {D : Defs} {cf : CF} {rp : Store → T → Out Str} {loc : Loc} {s : Store} {own : List Nat} {g it c e : E} {src : Src} {s1 s2 : Store} {ys : List T} (h1 : evI D cf rp it loc s = .ok src s1)
    (h2 : loopC src g (fun l s => if c.isOmit then .ok true s else (ev D cf rp c l s).bind fun y s1 => ofO s1 ((rd s1 y).bind tru)) (ev D cf rp e) (wipeL loc own) s1.length (src.most s1) 0 (s1 ++ [.lst []]) = .ok () s2) (hl : s2[s1.length]? = some (.lst ys)) :
    ev D cf rp (.lc false own g it c e) loc s = .ok (.t (.lst ys)) (s2.take s1.length) := by
  unfold ev
  rw [h1, bind_ok, h2, bind_ok]
  unfold lcEnd
  simp [hl, Cell.tree]
theorem mulOk_l {i j : Int} (h : i.natAbs.log2 < 60) : mulOk i j = true := by unfold mulOk; simp [h]
theorem bin_pow {D : Defs} {cf : CF} {s : Store} {i j : Int} (h1 : 0 ≤ j) (h2 : j ≤ 1000000) (h3 : i.natAbs < 2 ^ 64) : binV D cf .Pow (.t (.int i)) (.t (.int j)) s = .ok (.t (.int (i ^ j.toNat))) s := by simp [binV, rd, binP, h1, h2, h3]
theorem blt_max {i j : Int} : bltP .max [.int i, .int j] = some (.int (if j > i then j else i)) := rfl
theorem blt_min {i j : Int} : bltP .min [.int i, .int j] = some (.int (if j < i then j else i)) := rfl
theorem blt_abs {i : Int} : bltP .abs [.int i] = some (.int (if i < 0 then -i else i)) := rfl
theorem blt_lens {ns : List Int} : bltP .len [.scr ns] = some (.int ns.length) := rfl
theorem item_s {ns : List Int} {i : Int} : itemP (.scr ns) (.int i) = (atI ns i).map T.int := rfl
theorem endC_rtc {s : Store} {c : Cell} (h : ∀ x, c ≠ .frz x) : endC s (.rt (.c s.length) (s ++ [c])) = .ok (.c s.length) (s ++ [c]) := by
  unfold endC fin
  simp only [Nat.lt_irrefl, if_false]
  rw [app_get]
  cases c <;> first | (exact absurd rfl (h _)) | simp [app_take]
/-! ### lists that loops fill, by cells -/
/-- st is B, but for the pot at k, the list at r, and what is behind -/
def Vw (B : Store) (k r : Nat) (st : Store) (acc : List T) : Prop := ∃ a b j, st = (B.set k (potC a b)).set r (.lst acc) ++ j
section
variable {B st : Store} {k r : Nat} {acc acc' : List T}
theorem set_same {X : Store} {i : Nat} {c : Cell} (h : X[i]? = some c) : X.set i c = X := by
  apply List.ext_getElem?
  intro j
  by_cases hj : j = i
  · subst hj; rw [List.getElem?_set_self (List.getElem?_eq_some_iff.mp h).1, h]
  · rw [List.getElem?_set_ne (Ne.symm hj)]
theorem Vw.start (hp : PotAt B k) (hr : B[r]? = some (.lst acc)) : Vw B k r B acc := by
  obtain ⟨a, b, hp⟩ := hp
  exact ⟨a, b, [], by rw [set_same hp, set_same hr, List.append_nil]⟩
theorem Vw.le (v : Vw B k r st acc) : B.length ≤ st.length := by
  obtain ⟨a, b, j, rfl⟩ := v
  simp
theorem Vw.pot (v : Vw B k r st acc) (hk : k < B.length) (hn : r ≠ k) : PotAt st k := by
  obtain ⟨a, b, j, rfl⟩ := v
  refine ⟨a, b, ?_⟩
  rw [app_get1 (by simpa using hk), List.getElem?_set_ne hn, List.getElem?_set_self hk]
theorem Vw.get (v : Vw B k r st acc) (hr : r < B.length) : st[r]? = some (.lst acc) := by
  obtain ⟨a, b, j, rfl⟩ := v
  rw [app_get1 (by simpa using hr), List.getElem?_set_self (by simpa using hr)]
theorem Vw.setk {a b : Int} (v : Vw B k r st acc) (hk : k < B.length) (hn : r ≠ k) : Vw B k r (st.set k (potC a b)) acc := by
  obtain ⟨a', b', j, rfl⟩ := v
  exact ⟨a, b, j, by rw [app_set1 (by simpa using hk), List.set_comm _ _ hn, List.set_set]⟩
theorem Vw.setr (v : Vw B k r st acc) (hr : r < B.length) : Vw B k r (st.set r (.lst acc')) acc' := by
  obtain ⟨a, b, j, rfl⟩ := v
  exact ⟨a, b, j, by rw [app_set1 (by simpa using hr), List.set_set]⟩
theorem Vw.app {j : Store} (v : Vw B k r st acc) : Vw B k r (st ++ j) acc := by
  obtain ⟨a, b, i, rfl⟩ := v
  exact ⟨a, b, i ++ j, by rw [List.append_assoc]⟩
theorem Vw.other {i : Nat} {c : Cell} (v : Vw B k r st acc) (hi : B.length ≤ i) : Vw B k r (st.set i c) acc := by
  obtain ⟨a, b, j, rfl⟩ := v
  exact ⟨a, b, j.set (i - B.length) c, by rw [List.set_append_right _ _ (by simpa using hi)]; simp⟩
/-- a list within a list: what the inner loop leaves of the outer one -/
theorem Vw.outer {c : Cell} {st2 : Store} {accT : List T} (v : Vw B k r st acc) (w : Vw (st ++ [c]) k st.length st2 accT) (hk : k < B.length) (hn : r ≠ k) : Vw B k r st2 acc := by
  obtain ⟨a, b, j, rfl⟩ := w
  have hk' : k < st.length := Nat.lt_of_lt_of_le hk v.le
  have e : ((st ++ [c]).set k (potC a b)).set st.length (.lst accT) = st.set k (potC a b) ++ [.lst accT] := by
    rw [app_set1 hk']
    have : st.length = (st.set k (potC a b)).length := by simp
    rw [this]; exact app_set
  rw [e]
  exact ((v.setk hk hn).app).app
/-- the inner list, at its end: frozen -/
theorem Vw.inner {c : Cell} {st2 : Store} {accT : List T} (w : Vw (st ++ [c]) k st.length st2 accT) : emb st2 (.c st.length) = some (.lst accT, st2.set st.length (.frz (.lst accT))) := by
  have := w.get (by simp)
  simp only [emb, this, Cell.tree]
theorem Vw.trim {c : Cell} {s st2 : Store} (w : Vw (s ++ [c]) k s.length st2 acc) (hk : k < s.length) : ∃ a b, ∀ f, (st2.set s.length f).take s.length = s.set k (potC a b) := by
  obtain ⟨a, b, j, rfl⟩ := w
  refine ⟨a, b, fun f => ?_⟩
  have e : ((s ++ [c]).set k (potC a b)).set s.length (.lst acc) = s.set k (potC a b) ++ [.lst acc] := by
    rw [app_set1 hk]
    have : s.length = (s.set k (potC a b)).length := by simp
    rw [this]; exact app_set
  rw [e]
  have e2 : s.length = (s.set k (potC a b)).length := by simp
  rw [List.append_assoc]
  conv => lhs; rw [e2, List.set_append_right _ _ (Nat.le_refl _)]
  simp
theorem loopF_collect {src : Src} {g : E} {body : Loc → Store → Fl} {xs : List T} (LP : Loc → Prop) (P : T → Prop)
    (hat : ∀ i st, src.at st i = some xs[i]?)
    (step : ∀ i x loc st acc, xs[i]? = some x → LP loc → Vw B k r st acc → acc.length = i → (∀ y ∈ acc, P y) → ∃ l1, bindG g x loc = some l1 ∧ ∃ l2 st2 y, body l1 st = .nx l2 st2 ∧ LP l2 ∧ Vw B k r st2 (acc ++ [y]) ∧ P y)
    {loc : Loc} (hl : LP loc) (v : Vw B k r st []) : ∃ l2 st2 acc, loopF src g body (xs.length + 1) 0 loc st = .nx l2 st2 ∧ LP l2 ∧ Vw B k r st2 acc ∧ acc.length = xs.length ∧ ∀ y ∈ acc, P y := by
  obtain ⟨l2, s2, h, hl2, acc, hv, ha, hp⟩ := loopF_inv (src := src) (g := g) (body := body) (xs := xs) (fun i loc st => LP loc ∧ ∃ acc, Vw B k r st acc ∧ acc.length = i ∧ ∀ y ∈ acc, P y)
    (fun i loc s _ => hat i s) (fun i x loc s hx hI => by
      obtain ⟨h1, acc, h2, h3, h4⟩ := hI
      obtain ⟨l1, hb, l2, st2, y, e, q1, q2, q3⟩ := step i x loc s acc hx h1 h2 h3 h4
      refine ⟨l1, hb, l2, st2, .inl e, q1, acc ++ [y], q2, by simp [h3], fun z hz => ?_⟩
      rcases List.mem_append.mp hz with q | q
      · exact h4 z q
      · simp at q; subst q; exact q3)
    (xs.length + 1) 0 loc st (by omega) (Nat.zero_le _) ⟨hl, [], v, rfl, by simp⟩
  exact ⟨l2, s2, acc, h, hl2, hv, ha, hp⟩
end
theorem cell_at {o k : Nat} {loc : Loc} {s : Store} {xs : List T} (h1 : loc[o]? = some (some (.c k))) (h2 : s[k]? = some (.lst xs)) : cellAt o loc s = some k := by
  unfold cellAt; rw [h1]; simp only; rw [h2]
theorem app_to {k : Nat} {y : VV} {loc : Loc} {s s2 : Store} {t : T} {xs : List T} (h1 : emb s y = some (t, s2)) (h2 : s2[k]? = some (.lst xs)) (h3 : xs.length < sizeLine) : appTo k y loc s = .nx loc (s2.set k (.lst (xs ++ [t]))) := by
  unfold appTo; rw [h1]; simp only; rw [h2]; simp only [h3, if_true]
section
variable {D : Defs} {cf : CF} {rp : Store → T → Out Str} {a b c : E} {loc : Loc} {s : Store} {p q : Bool} {y : VV}
theorem ev_and_t (h1 : ev D cf rp a loc s = .ok (.t (.bl p)) s) (h2 : p = true → ev D cf rp b loc s = .ok (.t (.bl q)) s) : ev D cf rp (.and a b) loc s = .ok (.t (.bl (p && q))) s := by
  simp only [ev, h1, bind_ok, rd_t, Option.bind_some, tru_bl]
  cases p with
  | true => simp [h2 rfl]
  | false => rfl
theorem ev_or_t (h1 : ev D cf rp a loc s = .ok (.t (.bl p)) s) (h2 : p = false → ev D cf rp b loc s = .ok (.t (.bl q)) s) : ev D cf rp (.or a b) loc s = .ok (.t (.bl (p || q))) s := by
  simp only [ev, h1, bind_ok, rd_t, Option.bind_some, tru_bl]
  cases p with
  | true => rfl
  | false => simp [h2 rfl]
theorem ev_ite_t (h1 : ev D cf rp c loc s = .ok (.t (.bl p)) s) (h2 : (if p then ev D cf rp a loc s else ev D cf rp b loc s) = .ok y s) : ev D cf rp (.ite c a b) loc s = .ok y s := by
  simp only [ev, h1, bind_ok, rd_t, Option.bind_some, tru_bl]
  cases p <;> simpa using h2
theorem ev_not_t (h1 : ev D cf rp a loc s = .ok (.t (.bl p)) s) : ev D cf rp (.not a) loc s = .ok (.t (.bl (!p))) s := by
  simp only [ev, h1, bind_ok, rd_t, Option.bind_some, tru_bl]
end
theorem rng_len {m : Nat} : (rngL 0 m).length = m := by simp [rngL]
theorem rng_get {m i : Nat} {x : T} (h : (rngL 0 m)[i]? = some x) : x = .int (i : Int) := by
  unfold rngL at h
  rw [List.getElem?_map] at h
  simp only [Option.map_eq_some_iff] at h
  obtain ⟨j, hj, rfl⟩ := h
  have := (List.getElem?_eq_some_iff.mp hj)
  obtain ⟨h1, h2⟩ := this
  simp at h2
  simp [h2]
theorem pow62 : (2 : Int) ^ 62 = 4611686018427387904 := by decide
theorem rng_a {m : Nat} (hm : m < 1000) : (-(2 ^ 62) : Int) ≤ (m : Int) := by rw [pow62]; omega
theorem rng_b {m : Nat} (hm : m < 1000) : (m : Int) < 2 ^ 62 := by rw [pow62]; omega
theorem evI_rng {D : Defs} {cf : CF} {rp : Store → T → Out Str} {e : E} {loc : Loc} {s s1 : Store} {m : Nat} (h : ev D cf rp e loc s = .ok (.t (.int m)) s1) (hm : m < 1000) : evI D cf rp (.irng1 e) loc s = .ok (.rng 0 m) s1 := by
  unfold evI
  rw [h, bind_ok]
  show (if (decide (-(2 ^ 62) ≤ (m : Int)) && decide ((m : Int) < 2 ^ 62)) = true then Out.ok (Src.rng 0 m) s1 else .bad) = _
  rw [decide_eq_true (rng_a hm), decide_eq_true (rng_b hm)]
  rfl
end Tw
namespace Tw
open PySem L2
/-! ## tame values: small numbers, short texts, ratios, short lists of these -/
def leaf (x : T) : Prop := x = .non ∨ (∃ b, x = .bl b) ∨ (∃ i, x = .int i ∧ small i) ∨ (∃ z, x = .str z ∧ (reprText z).length ≤ 140) ∨ (∃ a b, x = ratT a b ∧ small a ∧ small b) ∨ x = .dct [] ∨ x = .dct [(.inl 0, .int 0)]
def tame : Nat → T → Prop
  | 0, x => leaf x
  | d + 1, x => leaf x ∨ (∃ xs, (x = .lst xs ∨ x = .tup xs) ∧ xs.length ≤ 40 ∧ ∀ y ∈ xs, tame d y)
theorem tame.leaf {d : Nat} {x : T} (h : leaf x) : tame d x := by cases d <;> first | exact h | exact .inl h
theorem tame.up : ∀ {d : Nat} {x : T}, tame d x → tame (d + 1) x
  | 0, x, h => .inl h
  | d + 1, x, .inl h => .inl h
  | d + 1, x, .inr ⟨xs, h1, h2, h3⟩ => .inr ⟨xs, h1, h2, fun y hy => (h3 y hy).up⟩
theorem tame.lst {d : Nat} {xs : List T} (hl : xs.length ≤ 40) (h : ∀ y ∈ xs, tame d y) : tame (d + 1) (.lst xs) := .inr ⟨xs, .inl rfl, hl, h⟩
theorem tame.tup {d : Nat} {xs : List T} (hl : xs.length ≤ 40) (h : ∀ y ∈ xs, tame d y) : tame (d + 1) (.tup xs) := .inr ⟨xs, .inr rfl, hl, h⟩
theorem tame_non {d : Nat} : tame d .non := .leaf (.inl rfl)
theorem tame_bl {d : Nat} {b : Bool} : tame d (.bl b) := .leaf (.inr (.inl ⟨b, rfl⟩))
theorem tame_int {d : Nat} {i : Int} (h : small i) : tame d (.int i) := .leaf (.inr (.inr (.inl ⟨i, rfl, h⟩)))
theorem tame_str {d : Nat} {z : Str} (h : (reprText z).length ≤ 140) : tame d (.str z) := .leaf (.inr (.inr (.inr (.inl ⟨z, rfl, h⟩))))
theorem tame_rat {d : Nat} {a b : Int} (h : small a) (h2 : small b) : tame d (ratT a b) := .leaf (.inr (.inr (.inr (.inr (.inl ⟨a, b, rfl, h, h2⟩)))))
theorem tame_d0 {d : Nat} : tame d (.dct []) := .leaf (.inr (.inr (.inr (.inr (.inr (.inl rfl))))))
theorem tame_d1 {d : Nat} : tame d (.dct [(.inl 0, .int 0)]) := .leaf (.inr (.inr (.inr (.inr (.inr (.inr rfl))))))
theorem small_of {i : Int} (h : i.natAbs < 1000000000) : small i := by unfold small; omega
theorem noSL_all : ∀ {xs : List T}, (∀ y ∈ xs, noS y = true) → noSL xs = true
  | [], _ => by unfold noSL; rfl
  | x :: xs, h => by
    unfold noSL
    rw [h x List.mem_cons_self, noSL_all fun y hy => h y (List.mem_cons_of_mem _ hy)]
    rfl
theorem leaf_noS {x : T} (h : leaf x) : noS x = true := by
  rcases h with rfl | ⟨b, rfl⟩ | ⟨i, rfl, _⟩ | ⟨z, rfl, _⟩ | ⟨a, b, rfl, _, _⟩ | rfl | rfl <;> simp [noS, ratT, ratF, noSF, noSD]
theorem tame_noS : ∀ {d : Nat} {x : T}, tame d x → noS x = true
  | 0, x, h => leaf_noS h
  | d + 1, x, .inl h => leaf_noS h
  | d + 1, x, .inr ⟨xs, h1, _, h3⟩ => by
    have := noSL_all fun y hy => tame_noS (h3 y hy)
    rcases h1 with rfl | rfl <;> (unfold noS; exact this)
theorem leaf_okT {D : Defs} (hc : D.cls 55 = true) {x : T} (h : leaf x) : okT D x = true ∧ itms x = [] := by
  rcases h with rfl | ⟨b, rfl⟩ | ⟨i, rfl, _⟩ | ⟨z, rfl, _⟩ | ⟨a, b, rfl, _, _⟩ | rfl | rfl <;> first | exact ⟨rfl, rfl⟩ | exact ⟨hc, rfl⟩
theorem tame_okT {D : Defs} (hc : D.cls 55 = true) : ∀ {d : Nat} {x : T}, tame d x → okT D x = true
  | 0, x, h => (leaf_okT hc h).1
  | d + 1, x, .inl h => (leaf_okT hc h).1
  | d + 1, x, .inr ⟨xs, h1, _, _⟩ => by rcases h1 with rfl | rfl <;> rfl
theorem leaf_okN {D : Defs} (hc : D.cls 55 = true) {x : T} (h : leaf x) : ∀ n, okN D n x
  | 0 => (leaf_okT hc h).1
  | n + 1 => ⟨(leaf_okT hc h).1, by rw [(leaf_okT hc h).2]; exact Nat.zero_le _, by rw [(leaf_okT hc h).2]; intro y hy; cases hy⟩
theorem tame_okN {D : Defs} (hc : D.cls 55 = true) : ∀ {d : Nat} {x : T} (n : Nat), tame d x → okN D n x
  | 0, x, n, h => leaf_okN hc h n
  | d + 1, x, n, .inl h => leaf_okN hc h n
  | d + 1, x, 0, h => tame_okT hc h
  | d + 1, x, n + 1, .inr ⟨xs, h1, h2, h3⟩ => by
    have hi : itms x = xs := by rcases h1 with rfl | rfl <;> rfl
    refine ⟨by rcases h1 with rfl | rfl <;> rfl, ?_, ?_⟩
    · rw [hi]; exact Nat.le_trans h2 (by decide)
    · rw [hi]; exact fun y hy => tame_okN hc n (h3 y hy)
section
variable {D : Defs} {cf : CF}
/-- the size of a tame value's text -/
def tsize : Nat → Nat
  | 0 => 140
  | d + 1 => (tsize d + 2) * 40 + 4
theorem tsize_ge : ∀ n, 140 ≤ tsize n
  | 0 => Nat.le_refl _
  | n + 1 => by have := tsize_ge n; unfold tsize; omega
theorem leaf_rpr (hr : D.rep 55 = some 353) (hcf : ∀ s a b, small a → small b → cf 353 [.t (ratT a b)] s = .ok (.t (.str (ratS a b))) s) {x : T} (h : leaf x) (s : Store) (d : Nat) : Rpr D cf s (d + 1) x 140 := by
  rcases h with rfl | ⟨b, rfl⟩ | ⟨i, rfl, hi⟩ | ⟨z, rfl, hz⟩ | ⟨a, b, rfl, ha, hb⟩ | rfl | rfl
  · exact rpr_non.mono (by decide)
  · exact rpr_bl.mono (by decide)
  · exact (rpr_int hi).mono (by decide)
  · exact rpr_str hz (by decide)
  · exact rpr_rat hr ha hb (hcf s a b ha hb)
  · exact ⟨dictText [], by unfold reprT reprP reprPd; exact fit_of (by decide +kernel), by decide +kernel⟩
  · refine ⟨dictText [Str.ofString "0: 0"], ?_, by decide +kernel⟩
    unfold reprT reprP
    have e1 : reprPd d [(Sum.inl 0, T.int 0)] = some [Str.ofString "0: 0"] := by
      have e0 : reprP d (.int 0) = some (Str.ofString "0") := by cases d <;> (unfold reprP; decide +kernel)
      have e2 : reprSc' (keyT (.inl 0)) = some (Str.ofString "0") := by decide +kernel
      unfold reprPd
      rw [e2, Option.bind_some, e0, Option.bind_some]
      unfold reprPd
      decide +kernel
    rw [e1, Option.bind_some]
    exact fit_of (by decide +kernel)
theorem tame_rpr (hr : D.rep 55 = some 353) (hcf : ∀ s a b, small a → small b → cf 353 [.t (ratT a b)] s = .ok (.t (.str (ratS a b))) s) (s : Store) :
    ∀ (d : Nat), d ≤ 3 → ∀ (x : T), tame d x → ∀ e, Rpr D cf s (d + e + 1) x (tsize d)
  | 0, _, x, h, e => (leaf_rpr hr hcf h s _).mono (by decide)
  | d + 1, hd, x, .inl h, e => (leaf_rpr hr hcf h s _).mono (tsize_ge (d + 1))
  | d + 1, hd, x, .inr ⟨xs, h1, h2, h3⟩, e => by
    have l := rprL_all (ts := xs) (fun y hy => tame_rpr hr hcf s d (by omega) y (h3 y hy) e)
    have hm : (tsize d + 2) * xs.length ≤ (tsize d + 2) * 40 := Nat.mul_le_mul_left _ h2
    have hs : (tsize d + 2) * 40 + 20 ≤ sizeLine := by
      have : d = 0 ∨ d = 1 ∨ d = 2 := by omega
      rcases this with rfl | rfl | rfl <;> decide
    have e1 : d + 1 + e + 1 = (d + e + 1) + 1 := by omega
    rw [e1]
    rcases h1 with rfl | rfl
    · exact (rpr_lst l (by omega)).mono (show _ ≤ (tsize d + 2) * 40 + 4 by omega)
    · exact (rpr_tup l (by omega)).mono (show _ ≤ (tsize d + 2) * 40 + 4 by omega)
end
end Tw
namespace Tw
open PySem L2
/-! ## draws: lemmas for the texts that draw.py prints -/
section
variable {D : Defs} {cf : CF} {s : Store} {i j : Int}
theorem bin_mulr (h : j.natAbs.log2 < 60) : binV D cf .Mult (.t (.int i)) (.t (.int j)) s = .ok (.t (.int (i * j))) s := bin_mul (mulOk_r h)
theorem bin_mull (h : i.natAbs.log2 < 60) : binV D cf .Mult (.t (.int i)) (.t (.int j)) s = .ok (.t (.int (i * j))) s := bin_mul (mulOk_l h)
theorem sum_ints : ∀ ns : List Int, bltP .sum [.lst (ns.map T.int)] = some (.int ns.sum) := fun ns => sumI_eq ns
theorem cut_map (ns : List Int) (lo hi : Option Int) : ∃ ms : List Int, cutT (ns.map T.int) lo hi = ms.map T.int := by
  unfold cutT
  rw [← List.map_drop, ← List.map_take]
  exact ⟨_, rfl⟩
theorem sum_cut (ns : List Int) (lo hi : Option Int) : ∃ z : Int, bltP .sum [.lst (cutT (ns.map T.int) lo hi)] = some (.int z) := by
  obtain ⟨ms, h⟩ := cut_map ns lo hi
  exact ⟨_, by rw [h]; exact sum_ints ms⟩
theorem endC_rtp {x y : Int} : endC s (.rt (.c s.length) (s ++ [.lst [.int x, .int y]])) = .ok (.c s.length) (s ++ [potC x y]) := endC_rtc (by intro x h; cases h)
theorem cube_log {y : Int} (h : y.natAbs < 4000) : (y ^ (3 : Int).toNat).natAbs.log2 < 60 := by
  show (y ^ 3).natAbs.log2 < 60
  rw [Int.natAbs_pow]
  have h1 : y.natAbs ^ 3 ≤ 4000 ^ 3 := Nat.pow_le_pow_left (by omega) 3
  by_cases hz : y.natAbs ^ 3 = 0
  · rw [hz]; decide
  · exact (Nat.log2_lt hz).mpr (Nat.lt_of_le_of_lt h1 (by decide))
theorem bin_cube {y : Int} (h : y.natAbs < 4000) : binV D cf .Mult (.t (.int i)) (.t (.int (y ^ (3 : Int).toNat))) s = .ok (.t (.int (i * y ^ (3 : Int).toNat))) s := bin_mulr (cube_log h)
theorem p18 : (10 : Int) ^ (18 : Int).toNat = 10 ^ 18 := rfl
theorem slV_scr {ns : List Int} {a b : Option Int} : slV (.t (.scr ns)) a b s = .ok (.t (.lst (cutT (ns.map T.int) a b))) s := rfl
theorem slV_lt {xs : List T} {a b : Option Int} : slV (.t (.lst xs)) a b s = .ok (.t (.lst (cutT xs a b))) s := rfl
theorem slV_tt {xs : List T} {a b : Option Int} : slV (.t (.tup xs)) a b s = .ok (.t (.tup (cutT xs a b))) s := rfl
theorem optI_i : optI s (.t (.int i)) = .ok (some i) s := rfl
end
theorem evS_seq {D : Defs} {cf : CF} {rq : Store → T → Out Str} {fw : Nat} {a b : S} {loc : Loc} {s : Store} : evS D cf rq fw (.seq a b) loc s = (evS D cf rq fw a loc s).seq fun l1 s1 => evS D cf rq fw b l1 s1 := by rw [evS]
theorem cut_drop {xs : List T} {j : Nat} (h : j ≤ xs.length) : cutT xs (some (j : Int)) none = xs.drop j := by
  unfold cutT
  rw [HT.sIx_nat, HT.sIx_none, Nat.min_eq_left h, List.take_of_length_le (by rw [List.length_drop]; omega)]
theorem cut_take {xs : List T} {j : Nat} (h : j ≤ xs.length) : cutT xs none (some (j : Int)) = xs.take j := by
  unfold cutT
  rw [HT.sIx_nat, HT.sIx_none, Nat.min_eq_left h, List.drop_zero, Nat.sub_zero]
theorem cut_mid {xs : List T} {i j : Nat} (h : i ≤ j) (h' : j ≤ xs.length) : cutT xs (some (i : Int)) (some (j : Int)) = (xs.drop i).take (j - i) := by
  unfold cutT
  rw [HT.sIx_nat, HT.sIx_nat, Nat.min_eq_left h', Nat.min_eq_left (by omega)]
/-! ## stores, but for pots and what has been put behind -/
/-- s holds S but for the pots ks; its own lists A -/
structure Sat (S : Store) (ks : List Nat) (A : List (Nat × List T)) (s : Store) : Prop where
  le : S.length ≤ s.length
  old : ∀ i, i < S.length → i ∉ ks → s[i]? = S[i]?
  pot : ∀ k ∈ ks, k < S.length ∧ PotAt s k
  own : ∀ p ∈ A, S.length ≤ p.1 ∧ s[p.1]? = some (.lst p.2)
  nd : (A.map Prod.fst).Nodup
/-- .. and nothing behind -/
structure Same (ks : List Nat) (S s : Store) : Prop where
  len : s.length = S.length
  old : ∀ i, i ∉ ks → s[i]? = S[i]?
  pot : ∀ k ∈ ks, PotAt s k
abbrev Ext (ks : List Nat) (S s : Store) : Prop := Sat S ks [] s
section
variable {S s s' : Store} {ks : List Nat} {A A' : List (Nat × List T)} {k r : Nat} {xs ys : List T} {c : Cell}
theorem Sat.start (h : ∀ k ∈ ks, PotAt s k) : Ext ks s s := ⟨Nat.le_refl _, fun _ _ _ => rfl, fun k hk => ⟨(h k hk).lt, h k hk⟩, by simp, by simp⟩
theorem Sat.start1 (h : PotAt s k) : Ext [k] s s := Sat.start (by simpa using h)
theorem Sat.start0 : Ext [] s s := Sat.start (by simp)
theorem Sat.ltA (h : Sat S ks A s) {p : Nat × List T} (hp : p ∈ A) : p.1 < s.length := (List.getElem?_eq_some_iff.mp (h.own p hp).2).1
theorem Sat.ext (h : Sat S ks A s) : Ext ks S s := ⟨h.le, h.old, h.pot, by simp, by simp⟩
theorem Sat.get (h : Sat S ks ((r, xs) :: A) s) : s[r]? = some (.lst xs) := (h.own _ List.mem_cons_self).2
theorem Sat.new (h : Sat S ks A s) : Sat S ks ((s.length, xs) :: A) (s ++ [.lst xs]) := by
  refine ⟨by have := h.le; simp; omega, fun i hi hk => ?_, fun k hk => ⟨(h.pot k hk).1, (h.pot k hk).2.app⟩, fun p hp => ?_, ?_⟩
  · rw [app_get1 (by have := h.le; omega)]; exact h.old i hi hk
  · rcases List.mem_cons.mp hp with rfl | q
    · exact ⟨h.le, app_get⟩
    · have := h.own p q
      exact ⟨this.1, by rw [app_get1 (h.ltA q)]; exact this.2⟩
  · rw [List.map_cons, List.nodup_cons]
    refine ⟨fun hm => ?_, h.nd⟩
    obtain ⟨p, hp, e⟩ := List.mem_map.mp hm
    have := h.ltA hp
    omega
theorem Sat.garb {j : Store} (h : Sat S ks A s) : Sat S ks A (s ++ j) := by
  refine ⟨by have := h.le; simp; omega, fun i hi hk => ?_, fun k hk => ⟨(h.pot k hk).1, (h.pot k hk).2.app⟩, fun p hp => ?_, h.nd⟩
  · rw [app_get1 (by have := h.le; omega)]; exact h.old i hi hk
  · exact ⟨(h.own p hp).1, by rw [app_get1 (h.ltA hp)]; exact (h.own p hp).2⟩
theorem Sat.sub (h : Sat S ks A s) (hs : List.Sublist A' A) : Sat S ks A' s := ⟨h.le, h.old, h.pot, fun p hp => h.own p (hs.subset hp), (hs.map _).nodup h.nd⟩
theorem Sat.drop (h : Sat S ks ((r, xs) :: A) s) : Sat S ks A s := h.sub (List.sublist_cons_self _ _)
theorem Sat.swap {p q : Nat × List T} (h : Sat S ks (p :: q :: A) s) : Sat S ks (q :: p :: A) s := ⟨h.le, h.old, h.pot, fun x hx => h.own x (by simp only [List.mem_cons] at hx ⊢; rcases hx with a | a | a <;> simp [a]), (List.Perm.swap q p A |>.map Prod.fst |>.nodup_iff).mp h.nd⟩
/-- what is behind may change -/
theorem Sat.other (h : Sat S ks A s) (hi : S.length ≤ k) (hn : k ∉ A.map Prod.fst) : Sat S ks A (s.set k c) := by
  refine ⟨by simpa using h.le, fun i hi' hk => ?_, fun j hj => ⟨(h.pot j hj).1, (h.pot j hj).2.put (by have := (h.pot j hj).1; omega)⟩, fun p hp => ⟨(h.own p hp).1, ?_⟩, h.nd⟩
  · rw [List.getElem?_set_ne (by omega)]; exact h.old i hi' hk
  · rw [List.getElem?_set_ne (show k ≠ p.1 from fun e => hn (by rw [e]; exact List.mem_map_of_mem hp))]; exact (h.own p hp).2
theorem Sat.putr (h : Sat S ks ((r, xs) :: A) s) : Sat S ks ((r, ys) :: A) (s.set r (.lst ys)) := by
  have h0 := h.own _ List.mem_cons_self
  have hn : r ∉ A.map Prod.fst := by have := h.nd; rw [List.map_cons, List.nodup_cons] at this; exact this.1
  have hd := h.drop.other (c := .lst ys) h0.1 hn
  refine ⟨hd.le, hd.old, hd.pot, fun p hp => ?_, ?_⟩
  · rcases List.mem_cons.mp hp with rfl | q
    · exact ⟨h0.1, List.getElem?_set_self (h.ltA List.mem_cons_self)⟩
    · exact hd.own p q
  · rw [List.map_cons, List.nodup_cons]; exact ⟨hn, hd.nd⟩
/-- .. frozen: the list is no longer its own -/
theorem Sat.frz (h : Sat S ks ((r, xs) :: A) s) : emb s (.c r) = some (.lst xs, s.set r (.frz (.lst xs))) ∧ Sat S ks A (s.set r (.frz (.lst xs))) := by
  have h0 := h.own _ List.mem_cons_self
  have hn : r ∉ A.map Prod.fst := by have := h.nd; rw [List.map_cons, List.nodup_cons] at this; exact this.1
  refine ⟨?_, h.drop.other h0.1 hn⟩
  simp only [emb, h0.2, Cell.tree]
theorem Sat.rd (h : Sat S ks ((r, xs) :: A) s) : rd s (.c r) = some (.lst xs) := by rw [rd_c' h.get]; rfl
theorem Sat.take (h : Sat S ks A s) : Same ks S (s.take S.length) := by
  refine ⟨by have := h.le; simp; omega, fun i hk => ?_, fun k hk => ?_⟩
  · by_cases hi : i < S.length
    · rw [List.getElem?_take_of_lt hi]; exact h.old i hi hk
    · rw [List.getElem?_eq_none (by simp; omega), List.getElem?_eq_none (by omega)]
  · obtain ⟨hl, a, b, e⟩ := h.pot k hk
    exact ⟨a, b, by rw [List.getElem?_take_of_lt hl]; exact e⟩
theorem Same.ext (h : Same ks S s) (hk : ∀ k ∈ ks, k < S.length) : Ext ks S s := ⟨by have := h.len; omega, fun i _ hi => h.old i hi, fun k q => ⟨hk k q, h.pot k q⟩, by simp, by simp⟩
theorem Same.eq (h : Same [] S s) : s = S := List.ext_getElem? fun i => h.old i (by simp)
theorem Same.set1 (h : Same [k] S s) : ∃ a b, s = S.set k (potC a b) := by
  obtain ⟨a, b, e⟩ := h.pot k List.mem_cons_self
  refine ⟨a, b, List.ext_getElem? fun i => ?_⟩
  by_cases hi : i = k
  · subst hi
    rw [e, List.getElem?_set_self (by have := (List.getElem?_eq_some_iff.mp e).1; have := h.len; omega)]
  · rw [List.getElem?_set_ne (Ne.symm hi)]; exact h.old i (by simpa using hi)
theorem Same.of_set {a b : Int} (h : PotAt S k) : Same [k] S (S.set k (potC a b)) := ⟨by simp, fun i hi => List.getElem?_set_ne (by simp at hi; omega), fun j hj => by simp at hj; subst hj; exact PotAt.set h.lt⟩
/-- one store behind another -/
theorem Sat.trans (h : Sat S ks A s) (h2 : Ext ks s s') : Sat S ks A s' := by
  refine ⟨by have := h.le; have := h2.le; omega, fun i hi hk => ?_, fun k hk => ⟨(h.pot k hk).1, (h2.pot k hk).2⟩, fun p hp => ⟨(h.own p hp).1, ?_⟩, h.nd⟩
  · rw [h2.old i (by have := h.le; omega) hk]; exact h.old i hi hk
  · rw [h2.old p.1 (h.ltA hp) (fun q => by have := (h.pot _ q).1; have := (h.own p hp).1; omega)]; exact (h.own p hp).2
theorem Sat.same (h : Sat S ks A s) (h2 : Same ks s s') : Sat S ks A s' := h.trans (h2.ext fun k hk => by have := (h.pot k hk).1; have := h.le; omega)
theorem Sat.pots (h : Sat S ks A s) : ∀ k ∈ ks, PotAt s k := fun k hk => (h.pot k hk).2
theorem Sat.pot1 (h : Sat S [k] A s) : PotAt s k := h.pots k List.mem_cons_self
theorem Sat.takeN {n : Nat} (h : Sat S ks A s) (h1 : S.length ≤ n) (h2 : n ≤ s.length) (h3 : ∀ p ∈ A, p.1 < n) : Sat S ks A (s.take n) := by
  refine ⟨by simp; omega, fun i hi hk => ?_, fun k hk => ⟨(h.pot k hk).1, ?_⟩, fun p hp => ⟨(h.own p hp).1, ?_⟩, h.nd⟩
  · rw [List.getElem?_take_of_lt (by omega)]; exact h.old i hi hk
  · obtain ⟨hl, a, b, e⟩ := h.pot k hk
    exact ⟨a, b, by rw [List.getElem?_take_of_lt (by omega)]; exact e⟩
  · rw [List.getElem?_take_of_lt (h3 p hp)]; exact (h.own p hp).2
/-- a call's end -/
theorem Sat.ret {x : T} (h : Sat S ks A s) : ∃ s', endC S (.rt (.t x) s) = .ok (.t x) s' ∧ Same ks S s' := ⟨_, endC_rt' rfl, h.take⟩
theorem Sat.ret0 {x : T} (h : Sat S [] A s) : endC S (.rt (.t x) s) = .ok (.t x) S := by
  obtain ⟨s', h1, h2⟩ := h.ret (x := x)
  rw [h1, h2.eq]
theorem Sat.ret1 {x : T} (h : Sat S [k] A s) : ∃ a b, endC S (.rt (.t x) s) = .ok (.t x) (S.set k (potC a b)) := by
  obtain ⟨s', h1, h2⟩ := h.ret (x := x)
  obtain ⟨a, b, rfl⟩ := h2.set1
  exact ⟨a, b, h1⟩
/-- .. of a list of its own -/
theorem Sat.retc (h : Sat S ks ((r, xs) :: A) s) : ∃ s', (match emb s (.c r) with | some (t, s2) => endC S (.rt (.t t) s2) | none => .bad) = .ok (.t (.lst xs)) s' ∧ Same ks S s' := by
  obtain ⟨e, h2⟩ := h.frz
  rw [e]
  exact h2.ret
end
/-- a def that draws from the pot k -/
def PotFn (cf : CF) (f : Nat) (args : List T) (P : T → Prop) : Prop := ∀ (s : Store) (k : Nat), PotAt s k → ∃ t s', cf f (.c k :: args.map VV.t) s = .ok (.t t) s' ∧ Same [k] s s' ∧ P t
theorem Draws.fn {cf : CF} {f : Nat} (h : Draws cf f) {m : Int} (h0 : 0 < m) (h1 : m < 1073741824) : PotFn cf f [.int m] (fun t => ∃ d : Nat, t = .int d ∧ (d : Int) < m) := fun s k hp => by
  obtain ⟨d, a, b, d0, d1, e⟩ := h s k m hp h0 h1
  obtain ⟨j, rfl⟩ : ∃ j : Nat, d = (j : Int) := ⟨d.toNat, by omega⟩
  exact ⟨_, _, e, Same.of_set hp, j, rfl, d1⟩
theorem Picks.fn {cf : CF} {f : Nat} (h : Picks cf f) {xs : List T} (h0 : 0 < xs.length) (h1 : xs.length < 1073741824) : PotFn cf f [.lst xs] (fun t => t ∈ xs) := fun s k hp => by
  obtain ⟨t, a, b, d0, e⟩ := h s k xs hp h0 h1
  exact ⟨_, _, e, Same.of_set hp, d0⟩
/-! ### comprehensions whose elements draw -/
inductive All2 {α β : Type} (R : α → β → Prop) : List α → List β → Prop where
  | nil : All2 R [] []
  | cons {a : α} {b : β} {as : List α} {bs : List β} : R a b → All2 R as bs → All2 R (a :: as) (b :: bs)
theorem All2.length_eq {α β : Type} {R : α → β → Prop} : ∀ {xs : List α} {ys : List β}, All2 R xs ys → xs.length = ys.length
  | _, _, .nil => rfl
  | _, _, .cons _ h => by simp [h.length_eq]
theorem forall2_append {α β : Type} {R : α → β → Prop} : ∀ {xs : List α} {ys : List β} {xs' ys'}, All2 R xs ys → All2 R xs' ys' → All2 R (xs ++ xs') (ys ++ ys')
  | _, _, _, _, .nil, h => h
  | _, _, _, _, .cons a b, h => .cons a (forall2_append b h)
section
variable {D : Defs} {cf : CF} {rp : Store → T → Out Str} {loc : Loc} {s s1 : Store} {ks : List Nat}
theorem lc_draw {own : List Nat} {g it e : E} {src : Src} {xs : List T} (R : T → T → Prop) (h1 : evI D cf rp it loc s = .ok src s1) (hs : Ext ks s s1)
    (hat : ∀ s', Ext ks s1 s' → ∀ i, src.at s' i = some xs[i]?) (hm : src.most s1 = xs.length + 1) (hz : xs.length ≤ sizeLine)
    (h : ∀ x ∈ xs, ∀ s', Ext ks s1 s' → ∃ l1, bindG g x (wipeL loc own) = some l1 ∧ ∃ t s2, ev D cf rp e l1 s' = .ok (.t t) s2 ∧ Ext ks s' s2 ∧ R x t) :
    ∃ ys s2, ev D cf rp (.lc false own g it .omit e) loc s = .ok (.t (.lst ys)) s2 ∧ Ext ks s s2 ∧ All2 R xs ys := by
  have h0 : Ext ks s1 s1 := Sat.start hs.pots
  obtain ⟨acc, s2, h2, hS, hF⟩ := loopC_gen (src := src) (g := g) (cond := fun l s => if E.omit.isOmit then .ok true s else (ev D cf rp E.omit l s).bind fun y s1 => ofO s1 ((rd s1 y).bind tru)) (elt := ev D cf rp e) (lw := wipeL loc own) (n0 := s1.length) (xs := xs)
    (fun i acc st => Sat s1 ks [(s1.length, acc)] st ∧ All2 R (xs.take i) acc) hz (fun i acc st hI => by have := hI.2.length_eq; simp at this; omega)
    (fun i acc st hI => hat st hI.1.ext i)
    (fun i x acc st hx hI => by
      obtain ⟨hS, hF⟩ := hI
      obtain ⟨l1, hb, t, s2, e1, e2, e3⟩ := h x (List.mem_of_getElem? hx) st hS.ext
      have hS2 := hS.trans e2
      refine ⟨l1, hb, .inr ⟨st, .t t, s2, t, s2, rfl, e1, rfl, hS2.get, hS2.putr, ?_⟩⟩
      rw [List.take_add_one, hx]
      exact forall2_append hF (.cons e3 .nil))
    (xs.length + 1) 0 [] (s1 ++ [.lst []]) (by omega) (Nat.zero_le _) ⟨h0.new, .nil⟩
  rw [List.take_length] at hF
  refine ⟨acc, s2.take s1.length, ev_lc_gen h1 (by rw [hm]; exact h2) hS.get, hs.trans ?_, hF⟩
  exact hS.ext.takeN (Nat.le_refl _) hS.le (by simp)
end
theorem rng_mem {m : Nat} {x : T} (h : x ∈ rngL 0 m) : ∃ i : Nat, i < m ∧ x = .int i := by
  obtain ⟨i, hi⟩ := List.mem_iff_getElem?.mp h
  have := (List.getElem?_eq_some_iff.mp hi).1
  rw [rng_len] at this
  exact ⟨i, this, rng_get hi⟩
/-- a loop that appends one item a turn to a list of its own -/
theorem loopF_fill {S B : Store} {ks : List Nat} {A : List (Nat × List T)} {r : Nat} {src : Src} {g : E} {body : Loc → Store → Fl} {xs : List T} (LP : Loc → Prop) (R : T → T → Prop)
    (hat : ∀ A' st, Sat S ks A' st → ∀ i, src.at st i = some xs[i]?)
    (step : ∀ i x loc st acc, xs[i]? = some x → LP loc → Sat S ks ((r, acc) :: A) st → acc.length = i → ∃ l1, bindG g x loc = some l1 ∧ ∃ l2 st2 y, body l1 st = .nx l2 st2 ∧ LP l2 ∧ Sat S ks ((r, acc ++ [y]) :: A) st2 ∧ R x y)
    {loc : Loc} (hl : LP loc) (v : Sat S ks ((r, []) :: A) B) : ∃ l2 st2 acc, loopF src g body (xs.length + 1) 0 loc B = .nx l2 st2 ∧ LP l2 ∧ Sat S ks ((r, acc) :: A) st2 ∧ All2 R xs acc := by
  obtain ⟨l2, s2, h, hl2, acc, hv, hF⟩ := loopF_inv (src := src) (g := g) (body := body) (xs := xs) (fun i loc st => LP loc ∧ ∃ acc, Sat S ks ((r, acc) :: A) st ∧ All2 R (xs.take i) acc)
    (fun i loc st hI => by obtain ⟨_, acc, h, _⟩ := hI; exact hat _ st h i) (fun i x loc st hx hI => by
      obtain ⟨h1, acc, h2, h3⟩ := hI
      have hi := (List.getElem?_eq_some_iff.mp hx).1
      obtain ⟨l1, hb, l2, st2, y, e, q1, q2, q3⟩ := step i x loc st acc hx h1 h2 (by have := h3.length_eq; simp at this; omega)
      refine ⟨l1, hb, l2, st2, .inl e, q1, acc ++ [y], q2, ?_⟩
      rw [List.take_add_one, hx]
      exact forall2_append h3 (.cons q3 .nil))
    (xs.length + 1) 0 loc B (by omega) (Nat.zero_le _) ⟨hl, [], v, .nil⟩
  rw [List.take_length] at hF
  exact ⟨l2, s2, acc, h, hl2, hv, hF⟩
theorem forall2_mem {α β : Type} {R : α → β → Prop} : ∀ {xs : List α} {ys : List β}, All2 R xs ys → ∀ y ∈ ys, ∃ x ∈ xs, R x y
  | _, _, .nil, y, h => by cases h
  | _, _, .cons a b, y, h => by
    rcases List.mem_cons.mp h with rfl | q
    · exact ⟨_, List.mem_cons_self, a⟩
    · obtain ⟨x, hx, r⟩ := forall2_mem b y q
      exact ⟨x, List.mem_cons_of_mem _ hx, r⟩
/-- lists whose items come of something -/
theorem mem_map_of {α : Type} {f : α → T} : ∀ {ys : List T}, (∀ y ∈ ys, ∃ a, y = f a) → ∃ as : List α, ys = as.map f
  | [], _ => ⟨[], rfl⟩
  | y :: ys, h => by
    obtain ⟨a, rfl⟩ := h y List.mem_cons_self
    obtain ⟨as, rfl⟩ := mem_map_of (ys := ys) fun z hz => h z (List.mem_cons_of_mem _ hz)
    exact ⟨a :: as, rfl⟩
end Tw
set_option maxHeartbeats 4000000
namespace Tw
open PySem L2
section
variable {rp : CF → Store → T → Out Str} {fw n : Nat} {s : Store}
theorem pot_ok {ns : List Int} {k : Int} (h0 : 0 ≤ k) (hk9 : k < 1000) : ∃ a b, callN (PT.D true) rp fw (n + 1) 1001 [.t (.scr ns), .t (.int k)] s = .ok (.c s.length) (s ++ [potC a b]) := by
  rw [go_L_pot]
  have w3 : ∀ c : Int, 0 ≤ c → c < 1000 → (2 * k + c).natAbs < 2 ^ 64 := fun c h h' => by
    have : (2 * k + c).natAbs < 4000 := by omega
    exact Nat.lt_trans this (by decide)
  have p5 := fun (st : Store) (cf : CF) => bin_pow (D := (PT.D true)) (cf := cf) (s := st) (i := 2 * k + 5) (j := 3) (by decide) (by decide) (w3 5 (by decide) (by decide))
  have m5 := fun (st : Store) (cf : CF) (i : Int) => bin_cube (D := (PT.D true)) (cf := cf) (s := st) (i := i) (y := 2 * k + 5) (by omega)
  have lk : k.natAbs.log2 < 60 := log_lt h0 (by omega)
  have p1 := fun (st : Store) (cf : CF) => bin_pow (D := (PT.D true)) (cf := cf) (s := st) (i := 10) (j := 18) (by decide) (by decide) (by decide)
  obtain ⟨z, hz⟩ := sum_cut ns none (some 1)
  by_cases hk : k < (ns.length : Int)
  · obtain ⟨j, rfl⟩ : ∃ j : Nat, k = (j : Int) := ⟨k.toNat, by omega⟩
    have hj : j < ns.length := by omega
    have ha : atI ns (j : Int) = some ns[j] := atI_nat (List.getElem?_eq_getElem hj)
    refine ⟨?a, ?b, ?c⟩; case c =>
    unfold S_L_pot
    simp (decide := true) only [evS, ev, evs, evF, evI, put, putL, bindV, bind_ok, toFl_ok, seq_nx, seq_rt, putFl_ok, rd_t, emb_t, ofO_some, ofT_some, noex_ok, E.isOmit, List.map_cons, List.map_nil, List.replicate, List.cons_append, List.nil_append, List.length_cons, List.length_nil, List.set_cons_zero, List.set_cons_succ, List.getElem?_cons_zero, List.getElem?_cons_succ, Bool.false_eq_true, if_true, if_false, reduceIte, Nat.reduceAdd, Nat.reduceSub, Nat.reduceLT, Nat.reduceLeDiff, Nat.lt_irrefl, evT, bin_add, bin_sub, mthOk_ins, attV_ins, cmpP_lt, cmpP_le, cmpP_gt, cmpP_ge, cmp_lt, cmp_le, cmp_gt, cmp_ge, cmp_eqi, cmp_eqs, cmp_eqb, cmp_nei, cmp_nes, cmp_neb, cmp_isn, cmp_nin, cmp_isb, cmp_nib, tru_bl, tru_int, isNon_lst, isNon_non, item_l, item_t, blt_lenl, blt_lent, blt_lend, blt_all, blt_any, mapM_t1, mapM_t2, embLM_t0, embLM_t1, embLM_t2, embLM_t3, Option.bind_some, Option.map_some, Bool.not_true, Bool.not_false, endC_rt, endC_nx, decide_eq_true_eq, List.mapM_nil, slV_scr, optI_i, hz, blt_lens, hk, decide_true, item_s, ha, blt_abs, p1, p18, p5, m5, blt_max, blt_int, bin_mod, bin_mulr, bin_mull, sizeL]
    exact endC_rtp
  · refine ⟨?a2, ?b2, ?c2⟩; case c2 =>
    unfold S_L_pot
    simp (decide := true) only [evS, ev, evs, evF, evI, put, putL, bindV, bind_ok, toFl_ok, seq_nx, seq_rt, putFl_ok, rd_t, emb_t, ofO_some, ofT_some, noex_ok, E.isOmit, List.map_cons, List.map_nil, List.replicate, List.cons_append, List.nil_append, List.length_cons, List.length_nil, List.set_cons_zero, List.set_cons_succ, List.getElem?_cons_zero, List.getElem?_cons_succ, Bool.false_eq_true, if_true, if_false, reduceIte, Nat.reduceAdd, Nat.reduceSub, Nat.reduceLT, Nat.reduceLeDiff, Nat.lt_irrefl, evT, bin_add, bin_sub, mthOk_ins, attV_ins, cmpP_lt, cmpP_le, cmpP_gt, cmpP_ge, cmp_lt, cmp_le, cmp_gt, cmp_ge, cmp_eqi, cmp_eqs, cmp_eqb, cmp_nei, cmp_nes, cmp_neb, cmp_isn, cmp_nin, cmp_isb, cmp_nib, tru_bl, tru_int, isNon_lst, isNon_non, item_l, item_t, blt_lenl, blt_lent, blt_lend, blt_all, blt_any, mapM_t1, mapM_t2, embLM_t0, embLM_t1, embLM_t2, embLM_t3, Option.bind_some, Option.map_some, Bool.not_true, Bool.not_false, endC_rt, endC_nx, decide_eq_true_eq, List.mapM_nil, slV_scr, optI_i, hz, blt_lens, hk, decide_false, blt_abs, p1, p18, p5, m5, blt_max, blt_int, bin_mod, bin_mulr, bin_mull, sizeL]
    exact endC_rtp
theorem draw_ok : Draws (callN (PT.D true) rp fw (n + 1)) 1002 := by
  intro s k m hp hm hm2
  have hk := hp.lt
  obtain ⟨a, b, hp⟩ := hp
  have r0 : rd s (.c k) = some (.lst [.int a, .int b]) := by rw [rd_c' hp]; rfl
  have i0 : itemP (.lst [.int a, .int b]) (.int 0) = some (.int a) := by rw [item_l]; exact atI_0
  have i1 : itemP (.lst [.int a, .int b]) (.int 1) = some (.int b) := by rw [item_l]; exact atI_1
  rw [go_L_draw]
  by_cases ha : 0 < a
  · refine ⟨a % m, a / m, b, Int.emod_nonneg _ (by omega), Int.emod_lt_of_pos _ hm, ?_⟩
    simp only [S_L_draw, evS, ev, evs, evF, evI, put, putL, bindV, bind_ok, toFl_ok, seq_nx, seq_rt, putFl_ok, rd_t, emb_t, ofO_some, ofT_some, noex_ok, E.isOmit, List.map_cons, List.map_nil, List.replicate, List.cons_append, List.nil_append, List.length_cons, List.length_nil, List.set_cons_zero, List.set_cons_succ, List.getElem?_cons_zero, List.getElem?_cons_succ, Bool.false_eq_true, if_true, if_false, reduceIte, Nat.reduceAdd, Nat.reduceSub, Nat.reduceLT, Nat.reduceLeDiff, Nat.lt_irrefl, evT, bin_add, bin_sub, mthOk_ins, attV_ins, cmpP_lt, cmpP_le, cmpP_gt, cmpP_ge, cmp_lt, cmp_le, cmp_gt, cmp_ge, cmp_eqi, cmp_eqs, cmp_eqb, cmp_nei, cmp_nes, cmp_neb, cmp_isn, cmp_nin, cmp_isb, cmp_nib, tru_bl, tru_int, isNon_lst, isNon_non, item_l, item_t, blt_lenl, blt_lent, blt_lend, blt_all, blt_any, mapM_t1, mapM_t2, embLM_t0, embLM_t1, embLM_t2, embLM_t3, Option.bind_some, Option.map_some, Bool.not_true, Bool.not_false, endC_rt, endC_nx, decide_eq_true_eq, List.mapM_nil, r0, i0, ha, decide_true, blt_dm hm hm2, items, alen, setIx, hp, ixN_0]
    simp [setIx, hp, ixN_0, endC, fin, set_take, rd, put, putL, putFl, bind_ok, toFl_ok, emb, seq_rt, seq_nx, evS, ev]
  · have n5 : m ≠ 0 := by omega
    refine ⟨((((b * 48271 + 18539).fmod 2147483587 * (b * 48271 + 18539).fmod 2147483587).fmod 2147483549).fdiv 13).fmod m, a, (b * 48271 + 18539).fmod 2147483587, fmod_nn hm, fmod_lt hm, ?_⟩
    generalize hc : (b * 48271 + 18539).fmod 2147483587 = c
    have c0 : 0 ≤ c := by rw [← hc]; exact fmod_nn (by decide)
    have c1 : c < 2147483587 := by rw [← hc]; exact fmod_lt (by decide)
    have m2 : mulOk c c = true := mulOk_r (log_lt c0 (by omega))
    have r1 : rd (s.set k (potC a c)) (.c k) = some (.lst [.int a, .int c]) := by rw [rd_c' (List.getElem?_set_self hk)]; rfl
    have j1 : itemP (.lst [.int a, .int c]) (.int 1) = some (.int c) := by rw [item_l]; exact atI_1
    simp (decide := true) only [S_L_draw, evS, ev, evs, evF, evI, put, putL, bindV, bind_ok, toFl_ok, seq_nx, seq_rt, putFl_ok, rd_t, emb_t, ofO_some, ofT_some, noex_ok, E.isOmit, List.map_cons, List.map_nil, List.replicate, List.cons_append, List.nil_append, List.length_cons, List.length_nil, List.set_cons_zero, List.set_cons_succ, List.getElem?_cons_zero, List.getElem?_cons_succ, Bool.false_eq_true, if_true, if_false, reduceIte, Nat.reduceAdd, Nat.reduceSub, Nat.reduceLT, Nat.reduceLeDiff, Nat.lt_irrefl, evT, bin_add, bin_sub, mthOk_ins, attV_ins, cmpP_lt, cmpP_le, cmpP_gt, cmpP_ge, cmp_lt, cmp_le, cmp_gt, cmp_ge, cmp_eqi, cmp_eqs, cmp_eqb, cmp_nei, cmp_nes, cmp_neb, cmp_isn, cmp_nin, cmp_isb, cmp_nib, tru_bl, tru_int, isNon_lst, isNon_non, item_l, item_t, blt_lenl, blt_lent, blt_lend, blt_all, blt_any, mapM_t1, mapM_t2, embLM_t0, embLM_t1, embLM_t2, embLM_t3, Option.bind_some, Option.map_some, Bool.not_true, Bool.not_false, endC_rt, endC_nx, decide_eq_true_eq, List.mapM_nil, r0, i0, i1, ha, decide_false, bin_mulr, blt_int, bin_mod, hc, setIx, hp, ixN_1]
    simp (decide := true) only [evS, ev, evs, evF, evI, put, putL, bindV, bind_ok, toFl_ok, seq_nx, seq_rt, putFl_ok, rd_t, emb_t, ofO_some, ofT_some, noex_ok, E.isOmit, List.map_cons, List.map_nil, List.replicate, List.cons_append, List.nil_append, List.length_cons, List.length_nil, List.set_cons_zero, List.set_cons_succ, List.getElem?_cons_zero, List.getElem?_cons_succ, Bool.false_eq_true, if_true, if_false, reduceIte, Nat.reduceAdd, Nat.reduceSub, Nat.reduceLT, Nat.reduceLeDiff, Nat.lt_irrefl, evT, bin_add, bin_sub, mthOk_ins, attV_ins, cmpP_lt, cmpP_le, cmpP_gt, cmpP_ge, cmp_lt, cmp_le, cmp_gt, cmp_ge, cmp_eqi, cmp_eqs, cmp_eqb, cmp_nei, cmp_nes, cmp_neb, cmp_isn, cmp_nin, cmp_isb, cmp_nib, tru_bl, tru_int, isNon_lst, isNon_non, item_l, item_t, blt_lenl, blt_lent, blt_lend, blt_all, blt_any, mapM_t1, mapM_t2, embLM_t0, embLM_t1, embLM_t2, embLM_t3, Option.bind_some, Option.map_some, Bool.not_true, Bool.not_false, endC_rt, endC_nx, decide_eq_true_eq, List.mapM_nil, hp, r0, i1, List.set_cons_succ, List.set_cons_zero, ixN_1 (show 1 < 2 by decide), r1, j1, bin_mul m2, blt_int, bin_mod, bin_fdiv, bin_mod n5]
    simp [endC, fin, set_take]
end
end Tw
set_option maxHeartbeats 4000000
namespace Tw
open PySem L2
/-! ## rationals -/
theorem cmn_num {a b : Int} (hb : b ≠ 0) : a.fdiv (cmn a b) = (Rat.divInt a b).num := by
  rw [Rat.num_divInt]
  have eg : Int.gcd b a = Nat.gcd a.natAbs b.natAbs := by rw [Int.gcd_comm]; rfl
  rw [eg]
  have h1 : ((Nat.gcd a.natAbs b.natAbs : Nat) : Int) ∣ a := Int.ofNat_dvd_left.mpr (Nat.gcd_dvd_left _ _)
  unfold cmn
  by_cases h : b < 0
  · rw [if_pos h, Int.zero_sub, Int.fdiv_eq_ediv_of_dvd (Int.neg_dvd.mpr h1), Int.ediv_neg, Int.sign_eq_neg_one_of_neg h, Int.neg_one_mul, Int.neg_ediv_of_dvd h1]
  · have h' : 0 < b := by omega
    rw [if_neg h, Int.fdiv_eq_ediv_of_dvd h1, Int.sign_eq_one_of_pos h', Int.one_mul]
theorem cmn_den {a b : Int} (hb : b ≠ 0) : b.fdiv (cmn a b) = ((Rat.divInt a b).den : Int) := by
  rw [Rat.den_divInt, if_neg hb]
  have eg : Int.gcd b a = Nat.gcd a.natAbs b.natAbs := by rw [Int.gcd_comm]; rfl
  rw [eg]
  have h1 : ((Nat.gcd a.natAbs b.natAbs : Nat) : Int) ∣ b := Int.ofNat_dvd_left.mpr (Nat.gcd_dvd_right _ _)
  unfold cmn
  by_cases h : b < 0
  · rw [if_pos h, Int.zero_sub, Int.fdiv_eq_ediv_of_dvd (Int.neg_dvd.mpr h1), Int.ediv_neg, Int.natCast_ediv, ← Int.neg_ediv_of_dvd h1]
    congr 1; omega
  · rw [if_neg h, Int.fdiv_eq_ediv_of_dvd h1, Int.natCast_ediv]
    congr 1; omega
/-- dyadic, of bounded size -/
def Dy (k m : Nat) (x : Rat) : Prop := ∃ z : Int, x * (2 ^ k : Nat) = z ∧ z.natAbs ≤ 2 ^ m
theorem Dy.add {k m : Nat} {x y : Rat} : Dy k m x → Dy k m y → Dy k (m + 1) (x + y) := fun ⟨z, h, b⟩ ⟨w, h', b'⟩ => ⟨z + w, by rw [Rat.add_mul, h, h', Rat.intCast_add], by rw [Nat.pow_succ]; omega⟩
theorem Dy.neg {k m : Nat} {x : Rat} : Dy k m x → Dy k m (-x) := fun ⟨z, h, b⟩ => ⟨-z, by rw [Rat.neg_mul, h, Rat.intCast_neg], by omega⟩
theorem Dy.sub {k m : Nat} {x y : Rat} (h : Dy k m x) (h' : Dy k m y) : Dy k (m + 1) (x - y) := by rw [Rat.sub_eq_add_neg]; exact h.add h'.neg
theorem Dy.mul {k m k' m' : Nat} {x y : Rat} : Dy k m x → Dy k' m' y → Dy (k + k') (m + m') (x * y) := fun ⟨z, h, b⟩ ⟨w, h', b'⟩ => ⟨z * w, by
  rw [Rat.intCast_mul, ← h, ← h', Nat.pow_add, Rat.natCast_mul]; grind, by rw [Int.natAbs_mul, Nat.pow_add]; exact Nat.mul_le_mul b b'⟩
theorem Dy.mono {k m k' m' : Nat} {x : Rat} (hk : k ≤ k') (hm : m + (k' - k) ≤ m') : Dy k m x → Dy k' m' x := fun ⟨z, h, b⟩ => ⟨z * (2 ^ (k' - k) : Nat), by
  have e : k' = k + (k' - k) := by omega
  rw [Rat.intCast_mul, ← h]
  conv => lhs; rw [e, Nat.pow_add, Rat.natCast_mul]
  rw [Rat.intCast_natCast]; grind, by
  rw [Int.natAbs_mul, Int.natAbs_natCast]
  exact Nat.le_trans (Nat.mul_le_mul_right _ b) (by rw [← Nat.pow_add]; exact Nat.pow_le_pow_right (by decide) hm)⟩
theorem Dy.int (z : Int) {m : Nat} (h : z.natAbs ≤ 2 ^ m) : Dy 0 m (z : Rat) := ⟨z, by simp, h⟩
theorem Dy.bd {k m : Nat} {x : Rat} : Dy k m x → x.den ≤ 2 ^ k ∧ x.num.natAbs ≤ 2 ^ m := fun ⟨z, h, b⟩ => by
  have hp : 0 < 2 ^ k := Nat.pow_pos (by decide)
  have e : x = Rat.divInt z (2 ^ k : Nat) := by
    rw [Rat.divInt_eq_div, ← h, Rat.intCast_natCast]
    have : ((2 ^ k : Nat) : Rat) ≠ 0 := by
      intro z; have := Rat.natCast_eq_zero_iff.mp z; omega
    grind
  constructor
  · rw [e, Rat.den_divInt, if_neg (by omega)]
    exact Nat.le_trans (Nat.div_le_self _ _) (by simp)
  · rw [e, Rat.num_divInt]
    refine Nat.le_trans (Nat.le_trans (Int.natAbs_ediv_le_natAbs _ _) ?_) b
    rw [Int.natAbs_mul, Int.sign_natCast_of_ne_zero (by omega)]
    simp

def ratQ (x : Rat) : T := ratT x.num (x.den : Int)
theorem mkR_q {a b : Int} (hb : b ≠ 0) : mkR a b = ratQ (Rat.divInt a b) := by
  unfold mkR ratQ
  rw [cmn_num hb, cmn_den hb]
/-- of a size that is reckoned with -/
structure Szq (x : Rat) : Prop where
  den : x.den ≤ 2 ^ 1000
  num : x.num.natAbs ≤ 2 ^ 1000
theorem Dy.sz {k m : Nat} {x : Rat} (h : Dy k m x) (hk : k ≤ 1000) (hm : m ≤ 1000) : Szq x :=
  ⟨Nat.le_trans h.bd.1 (Nat.pow_le_pow_right (by decide) hk), Nat.le_trans h.bd.2 (Nat.pow_le_pow_right (by decide) hm)⟩
theorem log2_le {n k : Nat} (h : n ≤ 2 ^ k) : n.log2 ≤ k := by
  by_cases z : n = 0
  · rw [z]; exact Nat.zero_le _
  · have := Nat.log2_self_le z
    exact (Nat.pow_le_pow_iff_right (by decide)).mp (Nat.le_trans this h)
theorem mulOk_of {i j : Int} {k l : Nat} (h1 : i.natAbs ≤ 2 ^ k) (h2 : j.natAbs ≤ 2 ^ l) (h : k + l < 100000000) : mulOk i j = true := by
  unfold mulOk
  have a := log2_le h1
  have b := log2_le h2
  simp only [Bool.or_eq_true, decide_eq_true_eq]
  omega
/-- a number -/
inductive Num : T → Rat → Prop where
  | q (x : Rat) : Num (ratQ x) x
  | i (z : Int) : Num (.int z) (z : Rat)
theorem den_ne (x : Rat) : ((x.den : Nat) : Int) ≠ 0 := by have := x.den_nz; omega
section
variable {D : Defs} {rp : CF → Store → T → Out Str} {fw n : Nat} {s : Store}
theorem okQ (x : Rat) [h : Is (D.cls 55 = true)] : okT D (ratQ x) = true := h.h
theorem look_t {a b : Int} : (ratF a b).lookup (Str.ofString "own_top") = some (.int a) := rfl
theorem look_b {a b : Int} : (ratF a b).lookup (Str.ofString "own_bottom") = some (.int b) := rfl
theorem isi_q (x : Rat) [Is (∀ d, D.sub d 55 = decide (d = 55))] : ([CR.cl 55].any fun c => isiP D.sub c (ratQ x)) = true := by
  simp [ratQ, ratT, isiP, Is.h (p := ∀ d, D.sub d 55 = decide (d = 55)) 55]
theorem isi_i (z : Int) : ([CR.cl 55].any fun c => isiP D.sub c (.int z)) = false := by simp [isiP]
theorem rat_ins (x : Rat) : ratQ x = .ins 55 (ratF x.num (x.den : Int)) := rfl
theorem two_le : ([T.int 0, T.int 1] : List T).length ≤ sizeLine := by decide
theorem told_ok [Is (D.fn 354 = some F_ratios_told_pair)] [Is (∀ t, okT D t = true → D.kit (.cl 55) t = true)] [Is (∀ d, D.sub d 55 = decide (d = 55))] [Is (D.cls 55 = true)] [Is (D.fld 55 "own_top" = true)] [Is (D.fld 55 "own_bottom" = true)] [Is (D.fn 31 = some F_basics_is_integer)] [Is (∀ t, okT D t = true → D.kit (.ty "int") t = true)] [Is (∀ t, okT D t = true → D.kit (.ty "bool") t = true)] {t : T} {x : Rat} (h : Num t x) : callN D rp fw (n + 2) 354 [.t t] s = .ok (.t (.tup [.int x.num, .int x.den])) s := by
  rw [go_ratios_told_pair]
  have l2 : (0 + 1 + 1 ≤ sizeLine) = True := by simp; decide
  cases h with
  | q =>
    have h1 : isiOk D.kit D.cls [.cl 55] (ratQ x) = true := isiOk_of (okQ x) (by simp only [List.mem_singleton, forall_eq]; exact (Is.h (p := ∀ t, okT D t = true → D.kit (.cl 55) t = true) _ (okQ x)))
    have h2 := isi_q (D := D) x
    rw [rat_ins] at h1 h2 ⊢
    simp only [S_ratios_told_pair, fl_basics_is_integer, evS, ev, evs, evF, evI, put, putL, bindV, bind_ok, toFl_ok, seq_nx, seq_rt, putFl_ok, rd_t, emb_t, ofO_some, ofT_some, noex_ok, E.isOmit, List.map_cons, List.map_nil, List.replicate, List.cons_append, List.nil_append, List.length_cons, List.length_nil, List.set_cons_zero, List.set_cons_succ, List.getElem?_cons_zero, List.getElem?_cons_succ, Bool.false_eq_true, if_true, if_false, reduceIte, Nat.reduceAdd, Nat.reduceSub, Nat.reduceLT, Nat.reduceLeDiff, Nat.lt_irrefl, evT, bin_add, bin_sub, mthOk_ins, attV_ins, cmpP_lt, cmpP_le, cmpP_gt, cmpP_ge, cmp_lt, cmp_le, cmp_gt, cmp_ge, cmp_eqi, cmp_eqs, cmp_eqb, cmp_nei, cmp_nes, cmp_neb, cmp_isn, cmp_nin, cmp_isb, cmp_nib, tru_bl, tru_int, isNon_lst, isNon_non, item_l, item_t, blt_lenl, blt_lent, blt_lend, blt_all, blt_any, mapM_t1, mapM_t2, embLM_t0, embLM_t1, embLM_t2, embLM_t3, Option.bind_some, Option.map_some, Bool.not_true, Bool.not_false, endC_rt, endC_nx, decide_eq_true_eq, List.mapM_nil, h1, h2, look_t, look_b, fld_55_own_top, fld_55_own_bottom, l2]
  | i z =>
    have h1 : isiOk D.kit D.cls [.cl 55] (.int z) = true := isiOk_of okI (by simp only [List.mem_singleton, forall_eq]; exact (Is.h (p := ∀ t, okT D t = true → D.kit (.cl 55) t = true) _ okI))
    simp only [S_ratios_told_pair, fl_basics_is_integer, evS, ev, evs, evF, evI, put, putL, bindV, bind_ok, toFl_ok, seq_nx, seq_rt, putFl_ok, rd_t, emb_t, ofO_some, ofT_some, noex_ok, E.isOmit, List.map_cons, List.map_nil, List.replicate, List.cons_append, List.nil_append, List.length_cons, List.length_nil, List.set_cons_zero, List.set_cons_succ, List.getElem?_cons_zero, List.getElem?_cons_succ, Bool.false_eq_true, if_true, if_false, reduceIte, Nat.reduceAdd, Nat.reduceSub, Nat.reduceLT, Nat.reduceLeDiff, Nat.lt_irrefl, evT, bin_add, bin_sub, mthOk_ins, attV_ins, cmpP_lt, cmpP_le, cmpP_gt, cmpP_ge, cmp_lt, cmp_le, cmp_gt, cmp_ge, cmp_eqi, cmp_eqs, cmp_eqb, cmp_nei, cmp_nes, cmp_neb, cmp_isn, cmp_nin, cmp_isb, cmp_nib, tru_bl, tru_int, isNon_lst, isNon_non, item_l, item_t, blt_lenl, blt_lent, blt_lend, blt_all, blt_any, mapM_t1, mapM_t2, embLM_t0, embLM_t1, embLM_t2, embLM_t3, Option.bind_some, Option.map_some, Bool.not_true, Bool.not_false, endC_rt, endC_nx, decide_eq_true_eq, List.mapM_nil, h1, isi_i, is_integer_ok okI, isInt, l2]
    simp
theorem den_log {x y : Rat} (hx : Szq x) (hy : Szq y) : ((x.den : Int) * (y.den : Int)).natAbs.log2 < 9000 := by
  have : ((x.den : Int) * (y.den : Int)).natAbs ≤ 2 ^ (1000 + 1000) := by
    rw [Int.natAbs_mul, Nat.pow_add]
    exact Nat.mul_le_mul hx.den hy.den
  have := log2_le this
  omega
theorem add_ok [Is (D.fn 340 = some F_ratios_Ratio___add__)] [Is (D.ini 55 = some 334)] [Is (D.cls 55 = true)] [Is (D.fld 55 "own_top" = true)] [Is (D.fld 55 "own_bottom" = true)] [Is (D.fn 354 = some F_ratios_told_pair)] [Is (∀ t, okT D t = true → D.kit (.cl 55) t = true)] [Is (∀ d, D.sub d 55 = decide (d = 55))] [Is (D.fn 334 = some F_ratios_Ratio___init__)] [Is (D.dfl 334 = [.int 1])] [Is (D.fn 31 = some F_basics_is_integer)] [Is (∀ t, okT D t = true → D.kit (.ty "int") t = true)] [Is (∀ t, okT D t = true → D.kit (.ty "bool") t = true)] [Is (D.fn 333 = some F_ratios_divisor_of)] {t : T} {x y : Rat} (h : Num t y) (hx : Szq x) (hy : Szq y) : callN D rp fw (n + 3) 340 [.t (ratQ x), .t t] s = .ok (.t (ratQ (x + y))) s := by
  rw [go_ratios_Ratio___add__]
  have hd : ((x.den : Int) * (y.den : Int)) ≠ 0 := Int.mul_ne_zero (den_ne x) (den_ne y)
  have hz : ((x.den : Int) * (y.den : Int)).natAbs.log2 < 9000 := den_log hx hy
  have m1 : mulOk x.num (y.den : Int) = true := mulOk_of hx.num hy.den (by decide)
  have m2 : mulOk y.num (x.den : Int) = true := mulOk_of hy.num hx.den (by decide)
  have m3 : mulOk (x.den : Int) (y.den : Int) = true := mulOk_of hx.den hy.den (by decide)
  have mk := ratio_init_ok (D := D) (rp := rp) (fw := fw) (n := n) (s := s) (a := x.num * (y.den : Int) + y.num * (x.den : Int)) hd hz
  have e : ratQ (x + y) = mkR (x.num * (y.den : Int) + y.num * (x.den : Int)) ((x.den : Int) * (y.den : Int)) := by
    rw [mkR_q hd, Rat.add_def', ← Rat.divInt_ofNat, Int.natCast_mul]
  rw [e, rat_ins]
  simp only [S_ratios_Ratio___add__, fl_ratios_told_pair, fl_ratios_Ratio___init__, fl1_ratios_Ratio___init__, evS, ev, evs, evF, evI, put, putL, bindV, bind_ok, toFl_ok, seq_nx, seq_rt, putFl_ok, rd_t, emb_t, ofO_some, ofT_some, noex_ok, E.isOmit, List.map_cons, List.map_nil, List.replicate, List.cons_append, List.nil_append, List.length_cons, List.length_nil, List.set_cons_zero, List.set_cons_succ, List.getElem?_cons_zero, List.getElem?_cons_succ, Bool.false_eq_true, if_true, if_false, reduceIte, Nat.reduceAdd, Nat.reduceSub, Nat.reduceLT, Nat.reduceLeDiff, Nat.lt_irrefl, evT, bin_add, bin_sub, mthOk_ins, attV_ins, cmpP_lt, cmpP_le, cmpP_gt, cmpP_ge, cmp_lt, cmp_le, cmp_gt, cmp_ge, cmp_eqi, cmp_eqs, cmp_eqb, cmp_nei, cmp_nes, cmp_neb, cmp_isn, cmp_nin, cmp_isb, cmp_nib, tru_bl, tru_int, isNon_lst, isNon_non, item_l, item_t, blt_lenl, blt_lent, blt_lend, blt_all, blt_any, mapM_t1, mapM_t2, embLM_t0, embLM_t1, embLM_t2, embLM_t3, Option.bind_some, Option.map_some, Bool.not_true, Bool.not_false, endC_rt, endC_nx, decide_eq_true_eq, List.mapM_nil, told_ok h, look_t, look_b, fld_55_own_top, fld_55_own_bottom, items, alen, bin_mul m1, bin_mul m2, bin_mul m3, ini_55, mk, mkEnd_app, Cell.tree]
  simp [toFl_ok, bind_ok, emb_t, rd_t, ofO_some, ofT_some, endC, fin, seq_nx, seq_rt, tru, ofT, ofO, mkR, ratT]
theorem sub_ok [Is (D.fn 342 = some F_ratios_Ratio___sub__)] [Is (D.ini 55 = some 334)] [Is (D.cls 55 = true)] [Is (D.fld 55 "own_top" = true)] [Is (D.fld 55 "own_bottom" = true)] [Is (D.fn 354 = some F_ratios_told_pair)] [Is (∀ t, okT D t = true → D.kit (.cl 55) t = true)] [Is (∀ d, D.sub d 55 = decide (d = 55))] [Is (D.fn 334 = some F_ratios_Ratio___init__)] [Is (D.dfl 334 = [.int 1])] [Is (D.fn 31 = some F_basics_is_integer)] [Is (∀ t, okT D t = true → D.kit (.ty "int") t = true)] [Is (∀ t, okT D t = true → D.kit (.ty "bool") t = true)] [Is (D.fn 333 = some F_ratios_divisor_of)] {t : T} {x y : Rat} (h : Num t y) (hx : Szq x) (hy : Szq y) : callN D rp fw (n + 3) 342 [.t (ratQ x), .t t] s = .ok (.t (ratQ (x - y))) s := by
  rw [go_ratios_Ratio___sub__]
  have hd : ((x.den : Int) * (y.den : Int)) ≠ 0 := Int.mul_ne_zero (den_ne x) (den_ne y)
  have hz : ((x.den : Int) * (y.den : Int)).natAbs.log2 < 9000 := den_log hx hy
  have m1 : mulOk x.num (y.den : Int) = true := mulOk_of hx.num hy.den (by decide)
  have m2 : mulOk y.num (x.den : Int) = true := mulOk_of hy.num hx.den (by decide)
  have m3 : mulOk (x.den : Int) (y.den : Int) = true := mulOk_of hx.den hy.den (by decide)
  have mk := ratio_init_ok (D := D) (rp := rp) (fw := fw) (n := n) (s := s) (a := x.num * (y.den : Int) - y.num * (x.den : Int)) hd hz
  have e : ratQ (x - y) = mkR (x.num * (y.den : Int) - y.num * (x.den : Int)) ((x.den : Int) * (y.den : Int)) := by
    rw [mkR_q hd, Rat.sub_def', ← Rat.divInt_ofNat, Int.natCast_mul]
  rw [e, rat_ins]
  simp only [S_ratios_Ratio___sub__, fl_ratios_told_pair, fl_ratios_Ratio___init__, fl1_ratios_Ratio___init__, evS, ev, evs, evF, evI, put, putL, bindV, bind_ok, toFl_ok, seq_nx, seq_rt, putFl_ok, rd_t, emb_t, ofO_some, ofT_some, noex_ok, E.isOmit, List.map_cons, List.map_nil, List.replicate, List.cons_append, List.nil_append, List.length_cons, List.length_nil, List.set_cons_zero, List.set_cons_succ, List.getElem?_cons_zero, List.getElem?_cons_succ, Bool.false_eq_true, if_true, if_false, reduceIte, Nat.reduceAdd, Nat.reduceSub, Nat.reduceLT, Nat.reduceLeDiff, Nat.lt_irrefl, evT, bin_add, bin_sub, mthOk_ins, attV_ins, cmpP_lt, cmpP_le, cmpP_gt, cmpP_ge, cmp_lt, cmp_le, cmp_gt, cmp_ge, cmp_eqi, cmp_eqs, cmp_eqb, cmp_nei, cmp_nes, cmp_neb, cmp_isn, cmp_nin, cmp_isb, cmp_nib, tru_bl, tru_int, isNon_lst, isNon_non, item_l, item_t, blt_lenl, blt_lent, blt_lend, blt_all, blt_any, mapM_t1, mapM_t2, embLM_t0, embLM_t1, embLM_t2, embLM_t3, Option.bind_some, Option.map_some, Bool.not_true, Bool.not_false, endC_rt, endC_nx, decide_eq_true_eq, List.mapM_nil, told_ok h, look_t, look_b, fld_55_own_top, fld_55_own_bottom, items, alen, bin_mul m1, bin_mul m2, bin_mul m3, ini_55, mk, mkEnd_app, Cell.tree]
  simp [toFl_ok, bind_ok, emb_t, rd_t, ofO_some, ofT_some, endC, fin, seq_nx, seq_rt, tru, ofT, ofO, mkR, ratT]
theorem mul_ok [Is (D.fn 344 = some F_ratios_Ratio___mul__)] [Is (D.ini 55 = some 334)] [Is (D.cls 55 = true)] [Is (D.fld 55 "own_top" = true)] [Is (D.fld 55 "own_bottom" = true)] [Is (D.fn 354 = some F_ratios_told_pair)] [Is (∀ t, okT D t = true → D.kit (.cl 55) t = true)] [Is (∀ d, D.sub d 55 = decide (d = 55))] [Is (D.fn 334 = some F_ratios_Ratio___init__)] [Is (D.dfl 334 = [.int 1])] [Is (D.fn 31 = some F_basics_is_integer)] [Is (∀ t, okT D t = true → D.kit (.ty "int") t = true)] [Is (∀ t, okT D t = true → D.kit (.ty "bool") t = true)] [Is (D.fn 333 = some F_ratios_divisor_of)] {t : T} {x y : Rat} (h : Num t y) (hx : Szq x) (hy : Szq y) : callN D rp fw (n + 3) 344 [.t (ratQ x), .t t] s = .ok (.t (ratQ (x * y))) s := by
  rw [go_ratios_Ratio___mul__]
  have hd : ((x.den : Int) * (y.den : Int)) ≠ 0 := Int.mul_ne_zero (den_ne x) (den_ne y)
  have hz : ((x.den : Int) * (y.den : Int)).natAbs.log2 < 9000 := den_log hx hy
  have m1 : mulOk x.num y.num = true := mulOk_of hx.num hy.num (by decide)
  have m3 : mulOk (x.den : Int) (y.den : Int) = true := mulOk_of hx.den hy.den (by decide)
  have mk := ratio_init_ok (D := D) (rp := rp) (fw := fw) (n := n) (s := s) (a := x.num * y.num) hd hz
  have e : ratQ (x * y) = mkR (x.num * y.num) ((x.den : Int) * (y.den : Int)) := by
    rw [mkR_q hd, Rat.mul_def', ← Rat.divInt_ofNat, Int.natCast_mul]
  rw [e, rat_ins]
  simp only [S_ratios_Ratio___mul__, fl_ratios_told_pair, fl_ratios_Ratio___init__, fl1_ratios_Ratio___init__, evS, ev, evs, evF, evI, put, putL, bindV, bind_ok, toFl_ok, seq_nx, seq_rt, putFl_ok, rd_t, emb_t, ofO_some, ofT_some, noex_ok, E.isOmit, List.map_cons, List.map_nil, List.replicate, List.cons_append, List.nil_append, List.length_cons, List.length_nil, List.set_cons_zero, List.set_cons_succ, List.getElem?_cons_zero, List.getElem?_cons_succ, Bool.false_eq_true, if_true, if_false, reduceIte, Nat.reduceAdd, Nat.reduceSub, Nat.reduceLT, Nat.reduceLeDiff, Nat.lt_irrefl, evT, bin_add, bin_sub, mthOk_ins, attV_ins, cmpP_lt, cmpP_le, cmpP_gt, cmpP_ge, cmp_lt, cmp_le, cmp_gt, cmp_ge, cmp_eqi, cmp_eqs, cmp_eqb, cmp_nei, cmp_nes, cmp_neb, cmp_isn, cmp_nin, cmp_isb, cmp_nib, tru_bl, tru_int, isNon_lst, isNon_non, item_l, item_t, blt_lenl, blt_lent, blt_lend, blt_all, blt_any, mapM_t1, mapM_t2, embLM_t0, embLM_t1, embLM_t2, embLM_t3, Option.bind_some, Option.map_some, Bool.not_true, Bool.not_false, endC_rt, endC_nx, decide_eq_true_eq, List.mapM_nil, told_ok h, look_t, look_b, fld_55_own_top, fld_55_own_bottom, items, alen, bin_mul m1, bin_mul m3, ini_55, mk, mkEnd_app, Cell.tree]
  simp [toFl_ok, bind_ok, emb_t, rd_t, ofO_some, ofT_some, endC, fin, seq_nx, seq_rt, tru, ofT, ofO, mkR, ratT]
theorem neg_ok [Is (D.fn 346 = some F_ratios_Ratio___neg__)] [Is (D.ini 55 = some 334)] [Is (D.cls 55 = true)] [Is (D.fld 55 "own_top" = true)] [Is (D.fld 55 "own_bottom" = true)] [Is (D.fn 334 = some F_ratios_Ratio___init__)] [Is (D.dfl 334 = [.int 1])] [Is (D.fn 31 = some F_basics_is_integer)] [Is (∀ t, okT D t = true → D.kit (.ty "int") t = true)] [Is (∀ t, okT D t = true → D.kit (.ty "bool") t = true)] [Is (D.fn 333 = some F_ratios_divisor_of)] {x : Rat} (hx : Szq x) : callN D rp fw (n + 3) 346 [.t (ratQ x)] s = .ok (.t (ratQ (-x))) s := by
  rw [go_ratios_Ratio___neg__]
  have hd := den_ne x
  have hz : ((x.den : Int)).natAbs.log2 < 9000 := by have := log2_le hx.den; rw [Int.natAbs_natCast]; omega
  have mk := ratio_init_ok (D := D) (rp := rp) (fw := fw) (n := n) (s := s) (a := 0 - x.num) hd hz
  have e : ratQ (-x) = mkR (0 - x.num) (x.den : Int) := by
    rw [mkR_q hd, Int.zero_sub, ← Rat.neg_divInt, Rat.num_divInt_den]
  rw [e, rat_ins]
  simp only [S_ratios_Ratio___neg__, fl_ratios_Ratio___init__, fl1_ratios_Ratio___init__, evS, ev, evs, evF, evI, put, putL, bindV, bind_ok, toFl_ok, seq_nx, seq_rt, putFl_ok, rd_t, emb_t, ofO_some, ofT_some, noex_ok, E.isOmit, List.map_cons, List.map_nil, List.replicate, List.cons_append, List.nil_append, List.length_cons, List.length_nil, List.set_cons_zero, List.set_cons_succ, List.getElem?_cons_zero, List.getElem?_cons_succ, Bool.false_eq_true, if_true, if_false, reduceIte, Nat.reduceAdd, Nat.reduceSub, Nat.reduceLT, Nat.reduceLeDiff, Nat.lt_irrefl, evT, bin_add, bin_sub, mthOk_ins, attV_ins, cmpP_lt, cmpP_le, cmpP_gt, cmpP_ge, cmp_lt, cmp_le, cmp_gt, cmp_ge, cmp_eqi, cmp_eqs, cmp_eqb, cmp_nei, cmp_nes, cmp_neb, cmp_isn, cmp_nin, cmp_isb, cmp_nib, tru_bl, tru_int, isNon_lst, isNon_non, item_l, item_t, blt_lenl, blt_lent, blt_lend, blt_all, blt_any, mapM_t1, mapM_t2, embLM_t0, embLM_t1, embLM_t2, embLM_t3, Option.bind_some, Option.map_some, Bool.not_true, Bool.not_false, endC_rt, endC_nx, decide_eq_true_eq, List.mapM_nil, look_t, look_b, fld_55_own_top, fld_55_own_bottom, items, alen, ini_55, mk, mkEnd_app, Cell.tree]
  simp [toFl_ok, bind_ok, emb_t, rd_t, ofO_some, ofT_some, endC, fin, seq_nx, seq_rt, tru, ofT, ofO, mkR, ratT]
theorem over_ok [Is (D.fn 347 = some F_ratios_Ratio_over)] [Is (D.ini 55 = some 334)] [Is (D.cls 55 = true)] [Is (D.fld 55 "own_top" = true)] [Is (D.fld 55 "own_bottom" = true)] [Is (D.fn 354 = some F_ratios_told_pair)] [Is (∀ t, okT D t = true → D.kit (.cl 55) t = true)] [Is (∀ d, D.sub d 55 = decide (d = 55))] [Is (D.fn 334 = some F_ratios_Ratio___init__)] [Is (D.dfl 334 = [.int 1])] [Is (D.fn 31 = some F_basics_is_integer)] [Is (∀ t, okT D t = true → D.kit (.ty "int") t = true)] [Is (∀ t, okT D t = true → D.kit (.ty "bool") t = true)] [Is (D.fn 333 = some F_ratios_divisor_of)] {t : T} {x y : Rat} (h : Num t y) (hx : Szq x) (hy : Szq y) (h0 : y ≠ 0) : callN D rp fw (n + 3) 347 [.t (ratQ x), .t t] s = .ok (.t (ratQ (x / y))) s := by
  rw [go_ratios_Ratio_over]
  have hyn : y.num ≠ 0 := fun z => h0 (Rat.num_eq_zero.mp z)
  have hd : ((x.den : Int) * y.num) ≠ 0 := Int.mul_ne_zero (den_ne x) hyn
  have hz : ((x.den : Int) * y.num).natAbs.log2 < 9000 := by
    have : ((x.den : Int) * y.num).natAbs ≤ 2 ^ (1000 + 1000) := by
      rw [Int.natAbs_mul, Nat.pow_add]
      exact Nat.mul_le_mul hx.den hy.num
    have := log2_le this
    omega
  have m1 : mulOk x.num (y.den : Int) = true := mulOk_of hx.num hy.den (by decide)
  have m3 : mulOk (x.den : Int) y.num = true := mulOk_of hx.den hy.num (by decide)
  have mk := ratio_init_ok (D := D) (rp := rp) (fw := fw) (n := n) (s := s) (a := x.num * (y.den : Int)) hd hz
  have e : ratQ (x / y) = mkR (x.num * (y.den : Int)) ((x.den : Int) * y.num) := by
    rw [mkR_q hd, Rat.divInt_eq_div, Rat.intCast_mul, Rat.intCast_mul]
    congr 1
    have hx' := Rat.num_divInt_den x
    have hy' := Rat.num_divInt_den y
    rw [Rat.divInt_eq_div] at hx' hy'
    have a1 : ((x.den : Int) : Rat) ≠ 0 := by intro z; exact den_ne x (Rat.intCast_eq_zero_iff.mp z)
    have a2 : ((y.den : Int) : Rat) ≠ 0 := by intro z; exact den_ne y (Rat.intCast_eq_zero_iff.mp z)
    have a3 : ((y.num : Int) : Rat) ≠ 0 := by intro z; exact hyn (Rat.intCast_eq_zero_iff.mp z)
    conv => lhs; rw [← hx', ← hy']
    generalize ((x.den : Int) : Rat) = a at *
    generalize ((y.den : Int) : Rat) = b at *
    generalize ((y.num : Int) : Rat) = c at *
    generalize ((x.num : Int) : Rat) = d at *
    clear hx' hy'
    grind
  have hyf : (y.num = 0) = False := by simp [hyn]
  rw [e, rat_ins]
  simp only [S_ratios_Ratio_over, fl_ratios_told_pair, fl_ratios_Ratio___init__, fl1_ratios_Ratio___init__, evS, ev, evs, evF, evI, put, putL, bindV, bind_ok, toFl_ok, seq_nx, seq_rt, putFl_ok, rd_t, emb_t, ofO_some, ofT_some, noex_ok, E.isOmit, List.map_cons, List.map_nil, List.replicate, List.cons_append, List.nil_append, List.length_cons, List.length_nil, List.set_cons_zero, List.set_cons_succ, List.getElem?_cons_zero, List.getElem?_cons_succ, Bool.false_eq_true, if_true, if_false, reduceIte, Nat.reduceAdd, Nat.reduceSub, Nat.reduceLT, Nat.reduceLeDiff, Nat.lt_irrefl, evT, bin_add, bin_sub, mthOk_ins, attV_ins, cmpP_lt, cmpP_le, cmpP_gt, cmpP_ge, cmp_lt, cmp_le, cmp_gt, cmp_ge, cmp_eqi, cmp_eqs, cmp_eqb, cmp_nei, cmp_nes, cmp_neb, cmp_isn, cmp_nin, cmp_isb, cmp_nib, tru_bl, tru_int, isNon_lst, isNon_non, item_l, item_t, blt_lenl, blt_lent, blt_lend, blt_all, blt_any, mapM_t1, mapM_t2, embLM_t0, embLM_t1, embLM_t2, embLM_t3, Option.bind_some, Option.map_some, Bool.not_true, Bool.not_false, endC_rt, endC_nx, decide_eq_true_eq, List.mapM_nil, told_ok h, look_t, look_b, fld_55_own_top, fld_55_own_bottom, items, alen, bin_mul m1, bin_mul m3, hyf, decide_false, ini_55, mk, mkEnd_app, Cell.tree]
  simp [toFl_ok, bind_ok, emb_t, rd_t, ofO_some, ofT_some, endC, fin, seq_nx, seq_rt, tru, ofT, ofO, mkR, ratT]
theorem eq_ok [Is (D.fn 351 = some F_ratios_Ratio___eq__)] [Is (∀ t, okT D t = true → D.kit (.cl 55) t = true)] [Is (∀ d, D.sub d 55 = decide (d = 55))] [Is (D.cls 55 = true)] [Is (D.fld 55 "own_top" = true)] [Is (D.fld 55 "own_bottom" = true)] {x y : Rat} : callN D rp fw (n + 1) 351 [.t (ratQ x), .t (ratQ y)] s = .ok (.t (.bl (decide (x = y)))) s := by
  rw [go_ratios_Ratio___eq__]
  have h1 : isiOk D.kit D.cls [.cl 55] (ratQ y) = true := isiOk_of (okQ y) (by simp only [List.mem_singleton, forall_eq]; exact (Is.h (p := ∀ t, okT D t = true → D.kit (.cl 55) t = true) _ (okQ y)))
  have h2 := isi_q (D := D) y
  have e : (x = y) ↔ (x.num = y.num ∧ (x.den : Int) = y.den) := by
    constructor
    · intro h; subst h; exact ⟨rfl, rfl⟩
    · rintro ⟨a, b⟩; exact Rat.ext a (by omega)
  rw [rat_ins] at h1 h2
  simp only [rat_ins, S_ratios_Ratio___eq__, evS, ev, evs, evF, evI, put, putL, bindV, bind_ok, toFl_ok, seq_nx, seq_rt, putFl_ok, rd_t, emb_t, ofO_some, ofT_some, noex_ok, E.isOmit, List.map_cons, List.map_nil, List.replicate, List.cons_append, List.nil_append, List.length_cons, List.length_nil, List.set_cons_zero, List.set_cons_succ, List.getElem?_cons_zero, List.getElem?_cons_succ, Bool.false_eq_true, if_true, if_false, reduceIte, Nat.reduceAdd, Nat.reduceSub, Nat.reduceLT, Nat.reduceLeDiff, Nat.lt_irrefl, evT, bin_add, bin_sub, mthOk_ins, attV_ins, cmpP_lt, cmpP_le, cmpP_gt, cmpP_ge, cmp_lt, cmp_le, cmp_gt, cmp_ge, cmp_eqi, cmp_eqs, cmp_eqb, cmp_nei, cmp_nes, cmp_neb, cmp_isn, cmp_nin, cmp_isb, cmp_nib, tru_bl, tru_int, isNon_lst, isNon_non, item_l, item_t, blt_lenl, blt_lent, blt_lend, blt_all, blt_any, mapM_t1, mapM_t2, embLM_t0, embLM_t1, embLM_t2, embLM_t3, Option.bind_some, Option.map_some, Bool.not_true, Bool.not_false, endC_rt, endC_nx, decide_eq_true_eq, List.mapM_nil, h1, h2, look_t, look_b, fld_55_own_top, fld_55_own_bottom]
  by_cases e1 : x.num = y.num
  · by_cases e2 : (x.den : Int) = y.den
    · simp [e, e1, e2, toFl_ok, bind_ok, emb_t, rd_t, ofO_some, ofT_some, endC, fin, seq_nx, seq_rt, tru, ofT, ofO]
    · simp [e, e1, e2, toFl_ok, bind_ok, emb_t, rd_t, ofO_some, ofT_some, endC, fin, seq_nx, seq_rt, tru, ofT, ofO]
  · simp [e, e1, toFl_ok, bind_ok, emb_t, rd_t, ofO_some, ofT_some, endC, fin, seq_nx, seq_rt, tru, ofT, ofO]
/-! ### the operators, asked -/
theorem omN_of' {c n g : Nat} {m : Str} {d : FD} (h1 : D.own c = true) (h2 : D.om c m = some g) (h3 : D.fn g = some d) (h4 : d.np = n) : omN D c m n = some g := by
  unfold omN
  rw [if_pos h1, h2]
  simp only [h3, h4, if_true]
theorem own_qn {cf : CF} {o : Operator} {g : Nat} {t : T} {x y : Rat} (h : Num t y) (h2 : omN D 55 (opNm o) 2 = some g) (hb : ∀ t', binP o (ratQ x) t' = none) : binV D cf o (.t (ratQ x)) (.t t) s = cf g [.t (ratQ x), .t t] s := by
  unfold binV
  simp only [rd, hb]
  cases h with
  | q => unfold ownBin; simp only [rat_ins, h2, if_true]
  | i => unfold ownBin; simp only [rat_ins, h2]
theorem bin_addq [a1 : Is (D.own 55 = true)] [a2 : Is (D.om 55 "__add__" = some 340)] [Is (D.fn 340 = some F_ratios_Ratio___add__)] [Is (D.ini 55 = some 334)] [Is (D.cls 55 = true)] [Is (D.fld 55 "own_top" = true)] [Is (D.fld 55 "own_bottom" = true)] [Is (D.fn 354 = some F_ratios_told_pair)] [Is (∀ t, okT D t = true → D.kit (.cl 55) t = true)] [Is (∀ d, D.sub d 55 = decide (d = 55))] [Is (D.fn 334 = some F_ratios_Ratio___init__)] [Is (D.dfl 334 = [.int 1])] [Is (D.fn 31 = some F_basics_is_integer)] [Is (∀ t, okT D t = true → D.kit (.ty "int") t = true)] [Is (∀ t, okT D t = true → D.kit (.ty "bool") t = true)] [Is (D.fn 333 = some F_ratios_divisor_of)] {t : T} {x y : Rat} (h : Num t y) (hx : Szq x) (hy : Szq y) :
    binV D (callN D rp fw (n + 3)) .Add (.t (ratQ x)) (.t t) s = .ok (.t (ratQ (x + y))) s := by
  rw [own_qn (o := .Add) h (omN_of' a1.h a2.h (Is.h (p := D.fn 340 = some F_ratios_Ratio___add__)) rfl) (fun t' => by cases t' <;> rfl)]
  exact add_ok h hx hy
theorem bin_subq [a1 : Is (D.own 55 = true)] [a2 : Is (D.om 55 "__sub__" = some 342)] [Is (D.fn 342 = some F_ratios_Ratio___sub__)] [Is (D.ini 55 = some 334)] [Is (D.cls 55 = true)] [Is (D.fld 55 "own_top" = true)] [Is (D.fld 55 "own_bottom" = true)] [Is (D.fn 354 = some F_ratios_told_pair)] [Is (∀ t, okT D t = true → D.kit (.cl 55) t = true)] [Is (∀ d, D.sub d 55 = decide (d = 55))] [Is (D.fn 334 = some F_ratios_Ratio___init__)] [Is (D.dfl 334 = [.int 1])] [Is (D.fn 31 = some F_basics_is_integer)] [Is (∀ t, okT D t = true → D.kit (.ty "int") t = true)] [Is (∀ t, okT D t = true → D.kit (.ty "bool") t = true)] [Is (D.fn 333 = some F_ratios_divisor_of)] {t : T} {x y : Rat} (h : Num t y) (hx : Szq x) (hy : Szq y) :
    binV D (callN D rp fw (n + 3)) .Sub (.t (ratQ x)) (.t t) s = .ok (.t (ratQ (x - y))) s := by
  rw [own_qn (o := .Sub) h (omN_of' a1.h a2.h (Is.h (p := D.fn 342 = some F_ratios_Ratio___sub__)) rfl) (fun t' => by cases t' <;> rfl)]
  exact sub_ok h hx hy
theorem bin_mulq [a1 : Is (D.own 55 = true)] [a2 : Is (D.om 55 "__mul__" = some 344)] [Is (D.fn 344 = some F_ratios_Ratio___mul__)] [Is (D.ini 55 = some 334)] [Is (D.cls 55 = true)] [Is (D.fld 55 "own_top" = true)] [Is (D.fld 55 "own_bottom" = true)] [Is (D.fn 354 = some F_ratios_told_pair)] [Is (∀ t, okT D t = true → D.kit (.cl 55) t = true)] [Is (∀ d, D.sub d 55 = decide (d = 55))] [Is (D.fn 334 = some F_ratios_Ratio___init__)] [Is (D.dfl 334 = [.int 1])] [Is (D.fn 31 = some F_basics_is_integer)] [Is (∀ t, okT D t = true → D.kit (.ty "int") t = true)] [Is (∀ t, okT D t = true → D.kit (.ty "bool") t = true)] [Is (D.fn 333 = some F_ratios_divisor_of)] {t : T} {x y : Rat} (h : Num t y) (hx : Szq x) (hy : Szq y) :
    binV D (callN D rp fw (n + 3)) .Mult (.t (ratQ x)) (.t t) s = .ok (.t (ratQ (x * y))) s := by
  rw [own_qn (o := .Mult) h (omN_of' a1.h a2.h (Is.h (p := D.fn 344 = some F_ratios_Ratio___mul__)) rfl) (fun t' => by cases t' <;> rfl)]
  exact mul_ok h hx hy
theorem negV_q [a1 : Is (D.own 55 = true)] [a2 : Is (D.om 55 "__neg__" = some 346)] [Is (D.fn 346 = some F_ratios_Ratio___neg__)] [Is (D.ini 55 = some 334)] [Is (D.cls 55 = true)] [Is (D.fld 55 "own_top" = true)] [Is (D.fld 55 "own_bottom" = true)] [Is (D.fn 334 = some F_ratios_Ratio___init__)] [Is (D.dfl 334 = [.int 1])] [Is (D.fn 31 = some F_basics_is_integer)] [Is (∀ t, okT D t = true → D.kit (.ty "int") t = true)] [Is (∀ t, okT D t = true → D.kit (.ty "bool") t = true)] [Is (D.fn 333 = some F_ratios_divisor_of)] {x : Rat} (hx : Szq x) :
    negV D (callN D rp fw (n + 3)) (.t (ratQ x)) s = .ok (.t (ratQ (-x))) s := by
  unfold negV
  have e := omN_of' (n := 1) a1.h a2.h (Is.h (p := D.fn 346 = some F_ratios_Ratio___neg__)) rfl
  simp only [rd, rat_ins, e]
  exact neg_ok (D := D) (x := x) hx
theorem ownEq_q [a1 : Is (D.own 55 = true)] [a2 : Is (D.om 55 "__eq__" = some 351)] [Is (D.fn 351 = some F_ratios_Ratio___eq__)] [Is (∀ t, okT D t = true → D.kit (.cl 55) t = true)] [Is (∀ d, D.sub d 55 = decide (d = 55))] [Is (D.cls 55 = true)] [Is (D.fld 55 "own_top" = true)] [Is (D.fld 55 "own_bottom" = true)] {x y : Rat} : ownEq D (callN D rp fw (n + 1)) s 55 (.t (ratQ x)) (.t (ratQ y)) = some (decide (x = y)) := by
  unfold ownEq
  rw [omN_of' (n := 2) a1.h a2.h (Is.h (p := D.fn 351 = some F_ratios_Ratio___eq__)) rfl]
  simp only [eq_ok, if_true]
theorem dif_q {x y : Rat} (h : x ≠ y) : dif (ratQ x) (ratQ y) = true := by
  have : ¬ (x.num = y.num ∧ x.den = y.den) := fun ⟨a, b⟩ => h (Rat.ext a b)
  simp only [rat_ins, ratF, dif, difF, eqFlat]
  by_cases e1 : x.num = y.num
  · have e2 : x.den ≠ y.den := fun e2 => this ⟨e1, e2⟩
    simp [e1]; omega
  · simp [e1]
/-- == of numbers of one class -/
theorem eqB_q [a1 : Is (D.own 55 = true)] [a2 : Is (D.om 55 "__eq__" = some 351)] [Is (D.fn 351 = some F_ratios_Ratio___eq__)] [Is (∀ t, okT D t = true → D.kit (.cl 55) t = true)] [Is (∀ d, D.sub d 55 = decide (d = 55))] [Is (D.cls 55 = true)] [Is (D.fld 55 "own_top" = true)] [Is (D.fld 55 "own_bottom" = true)] {f : T → T → Option Bool} {x y : Rat} : eqB D (callN D rp fw (n + 1)) s f (.t (ratQ x)) (.t (ratQ y)) (ratQ x) (ratQ y) = some (decide (x = y)) := by
  rw [← ownEq_q (D := D) (rp := rp) (fw := fw) (n := n) (s := s)]
  unfold eqB
  simp only [rat_ins, if_true]
theorem eqI_q [a1 : Is (D.own 55 = true)] [a2 : Is (D.om 55 "__eq__" = some 351)] [Is (D.fn 351 = some F_ratios_Ratio___eq__)] [Is (∀ t, okT D t = true → D.kit (.cl 55) t = true)] [Is (∀ d, D.sub d 55 = decide (d = 55))] [Is (D.cls 55 = true)] [Is (D.fld 55 "own_top" = true)] [Is (D.fld 55 "own_bottom" = true)] {m : Nat} {x y : Rat} : eqI (eqD D (callN D rp fw (n + 1)) s (m + 1)) (ratQ x) (ratQ y) = some (decide (x = y)) := by
  have e : eqD D (callN D rp fw (n + 1)) s (m + 1) (ratQ x) (ratQ y) = some (decide (x = y)) := by
    unfold eqD
    exact eqB_q
  have e0 : eqFlat (ratQ x) (ratQ y) = none := rfl
  unfold eqI
  rw [e0]
  simp only
  rw [e]
  by_cases h : x = y
  · simp [h]
  · simp [h, dif_q h]
theorem cmp_eqq [a1 : Is (D.own 55 = true)] [a2 : Is (D.om 55 "__eq__" = some 351)] [Is (D.fn 351 = some F_ratios_Ratio___eq__)] [Is (∀ t, okT D t = true → D.kit (.cl 55) t = true)] [Is (∀ d, D.sub d 55 = decide (d = 55))] [Is (D.cls 55 = true)] [Is (D.fld 55 "own_top" = true)] [Is (D.fld 55 "own_bottom" = true)] {x y : Rat} : cmpV D (callN D rp fw (n + 1)) .Eq (.t (ratQ x)) (.t (ratQ y)) s = some (decide (x = y)) := by
  rw [← eqB_q (D := D) (rp := rp) (fw := fw) (n := n) (s := s) (f := eqD D (callN D rp fw (n + 1)) s 12)]
  rfl
theorem cmp_neq [a1 : Is (D.own 55 = true)] [a2 : Is (D.om 55 "__eq__" = some 351)] [Is (D.fn 351 = some F_ratios_Ratio___eq__)] [Is (∀ t, okT D t = true → D.kit (.cl 55) t = true)] [Is (∀ d, D.sub d 55 = decide (d = 55))] [Is (D.cls 55 = true)] [Is (D.fld 55 "own_top" = true)] [Is (D.fld 55 "own_bottom" = true)] {x y : Rat} : cmpV D (callN D rp fw (n + 1)) .NotEq (.t (ratQ x)) (.t (ratQ y)) s = some (!decide (x = y)) := by
  have e := eqB_q (D := D) (rp := rp) (fw := fw) (n := n) (s := s) (f := eqD D (callN D rp fw (n + 1)) s 12) (x := x) (y := y)
  show (eqB D (callN D rp fw (n + 1)) s (eqD D (callN D rp fw (n + 1)) s 12) (.t (ratQ x)) (.t (ratQ y)) (ratQ x) (ratQ y)).map (!·) = _
  rw [e]; rfl
theorem eqLs_q [a1 : Is (D.own 55 = true)] [a2 : Is (D.om 55 "__eq__" = some 351)] [Is (D.fn 351 = some F_ratios_Ratio___eq__)] [Is (∀ t, okT D t = true → D.kit (.cl 55) t = true)] [Is (∀ d, D.sub d 55 = decide (d = 55))] [Is (D.cls 55 = true)] [Is (D.fld 55 "own_top" = true)] [Is (D.fld 55 "own_bottom" = true)] {m : Nat} : ∀ xs ys : List Rat, xs.length = ys.length → eqLs (eqI (eqD D (callN D rp fw (n + 1)) s (m + 1))) (xs.map ratQ) (ys.map ratQ) = some (decide (xs = ys))
  | [], [], _ => rfl
  | x :: xs, y :: ys, h => by
    have ih := eqLs_q (m := m) xs ys (by simpa using h)
    rw [List.map_cons, List.map_cons]
    unfold eqLs
    rw [eqI_q]
    by_cases e : x = y
    · simp [e, ih]
    · simp [e]
  | [], _ :: _, h => by simp at h
  | _ :: _, [], h => by simp at h
end
end Tw
set_option maxHeartbeats 4000000
namespace Tw.K87
/-! ## traces of words in two letters, by five numbers -/
structure S4 where
  a : Rat
  b : Rat
  c : Rat
  d : Rat
theorem S4.ext' {x y : S4} (h1 : x.a = y.a) (h2 : x.b = y.b) (h3 : x.c = y.c) (h4 : x.d = y.d) : x = y := by
  cases x; cases y; simp only at h1 h2 h3 h4; subst h1 h2 h3 h4; rfl
section
variable (s t m p q : Rat)
def R1 (x : S4) : S4 := ⟨x.c * (m - s * t) - x.b * p - x.d * t * p, x.a + x.b * s + x.c * t + x.d * m, x.c * s + x.d * p, -x.c⟩
def R2 (x : S4) : S4 := ⟨-(x.c * q), -(x.d * q), x.a + x.c * t, x.b + x.d * t⟩
def one : S4 := ⟨1, 0, 0, 0⟩
def Rl (x : S4) (l : Bool) : S4 := if l then R2 t q x else R1 s t m p x
def st (w : List Bool) : S4 := w.foldl (Rl s t m p q) one
def Tr (x : S4) : Rat := x.a * 2 + x.b * s + x.c * t + x.d * m
def mul (x y : S4) : S4 :=
  let x1 := R1 s t m p x
  let x2 := R2 t q x
  let x3 := R2 t q x1
  ⟨y.a * x.a + y.b * x1.a + y.c * x2.a + y.d * x3.a, y.a * x.b + y.b * x1.b + y.c * x2.b + y.d * x3.b, y.a * x.c + y.b * x1.c + y.c * x2.c + y.d * x3.c, y.a * x.d + y.b * x1.d + y.c * x2.d + y.d * x3.d⟩
theorem mul_one (x : S4) : mul s t m p q x one = x := by
  apply S4.ext' <;> simp only [mul, one] <;> grind
theorem one_mul (x : S4) : mul s t m p q one x = x := by
  apply S4.ext' <;> simp only [mul, one, R1, R2] <;> grind
theorem mul_R1 (x y : S4) : mul s t m p q x (R1 s t m p y) = R1 s t m p (mul s t m p q x y) := by
  apply S4.ext' <;> simp only [mul, R1, R2] <;> grind
theorem mul_R2 (x y : S4) : mul s t m p q x (R2 t q y) = R2 t q (mul s t m p q x y) := by
  apply S4.ext' <;> simp only [mul, R1, R2] <;> grind
theorem mul_Rl (x y : S4) (l : Bool) : mul s t m p q x (Rl s t m p q y l) = Rl s t m p q (mul s t m p q x y) l := by
  unfold Rl
  cases l
  · exact mul_R1 s t m p q x y
  · exact mul_R2 s t m p q x y
theorem fold_mul (x : S4) : ∀ (w : List Bool) (y : S4), w.foldl (Rl s t m p q) (mul s t m p q x y) = mul s t m p q x (w.foldl (Rl s t m p q) y)
  | [], y => rfl
  | l :: w, y => by
    rw [List.foldl_cons, List.foldl_cons, ← mul_Rl, fold_mul x w]
theorem st_append (u w : List Bool) : st s t m p q (u ++ w) = mul s t m p q (st s t m p q u) (st s t m p q w) := by
  unfold st
  rw [List.foldl_append, ← fold_mul, mul_one]
theorem Tr_comm (x y : S4) : Tr s t m (mul s t m p q x y) = Tr s t m (mul s t m p q y x) := by
  simp only [Tr, mul, R1, R2]; grind
theorem rotate (u w : List Bool) : Tr s t m (st s t m p q (u ++ w)) = Tr s t m (st s t m p q (w ++ u)) := by
  rw [st_append, st_append, Tr_comm]
def star (x : S4) : S4 := ⟨x.a + x.d * (m - s * t), x.b + x.d * t, x.c + x.d * s, -x.d⟩
theorem Tr_star (x : S4) : Tr s t m (star s t m x) = Tr s t m x := by
  simp only [Tr, star]; grind
theorem star_R1 (x : S4) : star s t m (R1 s t m p x) = mul s t m p q (R1 s t m p one) (star s t m x) := by
  apply S4.ext' <;> simp only [mul, R1, R2, star, one] <;> grind
theorem star_R2 (x : S4) : star s t m (R2 t q x) = mul s t m p q (R2 t q one) (star s t m x) := by
  apply S4.ext' <;> simp only [mul, R1, R2, star, one] <;> grind
theorem star_one : star s t m one = one := by
  apply S4.ext' <;> simp only [star, one] <;> grind
theorem star_st (w : List Bool) : star s t m (st s t m p q w.reverse) = st s t m p q w := by
  induction w with
  | nil => exact star_one s t m
  | cons l w ih =>
    have e1 : st s t m p q (l :: w).reverse = Rl s t m p q (st s t m p q w.reverse) l := by
      unfold st
      rw [List.reverse_cons, List.foldl_append]; rfl
    have e2 : st s t m p q (l :: w) = mul s t m p q (Rl s t m p q one l) (st s t m p q w) := by
      have := st_append s t m p q [l] w
      exact this
    rw [e1, e2, ← ih]
    cases l
    · exact star_R1 s t m p q _
    · exact star_R2 s t m p q _
theorem reverse (w : List Bool) : Tr s t m (st s t m p q w.reverse) = Tr s t m (st s t m p q w) := by
  rw [← star_st s t m p q w, Tr_star]
def Nm (x : S4) : Rat := (Tr s t m x * Tr s t m x - Tr s t m (mul s t m p q x x)) / 2
theorem Nm_R1 (x : S4) : Nm s t m p q (R1 s t m p x) = Nm s t m p q x * p := by
  simp only [Nm, Tr, mul, R1, R2]; grind
theorem Nm_R2 (x : S4) : Nm s t m p q (R2 t q x) = Nm s t m p q x * q := by
  simp only [Nm, Tr, mul, R1, R2]; grind
def apart (w : List Bool) : Rat := w.foldl (fun x l => x * (if l then q else p)) 1
theorem Nm_fold : ∀ (w : List Bool) (x : S4), Nm s t m p q (w.foldl (Rl s t m p q) x) = w.foldl (fun x l => x * (if l then q else p)) (Nm s t m p q x)
  | [], x => rfl
  | l :: w, x => by
    rw [List.foldl_cons, List.foldl_cons, Nm_fold w]
    congr 1
    cases l
    · exact Nm_R1 s t m p q x
    · exact Nm_R2 s t m p q x
theorem Nm_one : Nm s t m p q one = 1 := by
  simp only [Nm, Tr, mul, R1, R2, one]; grind
theorem double (w : List Bool) : Tr s t m (st s t m p q (w ++ w)) = Tr s t m (st s t m p q w) * Tr s t m (st s t m p q w) - apart p q w * 2 := by
  have h : apart p q w = Nm s t m p q (st s t m p q w) := by
    unfold apart st
    rw [Nm_fold, Nm_one]
  rw [h, st_append]
  simp only [Nm]
  generalize Tr s t m (st s t m p q w) = x
  generalize Tr s t m (mul s t m p q (st s t m p q w) (st s t m p q w)) = y
  grind
theorem twice1 (x : S4) : Tr s t m (mul s t m p q (R1 s t m p (R1 s t m p one)) x) = s * Tr s t m (mul s t m p q (R1 s t m p one) x) - p * Tr s t m x := by
  simp only [Tr, mul, R1, R2, one]; grind
theorem twice2 (x : S4) : Tr s t m (mul s t m p q (R2 t q (R2 t q one)) x) = t * Tr s t m (mul s t m p q (R2 t q one) x) - q * Tr s t m x := by
  simp only [Tr, mul, R1, R2, one]; grind
theorem lead1 (w : List Bool) : Tr s t m (st s t m p q ([false, false] ++ w)) = s * Tr s t m (st s t m p q ([false] ++ w)) - p * Tr s t m (st s t m p q w) := by
  rw [st_append, st_append]; exact twice1 s t m p q _
theorem lead2 (w : List Bool) : Tr s t m (st s t m p q ([true, true] ++ w)) = t * Tr s t m (st s t m p q ([true] ++ w)) - q * Tr s t m (st s t m p q w) := by
  rw [st_append, st_append]; exact twice2 s t m p q _
end
end Tw.K87
set_option maxHeartbeats 4000000
namespace Tw
open PySem L2 K87
/-! ## k87: the walk over ratios -/
theorem Dy.half {k m : Nat} {x : Rat} : Dy k m x → Dy (k + 1) m (x / 2) := fun ⟨z, h, b⟩ => ⟨z, by
  rw [← h, Nat.pow_succ, Rat.natCast_mul]; grind, b⟩
theorem Szq.two : Szq 2 := ⟨Nat.pow_le_pow_right (n := 2) (i := 0) (j := 1000) (by decide) (by decide), Nat.pow_le_pow_right (n := 2) (i := 1) (j := 1000) (by decide) (by decide)⟩
structure Dys (k n : Nat) (x : S4) : Prop where
  a : Dy k n x.a
  b : Dy k n x.b
  c : Dy k n x.c
  d : Dy k n x.d
def stT (x : S4) : T := .tup [ratQ x.a, ratQ x.b, ratQ x.c, ratQ x.d]
def fvT (s t u m v : Rat) : T := .tup [ratQ s, ratQ t, ratQ u, ratQ m, ratQ v]
def half (x y : Rat) : Rat := (x * x - y) / 2
/-- the five numbers -/
structure Fv (s t u m v : Rat) : Prop where
  s : Dy 1 4 s
  t : Dy 1 4 t
  u : Dy 1 4 u
  m : Dy 1 4 m
  v : Dy 1 4 v
theorem half_dy {x y : Rat} (hx : Dy 1 4 x) (hy : Dy 1 4 y) : Dy 3 9 (half x y) :=
  ((hx.mul hx).sub (hy.mono (k' := 2) (m' := 8) (by omega) (by omega))).half
theorem Dys.R1 {s t u m v : Rat} {x : S4} {k l : Nat} (F : Fv s t u m v) (hx : Dys k l x) : Dys (k + 4) (l + 16) (K87.R1 s t m (half s u) x) := by
  have hp := half_dy F.s F.u
  have dmst := (F.m.mono (k' := 2) (m' := 8) (by omega) (by omega)).sub (F.s.mul F.t)
  have d1 : Dy (k + 4) (l + 13) (x.c * (m - s * t)) := (hx.c.mul dmst).mono (by omega) (by omega)
  have d2 : Dy (k + 4) (l + 13) (x.b * half s u) := (hx.b.mul hp).mono (by omega) (by omega)
  have d3 : Dy (k + 4) (l + 14) (x.d * t * half s u) := ((hx.d.mul F.t).mul hp).mono (by omega) (by omega)
  have e1 : Dy (k + 1) (l + 4) x.a := hx.a.mono (by omega) (by omega)
  have e3 := (e1.add (hx.b.mul F.s)).add ((hx.c.mul F.t).mono (k' := k + 1) (m' := l + 5) (by omega) (by omega))
  have e5 := e3.add ((hx.d.mul F.m).mono (k' := k + 1) (m' := l + 4 + 1 + 1) (by omega) (by omega))
  have f1 : Dy (k + 4) (l + 13) (x.c * s) := (hx.c.mul F.s).mono (by omega) (by omega)
  have f2 : Dy (k + 4) (l + 13) (x.d * half s u) := (hx.d.mul hp).mono (by omega) (by omega)
  exact ⟨((d1.sub d2).sub d3).mono (by omega) (by omega), e5.mono (by omega) (by omega), (f1.add f2).mono (by omega) (by omega), hx.c.neg.mono (by omega) (by omega)⟩
theorem Dys.R2 {s t u m v : Rat} {x : S4} {k l : Nat} (F : Fv s t u m v) (hx : Dys k l x) : Dys (k + 4) (l + 16) (K87.R2 t (half t v) x) := by
  have hq := half_dy F.t F.v
  have e1 : Dy (k + 1) (l + 4) x.a := hx.a.mono (by omega) (by omega)
  have e2 : Dy (k + 1) (l + 4) x.b := hx.b.mono (by omega) (by omega)
  exact ⟨(hx.c.mul hq).neg.mono (by omega) (by omega), (hx.d.mul hq).neg.mono (by omega) (by omega), (e1.add (hx.c.mul F.t)).mono (by omega) (by omega), (e2.add (hx.d.mul F.t)).mono (by omega) (by omega)⟩
section
variable {D : Defs} {rp : CF → Store → T → Out Str} {fw n : Nat} {sto : Store}
theorem mthOk_q {g : Nat} {x : Rat} [h : Is (D.om 55 "over" = some g)] : mthOk D 55 "over" (.t (ratQ x)) sto = some g := by
  rw [rat_ins, mthOk_ins, h.h]; rfl
theorem half_less_ok [Is (D.own 55 = true)] [Is (D.om 55 "__sub__" = some 342)] [Is (D.om 55 "__mul__" = some 344)] [Is (D.fn 190 = some F_fives_half_less)] [Is (D.om 55 "over" = some 347)] [Is (D.fn 342 = some F_ratios_Ratio___sub__)] [Is (D.ini 55 = some 334)] [Is (D.cls 55 = true)] [Is (D.fld 55 "own_top" = true)] [Is (D.fld 55 "own_bottom" = true)] [Is (D.fn 344 = some F_ratios_Ratio___mul__)] [Is (D.fn 347 = some F_ratios_Ratio_over)] [Is (D.fn 354 = some F_ratios_told_pair)] [Is (∀ t, okT D t = true → D.kit (.cl 55) t = true)] [Is (∀ d, D.sub d 55 = decide (d = 55))] [Is (D.fn 334 = some F_ratios_Ratio___init__)] [Is (D.dfl 334 = [.int 1])] [Is (D.fn 31 = some F_basics_is_integer)] [Is (∀ t, okT D t = true → D.kit (.ty "int") t = true)] [Is (∀ t, okT D t = true → D.kit (.ty "bool") t = true)] [Is (D.fn 333 = some F_ratios_divisor_of)] {x y : Rat} (hx : Dy 1 4 x) (hy : Dy 1 4 y) :
    callN D rp fw (n + 4) 190 [.t (ratQ x), .t (ratQ y)] sto = .ok (.t (ratQ (half x y))) sto := by
  rw [go_fives_half_less]
  have z1 := hx.sz (by omega) (by omega)
  have z2 := hy.sz (by omega) (by omega)
  have z3 := (hx.mul hx).sz (by omega) (by omega)
  have z4 := ((hx.mul hx).sub (hy.mono (k' := 2) (m' := 8) (by omega) (by omega))).sz (by omega) (by omega)
  have ov := over_ok (D := D) (rp := rp) (fw := fw) (n := n) (s := sto) (x := x * x - y) (Num.i 2) z4 Szq.two (by decide)
  have hm := mthOk_q (D := D) (sto := sto) (x := x * x - y) (g := 347)
  simp only [S_fives_half_less, fl_ratios_Ratio_over, evS, ev, evs, evF, evI, put, putL, bindV, bind_ok, toFl_ok, seq_nx, seq_rt, putFl_ok, rd_t, emb_t, ofO_some, ofT_some, noex_ok, E.isOmit, List.map_cons, List.map_nil, List.replicate, List.cons_append, List.nil_append, List.length_cons, List.length_nil, List.set_cons_zero, List.set_cons_succ, List.getElem?_cons_zero, List.getElem?_cons_succ, Bool.false_eq_true, if_true, if_false, reduceIte, Nat.reduceAdd, Nat.reduceSub, Nat.reduceLT, Nat.reduceLeDiff, Nat.lt_irrefl, evT, bin_add, bin_sub, mthOk_ins, attV_ins, cmpP_lt, cmpP_le, cmpP_gt, cmpP_ge, cmp_lt, cmp_le, cmp_gt, cmp_ge, cmp_eqi, cmp_eqs, cmp_eqb, cmp_nei, cmp_nes, cmp_neb, cmp_isn, cmp_nin, cmp_isb, cmp_nib, tru_bl, tru_int, isNon_lst, isNon_non, item_l, item_t, blt_lenl, blt_lent, blt_lend, blt_all, blt_any, mapM_t1, mapM_t2, embLM_t0, embLM_t1, embLM_t2, embLM_t3, Option.bind_some, Option.map_some, Bool.not_true, Bool.not_false, endC_rt, endC_nx, decide_eq_true_eq, List.mapM_nil, bin_mulq (Num.q x) z1 z1, bin_subq (Num.q y) z3 z2, hm]
  simp [ov, half, toFl_ok, bind_ok, emb_t, rd_t, ofO_some, ofT_some, endC, fin, seq_nx, seq_rt, tru, ofT, ofO]
theorem embLM_t4 {s : Store} {a b c d : T} : embLM s [.t a, .t b, .t c, .t d] = .ok [a, b, c, d] s := nrfl rfl
theorem embLM_t5 {s : Store} {a b c d e : T} : embLM s [.t a, .t b, .t c, .t d, .t e] = .ok [a, b, c, d, e] s := nrfl rfl
theorem l4 : (0 + 1 + 1 + 1 + 1 ≤ sizeLine) = True := by simp; decide
theorem led_second_ok [Is (D.own 55 = true)] [Is (D.om 55 "__add__" = some 340)] [Is (D.om 55 "__sub__" = some 342)] [Is (D.om 55 "__mul__" = some 344)] [Is (D.om 55 "__neg__" = some 346)]
    [Is (D.fn 192 = some F_fives_led_second)] [Is (D.fn 340 = some F_ratios_Ratio___add__)] [Is (D.ini 55 = some 334)] [Is (D.cls 55 = true)] [Is (D.fld 55 "own_top" = true)] [Is (D.fld 55 "own_bottom" = true)] [Is (D.fn 342 = some F_ratios_Ratio___sub__)] [Is (D.fn 344 = some F_ratios_Ratio___mul__)] [Is (D.fn 346 = some F_ratios_Ratio___neg__)] [Is (D.fn 190 = some F_fives_half_less)] [Is (D.om 55 "over" = some 347)] [Is (D.fn 354 = some F_ratios_told_pair)] [Is (∀ t, okT D t = true → D.kit (.cl 55) t = true)] [Is (∀ d, D.sub d 55 = decide (d = 55))] [Is (D.fn 334 = some F_ratios_Ratio___init__)] [Is (D.dfl 334 = [.int 1])] [Is (D.fn 347 = some F_ratios_Ratio_over)] [Is (D.fn 31 = some F_basics_is_integer)] [Is (∀ t, okT D t = true → D.kit (.ty "int") t = true)] [Is (∀ t, okT D t = true → D.kit (.ty "bool") t = true)] [Is (D.fn 333 = some F_ratios_divisor_of)] {s t u m v : Rat} {x : S4} {k l : Nat} (hk : k ≤ 500) (hl : l ≤ 500) (F : Fv s t u m v) (hx : Dys k l x) :
    callN D rp fw (n + 5) 192 [.t (fvT s t u m v), .t (stT x)] sto = .ok (.t (stT (K87.R2 t (half t v) x))) sto := by
  rw [go_fives_led_second]
  have hq := half_dy F.t F.v
  have zt := F.t.sz (by omega) (by omega)
  have zq := hq.sz (by omega) (by omega)
  have za := hx.a.sz (by omega) (by omega)
  have zb := hx.b.sz (by omega) (by omega)
  have zc := hx.c.sz (by omega) (by omega)
  have zd := hx.d.sz (by omega) (by omega)
  have zcq := (hx.c.mul hq).sz (by omega) (by omega)
  have zdq := (hx.d.mul hq).sz (by omega) (by omega)
  have zct := (hx.c.mul F.t).sz (by omega) (by omega)
  have zdt := (hx.d.mul F.t).sz (by omega) (by omega)
  have hh := half_less_ok (D := D) (rp := rp) (fw := fw) (n := n) (sto := sto) F.t F.v
  simp only [S_fives_led_second, fl_fives_half_less, fvT, stT, evS, ev, evs, evF, evI, put, putL, bindV, bind_ok, toFl_ok, seq_nx, seq_rt, putFl_ok, rd_t, emb_t, ofO_some, ofT_some, noex_ok, E.isOmit, List.map_cons, List.map_nil, List.replicate, List.cons_append, List.nil_append, List.length_cons, List.length_nil, List.set_cons_zero, List.set_cons_succ, List.getElem?_cons_zero, List.getElem?_cons_succ, Bool.false_eq_true, if_true, if_false, reduceIte, Nat.reduceAdd, Nat.reduceSub, Nat.reduceLT, Nat.reduceLeDiff, Nat.lt_irrefl, evT, bin_add, bin_sub, mthOk_ins, attV_ins, cmpP_lt, cmpP_le, cmpP_gt, cmpP_ge, cmp_lt, cmp_le, cmp_gt, cmp_ge, cmp_eqi, cmp_eqs, cmp_eqb, cmp_nei, cmp_nes, cmp_neb, cmp_isn, cmp_nin, cmp_isb, cmp_nib, tru_bl, tru_int, isNon_lst, isNon_non, item_l, item_t, blt_lenl, blt_lent, blt_lend, blt_all, blt_any, mapM_t1, mapM_t2, embLM_t0, embLM_t1, embLM_t2, embLM_t3, Option.bind_some, Option.map_some, Bool.not_true, Bool.not_false, endC_rt, endC_nx, decide_eq_true_eq, List.mapM_nil, items, alen, hh, bin_mulq (Num.q (half t v)) zc zq, bin_mulq (Num.q (half t v)) zd zq, bin_mulq (Num.q t) zc zt, bin_mulq (Num.q t) zd zt, negV_q zcq, negV_q zdq, bin_addq (Num.q (x.c * t)) za zct, bin_addq (Num.q (x.d * t)) zb zdt, embLM_t4, l4]
  simp [K87.R2, toFl_ok, bind_ok, emb_t, rd_t, ofO_some, ofT_some, endC, fin, seq_nx, seq_rt, tru, ofT, ofO]
theorem led_first_ok [Is (D.own 55 = true)] [Is (D.om 55 "__add__" = some 340)] [Is (D.om 55 "__sub__" = some 342)] [Is (D.om 55 "__mul__" = some 344)] [Is (D.om 55 "__neg__" = some 346)]
    [Is (D.fn 191 = some F_fives_led_first)] [Is (D.fn 340 = some F_ratios_Ratio___add__)] [Is (D.ini 55 = some 334)] [Is (D.cls 55 = true)] [Is (D.fld 55 "own_top" = true)] [Is (D.fld 55 "own_bottom" = true)] [Is (D.fn 342 = some F_ratios_Ratio___sub__)] [Is (D.fn 344 = some F_ratios_Ratio___mul__)] [Is (D.fn 346 = some F_ratios_Ratio___neg__)] [Is (D.fn 190 = some F_fives_half_less)] [Is (D.om 55 "over" = some 347)] [Is (D.fn 354 = some F_ratios_told_pair)] [Is (∀ t, okT D t = true → D.kit (.cl 55) t = true)] [Is (∀ d, D.sub d 55 = decide (d = 55))] [Is (D.fn 334 = some F_ratios_Ratio___init__)] [Is (D.dfl 334 = [.int 1])] [Is (D.fn 347 = some F_ratios_Ratio_over)] [Is (D.fn 31 = some F_basics_is_integer)] [Is (∀ t, okT D t = true → D.kit (.ty "int") t = true)] [Is (∀ t, okT D t = true → D.kit (.ty "bool") t = true)] [Is (D.fn 333 = some F_ratios_divisor_of)] {s t u m v : Rat} {x : S4} {k l : Nat} (hk : k ≤ 500) (hl : l ≤ 500) (F : Fv s t u m v) (hx : Dys k l x) :
    callN D rp fw (n + 5) 191 [.t (fvT s t u m v), .t (stT x)] sto = .ok (.t (stT (K87.R1 s t m (half s u) x))) sto := by
  rw [go_fives_led_first]
  have hp := half_dy F.s F.u
  have zs := F.s.sz (by omega) (by omega)
  have zt := F.t.sz (by omega) (by omega)
  have zm := F.m.sz (by omega) (by omega)
  have zp := hp.sz (by omega) (by omega)
  have za := hx.a.sz (by omega) (by omega)
  have zb := hx.b.sz (by omega) (by omega)
  have zc := hx.c.sz (by omega) (by omega)
  have zd := hx.d.sz (by omega) (by omega)
  have dst := F.s.mul F.t
  have zst := dst.sz (by omega) (by omega)
  have dmst := (F.m.mono (k' := 2) (m' := 8) (by omega) (by omega)).sub dst
  have zmst := dmst.sz (by omega) (by omega)
  have d1 : Dy (k + 4) (l + 13) (x.c * (m - s * t)) := (hx.c.mul dmst).mono (by omega) (by omega)
  have d2 : Dy (k + 4) (l + 13) (x.b * half s u) := (hx.b.mul hp).mono (by omega) (by omega)
  have z1 := d1.sz (by omega) (by omega)
  have z2 := d2.sz (by omega) (by omega)
  have d12 := d1.sub d2
  have z12 := d12.sz (by omega) (by omega)
  have ddt := hx.d.mul F.t
  have zdt := ddt.sz (by omega) (by omega)
  have d3 : Dy (k + 4) (l + 14) (x.d * t * half s u) := (ddt.mul hp).mono (by omega) (by omega)
  have z3 := d3.sz (by omega) (by omega)
  have e1 : Dy (k + 1) (l + 4) x.a := hx.a.mono (by omega) (by omega)
  have e2 := hx.b.mul F.s
  have y2 := e2.sz (by omega) (by omega)
  have e3 := e1.add e2
  have y3 := e3.sz (by omega) (by omega)
  have e4 := hx.c.mul F.t
  have y4 := e4.sz (by omega) (by omega)
  have e5 := e3.add (e4.mono (k' := k + 1) (m' := l + 5) (by omega) (by omega))
  have y5 := e5.sz (by omega) (by omega)
  have e6 := hx.d.mul F.m
  have y6 := e6.sz (by omega) (by omega)
  have f1 := hx.c.mul F.s
  have x1 := f1.sz (by omega) (by omega)
  have f2 := hx.d.mul hp
  have x2 := f2.sz (by omega) (by omega)
  have hh := half_less_ok (D := D) (rp := rp) (fw := fw) (n := n) (sto := sto) F.s F.u
  simp only [S_fives_led_first, fl_fives_half_less, fvT, stT, evS, ev, evs, evF, evI, put, putL, bindV, bind_ok, toFl_ok, seq_nx, seq_rt, putFl_ok, rd_t, emb_t, ofO_some, ofT_some, noex_ok, E.isOmit, List.map_cons, List.map_nil, List.replicate, List.cons_append, List.nil_append, List.length_cons, List.length_nil, List.set_cons_zero, List.set_cons_succ, List.getElem?_cons_zero, List.getElem?_cons_succ, Bool.false_eq_true, if_true, if_false, reduceIte, Nat.reduceAdd, Nat.reduceSub, Nat.reduceLT, Nat.reduceLeDiff, Nat.lt_irrefl, evT, bin_add, bin_sub, mthOk_ins, attV_ins, cmpP_lt, cmpP_le, cmpP_gt, cmpP_ge, cmp_lt, cmp_le, cmp_gt, cmp_ge, cmp_eqi, cmp_eqs, cmp_eqb, cmp_nei, cmp_nes, cmp_neb, cmp_isn, cmp_nin, cmp_isb, cmp_nib, tru_bl, tru_int, isNon_lst, isNon_non, item_l, item_t, blt_lenl, blt_lent, blt_lend, blt_all, blt_any, mapM_t1, mapM_t2, embLM_t0, embLM_t1, embLM_t2, embLM_t3, Option.bind_some, Option.map_some, Bool.not_true, Bool.not_false, endC_rt, endC_nx, decide_eq_true_eq, List.mapM_nil, items, alen, hh, bin_mulq (Num.q t) zs zt, bin_subq (Num.q (s * t)) zm zst, bin_mulq (Num.q (m - s * t)) zc zmst, bin_mulq (Num.q (half s u)) zb zp, bin_subq (Num.q (x.b * half s u)) z1 z2, bin_mulq (Num.q t) zd zt, bin_mulq (Num.q (half s u)) zdt zp,
    bin_subq (Num.q (x.d * t * half s u)) z12 z3, bin_mulq (Num.q s) zb zs, bin_addq (Num.q (x.b * s)) za y2, bin_mulq (Num.q t) zc zt, bin_addq (Num.q (x.c * t)) y3 y4, bin_mulq (Num.q m) zd zm, bin_addq (Num.q (x.d * m)) y5 y6, bin_mulq (Num.q s) zc zs, bin_mulq (Num.q (half s u)) zd zp, bin_addq (Num.q (x.d * half s u)) x1 x2, negV_q zc, embLM_t4, l4]
  simp [K87.R1, toFl_ok, bind_ok, emb_t, rd_t, ofO_some, ofT_some, endC, fin, seq_nx, seq_rt, tru, ofT, ofO]
end
end Tw
set_option maxHeartbeats 4000000
namespace Tw
open PySem L2 K87
def letT (b : Bool) : T := .int (if b then 1 else 0)
theorem st_take {s t m p q : Rat} {w : List Bool} {i : Nat} {b : Bool} (h : w[i]? = some b) : K87.st s t m p q (w.take (i + 1)) = K87.Rl s t m p q (K87.st s t m p q (w.take i)) b := by
  unfold K87.st
  rw [List.take_add_one, h, List.foldl_append]; rfl
theorem st_dys {s t u m v : Rat} (F : Fv s t u m v) (w : List Bool) : ∀ i, i ≤ w.length → Dys (4 * i) (16 * i) (K87.st s t m (half s u) (half t v) (w.take i))
  | 0, _ => ⟨⟨1, by simp [K87.st, one], by decide⟩, ⟨0, by simp [K87.st, one], by decide⟩, ⟨0, by simp [K87.st, one], by decide⟩, ⟨0, by simp [K87.st, one], by decide⟩⟩
  | i + 1, hi => by
    have ih := st_dys F w i (by omega)
    have hw := List.getElem?_eq_getElem (l := w) (i := i) (by omega)
    rw [st_take hw]
    cases w[i] with
    | false => exact Dys.R1 F ih
    | true => exact Dys.R2 F ih
inductive Wd : T → List T → Prop where
  | l (xs : List T) : Wd (.lst xs) xs
  | t (xs : List T) : Wd (.tup xs) xs
section
variable {D : Defs} {rp : CF → Store → T → Out Str} {fw n : Nat} {sto : Store}
theorem wd_src {cf : CF} {r : Store → T → Out Str} {w : T} {xs : List T} (h : Wd w xs) {loc : Loc} (e : loc[1]? = some (some (.t w))) : ∃ src, evI D cf r (.iseq (.var 1)) loc sto = .ok src sto ∧ src.most sto = xs.length + 1 ∧ ∀ i, src.at sto i = some xs[i]? := by
  cases h with
  | l => exact ⟨.lst (.t (.lst xs)), by simp [evI, ev, e, bind_ok, rd_t], most_lst rfl, fun i => at_lst rfl i⟩
  | t => exact ⟨.tup xs, by simp [evI, ev, e, bind_ok, rd_t], rfl, fun i => rfl⟩
theorem sum_loop [Is (D.own 55 = true)] [Is (D.om 55 "__add__" = some 340)] [Is (D.om 55 "__sub__" = some 342)] [Is (D.om 55 "__mul__" = some 344)] [Is (D.om 55 "__neg__" = some 346)]
    [Is (D.fn 193 = some F_fives_sum_by)] [Is (D.ini 55 = some 334)] [Is (D.cls 55 = true)] [Is (D.fn 340 = some F_ratios_Ratio___add__)] [Is (D.fld 55 "own_top" = true)] [Is (D.fld 55 "own_bottom" = true)] [Is (D.fn 342 = some F_ratios_Ratio___sub__)] [Is (D.fn 344 = some F_ratios_Ratio___mul__)] [Is (D.fn 346 = some F_ratios_Ratio___neg__)] [Is (D.fn 191 = some F_fives_led_first)] [Is (D.fn 192 = some F_fives_led_second)] [Is (D.fn 334 = some F_ratios_Ratio___init__)] [Is (D.dfl 334 = [.int 1])] [Is (D.fn 354 = some F_ratios_told_pair)] [Is (∀ t, okT D t = true → D.kit (.cl 55) t = true)] [Is (∀ d, D.sub d 55 = decide (d = 55))] [Is (D.fn 190 = some F_fives_half_less)] [Is (D.om 55 "over" = some 347)] [Is (D.fn 31 = some F_basics_is_integer)] [Is (∀ t, okT D t = true → D.kit (.ty "int") t = true)] [Is (∀ t, okT D t = true → D.kit (.ty "bool") t = true)] [Is (D.fn 333 = some F_ratios_divisor_of)] [Is (D.fn 347 = some F_ratios_Ratio_over)] {s t u m v : Rat} (F : Fv s t u m v) {w : T} {word : List Bool} (hw : Wd w (word.map letT)) (hl : word.length ≤ 16) :
    ∃ lt, evS D (callN D rp fw (n + 5)) (rp (callN D rp fw (n + 5))) fw FS_fives_sum_by_0 [some (.t (fvT s t u m v)), some (.t w), some (.t (stT one)), none, none, none, none, none] sto =
      .nx [some (.t (fvT s t u m v)), some (.t w), some (.t (stT (K87.st s t m (half s u) (half t v) word))), lt, none, none, none, none] sto := by
  obtain ⟨src, h1, h2, h3⟩ := wd_src (D := D) (sto := sto) (cf := callN D rp fw (n + 5)) (r := rp (callN D rp fw (n + 5))) hw (loc := [some (.t (fvT s t u m v)), some (.t w), some (.t (stT one)), none, none, none, none, none]) rfl
  unfold FS_fives_sum_by_0
  simp only [evS, h1, toFl_ok, h2]
  obtain ⟨l2, s2, h4, rfl, lt, rfl⟩ := loopF_inv (src := src) (g := .gn 3) (body := evS D (callN D rp fw (n + 5)) (rp (callN D rp fw (n + 5))) fw FB_fives_sum_by_0) (xs := word.map letT)
    (fun i loc s' => s' = sto ∧ ∃ lt, loc = [some (.t (fvT s t u m v)), some (.t w), some (.t (stT (K87.st s t m (half s u) (half t v) (word.take i)))), lt, none, none, none, none])
    (fun i loc s' I => by rw [I.1]; exact h3 i)
    (fun i x loc s' hx I => by
      obtain ⟨rfl, lt, rfl⟩ := I
      refine ⟨_, rfl, ?_⟩
      rw [List.getElem?_map, Option.map_eq_some_iff] at hx
      obtain ⟨b, hb, rfl⟩ := hx
      have hi : i < word.length := (List.getElem?_eq_some_iff.mp hb).1
      have dy := st_dys F word i (by omega)
      have q1 := led_first_ok (D := D) (rp := rp) (fw := fw) (n := n) (sto := s') (k := 4 * i) (l := 16 * i) (by omega) (by omega) F dy
      have q2 := led_second_ok (D := D) (rp := rp) (fw := fw) (n := n) (sto := s') (k := 4 * i) (l := 16 * i) (by omega) (by omega) F dy
      refine ⟨_, s', .inl ?_, rfl, some (.t (letT b)), rfl⟩
      rw [st_take hb]
      cases b with
      | false =>
        simp only [FB_fives_sum_by_0, fl_fives_led_first, fl_fives_led_second, evS, ev, evs, evF, evI, put, putL, bindV, bind_ok, toFl_ok, seq_nx, seq_rt, putFl_ok, rd_t, emb_t, ofO_some, ofT_some, noex_ok, E.isOmit, List.map_cons, List.map_nil, List.replicate, List.cons_append, List.nil_append, List.length_cons, List.length_nil, List.set_cons_zero, List.set_cons_succ, List.getElem?_cons_zero, List.getElem?_cons_succ, Bool.false_eq_true, if_true, if_false, reduceIte, Nat.reduceAdd, Nat.reduceSub, Nat.reduceLT, Nat.reduceLeDiff, Nat.lt_irrefl, evT, bin_add, bin_sub, mthOk_ins, attV_ins, cmpP_lt, cmpP_le, cmpP_gt, cmpP_ge, cmp_lt, cmp_le, cmp_gt, cmp_ge, cmp_eqi, cmp_eqs, cmp_eqb, cmp_nei, cmp_nes, cmp_neb, cmp_isn, cmp_nin, cmp_isb, cmp_nib, tru_bl, tru_int, isNon_lst, isNon_non, item_l, item_t, blt_lenl, blt_lent, blt_lend, blt_all, blt_any, mapM_t1, mapM_t2, embLM_t0, embLM_t1, embLM_t2, embLM_t3, Option.bind_some, Option.map_some, Bool.not_true, Bool.not_false, endC_rt, endC_nx, decide_eq_true_eq, List.mapM_nil, letT, q1, decide_true, Nat.reduceLT]
        simp [K87.Rl, toFl_ok, bind_ok, emb_t, rd_t, ofO_some, ofT_some, endC, fin, seq_nx, seq_rt, tru, ofT, ofO]
      | true =>
        simp only [FB_fives_sum_by_0, fl_fives_led_first, fl_fives_led_second, evS, ev, evs, evF, evI, put, putL, bindV, bind_ok, toFl_ok, seq_nx, seq_rt, putFl_ok, rd_t, emb_t, ofO_some, ofT_some, noex_ok, E.isOmit, List.map_cons, List.map_nil, List.replicate, List.cons_append, List.nil_append, List.length_cons, List.length_nil, List.set_cons_zero, List.set_cons_succ, List.getElem?_cons_zero, List.getElem?_cons_succ, Bool.false_eq_true, if_true, if_false, reduceIte, Nat.reduceAdd, Nat.reduceSub, Nat.reduceLT, Nat.reduceLeDiff, Nat.lt_irrefl, evT, bin_add, bin_sub, mthOk_ins, attV_ins, cmpP_lt, cmpP_le, cmpP_gt, cmpP_ge, cmp_lt, cmp_le, cmp_gt, cmp_ge, cmp_eqi, cmp_eqs, cmp_eqb, cmp_nei, cmp_nes, cmp_neb, cmp_isn, cmp_nin, cmp_isb, cmp_nib, tru_bl, tru_int, isNon_lst, isNon_non, item_l, item_t, blt_lenl, blt_lent, blt_lend, blt_all, blt_any, mapM_t1, mapM_t2, embLM_t0, embLM_t1, embLM_t2, embLM_t3, Option.bind_some, Option.map_some, Bool.not_true, Bool.not_false, endC_rt, endC_nx, decide_eq_true_eq, List.mapM_nil, letT, q2, decide_true, Nat.reduceLT]
        simp [K87.Rl, toFl_ok, bind_ok, emb_t, rd_t, ofO_some, ofT_some, endC, fin, seq_nx, seq_rt, tru, ofT, ofO, q2, fl_fives_led_second, evs, ev])
    (word.length + 1) 0 [some (.t (fvT s t u m v)), some (.t w), some (.t (stT one)), none, none, none, none, none] sto (by simp) (Nat.zero_le _) ⟨rfl, none, rfl⟩
  rw [List.length_map] at h4 ⊢
  rw [List.take_length] at h4
  exact ⟨lt, h4⟩
theorem evs_cons' {cf : CF} {r : Store → T → Out Str} {a as : E} {loc : Loc} {s s1 s2 : Store} {y : VV} {ys : List VV} (h1 : ev D cf r a loc s = .ok y s1) (h2 : evs D cf r as loc s1 = .ok ys s2) : evs D cf r (.cons a as) loc s = .ok (y :: ys) s2 := by
  simp only [evs, h1, h2, bind_ok]
theorem evs_nil' {cf : CF} {r : Store → T → Out Str} {loc : Loc} {s : Store} : evs D cf r .nil loc s = .ok [] s := by simp only [evs]
theorem mk_int [Is (D.ini 55 = some 334)] [Is (D.fn 334 = some F_ratios_Ratio___init__)] [Is (D.fld 55 "own_top" = true)] [Is (D.fld 55 "own_bottom" = true)] [Is (D.dfl 334 = [.int 1])] [Is (D.fn 31 = some F_basics_is_integer)] [Is (∀ t, okT D t = true → D.kit (.ty "int") t = true)] [Is (∀ t, okT D t = true → D.kit (.ty "bool") t = true)] [Is (D.fn 333 = some F_ratios_divisor_of)] {i : Int} {loc : Loc} {r : Store → T → Out Str} : ev D (callN D rp fw (n + 2)) r (.mk 55 (.cons (.int i) .nil)) loc sto = .ok (.t (ratQ (i : Rat))) sto := by
  have h2 := ratio_init_ok (D := D) (rp := rp) (fw := fw) (n := n) (s := sto) (a := i) (b := 1) (by omega) (by decide)
  have e : ratQ (i : Rat) = mkR i 1 := by rw [mkR_int]; rfl
  simp only [ev, evs, bind_ok, ini_55, fl1_ratios_Ratio___init__, h2, mkEnd_app, Cell.tree, e, mkR, ratT]
theorem sum_by_ok [Is (D.own 55 = true)] [Is (D.om 55 "__add__" = some 340)] [Is (D.om 55 "__sub__" = some 342)] [Is (D.om 55 "__mul__" = some 344)] [Is (D.om 55 "__neg__" = some 346)]
    [Is (D.fn 193 = some F_fives_sum_by)] [Is (D.ini 55 = some 334)] [Is (D.cls 55 = true)] [Is (D.fn 340 = some F_ratios_Ratio___add__)] [Is (D.fld 55 "own_top" = true)] [Is (D.fld 55 "own_bottom" = true)] [Is (D.fn 342 = some F_ratios_Ratio___sub__)] [Is (D.fn 344 = some F_ratios_Ratio___mul__)] [Is (D.fn 346 = some F_ratios_Ratio___neg__)] [Is (D.fn 191 = some F_fives_led_first)] [Is (D.fn 192 = some F_fives_led_second)] [Is (D.fn 334 = some F_ratios_Ratio___init__)] [Is (D.dfl 334 = [.int 1])] [Is (D.fn 354 = some F_ratios_told_pair)] [Is (∀ t, okT D t = true → D.kit (.cl 55) t = true)] [Is (∀ d, D.sub d 55 = decide (d = 55))] [Is (D.fn 190 = some F_fives_half_less)] [Is (D.om 55 "over" = some 347)] [Is (D.fn 31 = some F_basics_is_integer)] [Is (∀ t, okT D t = true → D.kit (.ty "int") t = true)] [Is (∀ t, okT D t = true → D.kit (.ty "bool") t = true)] [Is (D.fn 333 = some F_ratios_divisor_of)] [Is (D.fn 347 = some F_ratios_Ratio_over)] {s t u m v : Rat} (F : Fv s t u m v) {w : T} {word : List Bool} (hw : Wd w (word.map letT)) (hl : word.length ≤ 16) :
    callN D rp fw (n + 6) 193 [.t (fvT s t u m v), .t w] sto = .ok (.t (ratQ (Tr s t m (K87.st s t m (half s u) (half t v) word)))) sto := by
  rw [go_fives_sum_by]
  obtain ⟨lt, hs⟩ := sum_loop (D := D) (rp := rp) (fw := fw) (n := n) (sto := sto) F hw hl
  have m1 := mk_int (D := D) (rp := rp) (fw := fw) (n := n + 3) (sto := sto) (i := 1) (loc := [some (.t (fvT s t u m v)), some (.t w), none, none, none, none, none, none]) (r := rp (callN D rp fw (n + 5)))
  have m0 := mk_int (D := D) (rp := rp) (fw := fw) (n := n + 3) (sto := sto) (i := 0) (loc := [some (.t (fvT s t u m v)), some (.t w), none, none, none, none, none, none]) (r := rp (callN D rp fw (n + 5)))
  have e1 : evS D (callN D rp fw (n + 5)) (rp (callN D rp fw (n + 5))) fw (.asg (.gn 2) (.tup (.cons (.mk 55 (.cons (.int 1) .nil)) (.cons (.mk 55 (.cons (.int 0) .nil)) (.cons (.mk 55 (.cons (.int 0) .nil)) (.cons (.mk 55 (.cons (.int 0) .nil)) .nil)))))) [some (.t (fvT s t u m v)), some (.t w), none, none, none, none, none, none] sto = .nx [some (.t (fvT s t u m v)), some (.t w), some (.t (stT one)), none, none, none, none, none] sto := by
    rw [evS, ev, evs_cons' m1 (evs_cons' m0 (evs_cons' m0 (evs_cons' m0 evs_nil')))]
    simp only [evS, ev, evs, evF, evI, put, putL, bindV, bind_ok, toFl_ok, seq_nx, seq_rt, putFl_ok, rd_t, emb_t, ofO_some, ofT_some, noex_ok, E.isOmit, List.map_cons, List.map_nil, List.replicate, List.cons_append, List.nil_append, List.length_cons, List.length_nil, List.set_cons_zero, List.set_cons_succ, List.getElem?_cons_zero, List.getElem?_cons_succ, Bool.false_eq_true, if_true, if_false, reduceIte, Nat.reduceAdd, Nat.reduceSub, Nat.reduceLT, Nat.reduceLeDiff, Nat.lt_irrefl, evT, bin_add, bin_sub, mthOk_ins, attV_ins, cmpP_lt, cmpP_le, cmpP_gt, cmpP_ge, cmp_lt, cmp_le, cmp_gt, cmp_ge, cmp_eqi, cmp_eqs, cmp_eqb, cmp_nei, cmp_nes, cmp_neb, cmp_isn, cmp_nin, cmp_isb, cmp_nib, tru_bl, tru_int, isNon_lst, isNon_non, item_l, item_t, blt_lenl, blt_lent, blt_lend, blt_all, blt_any, mapM_t1, mapM_t2, embLM_t0, embLM_t1, embLM_t2, embLM_t3, Option.bind_some, Option.map_some, Bool.not_true, Bool.not_false, endC_rt, endC_nx, decide_eq_true_eq, List.mapM_nil, embLM_t4, l4]
    rfl
  have dy := st_dys F word word.length (Nat.le_refl _)
  rw [List.take_length] at dy
  generalize K87.st s t m (half s u) (half t v) word = x at hs dy ⊢
  simp only [S_fives_sum_by]
  rw [evS, e1, seq_nx, evS, hs, seq_nx]
  generalize hk : 4 * word.length = k at dy
  generalize hj : 16 * word.length = l at dy
  have kb : k ≤ 64 := by omega
  have lb : l ≤ 256 := by omega
  have za := dy.a.sz (by omega) (by omega)
  have zb := dy.b.sz (by omega) (by omega)
  have zc := dy.c.sz (by omega) (by omega)
  have zd := dy.d.sz (by omega) (by omega)
  have zs := F.s.sz (by omega) (by omega)
  have zt := F.t.sz (by omega) (by omega)
  have zm := F.m.sz (by omega) (by omega)
  have d2 : Dy 0 1 (2 : Rat) := ⟨2, by simp, by decide⟩
  have a1 := dy.a.mul d2
  have a2 := dy.b.mul F.s
  have a3 := dy.c.mul F.t
  have a4 := dy.d.mul F.m
  have b1 := (a1.mono (k' := k + 1) (m' := l + 4) (by omega) (by omega)).add a2
  have b2 := b1.add (a3.mono (k' := k + 1) (m' := l + 4 + 1) (by omega) (by omega))
  have y1 := a1.sz (by omega) (by omega)
  have y2 := a2.sz (by omega) (by omega)
  have y3 := a3.sz (by omega) (by omega)
  have y4 := a4.sz (by omega) (by omega)
  have y5 := b1.sz (by omega) (by omega)
  have y6 := b2.sz (by omega) (by omega)
  have i2 := bin_mulq (D := D) (rp := rp) (fw := fw) (n := n + 2) (s := sto) (Num.i 2) za Szq.two
  have i3 : atI [ratQ s, ratQ t, ratQ u, ratQ m, ratQ v] 3 = some (ratQ m) := atI_nat (i := 3) rfl
  have ei : (((2 : Int) : Int) : Rat) = 2 := rfl
  simp only [fvT, stT, evS, ev, evs, evF, evI, put, putL, bindV, bind_ok, toFl_ok, seq_nx, seq_rt, putFl_ok, rd_t, emb_t, ofO_some, ofT_some, noex_ok, E.isOmit, List.map_cons, List.map_nil, List.replicate, List.cons_append, List.nil_append, List.length_cons, List.length_nil, List.set_cons_zero, List.set_cons_succ, List.getElem?_cons_zero, List.getElem?_cons_succ, Bool.false_eq_true, if_true, if_false, reduceIte, Nat.reduceAdd, Nat.reduceSub, Nat.reduceLT, Nat.reduceLeDiff, Nat.lt_irrefl, evT, bin_add, bin_sub, mthOk_ins, attV_ins, cmpP_lt, cmpP_le, cmpP_gt, cmpP_ge, cmp_lt, cmp_le, cmp_gt, cmp_ge, cmp_eqi, cmp_eqs, cmp_eqb, cmp_nei, cmp_nes, cmp_neb, cmp_isn, cmp_nin, cmp_isb, cmp_nib, tru_bl, tru_int, isNon_lst, isNon_non, item_l, item_t, blt_lenl, blt_lent, blt_lend, blt_all, blt_any, mapM_t1, mapM_t2, embLM_t0, embLM_t1, embLM_t2, embLM_t3, Option.bind_some, Option.map_some, Bool.not_true, Bool.not_false, endC_rt, endC_nx, decide_eq_true_eq, List.mapM_nil, items, alen, atI_0, atI_1, i3, i2, ei, bin_mulq (Num.q s) zb zs, bin_addq (Num.q (x.b * s)) y1 y2, bin_mulq (Num.q t) zc zt, bin_addq (Num.q (x.c * t)) y5 y3, bin_mulq (Num.q m) zd zm, bin_addq (Num.q (x.d * m)) y6 y4]
  simp [Tr, toFl_ok, bind_ok, emb_t, rd_t, ofO_some, ofT_some, endC, fin, seq_nx, seq_rt, tru, ofT, ofO]
end
end Tw
set_option maxHeartbeats 4000000
namespace Tw
open PySem L2 K87
theorem Num.ratOf {t : T} {x : Rat} (h : Num t x) : ratOf t = ratQ x := by cases h <;> rfl
theorem Num.isNum {t : T} {x : Rat} (h : Num t x) : isNum t = true := by cases h <;> rfl
section
variable {D : Defs} {rp : CF → Store → T → Out Str} {fw n : Nat} {sto : Store}
theorem Num.okT [h : Is (D.cls 55 = true)] {t : T} {x : Rat} (hx : Num t x) : okT D t = true := by
  cases hx with
  | q => exact h.h
  | i => rfl
theorem want_five_ok [Is (D.fn 188 = some F_fives_want_five)] [Is (∀ t, okT D t = true → D.kit (.ty "tuple") t = true)] [Is (D.fn 420 = some F_solved_are_numbers)] [Is (D.fn 356 = some F_ratios_ratio_of)] [Is (∀ t, okT D t = true → D.kit (.cl 55) t = true)] [Is (∀ d, D.sub d 55 = decide (d = 55))] [Is (D.cls 55 = true)] [Is (D.ini 55 = some 334)] [Is (D.fn 33 = some F_basics_is_list)] [Is (∀ t, okT D t = true → D.kit (.ty "list") t = true)] [Is (D.fn 355 = some F_ratios_is_number)] [Is (D.fn 334 = some F_ratios_Ratio___init__)] [Is (D.fld 55 "own_top" = true)] [Is (D.fld 55 "own_bottom" = true)] [Is (D.dfl 334 = [.int 1])] [Is (D.fn 31 = some F_basics_is_integer)] [Is (∀ t, okT D t = true → D.kit (.ty "int") t = true)] [Is (∀ t, okT D t = true → D.kit (.ty "bool") t = true)] [Is (D.fn 333 = some F_ratios_divisor_of)] {a b c d e : T} {s t u m v : Rat} (ha : Num a s) (hb : Num b t) (hc : Num c u) (hd : Num d m) (he : Num e v) :
    callN D rp fw (n + 4) 188 [.t (.tup [a, b, c, d, e])] sto = .ok (.t (fvT s t u m v)) sto := by
  rw [go_fives_want_five]
  have mem : ∀ y ∈ [a, b, c, d, e], okT D y = true ∧ isNum y = true := by
    intro y hy
    simp only [List.mem_cons, List.not_mem_nil, or_false] at hy
    rcases hy with rfl | rfl | rfl | rfl | rfl
    · exact ⟨ha.okT, ha.isNum⟩
    · exact ⟨hb.okT, hb.isNum⟩
    · exact ⟨hc.okT, hc.isNum⟩
    · exact ⟨hd.okT, hd.isNum⟩
    · exact ⟨he.okT, he.isNum⟩
  have l5 : ([a, b, c, d, e] : List T).length ≤ sizeLine := by simp; decide
  have oN : okN D 1 (.tup [a, b, c, d, e]) := ⟨rfl, l5, fun y hy => (mem y hy).1⟩
  have h1 : isiOk D.kit D.cls [.ty "tuple"] (.tup [a, b, c, d, e]) = true := isiOk_of rfl (by simp only [List.mem_singleton, forall_eq]; exact (Is.h (p := ∀ t, okT D t = true → D.kit (.ty "tuple") t = true) _ rfl))
  have h2 : ([CR.ty "tuple"].any fun c' => isiP D.sub c' (.tup [a, b, c, d, e])) = true := rfl
  have h3 := are_numbers_ok (D := D) (rp := rp) (fw := fw) (n := n) (s := sto) (w := 5) oN
  have h4 : isRow (.tup [a, b, c, d, e]) 5 = true := by simp [isRow, isSeq, itms, ha.isNum, hb.isNum, hc.isNum, hd.isNum, he.isNum]
  obtain ⟨src, e1, e2⟩ := evI_seq (s := sto) (D := D) (cf := callN D rp fw (n + 3)) (rp := rp (callN D rp fw (n + 3))) (e := .var 0) (loc := [some (.t (.tup [a, b, c, d, e])), none]) (x := .tup [a, b, c, d, e]) rfl (by simp only [evS, ev, evs, evF, evI, put, putL, bindV, bind_ok, toFl_ok, seq_nx, seq_rt, putFl_ok, rd_t, emb_t, ofO_some, ofT_some, noex_ok, E.isOmit, List.map_cons, List.map_nil, List.replicate, List.cons_append, List.nil_append, List.length_cons, List.length_nil, List.set_cons_zero, List.set_cons_succ, List.getElem?_cons_zero, List.getElem?_cons_succ, Bool.false_eq_true, if_true, if_false, reduceIte, Nat.reduceAdd, Nat.reduceSub, Nat.reduceLT, Nat.reduceLeDiff, Nat.lt_irrefl, evT, bin_add, bin_sub, mthOk_ins, attV_ins, cmpP_lt, cmpP_le, cmpP_gt, cmpP_ge, cmp_lt, cmp_le, cmp_gt, cmp_ge, cmp_eqi, cmp_eqs, cmp_eqb, cmp_nei, cmp_nes, cmp_neb, cmp_isn, cmp_nin, cmp_isb, cmp_nib, tru_bl, tru_int, isNon_lst, isNon_non, item_l, item_t, blt_lenl, blt_lent, blt_lend, blt_all, blt_any, mapM_t1, mapM_t2, embLM_t0, embLM_t1, embLM_t2, embLM_t3, Option.bind_some, Option.map_some, Bool.not_true, Bool.not_false, endC_rt, endC_nx, decide_eq_true_eq, List.mapM_nil])
  have hlc : ev D (callN D rp fw (n + 3)) (rp (callN D rp fw (n + 3))) LC_fives_want_five_0 [some (.t (.tup [a, b, c, d, e])), none] sto = _ := ev_lc_map ratOf e1 e2 l5 (fun y hy => ⟨[some (.t (.tup [a, b, c, d, e])), some (.t y)], by simp [bindG, wipeL], fun acc => by
    have q := ratio_of_ok (D := D) (rp := rp) (fw := fw) (n := n) (s := sto ++ [.lst acc]) (mem y hy).1 (mem y hy).2
    simp only [evS, ev, evs, evF, evI, put, putL, bindV, bind_ok, toFl_ok, seq_nx, seq_rt, putFl_ok, rd_t, emb_t, ofO_some, ofT_some, noex_ok, E.isOmit, List.map_cons, List.map_nil, List.replicate, List.cons_append, List.nil_append, List.length_cons, List.length_nil, List.set_cons_zero, List.set_cons_succ, List.getElem?_cons_zero, List.getElem?_cons_succ, Bool.false_eq_true, if_true, if_false, reduceIte, Nat.reduceAdd, Nat.reduceSub, Nat.reduceLT, Nat.reduceLeDiff, Nat.lt_irrefl, evT, bin_add, bin_sub, mthOk_ins, attV_ins, cmpP_lt, cmpP_le, cmpP_gt, cmpP_ge, cmp_lt, cmp_le, cmp_gt, cmp_ge, cmp_eqi, cmp_eqs, cmp_eqb, cmp_nei, cmp_nes, cmp_neb, cmp_isn, cmp_nin, cmp_isb, cmp_nib, tru_bl, tru_int, isNon_lst, isNon_non, item_l, item_t, blt_lenl, blt_lent, blt_lend, blt_all, blt_any, mapM_t1, mapM_t2, embLM_t0, embLM_t1, embLM_t2, embLM_t3, Option.bind_some, Option.map_some, Bool.not_true, Bool.not_false, endC_rt, endC_nx, decide_eq_true_eq, List.mapM_nil, fl_ratios_ratio_of, q]⟩)
  simp only [S_fives_want_five, fl_solved_are_numbers, fl_ratios_ratio_of, evS, ev, evs, evF, evI, put, putL, bindV, bind_ok, toFl_ok, seq_nx, seq_rt, putFl_ok, rd_t, emb_t, ofO_some, ofT_some, noex_ok, E.isOmit, List.map_cons, List.map_nil, List.replicate, List.cons_append, List.nil_append, List.length_cons, List.length_nil, List.set_cons_zero, List.set_cons_succ, List.getElem?_cons_zero, List.getElem?_cons_succ, Bool.false_eq_true, if_true, if_false, reduceIte, Nat.reduceAdd, Nat.reduceSub, Nat.reduceLT, Nat.reduceLeDiff, Nat.lt_irrefl, evT, bin_add, bin_sub, mthOk_ins, attV_ins, cmpP_lt, cmpP_le, cmpP_gt, cmpP_ge, cmp_lt, cmp_le, cmp_gt, cmp_ge, cmp_eqi, cmp_eqs, cmp_eqb, cmp_nei, cmp_nes, cmp_neb, cmp_isn, cmp_nin, cmp_isb, cmp_nib, tru_bl, tru_int, isNon_lst, isNon_non, item_l, item_t, blt_lenl, blt_lent, blt_lend, blt_all, blt_any, mapM_t1, mapM_t2, embLM_t0, embLM_t1, embLM_t2, embLM_t3, Option.bind_some, Option.map_some, Bool.not_true, Bool.not_false, endC_rt, endC_nx, decide_eq_true_eq, List.mapM_nil, h1, h2, h3, h4, hlc]
  simp [bltP, itms, fvT, ha.ratOf, hb.ratOf, hc.ratOf, hd.ratOf, he.ratOf, toFl_ok, bind_ok, emb_t, rd_t, ofO_some, ofT_some, endC, fin, seq_nx, seq_rt, tru, ofT, ofO]
theorem letT_ok {b : Bool} : okT D (letT b) = true := rfl
theorem Wd.seq {w : T} {xs : List T} (h : Wd w xs) : isSeq w = true ∧ itms w = xs ∧ okT D w = true := by cases h <;> exact ⟨rfl, rfl, rfl⟩
theorem is_short_ok [Is (D.fn 189 = some F_fives_is_short_word)] [Is (D.fn 33 = some F_basics_is_list)] [Is (∀ t, okT D t = true → D.kit (.ty "list") t = true)] [Is (∀ t, okT D t = true → D.kit (.ty "tuple") t = true)] [Is (D.fn 32 = some F_basics_is_count)] [Is (D.fn 31 = some F_basics_is_integer)] [Is (∀ t, okT D t = true → D.kit (.ty "int") t = true)] [Is (∀ t, okT D t = true → D.kit (.ty "bool") t = true)] {w : T} {word : List Bool} (hw : Wd w (word.map letT)) (hl : word.length ≤ 16) :
    callN D rp fw (n + 3) 189 [.t w] sto = .ok (.t (.bl true)) sto := by
  rw [go_fives_is_short_word]
  obtain ⟨q1, q2, q3⟩ := hw.seq (D := D)
  have lz : (word.map letT).length ≤ sizeLine := by rw [List.length_map]; exact Nat.le_trans hl (by decide)
  obtain ⟨src, e1, e2⟩ := evI_seq (s := sto) (D := D) (cf := callN D rp fw (n + 2)) (rp := rp (callN D rp fw (n + 2))) (e := .var 0) (loc := [some (.t w), none]) (x := w) q1 (by simp only [evS, ev, evs, evF, evI, put, putL, bindV, bind_ok, toFl_ok, seq_nx, seq_rt, putFl_ok, rd_t, emb_t, ofO_some, ofT_some, noex_ok, E.isOmit, List.map_cons, List.map_nil, List.replicate, List.cons_append, List.nil_append, List.length_cons, List.length_nil, List.set_cons_zero, List.set_cons_succ, List.getElem?_cons_zero, List.getElem?_cons_succ, Bool.false_eq_true, if_true, if_false, reduceIte, Nat.reduceAdd, Nat.reduceSub, Nat.reduceLT, Nat.reduceLeDiff, Nat.lt_irrefl, evT, bin_add, bin_sub, mthOk_ins, attV_ins, cmpP_lt, cmpP_le, cmpP_gt, cmpP_ge, cmp_lt, cmp_le, cmp_gt, cmp_ge, cmp_eqi, cmp_eqs, cmp_eqb, cmp_nei, cmp_nes, cmp_neb, cmp_isn, cmp_nin, cmp_isb, cmp_nib, tru_bl, tru_int, isNon_lst, isNon_non, item_l, item_t, blt_lenl, blt_lent, blt_lend, blt_all, blt_any, mapM_t1, mapM_t2, embLM_t0, embLM_t1, embLM_t2, embLM_t3, Option.bind_some, Option.map_some, Bool.not_true, Bool.not_false, endC_rt, endC_nx, decide_eq_true_eq, List.mapM_nil])
  rw [q2] at e2
  have hlc : ev D (callN D rp fw (n + 2)) (rp (callN D rp fw (n + 2))) LC_fives_is_short_word_0 [some (.t w), none] sto = _ := ev_lc_map (fun _ => .bl true) e1 e2 lz (fun y hy => ⟨[some (.t w), some (.t y)], by simp [bindG, wipeL], fun acc => by
    obtain ⟨b, _, rfl⟩ := List.mem_map.mp hy
    have q := is_count_ok (D := D) (rp := rp) (fw := fw) (n := n) (s := sto ++ [.lst acc]) (x := letT b) letT_ok
    have c1 : isCnt (letT b) = true := by cases b <;> rfl
    cases b <;> simp only [evS, ev, evs, evF, evI, put, putL, bindV, bind_ok, toFl_ok, seq_nx, seq_rt, putFl_ok, rd_t, emb_t, ofO_some, ofT_some, noex_ok, E.isOmit, List.map_cons, List.map_nil, List.replicate, List.cons_append, List.nil_append, List.length_cons, List.length_nil, List.set_cons_zero, List.set_cons_succ, List.getElem?_cons_zero, List.getElem?_cons_succ, Bool.false_eq_true, if_true, if_false, reduceIte, Nat.reduceAdd, Nat.reduceSub, Nat.reduceLT, Nat.reduceLeDiff, Nat.lt_irrefl, evT, bin_add, bin_sub, mthOk_ins, attV_ins, cmpP_lt, cmpP_le, cmpP_gt, cmpP_ge, cmp_lt, cmp_le, cmp_gt, cmp_ge, cmp_eqi, cmp_eqs, cmp_eqb, cmp_nei, cmp_nes, cmp_neb, cmp_isn, cmp_nin, cmp_isb, cmp_nib, tru_bl, tru_int, isNon_lst, isNon_non, item_l, item_t, blt_lenl, blt_lent, blt_lend, blt_all, blt_any, mapM_t1, mapM_t2, embLM_t0, embLM_t1, embLM_t2, embLM_t3, Option.bind_some, Option.map_some, Bool.not_true, Bool.not_false, endC_rt, endC_nx, decide_eq_true_eq, List.mapM_nil, fl_basics_is_count, q, c1] <;> simp only [letT, evS, ev, evs, evF, evI, put, putL, bindV, bind_ok, toFl_ok, seq_nx, seq_rt, putFl_ok, rd_t, emb_t, ofO_some, ofT_some, noex_ok, E.isOmit, List.map_cons, List.map_nil, List.replicate, List.cons_append, List.nil_append, List.length_cons, List.length_nil, List.set_cons_zero, List.set_cons_succ, List.getElem?_cons_zero, List.getElem?_cons_succ, Bool.false_eq_true, if_true, if_false, reduceIte, Nat.reduceAdd, Nat.reduceSub, Nat.reduceLT, Nat.reduceLeDiff, Nat.lt_irrefl, evT, bin_add, bin_sub, mthOk_ins, attV_ins, cmpP_lt, cmpP_le, cmpP_gt, cmpP_ge, cmp_lt, cmp_le, cmp_gt, cmp_ge, cmp_eqi, cmp_eqs, cmp_eqb, cmp_nei, cmp_nes, cmp_neb, cmp_isn, cmp_nin, cmp_isb, cmp_nib, tru_bl, tru_int, isNon_lst, isNon_non, item_l, item_t, blt_lenl, blt_lent, blt_lend, blt_all, blt_any, mapM_t1, mapM_t2, embLM_t0, embLM_t1, embLM_t2, embLM_t3, Option.bind_some, Option.map_some, Bool.not_true, Bool.not_false, endC_rt, endC_nx, decide_eq_true_eq, List.mapM_nil] <;> rfl⟩)
  have hall : bltP .all [.lst ((word.map letT).map fun _ => T.bl true)] = some (.bl true) := by
    have := blt_all (f := fun _ : T => true) (xs := word.map letT)
    rw [this]; simp
  have hle : (((word.map letT).length : Int) ≤ 16) = True := by rw [List.length_map]; simp; omega
  simp only [S_fives_is_short_word, fl_basics_is_list, fl_basics_is_count, evS, ev, evs, evF, evI, put, putL, bindV, bind_ok, toFl_ok, seq_nx, seq_rt, putFl_ok, rd_t, emb_t, ofO_some, ofT_some, noex_ok, E.isOmit, List.map_cons, List.map_nil, List.replicate, List.cons_append, List.nil_append, List.length_cons, List.length_nil, List.set_cons_zero, List.set_cons_succ, List.getElem?_cons_zero, List.getElem?_cons_succ, Bool.false_eq_true, if_true, if_false, reduceIte, Nat.reduceAdd, Nat.reduceSub, Nat.reduceLT, Nat.reduceLeDiff, Nat.lt_irrefl, evT, bin_add, bin_sub, mthOk_ins, attV_ins, cmpP_lt, cmpP_le, cmpP_gt, cmpP_ge, cmp_lt, cmp_le, cmp_gt, cmp_ge, cmp_eqi, cmp_eqs, cmp_eqb, cmp_nei, cmp_nes, cmp_neb, cmp_isn, cmp_nin, cmp_isb, cmp_nib, tru_bl, tru_int, isNon_lst, isNon_non, item_l, item_t, blt_lenl, blt_lent, blt_lend, blt_all, blt_any, mapM_t1, mapM_t2, embLM_t0, embLM_t1, embLM_t2, embLM_t3, Option.bind_some, Option.map_some, Bool.not_true, Bool.not_false, endC_rt, endC_nx, decide_eq_true_eq, List.mapM_nil, is_list_ok q3, q1, blt_len_seq q1, q2, hlc, hall, hle, decide_true]
theorem word_by_ok [Is (D.own 55 = true)] [Is (D.om 55 "__add__" = some 340)] [Is (D.om 55 "__sub__" = some 342)] [Is (D.om 55 "__mul__" = some 344)] [Is (D.om 55 "__neg__" = some 346)]
    [Is (D.fn 196 = some F_fives_word_by)] [Is (D.fn 340 = some F_ratios_Ratio___add__)] [Is (D.ini 55 = some 334)] [Is (D.cls 55 = true)] [Is (D.fld 55 "own_top" = true)] [Is (D.fld 55 "own_bottom" = true)] [Is (D.fn 342 = some F_ratios_Ratio___sub__)] [Is (D.fn 344 = some F_ratios_Ratio___mul__)] [Is (D.fn 346 = some F_ratios_Ratio___neg__)] [Is (D.fn 188 = some F_fives_want_five)] [Is (∀ t, okT D t = true → D.kit (.ty "tuple") t = true)] [Is (D.fn 189 = some F_fives_is_short_word)] [Is (D.fn 193 = some F_fives_sum_by)] [Is (D.fn 354 = some F_ratios_told_pair)] [Is (∀ t, okT D t = true → D.kit (.cl 55) t = true)] [Is (∀ d, D.sub d 55 = decide (d = 55))] [Is (D.fn 334 = some F_ratios_Ratio___init__)] [Is (D.dfl 334 = [.int 1])] [Is (D.fn 420 = some F_solved_are_numbers)] [Is (D.fn 356 = some F_ratios_ratio_of)] [Is (D.fn 33 = some F_basics_is_list)] [Is (∀ t, okT D t = true → D.kit (.ty "list") t = true)] [Is (D.fn 32 = some F_basics_is_count)] [Is (D.fn 191 = some F_fives_led_first)] [Is (D.fn 192 = some F_fives_led_second)] [Is (D.fn 31 = some F_basics_is_integer)] [Is (∀ t, okT D t = true → D.kit (.ty "int") t = true)] [Is (∀ t, okT D t = true → D.kit (.ty "bool") t = true)] [Is (D.fn 333 = some F_ratios_divisor_of)] [Is (D.fn 355 = some F_ratios_is_number)] [Is (D.fn 190 = some F_fives_half_less)] [Is (D.om 55 "over" = some 347)] [Is (D.fn 347 = some F_ratios_Ratio_over)] {a b c d e : T} {s t u m v : Rat} (ha : Num a s) (hb : Num b t) (hc : Num c u) (hd : Num d m) (he : Num e v) (F : Fv s t u m v) {w : T} {word : List Bool} (hw : Wd w (word.map letT)) (hl : word.length ≤ 16) :
    callN D rp fw (n + 7) 196 [.t (.tup [a, b, c, d, e]), .t w] sto = .ok (.t (ratQ (Tr s t m (K87.st s t m (half s u) (half t v) word)))) sto := by
  rw [go_fives_word_by]
  have h1 := want_five_ok (D := D) (rp := rp) (fw := fw) (n := n + 2) (sto := sto) ha hb hc hd he
  have h2 := is_short_ok (D := D) (rp := rp) (fw := fw) (n := n + 3) (sto := sto) hw hl
  have h3 := sum_by_ok (D := D) (rp := rp) (fw := fw) (n := n) (sto := sto) F hw hl
  simp only [S_fives_word_by, fl_fives_want_five, fl_fives_is_short_word, fl_fives_sum_by, evS, ev, evs, evF, evI, put, putL, bindV, bind_ok, toFl_ok, seq_nx, seq_rt, putFl_ok, rd_t, emb_t, ofO_some, ofT_some, noex_ok, E.isOmit, List.map_cons, List.map_nil, List.replicate, List.cons_append, List.nil_append, List.length_cons, List.length_nil, List.set_cons_zero, List.set_cons_succ, List.getElem?_cons_zero, List.getElem?_cons_succ, Bool.false_eq_true, if_true, if_false, reduceIte, Nat.reduceAdd, Nat.reduceSub, Nat.reduceLT, Nat.reduceLeDiff, Nat.lt_irrefl, evT, bin_add, bin_sub, mthOk_ins, attV_ins, cmpP_lt, cmpP_le, cmpP_gt, cmpP_ge, cmp_lt, cmp_le, cmp_gt, cmp_ge, cmp_eqi, cmp_eqs, cmp_eqb, cmp_nei, cmp_nes, cmp_neb, cmp_isn, cmp_nin, cmp_isb, cmp_nib, tru_bl, tru_int, isNon_lst, isNon_non, item_l, item_t, blt_lenl, blt_lent, blt_lend, blt_all, blt_any, mapM_t1, mapM_t2, embLM_t0, embLM_t1, embLM_t2, embLM_t3, Option.bind_some, Option.map_some, Bool.not_true, Bool.not_false, endC_rt, endC_nx, decide_eq_true_eq, List.mapM_nil, h1, h2, h3]
end
end Tw
set_option maxHeartbeats 4000000
namespace Tw
open PySem L2 K87
section
variable {rp : CF → Store → T → Out Str} {fw n : Nat} {s : Store}
/-! ## k87: the law's own defs -/
theorem drawF {m : Int} (h0 : 0 < m) (h1 : m < 1073741824) : PotFn (callN (PT.D true) rp fw (n + 1)) 1002 [.int m] (fun t => ∃ d : Nat, t = .int d ∧ (d : Int) < m) := draw_ok.fn h0 h1
theorem number_ok : PotFn (callN (PT.D true) rp fw (n + 3)) 1003 [] (fun t => ∃ x, Num t x ∧ Dy 1 4 x) := fun s k hp => by
  show ∃ t s', callN (PT.D true) rp fw (n + 3) 1003 [.c k] s = _ ∧ _
  rw [go_L_number]
  obtain ⟨_, s1, e1, h1, d, rfl, hd⟩ := drawF (rp := rp) (fw := fw) (n := n + 1) (m := 13) (by decide) (by decide) s k hp
  have S1 := (Sat.start1 hp).same h1
  obtain ⟨_, s2, e2, h2, d', rfl, hd'⟩ := drawF (rp := rp) (fw := fw) (n := n + 1) (m := 4) (by decide) (by decide) s1 k S1.pot1
  have S2 := S1.same h2
  have bd : ((d : Int) - 6).natAbs ≤ 2 ^ 3 := by omega
  simp only [List.map_cons, List.map_nil] at e1 e2
  by_cases h0 : (d' : Int) = 0
  · have h2 := ratio_init_ok (D := (PT.D true)) (rp := rp) (fw := fw) (n := n) (s := s2) (a := d - 6) (b := 2) (by omega) (by decide)
    obtain ⟨s3, q1, q2⟩ := S2.ret (x := mkR (d - 6) 2)
    refine ⟨mkR (d - 6) 2, s3, ?_, q2, Rat.divInt (d - 6) 2, ?_, ?_⟩
    · rw [← q1]
      simp only [S_L_number, evS, ev, evs, evF, evI, put, putL, bindV, bind_ok, toFl_ok, seq_nx, seq_rt, putFl_ok, rd_t, emb_t, ofO_some, ofT_some, noex_ok, E.isOmit, List.map_cons, List.map_nil, List.replicate, List.cons_append, List.nil_append, List.length_cons, List.length_nil, List.set_cons_zero, List.set_cons_succ, List.getElem?_cons_zero, List.getElem?_cons_succ, Bool.false_eq_true, if_true, if_false, reduceIte, Nat.reduceAdd, Nat.reduceSub, Nat.reduceLT, Nat.reduceLeDiff, Nat.lt_irrefl, evT, bin_add, bin_sub, mthOk_ins, attV_ins, cmpP_lt, cmpP_le, cmpP_gt, cmpP_ge, cmp_lt, cmp_le, cmp_gt, cmp_ge, cmp_eqi, cmp_eqs, cmp_eqb, cmp_nei, cmp_nes, cmp_neb, cmp_isn, cmp_nin, cmp_isb, cmp_nib, tru_bl, tru_int, isNon_lst, isNon_non, item_l, item_t, blt_lenl, blt_lent, blt_lend, blt_all, blt_any, mapM_t1, mapM_t2, embLM_t0, embLM_t1, embLM_t2, embLM_t3, Option.bind_some, Option.map_some, Bool.not_true, Bool.not_false, endC_rt, endC_nx, decide_eq_true_eq, List.mapM_nil, fl_L_draw, e1, e2, h0, decide_true]
      simp only [ini_55, fl_ratios_Ratio___init__, h2, evS, ev, evs, evF, evI, put, putL, bindV, bind_ok, toFl_ok, seq_nx, seq_rt, putFl_ok, rd_t, emb_t, ofO_some, ofT_some, noex_ok, E.isOmit, List.map_cons, List.map_nil, List.replicate, List.cons_append, List.nil_append, List.length_cons, List.length_nil, List.set_cons_zero, List.set_cons_succ, List.getElem?_cons_zero, List.getElem?_cons_succ, Bool.false_eq_true, if_true, if_false, reduceIte, Nat.reduceAdd, Nat.reduceSub, Nat.reduceLT, Nat.reduceLeDiff, Nat.lt_irrefl, evT, bin_add, bin_sub, mthOk_ins, attV_ins, cmpP_lt, cmpP_le, cmpP_gt, cmpP_ge, cmp_lt, cmp_le, cmp_gt, cmp_ge, cmp_eqi, cmp_eqs, cmp_eqb, cmp_nei, cmp_nes, cmp_neb, cmp_isn, cmp_nin, cmp_isb, cmp_nib, tru_bl, tru_int, isNon_lst, isNon_non, item_l, item_t, blt_lenl, blt_lent, blt_lend, blt_all, blt_any, mapM_t1, mapM_t2, embLM_t0, embLM_t1, embLM_t2, embLM_t3, Option.bind_some, Option.map_some, Bool.not_true, Bool.not_false, endC_rt, endC_nx, decide_eq_true_eq, List.mapM_nil, mkEnd_app, Cell.tree, mkR, ratT]
    · rw [mkR_q (by decide)]; exact .q _
    · refine ⟨d - 6, ?_, Nat.le_trans bd (by decide)⟩
      rw [Rat.divInt_eq_div]
      show (((d : Int) - 6 : Int) : Rat) / (2 : Int) * ((2 ^ 1 : Nat) : Rat) = _
      have : ((2 ^ 1 : Nat) : Rat) = ((2 : Int) : Rat) := by simp
      rw [this]
      exact Rat.div_mul_cancel (by decide)
  · obtain ⟨s3, q1, q2⟩ := S2.ret (x := .int (d - 6))
    refine ⟨.int (d - 6), s3, ?_, q2, (((d : Int) - 6 : Int) : Rat), .i _, (Dy.int (d - 6) bd).mono (by decide) (by decide)⟩
    rw [← q1]
    simp only [S_L_number, evS, ev, evs, evF, evI, put, putL, bindV, bind_ok, toFl_ok, seq_nx, seq_rt, putFl_ok, rd_t, emb_t, ofO_some, ofT_some, noex_ok, E.isOmit, List.map_cons, List.map_nil, List.replicate, List.cons_append, List.nil_append, List.length_cons, List.length_nil, List.set_cons_zero, List.set_cons_succ, List.getElem?_cons_zero, List.getElem?_cons_succ, Bool.false_eq_true, if_true, if_false, reduceIte, Nat.reduceAdd, Nat.reduceSub, Nat.reduceLT, Nat.reduceLeDiff, Nat.lt_irrefl, evT, bin_add, bin_sub, mthOk_ins, attV_ins, cmpP_lt, cmpP_le, cmpP_gt, cmpP_ge, cmp_lt, cmp_le, cmp_gt, cmp_ge, cmp_eqi, cmp_eqs, cmp_eqb, cmp_nei, cmp_nes, cmp_neb, cmp_isn, cmp_nin, cmp_isb, cmp_nib, tru_bl, tru_int, isNon_lst, isNon_non, item_l, item_t, blt_lenl, blt_lent, blt_lend, blt_all, blt_any, mapM_t1, mapM_t2, embLM_t0, embLM_t1, embLM_t2, embLM_t3, Option.bind_some, Option.map_some, Bool.not_true, Bool.not_false, endC_rt, endC_nx, decide_eq_true_eq, List.mapM_nil, fl_L_draw, e1, e2, h0, decide_false]
theorem word_ok : PotFn (callN (PT.D true) rp fw (n + 2)) 1004 [.int 6] (fun t => ∃ w, t = .lst (List.map letT w) ∧ 1 ≤ w.length ∧ w.length ≤ 6) := fun s k hp => by
  show ∃ t s', callN (PT.D true) rp fw (n + 2) 1004 [.c k, .t (.int 6)] s = _ ∧ _
  rw [go_L_word]
  have S1 := (Sat.start1 hp).new (xs := [])
  obtain ⟨_, s2, e2, h2, m, rfl, hm⟩ := drawF (rp := rp) (fw := fw) (n := n) (m := 6) (by decide) (by decide) _ k S1.pot1
  simp only [List.map_cons, List.map_nil] at e2
  have S2 := S1.same h2
  have e0 : evI (PT.D true) (callN (PT.D true) rp fw (n + 1)) (rp (callN (PT.D true) rp fw (n + 1))) (.irng1 (.bin .Add (.cal 1002 (.cons (.var 0) (.cons (.var 1) .nil))) (.int 1))) [some (.c k), some (.t (.int 6)), some (.c s.length), none] (s ++ [.lst []]) = .ok (.rng 0 ((m + 1 : Nat) : Int)) s2 := evI_rng (by
    simp only [evS, ev, evs, evF, evI, put, putL, bindV, bind_ok, toFl_ok, seq_nx, seq_rt, putFl_ok, rd_t, emb_t, ofO_some, ofT_some, noex_ok, E.isOmit, List.map_cons, List.map_nil, List.replicate, List.cons_append, List.nil_append, List.length_cons, List.length_nil, List.set_cons_zero, List.set_cons_succ, List.getElem?_cons_zero, List.getElem?_cons_succ, Bool.false_eq_true, if_true, if_false, reduceIte, Nat.reduceAdd, Nat.reduceSub, Nat.reduceLT, Nat.reduceLeDiff, Nat.lt_irrefl, evT, bin_add, bin_sub, mthOk_ins, attV_ins, cmpP_lt, cmpP_le, cmpP_gt, cmpP_ge, cmp_lt, cmp_le, cmp_gt, cmp_ge, cmp_eqi, cmp_eqs, cmp_eqb, cmp_nei, cmp_nes, cmp_neb, cmp_isn, cmp_nin, cmp_isb, cmp_nib, tru_bl, tru_int, isNon_lst, isNon_non, item_l, item_t, blt_lenl, blt_lent, blt_lend, blt_all, blt_any, mapM_t1, mapM_t2, embLM_t0, embLM_t1, embLM_t2, embLM_t3, Option.bind_some, Option.map_some, Bool.not_true, Bool.not_false, endC_rt, endC_nx, decide_eq_true_eq, List.mapM_nil, fl_L_draw, e2]; rfl) (by omega)
  obtain ⟨l2, st2, acc, h, ⟨o, rfl⟩, S3, hF⟩ := loopF_fill (src := .rng 0 ((m + 1 : Nat) : Int)) (g := .gn 3) (body := evS (PT.D true) (callN (PT.D true) rp fw (n + 1)) (rp (callN (PT.D true) rp fw (n + 1))) fw FB_L_word_0) (xs := rngL 0 ((m + 1 : Nat) : Int))
    (fun l => ∃ o, l = [some (.c k), some (.t (.int 6)), some (.c s.length), o]) (fun _ t => ∃ z, t = letT z) (fun _ _ _ i => at_rng i)
    (fun i x loc st acc hx hL hv ha => by
      obtain ⟨o, rfl⟩ := hL
      obtain ⟨_, st2, e', h', dd, rfl, hdd⟩ := drawF (rp := rp) (fw := fw) (n := n) (m := 2) (by decide) (by decide) st k hv.pot1
      simp only [List.map_cons, List.map_nil] at e'
      have hv2 := hv.same h'
      have hacc : acc.length < sizeLine := by
        have := (List.getElem?_eq_some_iff.mp hx).1
        rw [rng_len] at this
        rw [sizeL]; omega
      refine ⟨_, rfl, [some (.c k), some (.t (.int 6)), some (.c s.length), some (.t x)], _, .int dd, ?_, ⟨_, rfl⟩, hv2.putr, ?_⟩
      · unfold FB_L_word_0
        simp only [evS]
        rw [cell_at (k := s.length) (xs := acc) rfl hv.get]
        simp only [evS, ev, evs, evF, evI, put, putL, bindV, bind_ok, toFl_ok, seq_nx, seq_rt, putFl_ok, rd_t, emb_t, ofO_some, ofT_some, noex_ok, E.isOmit, List.map_cons, List.map_nil, List.replicate, List.cons_append, List.nil_append, List.length_cons, List.length_nil, List.set_cons_zero, List.set_cons_succ, List.getElem?_cons_zero, List.getElem?_cons_succ, Bool.false_eq_true, if_true, if_false, reduceIte, Nat.reduceAdd, Nat.reduceSub, Nat.reduceLT, Nat.reduceLeDiff, Nat.lt_irrefl, evT, bin_add, bin_sub, mthOk_ins, attV_ins, cmpP_lt, cmpP_le, cmpP_gt, cmpP_ge, cmp_lt, cmp_le, cmp_gt, cmp_ge, cmp_eqi, cmp_eqs, cmp_eqb, cmp_nei, cmp_nes, cmp_neb, cmp_isn, cmp_nin, cmp_isb, cmp_nib, tru_bl, tru_int, isNon_lst, isNon_non, item_l, item_t, blt_lenl, blt_lent, blt_lend, blt_all, blt_any, mapM_t1, mapM_t2, embLM_t0, embLM_t1, embLM_t2, embLM_t3, Option.bind_some, Option.map_some, Bool.not_true, Bool.not_false, endC_rt, endC_nx, decide_eq_true_eq, List.mapM_nil, fl_L_draw, e']
        exact app_to rfl hv2.get hacc
      · rcases (by omega : dd = 0 ∨ dd = 1) with rfl | rfl
        · exact ⟨false, rfl⟩
        · exact ⟨true, rfl⟩)
    (loc := [some (.c k), some (.t (.int 6)), some (.c s.length), none]) ⟨none, rfl⟩ S2
  obtain ⟨w, rfl⟩ := mem_map_of (f := letT) (ys := acc) fun y hy => by
    obtain ⟨_, _, z⟩ := forall2_mem hF y hy
    exact z
  have hl := hF.length_eq
  rw [rng_len, List.length_map] at hl
  obtain ⟨s4, q1, q2⟩ := S3.retc
  refine ⟨.lst (List.map letT w), s4, ?_, q2, w, rfl, by omega, by omega⟩
  rw [← q1]
  have hloop : evS (PT.D true) (callN (PT.D true) rp fw (n + 1)) (rp (callN (PT.D true) rp fw (n + 1))) fw FS_L_word_0 [some (.c k), some (.t (.int 6)), some (.c s.length), none] (s ++ [.lst []]) = .nx [some (.c k), some (.t (.int 6)), some (.c s.length), o] st2 := by
    unfold FS_L_word_0
    simp only [evS, e0, toFl_ok, most_rng]
    exact h
  unfold S_L_word
  rw [evS_seq]
  have A1 : evS (PT.D true) (callN (PT.D true) rp fw (n + 1)) (rp (callN (PT.D true) rp fw (n + 1))) fw (.asg (.gn 2) (.lst true .nil)) [some (.c k), some (.t (.int 6)), none, none] s = .nx [some (.c k), some (.t (.int 6)), some (.c s.length), none] (s ++ [.lst []]) := by
    simp only [evS, ev, evs, evF, evI, put, putL, bindV, bind_ok, toFl_ok, seq_nx, seq_rt, putFl_ok, rd_t, emb_t, ofO_some, ofT_some, noex_ok, E.isOmit, List.map_cons, List.map_nil, List.replicate, List.cons_append, List.nil_append, List.length_cons, List.length_nil, List.set_cons_zero, List.set_cons_succ, List.getElem?_cons_zero, List.getElem?_cons_succ, Bool.false_eq_true, if_true, if_false, reduceIte, Nat.reduceAdd, Nat.reduceSub, Nat.reduceLT, Nat.reduceLeDiff, Nat.lt_irrefl, evT, bin_add, bin_sub, mthOk_ins, attV_ins, cmpP_lt, cmpP_le, cmpP_gt, cmpP_ge, cmp_lt, cmp_le, cmp_gt, cmp_ge, cmp_eqi, cmp_eqs, cmp_eqb, cmp_nei, cmp_nes, cmp_neb, cmp_isn, cmp_nin, cmp_isb, cmp_nib, tru_bl, tru_int, isNon_lst, isNon_non, item_l, item_t, blt_lenl, blt_lent, blt_lend, blt_all, blt_any, mapM_t1, mapM_t2, embLM_t0, embLM_t1, embLM_t2, embLM_t3, Option.bind_some, Option.map_some, Bool.not_true, Bool.not_false, endC_rt, endC_nx, decide_eq_true_eq, List.mapM_nil]
    simp [toFl_ok, put]
  rw [A1, seq_nx, evS_seq, hloop, seq_nx]
  simp only [evS, ev, evs, evF, evI, put, putL, bindV, bind_ok, toFl_ok, seq_nx, seq_rt, putFl_ok, rd_t, emb_t, ofO_some, ofT_some, noex_ok, E.isOmit, List.map_cons, List.map_nil, List.replicate, List.cons_append, List.nil_append, List.length_cons, List.length_nil, List.set_cons_zero, List.set_cons_succ, List.getElem?_cons_zero, List.getElem?_cons_succ, Bool.false_eq_true, if_true, if_false, reduceIte, Nat.reduceAdd, Nat.reduceSub, Nat.reduceLT, Nat.reduceLeDiff, Nat.lt_irrefl, evT, bin_add, bin_sub, mthOk_ins, attV_ins, cmpP_lt, cmpP_le, cmpP_gt, cmpP_ge, cmp_lt, cmp_le, cmp_gt, cmp_ge, cmp_eqi, cmp_eqs, cmp_eqb, cmp_nei, cmp_nes, cmp_neb, cmp_isn, cmp_nin, cmp_isb, cmp_nib, tru_bl, tru_int, isNon_lst, isNon_non, item_l, item_t, blt_lenl, blt_lent, blt_lend, blt_all, blt_any, mapM_t1, mapM_t2, embLM_t0, embLM_t1, embLM_t2, embLM_t3, Option.bind_some, Option.map_some, Bool.not_true, Bool.not_false, endC_rt, endC_nx, decide_eq_true_eq, List.mapM_nil]
  rw [S3.frz.1]
end
end Tw
set_option maxHeartbeats 4000000
namespace Tw
open PySem L2 K87
theorem tr_dy {s t u m v : Rat} (F : Fv s t u m v) (w : List Bool) : Dy (4 * w.length + 1) (16 * w.length + 8) (Tr s t m (K87.st s t m (half s u) (half t v) w)) := by
  have dy := st_dys F w w.length (Nat.le_refl _)
  rw [List.take_length] at dy
  generalize K87.st s t m (half s u) (half t v) w = x at dy
  generalize hk : 4 * w.length = k at dy ⊢
  generalize hj : 16 * w.length = l at dy ⊢
  have d2 : Dy 0 1 (2 : Rat) := ⟨2, by simp, by decide⟩
  have a1 := dy.a.mul d2
  have a2 := dy.b.mul F.s
  have a3 := dy.c.mul F.t
  have a4 := dy.d.mul F.m
  have b1 := (a1.mono (k' := k + 1) (m' := l + 4) (by omega) (by omega)).add a2
  have b2 := b1.add (a3.mono (k' := k + 1) (m' := l + 4 + 1) (by omega) (by omega))
  have b3 := b2.add (a4.mono (k' := k + 1) (m' := l + 4 + 1 + 1) (by omega) (by omega))
  exact b3.mono (by omega) (by omega)
theorem apart_dy {s t u m v : Rat} (F : Fv s t u m v) : ∀ (w : List Bool) (x : Rat) (j : Nat), Dy (3 * j) (9 * j) x → ∀ i, i ≤ w.length → Dy (3 * (j + i)) (9 * (j + i)) ((w.take i).foldl (fun x l => x * (if l then half t v else half s u)) x)
  | _, x, j, h, 0, _ => by simpa using h
  | [], x, j, h, i + 1, hi => by simp at hi
  | b :: w, x, j, h, i + 1, hi => by
    rw [List.take_succ_cons, List.foldl_cons]
    have hb : Dy 3 9 (if b then half t v else half s u) := by
      split
      · exact half_dy F.t F.v
      · exact half_dy F.s F.u
    have := apart_dy F w (x * (if b then half t v else half s u)) (j + 1) ((h.mul hb).mono (by omega) (by omega)) i (by simpa using hi)
    rw [show j + (i + 1) = j + 1 + i by omega]
    exact this
theorem d10 : decide ((1 : Int) = 0) = false := rfl
abbrev NumT (a b c d e : T) : T := .tup [a, b, c, d, e]
abbrev EN (k : Nat) (num sh : T) (s t u m v : Rat) (o10 o11 o12 o13 o14 o15 o16 o17 o18 : Option VV) : Loc :=
  [some (.c k), some (.t num), some (.t (ratQ s)), some (.t (ratQ t)), some (.t (ratQ u)), some (.t (ratQ m)), some (.t (ratQ v)), some (.t sh), some (.t (ratQ (half s u))), some (.t (ratQ (half t v))), o10, o11, o12, o13, o14, o15, o16, o17, o18]
section
variable {rp : CF → Store → T → Out Str} {fw n : Nat}
abbrev Wt (s t u m v : Rat) (w : List Bool) : Rat := Tr s t m (K87.st s t m (half s u) (half t v) w)
def Words (cf : CF) (num : T) (s t u m v : Rat) : Prop := ∀ w : List Bool, w.length ≤ 16 → ∀ sto, cf 196 [.t num, .t (.lst (w.map letT))] sto = .ok (.t (ratQ (Wt s t u m v w))) sto
theorem addW {cf : CF} {w w' : List Bool} {st : Store} (h : w.length + w'.length ≤ 16) : binV (PT.D true) cf .Add (.t (.lst (w.map letT))) (.t (.lst (w'.map letT))) st = .ok (.t (.lst ((w ++ w').map letT))) st := by
  rw [bin_addl (by rw [List.length_map, List.length_map, sizeL]; omega), List.map_append]
theorem okR {x : Rat} : isiOk ((PT.D true)).kit ((PT.D true)).cls [.cl 55] (ratQ x) = true := isiOk_of (okQ x) (by simp only [List.mem_singleton, forall_eq]; exact Is.h (p := ∀ t, okT (PT.D true) t = true → ((PT.D true)).kit (.cl 55) t = true) _ (okQ x))
theorem apart_loop {rq : Store → T → Out Str} {sto : Store} {num sh : T} {k : Nat} {s t u m v : Rat} {o10 o12 o13 o15 o16 o17 o18 : Option VV} (F : Fv s t u m v) (w : List Bool) (hw : w.length ≤ 6) :
    ∃ p15, evS (PT.D true) (callN (PT.D true) rp fw (n + 7)) rq fw FS_L_right_0 (EN k num sh s t u m v o10 (some (.t (.lst (w.map letT)))) o12 o13 (some (.t (ratQ 1))) o15 o16 o17 o18) sto = .nx (EN k num sh s t u m v o10 (some (.t (.lst (w.map letT)))) o12 o13 (some (.t (ratQ (apart (half s u) (half t v) w)))) p15 o16 o17 o18) sto := by
  have e0 : evI (PT.D true) (callN (PT.D true) rp fw (n + 7)) rq (.iseq (.var 11)) (EN k num sh s t u m v o10 (some (.t (.lst (w.map letT)))) o12 o13 (some (.t (ratQ 1))) o15 o16 o17 o18) sto = .ok (.lst (.t (.lst (w.map letT)))) sto := by
    simp only [evI, evS, ev, evs, evF, evI, put, putL, bindV, bind_ok, toFl_ok, seq_nx, seq_rt, putFl_ok, rd_t, emb_t, ofO_some, ofT_some, noex_ok, E.isOmit, List.map_cons, List.map_nil, List.replicate, List.cons_append, List.nil_append, List.length_cons, List.length_nil, List.set_cons_zero, List.set_cons_succ, List.getElem?_cons_zero, List.getElem?_cons_succ, Bool.false_eq_true, if_true, if_false, reduceIte, Nat.reduceAdd, Nat.reduceSub, Nat.reduceLT, Nat.reduceLeDiff, Nat.lt_irrefl, evT, bin_add, bin_sub, mthOk_ins, attV_ins, cmpP_lt, cmpP_le, cmpP_gt, cmpP_ge, cmp_lt, cmp_le, cmp_gt, cmp_ge, cmp_eqi, cmp_eqs, cmp_eqb, cmp_nei, cmp_nes, cmp_neb, cmp_isn, cmp_nin, cmp_isb, cmp_nib, tru_bl, tru_int, isNon_lst, isNon_non, item_l, item_t, blt_lenl, blt_lent, blt_lend, blt_all, blt_any, mapM_t1, mapM_t2, embLM_t0, embLM_t1, embLM_t2, embLM_t3, Option.bind_some, Option.map_some, Bool.not_true, Bool.not_false, endC_rt, endC_nx, decide_eq_true_eq, List.mapM_nil]
  unfold FS_L_right_0
  simp only [evS, e0, toFl_ok, most_lst (s := sto) (y := .t (.lst (w.map letT))) rfl]
  have one_dy : Dy (3 * 0) (9 * 0) (1 : Rat) := ⟨1, by simp, by decide⟩
  obtain ⟨l2, s2, h4, ⟨rfl, lt, rfl⟩⟩ := loopF_inv (src := .lst (.t (.lst (w.map letT)))) (g := .gn 15) (body := evS (PT.D true) (callN (PT.D true) rp fw (n + 7)) rq fw FB_L_right_0) (xs := w.map letT)
    (fun i loc s' => s' = sto ∧ ∃ lt, loc = EN k num sh s t u m v o10 (some (.t (.lst (w.map letT)))) o12 o13 (some (.t (ratQ (apart (half s u) (half t v) (w.take i))))) lt o16 o17 o18)
    (fun i loc s' I => by rw [I.1]; exact at_lst rfl i)
    (fun i x loc s' hx I => by
      obtain ⟨rfl, lt, rfl⟩ := I
      refine ⟨_, rfl, ?_⟩
      rw [List.getElem?_map, Option.map_eq_some_iff] at hx
      obtain ⟨b, hb, rfl⟩ := hx
      have hi : i < w.length := (List.getElem?_eq_some_iff.mp hb).1
      have dy := apart_dy F w 1 0 one_dy i (by omega)
      have z1 := dy.sz (by omega) (by omega)
      have zp := (half_dy F.s F.u).sz (by omega) (by omega)
      have zq := (half_dy F.t F.v).sz (by omega) (by omega)
      have ea : apart (half s u) (half t v) (w.take (i + 1)) = apart (half s u) (half t v) (w.take i) * (if b then half t v else half s u) := by
        unfold apart
        rw [List.take_add_one, hb, List.foldl_append]; rfl
      refine ⟨_, s', .inl ?_, rfl, some (.t (letT b)), rfl⟩
      rw [ea]
      have y1 : Szq (apart (half s u) (half t v) (w.take i)) := z1
      cases b with
      | false =>
        simp only [FB_L_right_0, letT, evS, ev, evs, evF, evI, put, putL, bindV, bind_ok, toFl_ok, seq_nx, seq_rt, putFl_ok, rd_t, emb_t, ofO_some, ofT_some, noex_ok, E.isOmit, List.map_cons, List.map_nil, List.replicate, List.cons_append, List.nil_append, List.length_cons, List.length_nil, List.set_cons_zero, List.set_cons_succ, List.getElem?_cons_zero, List.getElem?_cons_succ, Bool.false_eq_true, if_true, if_false, reduceIte, Nat.reduceAdd, Nat.reduceSub, Nat.reduceLT, Nat.reduceLeDiff, Nat.lt_irrefl, evT, bin_add, bin_sub, mthOk_ins, attV_ins, cmpP_lt, cmpP_le, cmpP_gt, cmpP_ge, cmp_lt, cmp_le, cmp_gt, cmp_ge, cmp_eqi, cmp_eqs, cmp_eqb, cmp_nei, cmp_nes, cmp_neb, cmp_isn, cmp_nin, cmp_isb, cmp_nib, tru_bl, tru_int, isNon_lst, isNon_non, item_l, item_t, blt_lenl, blt_lent, blt_lend, blt_all, blt_any, mapM_t1, mapM_t2, embLM_t0, embLM_t1, embLM_t2, embLM_t3, Option.bind_some, Option.map_some, Bool.not_true, Bool.not_false, endC_rt, endC_nx, decide_eq_true_eq, List.mapM_nil, decide_true, bin_mulq (D := (PT.D true)) (rp := rp) (fw := fw) (n := n + 4) (Num.q (half s u)) y1 zp]
      | true =>
        simp only [FB_L_right_0, letT, evS, ev, evs, evF, evI, put, putL, bindV, bind_ok, toFl_ok, seq_nx, seq_rt, putFl_ok, rd_t, emb_t, ofO_some, ofT_some, noex_ok, E.isOmit, List.map_cons, List.map_nil, List.replicate, List.cons_append, List.nil_append, List.length_cons, List.length_nil, List.set_cons_zero, List.set_cons_succ, List.getElem?_cons_zero, List.getElem?_cons_succ, Bool.false_eq_true, if_true, if_false, reduceIte, Nat.reduceAdd, Nat.reduceSub, Nat.reduceLT, Nat.reduceLeDiff, Nat.lt_irrefl, evT, bin_add, bin_sub, mthOk_ins, attV_ins, cmpP_lt, cmpP_le, cmpP_gt, cmpP_ge, cmp_lt, cmp_le, cmp_gt, cmp_ge, cmp_eqi, cmp_eqs, cmp_eqb, cmp_nei, cmp_nes, cmp_neb, cmp_isn, cmp_nin, cmp_isb, cmp_nib, tru_bl, tru_int, isNon_lst, isNon_non, item_l, item_t, blt_lenl, blt_lent, blt_lend, blt_all, blt_any, mapM_t1, mapM_t2, embLM_t0, embLM_t1, embLM_t2, embLM_t3, Option.bind_some, Option.map_some, Bool.not_true, Bool.not_false, endC_rt, endC_nx, decide_eq_true_eq, List.mapM_nil, d10, bin_mulq (D := (PT.D true)) (rp := rp) (fw := fw) (n := n + 4) (Num.q (half t v)) y1 zq])
    ((w.map letT).length + 1) 0 (EN k num sh s t u m v o10 (some (.t (.lst (w.map letT)))) o12 o13 (some (.t (ratQ 1))) o15 o16 o17 o18) sto (by omega) (Nat.zero_le _) ⟨rfl, o15, rfl⟩
  refine ⟨lt, ?_⟩
  rw [h4, List.length_map, List.take_length]
end
end Tw
set_option maxHeartbeats 8000000
namespace Tw
open PySem L2 K87
section
variable {rp : CF → Store → T → Out Str} {fw n : Nat}
theorem two_sz (x : T) (st : Store) : ([x, x] : List T).length ≤ sizeLine ∧ ([x] : List T).length ≤ sizeLine := by rw [sizeL]; simp
theorem lead_turn {rq : Store → T → Out Str} {st : Store} {num sh : T} {k : Nat} {s t u m v : Rat} {o10 o13 o14 o18 : Option VV} (F : Fv s t u m v) (w : List Bool) (hw : w.length ≤ 6)
    (hW : Words (callN (PT.D true) rp fw (n + 7)) num s t u m v) (b : Bool) :
    evS (PT.D true) (callN (PT.D true) rp fw (n + 7)) rq fw FB_L_right_1 (EN k num sh s t u m v o10 (some (.t (.lst (w.map letT)))) (some (.t (ratQ (Wt s t u m v w)))) o13 o14 (some (.t (letT b))) (some (.t (ratQ (if b then t else s)))) (some (.t (ratQ (if b then half t v else half s u)))) o18) st
      = .nx (EN k num sh s t u m v o10 (some (.t (.lst (w.map letT)))) (some (.t (ratQ (Wt s t u m v w)))) o13 o14 (some (.t (letT b))) (some (.t (ratQ (if b then t else s)))) (some (.t (ratQ (if b then half t v else half s u)))) o18) st := by
  have h1 := hW ([b, b] ++ w) (by simp; omega) st
  have h2 := hW ([b] ++ w) (by simp; omega) st
  simp only [List.cons_append, List.nil_append, List.map_cons] at h1 h2
  have A1 : ∀ cf, binV (PT.D true) cf .Add (.t (.lst [letT b, letT b])) (.t (.lst (w.map letT))) st = _ := fun cf => addW (w := [b, b]) (by simp; omega)
  have A2 : ∀ cf, binV (PT.D true) cf .Add (.t (.lst [letT b])) (.t (.lst (w.map letT))) st = _ := fun cf => addW (w := [b]) (by simp; omega)
  have dr : Dy 1 4 (if b then t else s) := by split; exact F.t; exact F.s
  have df : Dy 3 9 (if b then half t v else half s u) := by split; exact half_dy F.t F.v; exact half_dy F.s F.u
  have dw := tr_dy F w
  have dw1 := tr_dy F ([b] ++ w)
  have hle : ([b] ++ w).length ≤ 7 := by simp; omega
  generalize hr : (if b then t else s) = r at *
  generalize hf : (if b then half t v else half s u) = f at *
  have z1 := dr.sz (by omega) (by omega)
  have z2 := df.sz (by omega) (by omega)
  have z3 := dw.sz (by omega) (by omega)
  have z4 := dw1.sz (by omega) (by omega)
  have d5 := dr.mul dw1
  have d6 := df.mul dw
  have z5 := d5.sz (by omega) (by omega)
  have z6 := d6.sz (by omega) (by omega)
  have key : Wt s t u m v ([b, b] ++ w) = r * Wt s t u m v ([b] ++ w) - f * Wt s t u m v w := by
    subst hr hf
    cases b with
    | false => exact lead1 s t m (half s u) (half t v) w
    | true => exact lead2 s t m (half s u) (half t v) w
  simp only [List.cons_append, List.nil_append] at z4 z5 key
  have l2 := (two_sz (letT b) st).1
  have l1 := (two_sz (letT b) st).2
  simp only [FB_L_right_1, EN, evS, ev, evs, evF, evI, put, putL, bindV, bind_ok, toFl_ok, seq_nx, seq_rt, putFl_ok, rd_t, emb_t, ofO_some, ofT_some, noex_ok, E.isOmit, List.map_cons, List.map_nil, List.replicate, List.cons_append, List.nil_append, List.length_cons, List.length_nil, List.set_cons_zero, List.set_cons_succ, List.getElem?_cons_zero, List.getElem?_cons_succ, Bool.false_eq_true, if_true, if_false, reduceIte, Nat.reduceAdd, Nat.reduceSub, Nat.reduceLT, Nat.reduceLeDiff, Nat.lt_irrefl, evT, bin_add, bin_sub, mthOk_ins, attV_ins, cmpP_lt, cmpP_le, cmpP_gt, cmpP_ge, cmp_lt, cmp_le, cmp_gt, cmp_ge, cmp_eqi, cmp_eqs, cmp_eqb, cmp_nei, cmp_nes, cmp_neb, cmp_isn, cmp_nin, cmp_isb, cmp_nib, tru_bl, tru_int, isNon_lst, isNon_non, item_l, item_t, blt_lenl, blt_lent, blt_lend, blt_all, blt_any, mapM_t1, mapM_t2, embLM_t0, embLM_t1, embLM_t2, embLM_t3, Option.bind_some, Option.map_some, Bool.not_true, Bool.not_false, endC_rt, endC_nx, decide_eq_true_eq, List.mapM_nil, fl_fives_word_by, A1, A2, h1, h2, two_sz, sizeL, bin_mulq (D := (PT.D true)) (rp := rp) (fw := fw) (n := n + 4) (Num.q _) z1 z4, bin_mulq (D := (PT.D true)) (rp := rp) (fw := fw) (n := n + 4) (Num.q _) z2 z3, bin_subq (D := (PT.D true)) (rp := rp) (fw := fw) (n := n + 4) (Num.q _) z5 z6, cmp_neq (D := (PT.D true)) (rp := rp) (fw := fw) (n := n + 6), key, decide_true]
  try simp [toFl_ok, evS]
theorem lead_loop {rq : Store → T → Out Str} {st : Store} {num sh : T} {k : Nat} {s t u m v : Rat} {o10 o13 o14 o15 o16 o17 o18 : Option VV} (F : Fv s t u m v) (w : List Bool) (hw : w.length ≤ 6)
    (hW : Words (callN (PT.D true) rp fw (n + 7)) num s t u m v) :
    ∃ p15 p16 p17, evS (PT.D true) (callN (PT.D true) rp fw (n + 7)) rq fw FS_L_right_1 (EN k num sh s t u m v o10 (some (.t (.lst (w.map letT)))) (some (.t (ratQ (Wt s t u m v w)))) o13 o14 o15 o16 o17 o18) st
      = .nx (EN k num sh s t u m v o10 (some (.t (.lst (w.map letT)))) (some (.t (ratQ (Wt s t u m v w)))) o13 o14 p15 p16 p17 o18) st := by
  let xs : List T := [false, true].map fun b => .tup [letT b, ratQ (if b then t else s), ratQ (if b then half t v else half s u)]
  have e0 : evI (PT.D true) (callN (PT.D true) rp fw (n + 7)) rq (.iseq (.lst false (.cons (.tup (.cons (.int 0) (.cons (.var 2) (.cons (.var 8) .nil)))) (.cons (.tup (.cons (.int 1) (.cons (.var 3) (.cons (.var 9) .nil)))) .nil)))) (EN k num sh s t u m v o10 (some (.t (.lst (w.map letT)))) (some (.t (ratQ (Wt s t u m v w)))) o13 o14 o15 o16 o17 o18) st = .ok (.lst (.t (.lst xs))) st := by
    simp only [evI, evS, ev, evs, evF, evI, put, putL, bindV, bind_ok, toFl_ok, seq_nx, seq_rt, putFl_ok, rd_t, emb_t, ofO_some, ofT_some, noex_ok, E.isOmit, List.map_cons, List.map_nil, List.replicate, List.cons_append, List.nil_append, List.length_cons, List.length_nil, List.set_cons_zero, List.set_cons_succ, List.getElem?_cons_zero, List.getElem?_cons_succ, Bool.false_eq_true, if_true, if_false, reduceIte, Nat.reduceAdd, Nat.reduceSub, Nat.reduceLT, Nat.reduceLeDiff, Nat.lt_irrefl, evT, bin_add, bin_sub, mthOk_ins, attV_ins, cmpP_lt, cmpP_le, cmpP_gt, cmpP_ge, cmp_lt, cmp_le, cmp_gt, cmp_ge, cmp_eqi, cmp_eqs, cmp_eqb, cmp_nei, cmp_nes, cmp_neb, cmp_isn, cmp_nin, cmp_isb, cmp_nib, tru_bl, tru_int, isNon_lst, isNon_non, item_l, item_t, blt_lenl, blt_lent, blt_lend, blt_all, blt_any, mapM_t1, mapM_t2, embLM_t0, embLM_t1, embLM_t2, embLM_t3, Option.bind_some, Option.map_some, Bool.not_true, Bool.not_false, endC_rt, endC_nx, decide_eq_true_eq, List.mapM_nil, sizeL, xs]
    simp [toFl_ok, bind_ok, rd, letT]
  unfold FS_L_right_1
  simp only [evS, e0, toFl_ok, most_lst (s := st) (y := .t (.lst xs)) rfl]
  obtain ⟨l2, s2, h4, ⟨rfl, a, b, c, rfl⟩⟩ := loopF_inv (src := .lst (.t (.lst xs))) (g := .gt (.cons (.gn 15) (.cons (.gn 16) (.cons (.gn 17) .nil)))) (body := evS (PT.D true) (callN (PT.D true) rp fw (n + 7)) rq fw FB_L_right_1) (xs := xs)
    (fun i loc s' => s' = st ∧ ∃ a b c, loc = EN k num sh s t u m v o10 (some (.t (.lst (w.map letT)))) (some (.t (ratQ (Wt s t u m v w)))) o13 o14 a b c o18)
    (fun i loc s' I => by rw [I.1]; exact at_lst rfl i)
    (fun i x loc s' hx I => by
      obtain ⟨rfl, a, b, c, rfl⟩ := I
      obtain ⟨z, _, rfl⟩ := List.mem_map.mp (List.mem_of_getElem? hx)
      exact ⟨_, rfl, _, _, .inl (lead_turn F w hw hW z), rfl, _, _, _, rfl⟩)
    (xs.length + 1) 0 _ st (by omega) (Nat.zero_le _) ⟨rfl, o15, o16, o17, rfl⟩
  exact ⟨a, b, c, h4⟩
theorem turn_ok {k : Nat} {num sh : T} {s t u m v : Rat} {o10 o11 o12 o13 o14 o15 o16 o17 o18 : Option VV} (F : Fv s t u m v) (hW : Words (callN (PT.D true) rp fw (n + 7)) num s t u m v) (st : Store) (hp : PotAt st k) :
    ∃ p11 p12 p13 p14 p15 p16 p17 st2, evS (PT.D true) (callN (PT.D true) rp fw (n + 7)) (rp (callN (PT.D true) rp fw (n + 7))) fw FB_L_right_2 (EN k num sh s t u m v o10 o11 o12 o13 o14 o15 o16 o17 o18) st = .nx (EN k num sh s t u m v o10 p11 p12 p13 p14 p15 p16 p17 o18) st2 ∧ Same [k] st st2 := by
  obtain ⟨_, s1, e1, h1, w, rfl, w1, w6⟩ := word_ok (rp := rp) (fw := fw) (n := n + 5) st k hp
  have S1 := (Sat.start1 hp).same h1
  have d6 : 0 < (w.length : Int) := by omega
  obtain ⟨_, s2, e2, h2, j, rfl, hj⟩ := drawF (rp := rp) (fw := fw) (n := n + 6) (m := w.length) d6 (by omega) s1 k S1.pot1
  simp only [List.map_cons, List.map_nil] at e1 e2
  have q1 := hW w (by omega)
  have jl : j ≤ (w.map letT).length := by rw [List.length_map]; omega
  have c1 : cutT (w.map letT) (some (j : Int)) none = (w.drop j).map letT := by rw [cut_drop jl, List.map_drop]
  have c2 : cutT (w.map letT) none (some (j : Int)) = (w.take j).map letT := by rw [cut_take jl, List.map_take]
  have c3 : (w.map letT).reverse = w.reverse.map letT := by rw [List.map_reverse]
  have a1 : ∀ cf, binV (PT.D true) cf .Add (.t (.lst ((w.drop j).map letT))) (.t (.lst ((w.take j).map letT))) s2 = _ := fun cf => addW (by simp; omega)
  have a2 : ∀ cf, binV (PT.D true) cf .Add (.t (.lst (w.map letT))) (.t (.lst (w.map letT))) s2 = _ := fun cf => addW (w := w) (w' := w) (by omega)
  have q2 := hW (w.drop j ++ w.take j) (by simp; omega) s2
  have q3 := hW w.reverse (by simp; omega) s2
  have q4 := hW (w ++ w) (by simp; omega) s2
  have k2 : Wt s t u m v (w.drop j ++ w.take j) = Wt s t u m v w := by
    show Tr _ _ _ _ = _
    rw [rotate, List.take_append_drop]
  have k3 : Wt s t u m v w.reverse = Wt s t u m v w := K87.reverse s t m _ _ w
  have k4 := K87.double s t m (half s u) (half t v) w
  have dw := tr_dy F w
  have da := apart_dy F w 1 0 ⟨1, by simp, by decide⟩ w.length (Nat.le_refl _)
  rw [List.take_length] at da
  have za : Szq (apart (half s u) (half t v) w) := da.sz (by omega) (by omega)
  have zw := dw.sz (by omega) (by omega)
  have d2 : Dy 0 1 (2 : Rat) := ⟨2, by simp, by decide⟩
  have dww := dw.mul dw
  have zww := dww.sz (by omega) (by omega)
  have da2 := da.mul d2
  have za2 : Szq (apart (half s u) (half t v) w * 2) := da2.sz (by omega) (by omega)
  have m2 := bin_mulq (D := (PT.D true)) (rp := rp) (fw := fw) (n := n + 4) (s := s2) (Num.i 2) za Szq.two
  have ei : (((2 : Int) : Int) : Rat) = 2 := rfl
  rw [ei] at m2
  have m1 := mk_int (D := (PT.D true)) (rp := rp) (fw := fw) (n := n + 5) (sto := s2) (i := 1) (loc := EN k num sh s t u m v o10 (some (.t (.lst (w.map letT)))) (some (.t (ratQ (Wt s t u m v w)))) (some (.t (.int j))) o14 o15 o16 o17 o18) (r := rp (callN (PT.D true) rp fw (n + 7)))
  obtain ⟨p15, ha⟩ := apart_loop (rp := rp) (fw := fw) (n := n) (rq := rp (callN (PT.D true) rp fw (n + 7))) (sto := s2) (num := num) (sh := sh) (k := k) (o10 := o10) (o12 := some (.t (ratQ (Wt s t u m v w)))) (o13 := some (.t (.int j))) (o15 := o15) (o16 := o16) (o17 := o17) (o18 := o18) F w w6
  obtain ⟨b15, b16, b17, hl⟩ := lead_loop (rp := rp) (fw := fw) (n := n) (rq := rp (callN (PT.D true) rp fw (n + 7))) (st := s2) (num := num) (sh := sh) (k := k) (o10 := o10) (o13 := some (.t (.int j))) (o14 := some (.t (ratQ (apart (half s u) (half t v) w)))) (o15 := p15) (o16 := o16) (o17 := o17) (o18 := o18) F w w6 hW
  refine ⟨some (.t (.lst (w.map letT))), some (.t (ratQ (Wt s t u m v w))), some (.t (.int j)), some (.t (ratQ (apart (half s u) (half t v) w))), b15, b16, b17, s2, ?_, ⟨by rw [h2.len, h1.len], fun i hi => by rw [h2.old i hi, h1.old i hi], h2.pot⟩⟩
  have fwd := fl_L_word (D := (PT.D true))
  have fdr := fl_L_draw (D := (PT.D true))
  have fwb := fl_fives_word_by (D := (PT.D true))
  have hnq := fun x y : Rat => cmp_neq (D := (PT.D true)) (rp := rp) (fw := fw) (n := n + 6) (s := s2) (x := x) (y := y)
  have hmm := bin_mulq (D := (PT.D true)) (rp := rp) (fw := fw) (n := n + 4) (s := s2) (Num.q _) zw zw
  have hms := bin_subq (D := (PT.D true)) (rp := rp) (fw := fw) (n := n + 4) (s := s2) (Num.q _) zww za2
  have hok := okR (x := Wt s t u m v w)
  have his := isi_q (D := (PT.D true)) (Wt s t u m v w)
  have pk : pick [1, 0] [VV.t (T.lst (w.reverse.map letT)), VV.t num] = some [VV.t num, VV.t (T.lst (w.reverse.map letT))] := rfl
  have ln : bltP .len [.lst (w.map letT)] = some (.int w.length) := by rw [blt_lenl, List.length_map]
  generalize hcf : callN (PT.D true) rp fw (n + 7) = cf at *
  generalize hrq : rp cf = rq at *
  unfold FB_L_right_2
  have A1 : evS (PT.D true) cf rq fw (.asg (.gn 11) (.cal 1004 (.cons (.var 0) (.cons (.int 6) .nil)))) (EN k num sh s t u m v o10 o11 o12 o13 o14 o15 o16 o17 o18) st = .nx (EN k num sh s t u m v o10 (some (.t (.lst (w.map letT)))) o12 o13 o14 o15 o16 o17 o18) s1 := by
    simp only [EN, evS, ev, evs, evF, evI, put, putL, bindV, bind_ok, toFl_ok, seq_nx, seq_rt, putFl_ok, rd_t, emb_t, ofO_some, ofT_some, noex_ok, E.isOmit, List.map_cons, List.map_nil, List.replicate, List.cons_append, List.nil_append, List.length_cons, List.length_nil, List.set_cons_zero, List.set_cons_succ, List.getElem?_cons_zero, List.getElem?_cons_succ, Bool.false_eq_true, if_true, if_false, reduceIte, Nat.reduceAdd, Nat.reduceSub, Nat.reduceLT, Nat.reduceLeDiff, Nat.lt_irrefl, evT, bin_add, bin_sub, mthOk_ins, attV_ins, cmpP_lt, cmpP_le, cmpP_gt, cmpP_ge, cmp_lt, cmp_le, cmp_gt, cmp_ge, cmp_eqi, cmp_eqs, cmp_eqb, cmp_nei, cmp_nes, cmp_neb, cmp_isn, cmp_nin, cmp_isb, cmp_nib, tru_bl, tru_int, isNon_lst, isNon_non, item_l, item_t, blt_lenl, blt_lent, blt_lend, blt_all, blt_any, mapM_t1, mapM_t2, embLM_t0, embLM_t1, embLM_t2, embLM_t3, Option.bind_some, Option.map_some, Bool.not_true, Bool.not_false, endC_rt, endC_nx, decide_eq_true_eq, List.mapM_nil, fwd, e1]
  have A2 : evS (PT.D true) cf rq fw (.par (.cons (.gn 12) (.cons (.gn 13) .nil)) (.cons (.cal 196 (.cons (.var 1) (.cons (.var 11) .nil))) (.cons (.cal 1002 (.cons (.var 0) (.cons (.blt .len (.cons (.var 11) .nil)) .nil))) .nil))) (EN k num sh s t u m v o10 (some (.t (.lst (w.map letT)))) o12 o13 o14 o15 o16 o17 o18) s1 = .nx (EN k num sh s t u m v o10 (some (.t (.lst (w.map letT)))) (some (.t (ratQ (Wt s t u m v w)))) (some (.t (.int j))) o14 o15 o16 o17 o18) s2 := by
    simp only [EN, evS, ev, evs, evF, evI, put, putL, bindV, bind_ok, toFl_ok, seq_nx, seq_rt, putFl_ok, rd_t, emb_t, ofO_some, ofT_some, noex_ok, E.isOmit, List.map_cons, List.map_nil, List.replicate, List.cons_append, List.nil_append, List.length_cons, List.length_nil, List.set_cons_zero, List.set_cons_succ, List.getElem?_cons_zero, List.getElem?_cons_succ, Bool.false_eq_true, if_true, if_false, reduceIte, Nat.reduceAdd, Nat.reduceSub, Nat.reduceLT, Nat.reduceLeDiff, Nat.lt_irrefl, evT, bin_add, bin_sub, mthOk_ins, attV_ins, cmpP_lt, cmpP_le, cmpP_gt, cmpP_ge, cmp_lt, cmp_le, cmp_gt, cmp_ge, cmp_eqi, cmp_eqs, cmp_eqb, cmp_nei, cmp_nes, cmp_neb, cmp_isn, cmp_nin, cmp_isb, cmp_nib, tru_bl, tru_int, isNon_lst, isNon_non, item_l, item_t, blt_lenl, blt_lent, blt_lend, blt_all, blt_any, mapM_t1, mapM_t2, embLM_t0, embLM_t1, embLM_t2, embLM_t3, Option.bind_some, Option.map_some, Bool.not_true, Bool.not_false, endC_rt, endC_nx, decide_eq_true_eq, List.mapM_nil, fwb, q1, fdr, ln, e2]
  rw [evS_seq, A1, seq_nx, evS_seq, A2, seq_nx]
  have A3 : evS (PT.D true) cf rq fw (.ite (.or (.not (.isi (.var 12) [.cl 55])) (.cmp .NotEq (.cal 196 (.cons (.var 1) (.cons (.bin .Add (.sl (.var 11) (.var 13) .omit) (.sl (.var 11) .omit (.var 13))) .nil))) (.var 12))) (.ret false (.bl false)) .skip) (EN k num sh s t u m v o10 (some (.t (.lst (w.map letT)))) (some (.t (ratQ (Wt s t u m v w)))) (some (.t (.int j))) o14 o15 o16 o17 o18) s2 = .nx (EN k num sh s t u m v o10 (some (.t (.lst (w.map letT)))) (some (.t (ratQ (Wt s t u m v w)))) (some (.t (.int j))) o14 o15 o16 o17 o18) s2 := by
    simp only [EN, evS, ev, evs, evF, evI, put, putL, bindV, bind_ok, toFl_ok, seq_nx, seq_rt, putFl_ok, rd_t, emb_t, ofO_some, ofT_some, noex_ok, E.isOmit, List.map_cons, List.map_nil, List.replicate, List.cons_append, List.nil_append, List.length_cons, List.length_nil, List.set_cons_zero, List.set_cons_succ, List.getElem?_cons_zero, List.getElem?_cons_succ, Bool.false_eq_true, if_true, if_false, reduceIte, Nat.reduceAdd, Nat.reduceSub, Nat.reduceLT, Nat.reduceLeDiff, Nat.lt_irrefl, evT, bin_add, bin_sub, mthOk_ins, attV_ins, cmpP_lt, cmpP_le, cmpP_gt, cmpP_ge, cmp_lt, cmp_le, cmp_gt, cmp_ge, cmp_eqi, cmp_eqs, cmp_eqb, cmp_nei, cmp_nes, cmp_neb, cmp_isn, cmp_nin, cmp_isb, cmp_nib, tru_bl, tru_int, isNon_lst, isNon_non, item_l, item_t, blt_lenl, blt_lent, blt_lend, blt_all, blt_any, mapM_t1, mapM_t2, embLM_t0, embLM_t1, embLM_t2, embLM_t3, Option.bind_some, Option.map_some, Bool.not_true, Bool.not_false, endC_rt, endC_nx, decide_eq_true_eq, List.mapM_nil, hok, his, slV_lt, optI_i, c1, c2, a1, fwb, q2, hnq, k2, decide_true]
    try simp [toFl_ok, evS]
  rw [evS_seq, A3, seq_nx]
  have A4 : evS (PT.D true) cf rq fw (.ite (.cmp .NotEq (.calk 196 (.cons (.rev (.var 11)) (.cons (.var 1) .nil)) [1, 0]) (.var 12)) (.ret false (.bl false)) .skip) (EN k num sh s t u m v o10 (some (.t (.lst (w.map letT)))) (some (.t (ratQ (Wt s t u m v w)))) (some (.t (.int j))) o14 o15 o16 o17 o18) s2 = .nx (EN k num sh s t u m v o10 (some (.t (.lst (w.map letT)))) (some (.t (ratQ (Wt s t u m v w)))) (some (.t (.int j))) o14 o15 o16 o17 o18) s2 := by
    simp only [EN, evS, ev, evs, evF, evI, put, putL, bindV, bind_ok, toFl_ok, seq_nx, seq_rt, putFl_ok, rd_t, emb_t, ofO_some, ofT_some, noex_ok, E.isOmit, List.map_cons, List.map_nil, List.replicate, List.cons_append, List.nil_append, List.length_cons, List.length_nil, List.set_cons_zero, List.set_cons_succ, List.getElem?_cons_zero, List.getElem?_cons_succ, Bool.false_eq_true, if_true, if_false, reduceIte, Nat.reduceAdd, Nat.reduceSub, Nat.reduceLT, Nat.reduceLeDiff, Nat.lt_irrefl, evT, bin_add, bin_sub, mthOk_ins, attV_ins, cmpP_lt, cmpP_le, cmpP_gt, cmpP_ge, cmp_lt, cmp_le, cmp_gt, cmp_ge, cmp_eqi, cmp_eqs, cmp_eqb, cmp_nei, cmp_nes, cmp_neb, cmp_isn, cmp_nin, cmp_isb, cmp_nib, tru_bl, tru_int, isNon_lst, isNon_non, item_l, item_t, blt_lenl, blt_lent, blt_lend, blt_all, blt_any, mapM_t1, mapM_t2, embLM_t0, embLM_t1, embLM_t2, embLM_t3, Option.bind_some, Option.map_some, Bool.not_true, Bool.not_false, endC_rt, endC_nx, decide_eq_true_eq, List.mapM_nil, c3, pk, q3, hnq, k3, decide_true]
    try simp [toFl_ok, evS]
  have A5 : evS (PT.D true) cf rq fw (.asg (.gn 14) (.mk 55 (.cons (.int 1) .nil))) (EN k num sh s t u m v o10 (some (.t (.lst (w.map letT)))) (some (.t (ratQ (Wt s t u m v w)))) (some (.t (.int j))) o14 o15 o16 o17 o18) s2 = .nx (EN k num sh s t u m v o10 (some (.t (.lst (w.map letT)))) (some (.t (ratQ (Wt s t u m v w)))) (some (.t (.int j))) (some (.t (ratQ 1))) o15 o16 o17 o18) s2 := by
    rw [evS, m1]
    simp only [EN, evS, ev, evs, evF, evI, put, putL, bindV, bind_ok, toFl_ok, seq_nx, seq_rt, putFl_ok, rd_t, emb_t, ofO_some, ofT_some, noex_ok, E.isOmit, List.map_cons, List.map_nil, List.replicate, List.cons_append, List.nil_append, List.length_cons, List.length_nil, List.set_cons_zero, List.set_cons_succ, List.getElem?_cons_zero, List.getElem?_cons_succ, Bool.false_eq_true, if_true, if_false, reduceIte, Nat.reduceAdd, Nat.reduceSub, Nat.reduceLT, Nat.reduceLeDiff, Nat.lt_irrefl, evT, bin_add, bin_sub, mthOk_ins, attV_ins, cmpP_lt, cmpP_le, cmpP_gt, cmpP_ge, cmp_lt, cmp_le, cmp_gt, cmp_ge, cmp_eqi, cmp_eqs, cmp_eqb, cmp_nei, cmp_nes, cmp_neb, cmp_isn, cmp_nin, cmp_isb, cmp_nib, tru_bl, tru_int, isNon_lst, isNon_non, item_l, item_t, blt_lenl, blt_lent, blt_lend, blt_all, blt_any, mapM_t1, mapM_t2, embLM_t0, embLM_t1, embLM_t2, embLM_t3, Option.bind_some, Option.map_some, Bool.not_true, Bool.not_false, endC_rt, endC_nx, decide_eq_true_eq, List.mapM_nil]
    rfl
  rw [evS_seq, A4, seq_nx, evS_seq, A5, seq_nx, evS_seq, ha, seq_nx]
  have A7 : evS (PT.D true) cf rq fw (.ite (.cmp .NotEq (.cal 196 (.cons (.var 1) (.cons (.bin .Add (.var 11) (.var 11)) .nil))) (.bin .Sub (.bin .Mult (.var 12) (.var 12)) (.bin .Mult (.var 14) (.int 2)))) (.ret false (.bl false)) .skip) (EN k num sh s t u m v o10 (some (.t (.lst (w.map letT)))) (some (.t (ratQ (Wt s t u m v w)))) (some (.t (.int j))) (some (.t (ratQ (apart (half s u) (half t v) w)))) p15 o16 o17 o18) s2 = .nx (EN k num sh s t u m v o10 (some (.t (.lst (w.map letT)))) (some (.t (ratQ (Wt s t u m v w)))) (some (.t (.int j))) (some (.t (ratQ (apart (half s u) (half t v) w)))) p15 o16 o17 o18) s2 := by
    simp only [EN, evS, ev, evs, evF, evI, put, putL, bindV, bind_ok, toFl_ok, seq_nx, seq_rt, putFl_ok, rd_t, emb_t, ofO_some, ofT_some, noex_ok, E.isOmit, List.map_cons, List.map_nil, List.replicate, List.cons_append, List.nil_append, List.length_cons, List.length_nil, List.set_cons_zero, List.set_cons_succ, List.getElem?_cons_zero, List.getElem?_cons_succ, Bool.false_eq_true, if_true, if_false, reduceIte, Nat.reduceAdd, Nat.reduceSub, Nat.reduceLT, Nat.reduceLeDiff, Nat.lt_irrefl, evT, bin_add, bin_sub, mthOk_ins, attV_ins, cmpP_lt, cmpP_le, cmpP_gt, cmpP_ge, cmp_lt, cmp_le, cmp_gt, cmp_ge, cmp_eqi, cmp_eqs, cmp_eqb, cmp_nei, cmp_nes, cmp_neb, cmp_isn, cmp_nin, cmp_isb, cmp_nib, tru_bl, tru_int, isNon_lst, isNon_non, item_l, item_t, blt_lenl, blt_lent, blt_lend, blt_all, blt_any, mapM_t1, mapM_t2, embLM_t0, embLM_t1, embLM_t2, embLM_t3, Option.bind_some, Option.map_some, Bool.not_true, Bool.not_false, endC_rt, endC_nx, decide_eq_true_eq, List.mapM_nil, a2, fwb, q4, hmm, m2, hms, hnq, k4, decide_true]
    try simp [toFl_ok, evS]
  rw [evS_seq, A7, seq_nx, hl]
end
end Tw
set_option maxHeartbeats 8000000
namespace Tw
open PySem L2 K87
def isOne : T → Bool
  | .int 1 => true
  | _ => false
def dec (x : T) : List Bool := (itms x).map isOne
theorem dec_w (w : List Bool) : dec (.lst (w.map letT)) = w := by
  unfold dec
  simp only [itms, List.map_map]
  conv => rhs; rw [← List.map_id w]
  exact List.map_congr_left fun b _ => by cases b <;> rfl
section
variable {rp : CF → Store → T → Out Str} {fw n : Nat} {st : Store}
theorem cmp_neLs (xs ys : List Rat) (h : xs.length = ys.length) : cmpV (PT.D true) (callN (PT.D true) rp fw (n + 1)) .NotEq (.t (.lst (xs.map ratQ))) (.t (.lst (ys.map ratQ))) st = some (!decide (xs = ys)) := by
  unfold cmpV
  simp only [rd_t]
  show (eqB (PT.D true) _ st _ _ _ (.lst (xs.map ratQ)) (.lst (ys.map ratQ))).map _ = _
  unfold eqB
  simp only [List.length_map, h, if_true]
  rw [eqLs_q (D := (PT.D true)) (rp := rp) (fw := fw) (n := n) (s := st) (m := 11) xs ys h]
  rfl
theorem shorts (s t u m v : Rat) : [[false], [true], [false, false], [false, true], [true, true], [true, false]].map (Wt s t u m v) = [s, t, u, m, v, m] := by
  simp only [List.map_cons, List.map_nil, Wt, Tr, K87.st, List.foldl_cons, List.foldl_nil, K87.Rl, K87.R1, K87.R2, K87.one, half, if_true, if_false, Bool.false_eq_true]
  congr 1
  · grind
  congr 1
  · grind
  congr 1
  · grind
  congr 1
  · grind
  congr 1
  · grind
  congr 1
  grind
theorem nought (s t u m v : Rat) : Wt s t u m v [] = 2 := by
  simp only [Wt, Tr, K87.st, List.foldl_nil, K87.one]; grind
theorem right_ok : ∀ (st : Store) (k : Nat), PotAt st k → ∃ s', callN (PT.D true) rp fw (n + 8) 1005 [.c k] st = .ok (.t (.bl true)) s' ∧ Same [k] st s' := fun st k hp => by
  rw [go_L_right]
  have S0 := Sat.start1 hp
  obtain ⟨a, s1, e1, h1, s, ha, da⟩ := number_ok (rp := rp) (fw := fw) (n := n + 4) st k S0.pot1
  have S1 := S0.same h1
  obtain ⟨b, s2, e2, h2, t, hb, db⟩ := number_ok (rp := rp) (fw := fw) (n := n + 4) s1 k S1.pot1
  have S2 := S1.same h2
  obtain ⟨c, s3, e3, h3, u, hc, dc⟩ := number_ok (rp := rp) (fw := fw) (n := n + 4) s2 k S2.pot1
  have S3 := S2.same h3
  obtain ⟨d, s4, e4, h4, m, hd, dd⟩ := number_ok (rp := rp) (fw := fw) (n := n + 4) s3 k S3.pot1
  have S4 := S3.same h4
  obtain ⟨e, s5, e5, h5, v, he, de⟩ := number_ok (rp := rp) (fw := fw) (n := n + 4) s4 k S4.pot1
  have S5 := S4.same h5
  simp only [List.map_nil] at e1 e2 e3 e4 e5
  have F : Fv s t u m v := ⟨da, db, dc, dd, de⟩
  have hW : Words (callN (PT.D true) rp fw (n + 7)) (NumT a b c d e) s t u m v := fun w hw sto => word_by_ok (D := (PT.D true)) (rp := rp) (fw := fw) (n := n) ha hb hc hd he F (.l _) hw
  have ov : ∀ (x y : Rat), Dy 1 4 x → Dy 1 4 y → ∀ sto, callN (PT.D true) rp fw (n + 7) 347 [.t (ratQ (x * x - y)), .t (.int 2)] sto = .ok (.t (ratQ (half x y))) sto := fun x y hx hy sto => by
    have z4 := ((hx.mul hx).sub (hy.mono (k' := 2) (m' := 8) (by omega) (by omega))).sz (by omega) (by omega)
    exact over_ok (D := (PT.D true)) (rp := rp) (fw := fw) (n := n + 4) (s := sto) (x := x * x - y) (Num.i 2) z4 Szq.two (by decide)
  have zs := F.s.sz (by omega) (by omega)
  have zt := F.t.sz (by omega) (by omega)
  have zu := F.u.sz (by omega) (by omega)
  have zv := F.v.sz (by omega) (by omega)
  have zss := (F.s.mul F.s).sz (by omega) (by omega)
  have ztt := (F.t.mul F.t).sz (by omega) (by omega)
  have o1 := ov s u F.s F.u s5
  have o2 := ov t v F.t F.v s5
  have n5 : ([a, b, c, d, e] : List T).length ≤ sizeLine := by rw [sizeL]; simp
  have A1 : evS (PT.D true) (callN (PT.D true) rp fw (n + 7)) (rp (callN (PT.D true) rp fw (n + 7))) fw (.asg (.gn 1) (.tup (.cons (.cal 1003 (.cons (.var 0) .nil)) (.cons (.cal 1003 (.cons (.var 0) .nil)) (.cons (.cal 1003 (.cons (.var 0) .nil)) (.cons (.cal 1003 (.cons (.var 0) .nil)) (.cons (.cal 1003 (.cons (.var 0) .nil)) .nil))))))) [some (.c k), none, none, none, none, none, none, none, none, none, none, none, none, none, none, none, none, none, none] st
      = .nx [some (.c k), some (.t (NumT a b c d e)), none, none, none, none, none, none, none, none, none, none, none, none, none, none, none, none, none] s5 := by
    simp only [evS, ev, evs, evF, evI, put, putL, bindV, bind_ok, toFl_ok, seq_nx, seq_rt, putFl_ok, rd_t, emb_t, ofO_some, ofT_some, noex_ok, E.isOmit, List.map_cons, List.map_nil, List.replicate, List.cons_append, List.nil_append, List.length_cons, List.length_nil, List.set_cons_zero, List.set_cons_succ, List.getElem?_cons_zero, List.getElem?_cons_succ, Bool.false_eq_true, if_true, if_false, reduceIte, Nat.reduceAdd, Nat.reduceSub, Nat.reduceLT, Nat.reduceLeDiff, Nat.lt_irrefl, evT, bin_add, bin_sub, mthOk_ins, attV_ins, cmpP_lt, cmpP_le, cmpP_gt, cmpP_ge, cmp_lt, cmp_le, cmp_gt, cmp_ge, cmp_eqi, cmp_eqs, cmp_eqb, cmp_nei, cmp_nes, cmp_neb, cmp_isn, cmp_nin, cmp_isb, cmp_nib, tru_bl, tru_int, isNon_lst, isNon_non, item_l, item_t, blt_lenl, blt_lent, blt_lend, blt_all, blt_any, mapM_t1, mapM_t2, embLM_t0, embLM_t1, embLM_t2, embLM_t3, Option.bind_some, Option.map_some, Bool.not_true, Bool.not_false, endC_rt, endC_nx, decide_eq_true_eq, List.mapM_nil, fl_L_number, e1, e2, e3, e4, e5, embLM_t5, sizeL]
    try rfl
  have A2 : evS (PT.D true) (callN (PT.D true) rp fw (n + 7)) (rp (callN (PT.D true) rp fw (n + 7))) fw (.asg (.gt (.cons (.gn 2) (.cons (.gn 3) (.cons (.gn 4) (.cons (.gn 5) (.cons (.gn 6) .nil)))))) LC_L_right_0) [some (.c k), some (.t (NumT a b c d e)), none, none, none, none, none, none, none, none, none, none, none, none, none, none, none, none, none] s5
      = .nx [some (.c k), some (.t (NumT a b c d e)), some (.t (ratQ s)), some (.t (ratQ t)), some (.t (ratQ u)), some (.t (ratQ m)), some (.t (ratQ v)), none, none, none, none, none, none, none, none, none, none, none, none] s5 := by
    obtain ⟨src, w1, w2⟩ := evI_seq (s := s5) (D := (PT.D true)) (cf := callN (PT.D true) rp fw (n + 7)) (rp := rp (callN (PT.D true) rp fw (n + 7))) (e := .var 1) (loc := [some (.c k), some (.t (NumT a b c d e)), none, none, none, none, none, none, none, none, none, none, none, none, none, none, none, none, none]) (x := NumT a b c d e) rfl (by simp only [evS, ev, evs, evF, evI, put, putL, bindV, bind_ok, toFl_ok, seq_nx, seq_rt, putFl_ok, rd_t, emb_t, ofO_some, ofT_some, noex_ok, E.isOmit, List.map_cons, List.map_nil, List.replicate, List.cons_append, List.nil_append, List.length_cons, List.length_nil, List.set_cons_zero, List.set_cons_succ, List.getElem?_cons_zero, List.getElem?_cons_succ, Bool.false_eq_true, if_true, if_false, reduceIte, Nat.reduceAdd, Nat.reduceSub, Nat.reduceLT, Nat.reduceLeDiff, Nat.lt_irrefl, evT, bin_add, bin_sub, mthOk_ins, attV_ins, cmpP_lt, cmpP_le, cmpP_gt, cmpP_ge, cmp_lt, cmp_le, cmp_gt, cmp_ge, cmp_eqi, cmp_eqs, cmp_eqb, cmp_nei, cmp_nes, cmp_neb, cmp_isn, cmp_nin, cmp_isb, cmp_nib, tru_bl, tru_int, isNon_lst, isNon_non, item_l, item_t, blt_lenl, blt_lent, blt_lend, blt_all, blt_any, mapM_t1, mapM_t2, embLM_t0, embLM_t1, embLM_t2, embLM_t3, Option.bind_some, Option.map_some, Bool.not_true, Bool.not_false, endC_rt, endC_nx, decide_eq_true_eq, List.mapM_nil])
    have el : ∀ y ∈ [a, b, c, d, e], ∃ x, Num y x ∧ Dy 1 4 x := by
      intro y hy
      simp only [List.mem_cons, List.not_mem_nil, or_false] at hy
      rcases hy with rfl | rfl | rfl | rfl | rfl
      · exact ⟨_, ha, da⟩
      · exact ⟨_, hb, db⟩
      · exact ⟨_, hc, dc⟩
      · exact ⟨_, hd, dd⟩
      · exact ⟨_, he, de⟩
    have hlc : ev (PT.D true) (callN (PT.D true) rp fw (n + 7)) (rp (callN (PT.D true) rp fw (n + 7))) LC_L_right_0 [some (.c k), some (.t (NumT a b c d e)), none, none, none, none, none, none, none, none, none, none, none, none, none, none, none, none, none] s5 = _ := ev_lc_map ratOf w1 w2 n5 (fun y hy => ⟨[some (.c k), some (.t (NumT a b c d e)), none, none, none, none, none, none, none, none, none, none, none, none, none, none, none, none, some (.t y)], by simp [bindG, wipeL], fun acc => by
      obtain ⟨x, hx, dx⟩ := el y hy
      have m0 := mk_int (D := (PT.D true)) (rp := rp) (fw := fw) (n := n + 5) (sto := s5 ++ [.lst acc]) (i := 0) (loc := [some (.c k), some (.t (NumT a b c d e)), none, none, none, none, none, none, none, none, none, none, none, none, none, none, none, none, some (.t y)]) (r := rp (callN (PT.D true) rp fw (n + 7)))
      have z0 : Szq ((0 : Int) : Rat) := (Dy.int 0 (m := 0) (by decide)).sz (by omega) (by omega)
      rw [ev, m0]
      simp only [evS, ev, evs, evF, evI, put, putL, bindV, bind_ok, toFl_ok, seq_nx, seq_rt, putFl_ok, rd_t, emb_t, ofO_some, ofT_some, noex_ok, E.isOmit, List.map_cons, List.map_nil, List.replicate, List.cons_append, List.nil_append, List.length_cons, List.length_nil, List.set_cons_zero, List.set_cons_succ, List.getElem?_cons_zero, List.getElem?_cons_succ, Bool.false_eq_true, if_true, if_false, reduceIte, Nat.reduceAdd, Nat.reduceSub, Nat.reduceLT, Nat.reduceLeDiff, Nat.lt_irrefl, evT, bin_add, bin_sub, mthOk_ins, attV_ins, cmpP_lt, cmpP_le, cmpP_gt, cmpP_ge, cmp_lt, cmp_le, cmp_gt, cmp_ge, cmp_eqi, cmp_eqs, cmp_eqb, cmp_nei, cmp_nes, cmp_neb, cmp_isn, cmp_nin, cmp_isb, cmp_nib, tru_bl, tru_int, isNon_lst, isNon_non, item_l, item_t, blt_lenl, blt_lent, blt_lend, blt_all, blt_any, mapM_t1, mapM_t2, embLM_t0, embLM_t1, embLM_t2, embLM_t3, Option.bind_some, Option.map_some, Bool.not_true, Bool.not_false, endC_rt, endC_nx, decide_eq_true_eq, List.mapM_nil, bin_addq (D := (PT.D true)) (rp := rp) (fw := fw) (n := n + 4) hx z0 (dx.sz (by omega) (by omega)), hx.ratOf]
      congr 3
      show ((0 : Int) : Rat) + x = x
      simp [Rat.zero_add]⟩)
    simp only [itms, List.map_cons, List.map_nil, ha.ratOf, hb.ratOf, hc.ratOf, hd.ratOf, he.ratOf] at hlc
    simp only [evS, hlc, evS, ev, evs, evF, evI, put, putL, bindV, bind_ok, toFl_ok, seq_nx, seq_rt, putFl_ok, rd_t, emb_t, ofO_some, ofT_some, noex_ok, E.isOmit, List.map_cons, List.map_nil, List.replicate, List.cons_append, List.nil_append, List.length_cons, List.length_nil, List.set_cons_zero, List.set_cons_succ, List.getElem?_cons_zero, List.getElem?_cons_succ, Bool.false_eq_true, if_true, if_false, reduceIte, Nat.reduceAdd, Nat.reduceSub, Nat.reduceLT, Nat.reduceLeDiff, Nat.lt_irrefl, evT, bin_add, bin_sub, mthOk_ins, attV_ins, cmpP_lt, cmpP_le, cmpP_gt, cmpP_ge, cmp_lt, cmp_le, cmp_gt, cmp_ge, cmp_eqi, cmp_eqs, cmp_eqb, cmp_nei, cmp_nes, cmp_neb, cmp_isn, cmp_nin, cmp_isb, cmp_nib, tru_bl, tru_int, isNon_lst, isNon_non, item_l, item_t, blt_lenl, blt_lent, blt_lend, blt_all, blt_any, mapM_t1, mapM_t2, embLM_t0, embLM_t1, embLM_t2, embLM_t3, Option.bind_some, Option.map_some, Bool.not_true, Bool.not_false, endC_rt, endC_nx, decide_eq_true_eq, List.mapM_nil, items, alen]
  have A3 : evS (PT.D true) (callN (PT.D true) rp fw (n + 7)) (rp (callN (PT.D true) rp fw (n + 7))) fw (.asg (.gn 7) LC_L_right_1) [some (.c k), some (.t (NumT a b c d e)), some (.t (ratQ s)), some (.t (ratQ t)), some (.t (ratQ u)), some (.t (ratQ m)), some (.t (ratQ v)), none, none, none, none, none, none, none, none, none, none, none, none] s5
      = .nx [some (.c k), some (.t (NumT a b c d e)), some (.t (ratQ s)), some (.t (ratQ t)), some (.t (ratQ u)), some (.t (ratQ m)), some (.t (ratQ v)), some (.t (.lst ([s, t, u, m, v, m].map ratQ))), none, none, none, none, none, none, none, none, none, none, none] s5 := by
    let wl : List (List Bool) := [[false], [true], [false, false], [false, true], [true, true], [true, false]]
    have w1 : evI (PT.D true) (callN (PT.D true) rp fw (n + 7)) (rp (callN (PT.D true) rp fw (n + 7))) (.iseq (.lst false (.cons (.lst false (.cons (.int 0) .nil)) (.cons (.lst false (.cons (.int 1) .nil)) (.cons (.lst false (.cons (.int 0) (.cons (.int 0) .nil))) (.cons (.lst false (.cons (.int 0) (.cons (.int 1) .nil))) (.cons (.lst false (.cons (.int 1) (.cons (.int 1) .nil))) (.cons (.lst false (.cons (.int 1) (.cons (.int 0) .nil))) .nil)))))))) [some (.c k), some (.t (NumT a b c d e)), some (.t (ratQ s)), some (.t (ratQ t)), some (.t (ratQ u)), some (.t (ratQ m)), some (.t (ratQ v)), none, none, none, none, none, none, none, none, none, none, none, none] s5 = .ok (.lst (.t (.lst (wl.map fun w => T.lst (w.map letT))))) s5 := by
      have q6 : ∀ (x y z w q r : T), embLM s5 [.t x, .t y, .t z, .t w, .t q, .t r] = .ok [x, y, z, w, q, r] s5 := fun _ _ _ _ _ _ => nrfl rfl
      have lz : (0 + 1 + 1 + 1 + 1 + 1 + 1 ≤ sizeLine) = True := by rw [sizeL]; simp
      have lz1 : (0 + 1 ≤ sizeLine) = True := by rw [sizeL]; simp
      have lz2 : (0 + 1 + 1 ≤ sizeLine) = True := by rw [sizeL]; simp
      simp only [evI, evS, ev, evs, evF, evI, put, putL, bindV, bind_ok, toFl_ok, seq_nx, seq_rt, putFl_ok, rd_t, emb_t, ofO_some, ofT_some, noex_ok, E.isOmit, List.map_cons, List.map_nil, List.replicate, List.cons_append, List.nil_append, List.length_cons, List.length_nil, List.set_cons_zero, List.set_cons_succ, List.getElem?_cons_zero, List.getElem?_cons_succ, Bool.false_eq_true, if_true, if_false, reduceIte, Nat.reduceAdd, Nat.reduceSub, Nat.reduceLT, Nat.reduceLeDiff, Nat.lt_irrefl, evT, bin_add, bin_sub, mthOk_ins, attV_ins, cmpP_lt, cmpP_le, cmpP_gt, cmpP_ge, cmp_lt, cmp_le, cmp_gt, cmp_ge, cmp_eqi, cmp_eqs, cmp_eqb, cmp_nei, cmp_nes, cmp_neb, cmp_isn, cmp_nin, cmp_isb, cmp_nib, tru_bl, tru_int, isNon_lst, isNon_non, item_l, item_t, blt_lenl, blt_lent, blt_lend, blt_all, blt_any, mapM_t1, mapM_t2, embLM_t0, embLM_t1, embLM_t2, embLM_t3, Option.bind_some, Option.map_some, Bool.not_true, Bool.not_false, endC_rt, endC_nx, decide_eq_true_eq, List.mapM_nil, q6, sizeL]
      rfl
    have hlc : ev (PT.D true) (callN (PT.D true) rp fw (n + 7)) (rp (callN (PT.D true) rp fw (n + 7))) LC_L_right_1 [some (.c k), some (.t (NumT a b c d e)), some (.t (ratQ s)), some (.t (ratQ t)), some (.t (ratQ u)), some (.t (ratQ m)), some (.t (ratQ v)), none, none, none, none, none, none, none, none, none, none, none, none] s5 = _ := ev_lc_map (fun y => ratQ (Wt s t u m v (dec y))) w1 .tree (by rw [sizeL]; simp [wl]) (fun y hy => ⟨[some (.c k), some (.t (NumT a b c d e)), some (.t (ratQ s)), some (.t (ratQ t)), some (.t (ratQ u)), some (.t (ratQ m)), some (.t (ratQ v)), none, none, none, none, some (.t y), none, none, none, none, none, none, none], by simp [bindG, wipeL], fun acc => by
      obtain ⟨w, hw, rfl⟩ := List.mem_map.mp hy
      have lw : w.length ≤ 16 := by
        simp only [wl, List.mem_cons, List.not_mem_nil, or_false] at hw
        rcases hw with rfl | rfl | rfl | rfl | rfl | rfl <;> decide
      simp only [evS, ev, evs, evF, evI, put, putL, bindV, bind_ok, toFl_ok, seq_nx, seq_rt, putFl_ok, rd_t, emb_t, ofO_some, ofT_some, noex_ok, E.isOmit, List.map_cons, List.map_nil, List.replicate, List.cons_append, List.nil_append, List.length_cons, List.length_nil, List.set_cons_zero, List.set_cons_succ, List.getElem?_cons_zero, List.getElem?_cons_succ, Bool.false_eq_true, if_true, if_false, reduceIte, Nat.reduceAdd, Nat.reduceSub, Nat.reduceLT, Nat.reduceLeDiff, Nat.lt_irrefl, evT, bin_add, bin_sub, mthOk_ins, attV_ins, cmpP_lt, cmpP_le, cmpP_gt, cmpP_ge, cmp_lt, cmp_le, cmp_gt, cmp_ge, cmp_eqi, cmp_eqs, cmp_eqb, cmp_nei, cmp_nes, cmp_neb, cmp_isn, cmp_nin, cmp_isb, cmp_nib, tru_bl, tru_int, isNon_lst, isNon_non, item_l, item_t, blt_lenl, blt_lent, blt_lend, blt_all, blt_any, mapM_t1, mapM_t2, embLM_t0, embLM_t1, embLM_t2, embLM_t3, Option.bind_some, Option.map_some, Bool.not_true, Bool.not_false, endC_rt, endC_nx, decide_eq_true_eq, List.mapM_nil, fl_fives_word_by, hW w lw, dec_w]⟩)
    have hm : (wl.map fun w => T.lst (w.map letT)).map (fun y => ratQ (Wt s t u m v (dec y))) = [s, t, u, m, v, m].map ratQ := by
      rw [← shorts s t u m v, List.map_map, List.map_map]
      exact List.map_congr_left fun w _ => by simp only [Function.comp, dec_w]
    rw [hm] at hlc
    simp only [evS, hlc, evS, ev, evs, evF, evI, put, putL, bindV, bind_ok, toFl_ok, seq_nx, seq_rt, putFl_ok, rd_t, emb_t, ofO_some, ofT_some, noex_ok, E.isOmit, List.map_cons, List.map_nil, List.replicate, List.cons_append, List.nil_append, List.length_cons, List.length_nil, List.set_cons_zero, List.set_cons_succ, List.getElem?_cons_zero, List.getElem?_cons_succ, Bool.false_eq_true, if_true, if_false, reduceIte, Nat.reduceAdd, Nat.reduceSub, Nat.reduceLT, Nat.reduceLeDiff, Nat.lt_irrefl, evT, bin_add, bin_sub, mthOk_ins, attV_ins, cmpP_lt, cmpP_le, cmpP_gt, cmpP_ge, cmp_lt, cmp_le, cmp_gt, cmp_ge, cmp_eqi, cmp_eqs, cmp_eqb, cmp_nei, cmp_nes, cmp_neb, cmp_isn, cmp_nin, cmp_isb, cmp_nib, tru_bl, tru_int, isNon_lst, isNon_non, item_l, item_t, blt_lenl, blt_lent, blt_lend, blt_all, blt_any, mapM_t1, mapM_t2, embLM_t0, embLM_t1, embLM_t2, embLM_t3, Option.bind_some, Option.map_some, Bool.not_true, Bool.not_false, endC_rt, endC_nx, decide_eq_true_eq, List.mapM_nil]
  have hne := fun xs ys h => cmp_neLs (rp := rp) (fw := fw) (n := n + 6) (st := s5) xs ys h
  have m2 := mk_int (D := (PT.D true)) (rp := rp) (fw := fw) (n := n + 5) (sto := s5) (i := 2) (loc := [some (.c k), some (.t (NumT a b c d e)), some (.t (ratQ s)), some (.t (ratQ t)), some (.t (ratQ u)), some (.t (ratQ m)), some (.t (ratQ v)), some (.t (.lst ([s, t, u, m, v, m].map ratQ))), none, none, none, none, none, none, none, none, none, none, none]) (r := rp (callN (PT.D true) rp fw (n + 7)))
  have A4 : evS (PT.D true) (callN (PT.D true) rp fw (n + 7)) (rp (callN (PT.D true) rp fw (n + 7))) fw (.ite (.or (.cmp .NotEq (.var 7) (.lst false (.cons (.var 2) (.cons (.var 3) (.cons (.var 4) (.cons (.var 5) (.cons (.var 6) (.cons (.var 5) .nil)))))))) (.cmp .NotEq (.cal 196 (.cons (.var 1) (.cons (.lst false .nil) .nil))) (.mk 55 (.cons (.int 2) .nil)))) (.ret false (.bl false)) .skip) [some (.c k), some (.t (NumT a b c d e)), some (.t (ratQ s)), some (.t (ratQ t)), some (.t (ratQ u)), some (.t (ratQ m)), some (.t (ratQ v)), some (.t (.lst ([s, t, u, m, v, m].map ratQ))), none, none, none, none, none, none, none, none, none, none, none] s5
      = .nx [some (.c k), some (.t (NumT a b c d e)), some (.t (ratQ s)), some (.t (ratQ t)), some (.t (ratQ u)), some (.t (ratQ m)), some (.t (ratQ v)), some (.t (.lst ([s, t, u, m, v, m].map ratQ))), none, none, none, none, none, none, none, none, none, none, none] s5 := by
    have q6 : ∀ (x y z w q r : T), embLM s5 [.t x, .t y, .t z, .t w, .t q, .t r] = .ok [x, y, z, w, q, r] s5 := fun _ _ _ _ _ _ => nrfl rfl
    have h6 := hne [s, t, u, m, v, m] [s, t, u, m, v, m] rfl
    have w0 := hW [] (by simp) s5
    rw [nought] at w0
    have c1 : ev (PT.D true) (callN (PT.D true) rp fw (n + 7)) (rp (callN (PT.D true) rp fw (n + 7))) (.cmp .NotEq (.var 7) (.lst false (.cons (.var 2) (.cons (.var 3) (.cons (.var 4) (.cons (.var 5) (.cons (.var 6) (.cons (.var 5) .nil)))))))) [some (.c k), some (.t (NumT a b c d e)), some (.t (ratQ s)), some (.t (ratQ t)), some (.t (ratQ u)), some (.t (ratQ m)), some (.t (ratQ v)), some (.t (.lst ([s, t, u, m, v, m].map ratQ))), none, none, none, none, none, none, none, none, none, none, none] s5 = .ok (.t (.bl false)) s5 := by
      simp only [List.map_cons, List.map_nil] at h6
      simp only [evS, ev, evs, evF, evI, put, putL, bindV, bind_ok, toFl_ok, seq_nx, seq_rt, putFl_ok, rd_t, emb_t, ofO_some, ofT_some, noex_ok, E.isOmit, List.map_cons, List.map_nil, List.replicate, List.cons_append, List.nil_append, List.length_cons, List.length_nil, List.set_cons_zero, List.set_cons_succ, List.getElem?_cons_zero, List.getElem?_cons_succ, Bool.false_eq_true, if_true, if_false, reduceIte, Nat.reduceAdd, Nat.reduceSub, Nat.reduceLT, Nat.reduceLeDiff, Nat.lt_irrefl, evT, bin_add, bin_sub, mthOk_ins, attV_ins, cmpP_lt, cmpP_le, cmpP_gt, cmpP_ge, cmp_lt, cmp_le, cmp_gt, cmp_ge, cmp_eqi, cmp_eqs, cmp_eqb, cmp_nei, cmp_nes, cmp_neb, cmp_isn, cmp_nin, cmp_isb, cmp_nib, tru_bl, tru_int, isNon_lst, isNon_non, item_l, item_t, blt_lenl, blt_lent, blt_lend, blt_all, blt_any, mapM_t1, mapM_t2, embLM_t0, embLM_t1, embLM_t2, embLM_t3, Option.bind_some, Option.map_some, Bool.not_true, Bool.not_false, endC_rt, endC_nx, decide_eq_true_eq, List.mapM_nil, q6, sizeL]
      simp only [h6, decide_true, Bool.not_true, Option.map_some, ofT_some]
    have c2 : ev (PT.D true) (callN (PT.D true) rp fw (n + 7)) (rp (callN (PT.D true) rp fw (n + 7))) (.cmp .NotEq (.cal 196 (.cons (.var 1) (.cons (.lst false .nil) .nil))) (.mk 55 (.cons (.int 2) .nil))) [some (.c k), some (.t (NumT a b c d e)), some (.t (ratQ s)), some (.t (ratQ t)), some (.t (ratQ u)), some (.t (ratQ m)), some (.t (ratQ v)), some (.t (.lst ([s, t, u, m, v, m].map ratQ))), none, none, none, none, none, none, none, none, none, none, none] s5 = .ok (.t (.bl false)) s5 := by
      have f1 : ev (PT.D true) (callN (PT.D true) rp fw (n + 7)) (rp (callN (PT.D true) rp fw (n + 7))) (.cal 196 (.cons (.var 1) (.cons (.lst false .nil) .nil))) [some (.c k), some (.t (NumT a b c d e)), some (.t (ratQ s)), some (.t (ratQ t)), some (.t (ratQ u)), some (.t (ratQ m)), some (.t (ratQ v)), some (.t (.lst ([s, t, u, m, v, m].map ratQ))), none, none, none, none, none, none, none, none, none, none, none] s5 = .ok (.t (ratQ 2)) s5 := by
        simp only [List.map_nil] at w0
        simp only [evS, ev, evs, evF, evI, put, putL, bindV, bind_ok, toFl_ok, seq_nx, seq_rt, putFl_ok, rd_t, emb_t, ofO_some, ofT_some, noex_ok, E.isOmit, List.map_cons, List.map_nil, List.replicate, List.cons_append, List.nil_append, List.length_cons, List.length_nil, List.set_cons_zero, List.set_cons_succ, List.getElem?_cons_zero, List.getElem?_cons_succ, Bool.false_eq_true, if_true, if_false, reduceIte, Nat.reduceAdd, Nat.reduceSub, Nat.reduceLT, Nat.reduceLeDiff, Nat.lt_irrefl, evT, bin_add, bin_sub, mthOk_ins, attV_ins, cmpP_lt, cmpP_le, cmpP_gt, cmpP_ge, cmp_lt, cmp_le, cmp_gt, cmp_ge, cmp_eqi, cmp_eqs, cmp_eqb, cmp_nei, cmp_nes, cmp_neb, cmp_isn, cmp_nin, cmp_isb, cmp_nib, tru_bl, tru_int, isNon_lst, isNon_non, item_l, item_t, blt_lenl, blt_lent, blt_lend, blt_all, blt_any, mapM_t1, mapM_t2, embLM_t0, embLM_t1, embLM_t2, embLM_t3, Option.bind_some, Option.map_some, Bool.not_true, Bool.not_false, endC_rt, endC_nx, decide_eq_true_eq, List.mapM_nil, fl_fives_word_by, sizeL, Nat.zero_le, w0]
      rw [ev, f1, bind_ok, m2, bind_ok, cmp_neq (D := (PT.D true)) (rp := rp) (fw := fw) (n := n + 6)]
      rfl
    simp only [evS, evT]
    rw [ev_or_t c1 fun _ => c2]
    simp only [evS, ev, evs, evF, evI, put, putL, bindV, bind_ok, toFl_ok, seq_nx, seq_rt, putFl_ok, rd_t, emb_t, ofO_some, ofT_some, noex_ok, E.isOmit, List.map_cons, List.map_nil, List.replicate, List.cons_append, List.nil_append, List.length_cons, List.length_nil, List.set_cons_zero, List.set_cons_succ, List.getElem?_cons_zero, List.getElem?_cons_succ, Bool.false_eq_true, if_true, if_false, reduceIte, Nat.reduceAdd, Nat.reduceSub, Nat.reduceLT, Nat.reduceLeDiff, Nat.lt_irrefl, evT, bin_add, bin_sub, mthOk_ins, attV_ins, cmpP_lt, cmpP_le, cmpP_gt, cmpP_ge, cmp_lt, cmp_le, cmp_gt, cmp_ge, cmp_eqi, cmp_eqs, cmp_eqb, cmp_nei, cmp_nes, cmp_neb, cmp_isn, cmp_nin, cmp_isb, cmp_nib, tru_bl, tru_int, isNon_lst, isNon_non, item_l, item_t, blt_lenl, blt_lent, blt_lend, blt_all, blt_any, mapM_t1, mapM_t2, embLM_t0, embLM_t1, embLM_t2, embLM_t3, Option.bind_some, Option.map_some, Bool.not_true, Bool.not_false, endC_rt, endC_nx, decide_eq_true_eq, List.mapM_nil, Bool.or_self]
  have A5 : evS (PT.D true) (callN (PT.D true) rp fw (n + 7)) (rp (callN (PT.D true) rp fw (n + 7))) fw (.par (.cons (.gn 8) (.cons (.gn 9) .nil)) (.cons (.mth 55 "over" (.bin .Sub (.bin .Mult (.var 2) (.var 2)) (.var 4)) (.cons (.int 2) .nil)) (.cons (.mth 55 "over" (.bin .Sub (.bin .Mult (.var 3) (.var 3)) (.var 6)) (.cons (.int 2) .nil)) .nil))) [some (.c k), some (.t (NumT a b c d e)), some (.t (ratQ s)), some (.t (ratQ t)), some (.t (ratQ u)), some (.t (ratQ m)), some (.t (ratQ v)), some (.t (.lst ([s, t, u, m, v, m].map ratQ))), none, none, none, none, none, none, none, none, none, none, none] s5
      = .nx (EN k (NumT a b c d e) (.lst ([s, t, u, m, v, m].map ratQ)) s t u m v none none none none none none none none none) s5 := by
    have hm1 := mthOk_q (D := (PT.D true)) (sto := s5) (x := s * s - u) (g := 347)
    have hm2 := mthOk_q (D := (PT.D true)) (sto := s5) (x := t * t - v) (g := 347)
    simp only [EN, evS, ev, evs, evF, evI, put, putL, bindV, bind_ok, toFl_ok, seq_nx, seq_rt, putFl_ok, rd_t, emb_t, ofO_some, ofT_some, noex_ok, E.isOmit, List.map_cons, List.map_nil, List.replicate, List.cons_append, List.nil_append, List.length_cons, List.length_nil, List.set_cons_zero, List.set_cons_succ, List.getElem?_cons_zero, List.getElem?_cons_succ, Bool.false_eq_true, if_true, if_false, reduceIte, Nat.reduceAdd, Nat.reduceSub, Nat.reduceLT, Nat.reduceLeDiff, Nat.lt_irrefl, evT, bin_add, bin_sub, mthOk_ins, attV_ins, cmpP_lt, cmpP_le, cmpP_gt, cmpP_ge, cmp_lt, cmp_le, cmp_gt, cmp_ge, cmp_eqi, cmp_eqs, cmp_eqb, cmp_nei, cmp_nes, cmp_neb, cmp_isn, cmp_nin, cmp_isb, cmp_nib, tru_bl, tru_int, isNon_lst, isNon_non, item_l, item_t, blt_lenl, blt_lent, blt_lend, blt_all, blt_any, mapM_t1, mapM_t2, embLM_t0, embLM_t1, embLM_t2, embLM_t3, Option.bind_some, Option.map_some, Bool.not_true, Bool.not_false, endC_rt, endC_nx, decide_eq_true_eq, List.mapM_nil, fl_ratios_Ratio_over, bin_mulq (D := (PT.D true)) (rp := rp) (fw := fw) (n := n + 4) (Num.q s) zs zs, bin_mulq (D := (PT.D true)) (rp := rp) (fw := fw) (n := n + 4) (Num.q t) zt zt, bin_subq (D := (PT.D true)) (rp := rp) (fw := fw) (n := n + 4) (Num.q u) zss zu, bin_subq (D := (PT.D true)) (rp := rp) (fw := fw) (n := n + 4) (Num.q v) ztt zv, hm1, hm2, o1, o2]
  have A6 : ∃ p10 p11 p12 p13 p14 p15 p16 p17 s6, evS (PT.D true) (callN (PT.D true) rp fw (n + 7)) (rp (callN (PT.D true) rp fw (n + 7))) fw FS_L_right_2 (EN k (NumT a b c d e) (.lst ([s, t, u, m, v, m].map ratQ)) s t u m v none none none none none none none none none) s5 = .nx (EN k (NumT a b c d e) (.lst ([s, t, u, m, v, m].map ratQ)) s t u m v p10 p11 p12 p13 p14 p15 p16 p17 none) s6 ∧ Sat st [k] [] s6 := by
    have e0 : evI (PT.D true) (callN (PT.D true) rp fw (n + 7)) (rp (callN (PT.D true) rp fw (n + 7))) (.irng1 (.int 3)) (EN k (NumT a b c d e) (.lst ([s, t, u, m, v, m].map ratQ)) s t u m v none none none none none none none none none) s5 = .ok (.rng 0 ((3 : Nat) : Int)) s5 := evI_rng (by simp only [evS, ev, evs, evF, evI, put, putL, bindV, bind_ok, toFl_ok, seq_nx, seq_rt, putFl_ok, rd_t, emb_t, ofO_some, ofT_some, noex_ok, E.isOmit, List.map_cons, List.map_nil, List.replicate, List.cons_append, List.nil_append, List.length_cons, List.length_nil, List.set_cons_zero, List.set_cons_succ, List.getElem?_cons_zero, List.getElem?_cons_succ, Bool.false_eq_true, if_true, if_false, reduceIte, Nat.reduceAdd, Nat.reduceSub, Nat.reduceLT, Nat.reduceLeDiff, Nat.lt_irrefl, evT, bin_add, bin_sub, mthOk_ins, attV_ins, cmpP_lt, cmpP_le, cmpP_gt, cmpP_ge, cmp_lt, cmp_le, cmp_gt, cmp_ge, cmp_eqi, cmp_eqs, cmp_eqb, cmp_nei, cmp_nes, cmp_neb, cmp_isn, cmp_nin, cmp_isb, cmp_nib, tru_bl, tru_int, isNon_lst, isNon_non, item_l, item_t, blt_lenl, blt_lent, blt_lend, blt_all, blt_any, mapM_t1, mapM_t2, embLM_t0, embLM_t1, embLM_t2, embLM_t3, Option.bind_some, Option.map_some, Bool.not_true, Bool.not_false, endC_rt, endC_nx, decide_eq_true_eq, List.mapM_nil]; rfl) (by omega)
    unfold FS_L_right_2
    simp only [evS, e0, toFl_ok, most_rng]
    obtain ⟨l2, s6, h4, ⟨S6, p10, p11, p12, p13, p14, p15, p16, p17, rfl⟩⟩ := loopF_inv (src := .rng 0 ((3 : Nat) : Int)) (g := .gn 10) (body := evS (PT.D true) (callN (PT.D true) rp fw (n + 7)) (rp (callN (PT.D true) rp fw (n + 7))) fw FB_L_right_2) (xs := rngL 0 ((3 : Nat) : Int))
      (fun i loc s' => Sat st [k] [] s' ∧ ∃ p10 p11 p12 p13 p14 p15 p16 p17, loc = EN k (NumT a b c d e) (.lst ([s, t, u, m, v, m].map ratQ)) s t u m v p10 p11 p12 p13 p14 p15 p16 p17 none)
      (fun i loc s' I => at_rng i)
      (fun i x loc s' hx I => by
        obtain ⟨S, p10, p11, p12, p13, p14, p15, p16, p17, rfl⟩ := I
        obtain ⟨q11, q12, q13, q14, q15, q16, q17, s7, e7, h7⟩ := turn_ok (rp := rp) (fw := fw) (n := n) (num := NumT a b c d e) (sh := .lst ([s, t, u, m, v, m].map ratQ)) (o10 := some (.t x)) (o11 := p11) (o12 := p12) (o13 := p13) (o14 := p14) (o15 := p15) (o16 := p16) (o17 := p17) (o18 := none) F hW s' S.pot1
        exact ⟨_, rfl, _, _, .inl e7, S.same h7, _, _, _, _, _, _, _, _, rfl⟩)
      ((rngL 0 ((3 : Nat) : Int)).length + 1) 0 _ s5 (by omega) (Nat.zero_le _) ⟨S5, none, none, none, none, none, none, none, none, rfl⟩
    exact ⟨p10, p11, p12, p13, p14, p15, p16, p17, s6, h4, S6⟩
  obtain ⟨p10, p11, p12, p13, p14, p15, p16, p17, s6, A6, S6⟩ := A6
  obtain ⟨s7, q1, q2⟩ := S6.ret (x := .bl true)
  refine ⟨s7, ?_, q2⟩
  rw [← q1]
  unfold S_L_right
  rw [evS_seq, A1, seq_nx, evS_seq, A2, seq_nx, evS_seq, A3, seq_nx, evS_seq, A4, seq_nx, evS_seq, A5, seq_nx, evS_seq, A6, seq_nx]
  simp only [evS, ev, evs, evF, evI, put, putL, bindV, bind_ok, toFl_ok, seq_nx, seq_rt, putFl_ok, rd_t, emb_t, ofO_some, ofT_some, noex_ok, E.isOmit, List.map_cons, List.map_nil, List.replicate, List.cons_append, List.nil_append, List.length_cons, List.length_nil, List.set_cons_zero, List.set_cons_succ, List.getElem?_cons_zero, List.getElem?_cons_succ, Bool.false_eq_true, if_true, if_false, reduceIte, Nat.reduceAdd, Nat.reduceSub, Nat.reduceLT, Nat.reduceLeDiff, Nat.lt_irrefl, evT, bin_add, bin_sub, mthOk_ins, attV_ins, cmpP_lt, cmpP_le, cmpP_gt, cmpP_ge, cmp_lt, cmp_le, cmp_gt, cmp_ge, cmp_eqi, cmp_eqs, cmp_eqb, cmp_nei, cmp_nes, cmp_neb, cmp_isn, cmp_nin, cmp_isb, cmp_nib, tru_bl, tru_int, isNon_lst, isNon_non, item_l, item_t, blt_lenl, blt_lent, blt_lend, blt_all, blt_any, mapM_t1, mapM_t2, embLM_t0, embLM_t1, embLM_t2, embLM_t3, Option.bind_some, Option.map_some, Bool.not_true, Bool.not_false, endC_rt, endC_nx, decide_eq_true_eq, List.mapM_nil]
end
end Tw
set_option maxHeartbeats 8000000
namespace Tw
open PySem L2
section
variable {rp : CF → Store → T → Out Str} {fw n : Nat}
theorem law_ok (ns : List Int) : ∃ s, callN (PT.D true) rp fw (n + 9) 1006 [.t (.scr ns)] [] = .ok (.t (.bl true)) s := by
  rw [go_L_law]
  generalize hM : (if (if (ns.length : Int) < 2 then (ns.length : Int) else 2) > 1 then (if (ns.length : Int) < 2 then (ns.length : Int) else 2) else 1) = M
  obtain ⟨m, rfl⟩ : ∃ m : Nat, M = (m : Int) := ⟨M.toNat, by split at hM <;> split at hM <;> omega⟩
  have hm : m ≤ 2 := by
    split at hM <;> split at hM <;> omega
  have ei : evI (PT.D true) (callN (PT.D true) rp fw (n + 8)) (rp (callN (PT.D true) rp fw (n + 8))) (.irng1 (.blt .max (.cons (.int 1) (.cons (.blt .min (.cons (.int 2) (.cons (.blt .len (.cons (.var 0) .nil)) .nil))) .nil)))) [some (.t (.scr ns)), none] [] = .ok (.rng 0 m) [] := evI_rng (by
    simp only [evS, ev, evs, evF, evI, put, putL, bindV, bind_ok, toFl_ok, seq_nx, seq_rt, putFl_ok, rd_t, emb_t, ofO_some, ofT_some, noex_ok, E.isOmit, List.map_cons, List.map_nil, List.replicate, List.cons_append, List.nil_append, List.length_cons, List.length_nil, List.set_cons_zero, List.set_cons_succ, List.getElem?_cons_zero, List.getElem?_cons_succ, Bool.false_eq_true, if_true, if_false, reduceIte, Nat.reduceAdd, Nat.reduceSub, Nat.reduceLT, Nat.reduceLeDiff, Nat.lt_irrefl, evT, bin_add, bin_sub, mthOk_ins, attV_ins, cmpP_lt, cmpP_le, cmpP_gt, cmpP_ge, cmp_lt, cmp_le, cmp_gt, cmp_ge, cmp_eqi, cmp_eqs, cmp_eqb, cmp_nei, cmp_nes, cmp_neb, cmp_isn, cmp_nin, cmp_isb, cmp_nib, tru_bl, tru_int, isNon_lst, isNon_non, item_l, item_t, blt_lenl, blt_lent, blt_lend, blt_all, blt_any, mapM_t1, mapM_t2, embLM_t0, embLM_t1, embLM_t2, embLM_t3, Option.bind_some, Option.map_some, Bool.not_true, Bool.not_false, endC_rt, endC_nx, decide_eq_true_eq, List.mapM_nil, blt_lens, blt_min, blt_max, hM]) (by omega)
  obtain ⟨ys, s2, e2, hx, hF⟩ := lc_draw (D := (PT.D true)) (ks := []) (own := [1]) (g := .gn 1) (e := .cal 1005 (.cons (.cal 1001 (.cons (.var 0) (.cons (.var 1) .nil))) .nil)) (xs := rngL 0 m) (fun _ t => t = .bl true) ei Sat.start0 (fun s' _ i => at_rng i) most_rng (by rw [rng_len, sizeL]; omega)
    (fun x hx st hS => by
      obtain ⟨i, hi, rfl⟩ := rng_mem hx
      refine ⟨[some (.t (.scr ns)), some (.t (.int i))], rfl, ?_⟩
      obtain ⟨pa, pb, ep⟩ := pot_ok (rp := rp) (fw := fw) (n := n + 7) (s := st) (ns := ns) (k := (i : Int)) (by omega) (by omega)
      have hp : PotAt (st ++ [potC pa pb]) st.length := ⟨pa, pb, app_get⟩
      obtain ⟨s', er, h'⟩ := right_ok (rp := rp) (fw := fw) (n := n) _ _ hp
      refine ⟨.bl true, s', ?_, ?_, rfl⟩
      · simp only [evS, ev, evs, evF, evI, put, putL, bindV, bind_ok, toFl_ok, seq_nx, seq_rt, putFl_ok, rd_t, emb_t, ofO_some, ofT_some, noex_ok, E.isOmit, List.map_cons, List.map_nil, List.replicate, List.cons_append, List.nil_append, List.length_cons, List.length_nil, List.set_cons_zero, List.set_cons_succ, List.getElem?_cons_zero, List.getElem?_cons_succ, Bool.false_eq_true, if_true, if_false, reduceIte, Nat.reduceAdd, Nat.reduceSub, Nat.reduceLT, Nat.reduceLeDiff, Nat.lt_irrefl, evT, bin_add, bin_sub, mthOk_ins, attV_ins, cmpP_lt, cmpP_le, cmpP_gt, cmpP_ge, cmp_lt, cmp_le, cmp_gt, cmp_ge, cmp_eqi, cmp_eqs, cmp_eqb, cmp_nei, cmp_nes, cmp_neb, cmp_isn, cmp_nin, cmp_isb, cmp_nib, tru_bl, tru_int, isNon_lst, isNon_non, item_l, item_t, blt_lenl, blt_lent, blt_lend, blt_all, blt_any, mapM_t1, mapM_t2, embLM_t0, embLM_t1, embLM_t2, embLM_t3, Option.bind_some, Option.map_some, Bool.not_true, Bool.not_false, endC_rt, endC_nx, decide_eq_true_eq, List.mapM_nil, fl_L_pot, ep, fl_L_right, er]
      · obtain ⟨a, b, rfl⟩ := h'.set1
        rw [app_set]
        exact Sat.start0.garb)
  have hacc : ys = List.replicate m (.bl true) := by
    have h1 := hF.length_eq
    rw [rng_len] at h1
    exact List.eq_replicate_iff.mpr ⟨h1.symm, fun y hy => (forall2_mem hF y hy).choose_spec.2⟩
  have hall : bltP .all [.lst ys] = some (.bl true) := by
    have := allB_eq (List.replicate m true)
    rw [List.map_replicate] at this
    show bltP.allB ys = _
    rw [hacc, this]; simp
  have e1 : ev (PT.D true) (callN (PT.D true) rp fw (n + 8)) (rp (callN (PT.D true) rp fw (n + 8))) LC_L_law_0 [some (.t (.scr ns)), none] [] = _ := e2
  refine ⟨s2.take 0, ?_⟩
  unfold S_L_law
  simp only [evS, ev, evs, e1, bind_ok, mapM_t1, hall, ofT_some, toFl_ok, emb_t, Bool.false_eq_true, if_false]
  exact endC_rt' rfl
end
theorem pure_law (ns : List Int) (h : ns.length ≤ 63) : ∃ s, callN (PT.D true) (PT.rp 100 8 12) 100 12 1006 [.t (.scr ns)] [] = .ok (.t (.bl true)) s := law_ok (rp := PT.rp 100 8 12) (fw := 100) (n := 3) ns
end Tw
open PySem PySem.W PySem.Calls PyProof.Rows
set_option maxRecDepth 100000 in
set_option maxHeartbeats 0 in
theorem PySem.Challenge.cw_tracewords_k87_any_five_and_its_words_holds : PySem.Challenge.rw_tracewords_k87_any_five_and_its_words.Holds := by
  w_on; o_law
  refine HandSHeadRun.head_imp (r := OpenLaw.row PySem.Challenge.rw_tracewords_k87_any_five_and_its_words) (q := view (OpenLaw.row PySem.Challenge.rw_tracewords_k87_any_five_and_its_words).prog [0, 39]) (H := Tw.hookP 5 Tw.PT) (ob := Tw.obP 5 Tw.PT) (M := 6000) (loose := Tw.looseL) (d := HandSHeadRun.topDef (OpenLaw.row PySem.Challenge.rw_tracewords_k87_any_five_and_its_words).prog 39) (kwd := []) (Tw.obP_eq 5 Tw.PT) Tw.run
    (by kernel_rfl) (by kernel_rfl) (by kernel_rfl) (by rfl) (by first | assumption | decide +kernel) (by decide +kernel) ⟨rfl, rfl, rfl, rfl, rfl, by decide +kernel⟩ ?hw ?hc
  case hw => w_witness2
  case hc => exact Tw.walkP (l := PySem.Challenge.rw_tracewords_k87_any_five_and_its_words) (n := 63) (m := 12) (n0 := 8) (dp := 12) (fw := 100) (m0 := 1006) (i0 := Tw.fi1006) (x := "_law_script") rfl (by decide) rfl ⟨rfl, by decide, by decide⟩ rfl rfl rfl rfl rfl Tw.okPT Tw.statPT Tw.pure_law
