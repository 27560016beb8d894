import PyProof.Rows.All
import Wide.All
import OpenK.AllK
import Wide.FinOn
import HandS.ForMost
import HandS.Exc
import HandS.IsInst
import HandS.Wide
import HandS.Flow
import HandS.FStr
import HandS.Gcd
import HandS.TupAny
import HandS.WideBits
import HandS.TupMul
import HandS.Style
import HandS.Property
import KE.KOpsOwn
import HandS.CallSlots
import HandS.WordsExc
import HandS.RevTup
import HandS.SlotsOwn
import HandS.OwnEq
import PyProof.NeKinds
import PyProof.InstNe
import HandS.TryOnly
import KE.GoesMore
import HandS.ExcInit
import HandS.Words
import HandS.Ends
import HandS.Dict
import HandS.SetFor
import HandS.Conv
import PyProof.ReprNest
import PyProof.ReprDict
import HandS.Defaults
import HandS.Head0
import HandS.Head1
import HandS.Head2
import HandS.HeadEnd
import HandS.HeadHook1
import HandS.HeadHook2
import HandS.Head3
import PyProof.FitsInt
import PySem.Challenge.RW_tracewords_k12_any_values_as_tables
set_option Elab.async false
set_option linter.all false
set_option maxRecDepth 100000
namespace Tw
open PySem L2
inductive T where
  | non | bl (b : Bool) | int (i : Int) | str (x : Str) | ty (n : String)
  | lst (xs : List T) | tup (xs : List T) | dct (ks : List (Key × T)) | ins (c : Nat) (fs : List (Str × T))
  -- the script
  | scr (ns : List Int)
  -- a dict whose keys are tuples
  | opq
  deriving Inhabited
structure CA where
  f : Nat → Addr
  kl : Addr → List Int → Prop
instance : CoeFun CA (fun _ => Nat → Addr) := ⟨CA.f⟩
inductive VV where
  | t (x : T) | c (k : Nat)
  deriving Inhabited
inductive Cell where
  | lst (xs : List T) | dct (ks : List (Key × T)) | ins (c : Nat) (fs : List (Str × T)) | frz (x : T) | dcT (ks : List (List Key × T))
  deriving Inhabited
abbrev Store := List Cell
abbrev Loc := List (Option VV)
def Cell.tree : Cell → T
  | .lst xs => .lst xs
  | .dct ks => .dct ks
  | .ins c fs => .ins c fs
  | .frz x => x
  | .dcT _ => .opq
def rd (s : Store) : VV → Option T
  | .t x => some x
  | .c k => (s[k]?).map Cell.tree
section
variable (cA : CA) (G : Hp)
mutual
def Rep : T → V → Prop
  | .non, v => v = .non
  | .bl b, v => v = .bl b
  | .int i, v => v = .int i
  | .str x, v => v = .str x
  | .ty n, v => v = .ty n
  | .lst xs, v => ∃ a vs, v = .ref a ∧ G a = some (.lst vs) ∧ RepL xs vs
  | .tup xs, v => ∃ a vs, v = .ref a ∧ G a = some (.tup vs) ∧ RepL xs vs
  | .dct ks, v => ∃ a kvs, v = .ref a ∧ G a = some (.dK kvs) ∧ RepD ks kvs
  | .ins c fs, v => ∃ a dx gs, v = .ref a ∧ G a = some (.ins (cA c) dx gs) ∧ RepF fs gs
  | .scr ns, v => ∃ a, v = .ref a ∧ ((∃ o, G a = some (.frz o (.lst (ns.map V.int)))) ∨ cA.kl a ns)
  | .opq, v => ∃ a kvs, v = .ref a ∧ G a = some (.dT kvs)
def RepL : List T → List V → Prop
  | [], vs => vs = []
  | x :: xs, vs => ∃ v r, vs = v :: r ∧ Rep x v ∧ RepL xs r
def RepD : List (Key × T) → List (Key × V) → Prop
  | [], vs => vs = []
  | (k, x) :: xs, vs => ∃ v r, vs = (k, v) :: r ∧ Rep x v ∧ RepD xs r
def RepF : List (Str × T) → List (Str × V) → Prop
  | [], vs => vs = []
  | (k, x) :: xs, vs => ∃ v r, vs = (k, v) :: r ∧ Rep x v ∧ RepF xs r
end
def RepDT : List (List Key × T) → List (List Key × V) → Prop
  | [], vs => vs = []
  | (k, x) :: xs, vs => ∃ v r, vs = (k, v) :: r ∧ Rep cA G x v ∧ RepDT xs r
end
abbrev Sb (G G' : Hp) : Prop := ∀ a o, G a = some o → G' a = some o
theorem Sb.rfl' {G : Hp} : Sb G G := fun _ _ h => h
theorem Sb.trans {G G1 G2 : Hp} (a : Sb G G1) (b : Sb G1 G2) : Sb G G2 := fun x o h => b x o (a x o h)
theorem Sb.new {G : Hp} {p : Addr} {o : HO} (h : G p = none) : Sb G (upd G p o) := fun a u e => by
  rw [upd_ne (ne_of_none e h)]; exact e
section
variable {cA : CA} {G G' : Hp}
mutual
theorem Rep.mono (h : Sb G G') : ∀ {t : T} {v : V}, Rep cA G t v → Rep cA G' t v
  | .non, _, r => by unfold Rep at r ⊢; exact r
  | .bl _, _, r => by unfold Rep at r ⊢; exact r
  | .int _, _, r => by unfold Rep at r ⊢; exact r
  | .str _, _, r => by unfold Rep at r ⊢; exact r
  | .ty _, _, r => by unfold Rep at r ⊢; exact r
  | .lst xs, _, r => by
    unfold Rep at r ⊢
    obtain ⟨a, vs, e, g, q⟩ := r
    exact ⟨a, vs, e, h _ _ g, RepL.mono h q⟩
  | .tup xs, _, r => by
    unfold Rep at r ⊢
    obtain ⟨a, vs, e, g, q⟩ := r
    exact ⟨a, vs, e, h _ _ g, RepL.mono h q⟩
  | .dct ks, _, r => by
    unfold Rep at r ⊢
    obtain ⟨a, vs, e, g, q⟩ := r
    exact ⟨a, vs, e, h _ _ g, RepD.mono h q⟩
  | .ins c fs, _, r => by
    unfold Rep at r ⊢
    obtain ⟨a, dx, vs, e, g, q⟩ := r
    exact ⟨a, dx, vs, e, h _ _ g, RepF.mono h q⟩
  | .scr ns, _, r => by
    unfold Rep at r ⊢
    obtain ⟨a, e, q⟩ := r
    exact ⟨a, e, q.imp (fun ⟨o, z⟩ => ⟨o, h _ _ z⟩) id⟩
  | .opq, _, r => by
    unfold Rep at r ⊢
    obtain ⟨a, vs, e, g⟩ := r
    exact ⟨a, vs, e, h _ _ g⟩
theorem RepL.mono (h : Sb G G') : ∀ {xs : List T} {vs : List V}, RepL cA G xs vs → RepL cA G' xs vs
  | [], _, r => by unfold RepL at r ⊢; exact r
  | x :: xs, _, r => by
    unfold RepL at r ⊢
    obtain ⟨v, rr, e, q, q'⟩ := r
    exact ⟨v, rr, e, Rep.mono h q, RepL.mono h q'⟩
theorem RepD.mono (h : Sb G G') : ∀ {xs : List (Key × T)} {vs : List (Key × V)}, RepD cA G xs vs → RepD cA G' xs vs
  | [], _, r => by unfold RepD at r ⊢; exact r
  | (k, x) :: xs, _, r => by
    unfold RepD at r ⊢
    obtain ⟨v, rr, e, q, q'⟩ := r
    exact ⟨v, rr, e, Rep.mono h q, RepD.mono h q'⟩
theorem RepF.mono (h : Sb G G') : ∀ {xs : List (Str × T)} {vs : List (Str × V)}, RepF cA G xs vs → RepF cA G' xs vs
  | [], _, r => by unfold RepF at r ⊢; exact r
  | (k, x) :: xs, _, r => by
    unfold RepF at r ⊢
    obtain ⟨v, rr, e, q, q'⟩ := r
    exact ⟨v, rr, e, Rep.mono h q, RepF.mono h q'⟩
end
theorem RepDT.mono (h : Sb G G') : ∀ {xs : List (List Key × T)} {vs : List (List Key × V)}, RepDT cA G xs vs → RepDT cA G' xs vs
  | [], _, r => r
  | (k, x) :: xs, _, r => by
    obtain ⟨v, rr, e, q, q'⟩ := r
    exact ⟨v, rr, e, Rep.mono h q, RepDT.mono h q'⟩
theorem RepL.length : ∀ {xs : List T} {vs : List V}, RepL cA G xs vs → vs.length = xs.length
  | [], _, r => by unfold RepL at r; subst r; rfl
  | x :: xs, _, r => by
    unfold RepL at r
    obtain ⟨v, rr, e, q, q'⟩ := r
    subst e
    simp [RepL.length q']
theorem RepL.get : ∀ {xs : List T} {vs : List V} {i : Nat} {x : T}, RepL cA G xs vs → xs[i]? = some x → ∃ v, vs[i]? = some v ∧ Rep cA G x v
  | [], _, i, x, _, e => by simp at e
  | y :: ys, vs, 0, x, r, e => by
    unfold RepL at r
    obtain ⟨v, rr, ev, q, q'⟩ := r
    simp at e; subst e; subst ev
    exact ⟨v, rfl, q⟩
  | y :: ys, vs, i + 1, x, r, e => by
    unfold RepL at r
    obtain ⟨v, rr, ev, q, q'⟩ := r
    subst ev
    obtain ⟨u, h1, h2⟩ := RepL.get (i := i) (x := x) q' (by simpa using e)
    exact ⟨u, by simpa using h1, h2⟩
theorem RepL.append : ∀ {xs ys : List T} {vs us : List V}, RepL cA G xs vs → RepL cA G ys us → RepL cA G (xs ++ ys) (vs ++ us)
  | [], _, _, _, r, s => by unfold RepL at r; subst r; exact s
  | x :: xs, ys, _, us, r, s => by
    unfold RepL at r
    obtain ⟨v, rr, e, q, q'⟩ := r
    subst e
    show RepL cA G (x :: (xs ++ ys)) (v :: (rr ++ us))
    unfold RepL
    exact ⟨v, _, rfl, q, RepL.append q' s⟩
theorem RepL.cons {x : T} {v : V} {xs : List T} {vs : List V} (r : Rep cA G x v) (q : RepL cA G xs vs) : RepL cA G (x :: xs) (v :: vs) := by
  unfold RepL; exact ⟨v, vs, rfl, r, q⟩
theorem RepL.nil : RepL cA G [] [] := by unfold RepL; rfl
theorem RepL.one {x : T} {v : V} (r : Rep cA G x v) : RepL cA G [x] [v] := .cons r .nil
theorem RepL.drop : ∀ {xs : List T} {vs : List V} (n : Nat), RepL cA G xs vs → RepL cA G (xs.drop n) (vs.drop n)
  | xs, vs, 0, r => by simpa using r
  | [], _, n + 1, r => by unfold RepL at r; subst r; exact .nil
  | x :: xs, _, n + 1, r => by
    unfold RepL at r
    obtain ⟨v, rr, e, q, q'⟩ := r
    subst e
    exact RepL.drop n q'
theorem RepL.take : ∀ {xs : List T} {vs : List V} (n : Nat), RepL cA G xs vs → RepL cA G (xs.take n) (vs.take n)
  | _, _, 0, r => by simpa using RepL.nil
  | [], _, n + 1, r => by unfold RepL at r; subst r; exact .nil
  | x :: xs, _, n + 1, r => by
    unfold RepL at r
    obtain ⟨v, rr, e, q, q'⟩ := r
    subst e
    exact .cons q (RepL.take n q')
theorem RepL.set : ∀ {xs : List T} {vs : List V} {x : T} {v : V} (n : Nat), RepL cA G xs vs → Rep cA G x v → RepL cA G (xs.set n x) (vs.set n v)
  | [], _, _, _, _, r, _ => by unfold RepL at r; subst r; exact .nil
  | y :: xs, _, x, v, 0, r, q0 => by
    unfold RepL at r
    obtain ⟨u, rr, e, q, q'⟩ := r
    subst e
    exact .cons q0 q'
  | y :: xs, _, x, v, n + 1, r, q0 => by
    unfold RepL at r
    obtain ⟨u, rr, e, q, q'⟩ := r
    subst e
    exact .cons q (RepL.set n q' q0)
theorem RepF.lookup : ∀ {fs : List (Str × T)} {gs : List (Str × V)} {f : Str} {x : T}, RepF cA G fs gs → fs.lookup f = some x → ∃ v, gs.lookup f = some v ∧ Rep cA G x v
  | [], _, f, x, _, e => by simp at e
  | (k, y) :: ys, gs, f, x, r, e => by
    unfold RepF at r
    obtain ⟨v, rr, ev, q, q'⟩ := r
    subst ev
    rw [List.lookup_cons] at e ⊢
    cases hk : (f == k) with
    | true => rw [hk] at e; simp at e; subst e; exact ⟨v, rfl, q⟩
    | false => rw [hk] at e; exact RepF.lookup q' e
theorem RepF.length : ∀ {xs : List (Str × T)} {vs : List (Str × V)}, RepF cA G xs vs → vs.length = xs.length
  | [], _, r => by unfold RepF at r; subst r; rfl
  | (k, x) :: xs, _, r => by
    unfold RepF at r
    obtain ⟨v, rr, e, q, q'⟩ := r
    subst e
    simp [RepF.length q']
end
def CellOk (cA : CA) (G H : Hp) (a : Addr) : Cell → Prop
  | .lst xs => G a = none ∧ ∃ vs, H a = some (.lst vs) ∧ RepL cA G xs vs
  | .dct ks => G a = none ∧ ∃ kvs, H a = some (.dK kvs) ∧ RepD cA G ks kvs
  | .ins c fs => G a = none ∧ ∃ dx gs, H a = some (.ins (cA c) dx gs) ∧ RepF cA G fs gs
  | .frz x => Rep cA G x (.ref a) ∧ ∃ o, G a = some o
  | .dcT ks => G a = none ∧ ∃ kvs, H a = some (.dT kvs) ∧ RepDT cA G ks kvs
structure Rl (cA : CA) (al : List Addr) (G : Hp) (s : Store) (H : Hp) : Prop where
  sub : Sb G H
  len : al.length = s.length
  nd : al.Nodup
  cell : ∀ (k : Nat) a c, al[k]? = some a → s[k]? = some c → CellOk cA G H a c
def RepV (cA : CA) (al : List Addr) (G : Hp) : VV → V → Prop
  | .t x, v => Rep cA G x v
  | .c k, v => ∃ a, al[k]? = some a ∧ v = .ref a
structure RepS (cA : CA) (al : List Addr) (G : Hp) (loc : Loc) (st : L2.St) : Prop where
  len : loc.length = st.length
  get : ∀ (i : Nat) x, loc[i]? = some (some x) → ∃ v, st[i]? = some (some v) ∧ RepV cA al G x v
structure Xt (al : List Addr) (G : Hp) (al' : List Addr) (G' : Hp) : Prop where
  pre : ∃ l, al' = al ++ l
  sub : Sb G G'
theorem Xt.rfl' {al : List Addr} {G : Hp} : Xt al G al G := ⟨⟨[], by simp⟩, Sb.rfl'⟩
theorem Xt.trans {al al1 al2 : List Addr} {G G1 G2 : Hp} (a : Xt al G al1 G1) (b : Xt al1 G1 al2 G2) : Xt al G al2 G2 := by
  obtain ⟨⟨l, e⟩, s⟩ := a
  obtain ⟨⟨l', e'⟩, s'⟩ := b
  exact ⟨⟨l ++ l', by rw [e', e, List.append_assoc]⟩, s.trans s'⟩
theorem Xt.get {al al' : List Addr} {G G' : Hp} (x : Xt al G al' G') {k : Nat} {a : Addr} (h : al[k]? = some a) : al'[k]? = some a := by
  obtain ⟨⟨l, e⟩, _⟩ := x
  subst e
  have := (List.getElem?_eq_some_iff.mp h).1
  rw [List.getElem?_append_left this]; exact h
section
variable {cA : CA} {al al' : List Addr} {G G' H : Hp} {s : Store}
theorem RepV.mono (x : Xt al G al' G') {y : VV} {v : V} (r : RepV cA al G y v) : RepV cA al' G' y v := by
  cases y with
  | t y => exact Rep.mono x.sub r
  | c k =>
    obtain ⟨a, h, e⟩ := r
    exact ⟨a, x.get h, e⟩
theorem RepS.mono (x : Xt al G al' G') {loc : Loc} {st : L2.St} (r : RepS cA al G loc st) : RepS cA al' G' loc st :=
  ⟨r.len, fun i y e => let ⟨v, h, q⟩ := r.get i y e; ⟨v, h, q.mono x⟩⟩
theorem Rl.rd (r : Rl cA al G s H) {y : VV} {v : V} {x : T} (q : RepV cA al G y v) (e : rd s y = some x) :
    ∃ G1, Sb G G1 ∧ Sb G1 H ∧ Rep cA G1 x v := by
  cases y with
  | t y =>
    simp [Tw.rd] at e; subst e
    exact ⟨G, Sb.rfl', r.sub, q⟩
  | c k =>
    obtain ⟨a, ha, ev⟩ := q
    subst ev
    simp only [Tw.rd, Option.map_eq_some_iff] at e
    obtain ⟨c, hc, ec⟩ := e
    have ok := r.cell k a c ha hc
    cases c with
    | lst xs =>
      simp only [Cell.tree] at ec; subst ec
      obtain ⟨gn, vs, hh, rr⟩ := ok
      refine ⟨upd G a (.lst vs), Sb.new gn, fun b o e => ?_, ?_⟩
      · by_cases hb : b = a
        · subst hb; rw [upd_same] at e; cases e; exact hh
        · rw [upd_ne hb] at e; exact r.sub b o e
      · unfold Rep; exact ⟨a, vs, rfl, upd_same, RepL.mono (Sb.new gn) rr⟩
    | dct xs =>
      simp only [Cell.tree] at ec; subst ec
      obtain ⟨gn, vs, hh, rr⟩ := ok
      refine ⟨upd G a (.dK vs), Sb.new gn, fun b o e => ?_, ?_⟩
      · by_cases hb : b = a
        · subst hb; rw [upd_same] at e; cases e; exact hh
        · rw [upd_ne hb] at e; exact r.sub b o e
      · unfold Rep; exact ⟨a, vs, rfl, upd_same, RepD.mono (Sb.new gn) rr⟩
    | dcT xs =>
      simp only [Cell.tree] at ec; subst ec
      obtain ⟨gn, vs, hh, rr⟩ := ok
      refine ⟨upd G a (.dT vs), Sb.new gn, fun b o e => ?_, ?_⟩
      · by_cases hb : b = a
        · subst hb; rw [upd_same] at e; cases e; exact hh
        · rw [upd_ne hb] at e; exact r.sub b o e
      · unfold Rep; exact ⟨a, vs, rfl, upd_same⟩
    | ins cc xs =>
      simp only [Cell.tree] at ec; subst ec
      obtain ⟨gn, dx, vs, hh, rr⟩ := ok
      refine ⟨upd G a (.ins (cA cc) dx vs), Sb.new gn, fun b o e => ?_, ?_⟩
      · by_cases hb : b = a
        · subst hb; rw [upd_same] at e; cases e; exact hh
        · rw [upd_ne hb] at e; exact r.sub b o e
      · unfold Rep; exact ⟨a, dx, vs, rfl, upd_same, RepF.mono (Sb.new gn) rr⟩
    | frz x' =>
      simp only [Cell.tree] at ec; subst ec
      exact ⟨G, Sb.rfl', r.sub, ok.1⟩
theorem Rl.newT (r : Rl cA al G s H) {p : Addr} {o : HO} (h : H p = none) : Rl cA al (upd G p o) s (upd H p o) := by
  have gn : G p = none := by
    cases e : G p with
    | none => rfl
    | some u => rw [r.sub p u e] at h; cases h
  refine ⟨fun a u e => ?_, r.len, r.nd, fun k a c ha hc => ?_⟩
  · by_cases hb : a = p
    · subst hb; rw [upd_same] at e ⊢; exact e
    · rw [upd_ne hb] at e ⊢; exact r.sub a u e
  · have ok := r.cell k a c ha hc
    cases c with
    | lst xs =>
      obtain ⟨g, vs, hh, rr⟩ := ok
      have hap : a ≠ p := ne_of_none hh h
      exact ⟨by rw [upd_ne hap]; exact g, vs, by rw [upd_ne hap]; exact hh, RepL.mono (Sb.new gn) rr⟩
    | dct xs =>
      obtain ⟨g, vs, hh, rr⟩ := ok
      have hap : a ≠ p := ne_of_none hh h
      exact ⟨by rw [upd_ne hap]; exact g, vs, by rw [upd_ne hap]; exact hh, RepD.mono (Sb.new gn) rr⟩
    | ins cc xs =>
      obtain ⟨g, dx, vs, hh, rr⟩ := ok
      have hap : a ≠ p := ne_of_none hh h
      exact ⟨by rw [upd_ne hap]; exact g, dx, vs, by rw [upd_ne hap]; exact hh, RepF.mono (Sb.new gn) rr⟩
    | dcT xs =>
      obtain ⟨g, vs, hh, rr⟩ := ok
      have hap : a ≠ p := ne_of_none hh h
      exact ⟨by rw [upd_ne hap]; exact g, vs, by rw [upd_ne hap]; exact hh, RepDT.mono (Sb.new gn) rr⟩
    | frz x => exact ⟨Rep.mono (Sb.new gn) ok.1, ok.2.imp fun o z => Sb.new gn _ _ z⟩
theorem Rl.newX (r : Rl cA al G s H) {p : Addr} {o : HO} (h : H p = none) : Rl cA al G s (upd H p o) := by
  refine ⟨fun a u e => ?_, r.len, r.nd, fun k a c ha hc => ?_⟩
  · have e' := r.sub a u e
    rw [upd_ne (ne_of_none e' h)]; exact e'
  · have ok := r.cell k a c ha hc
    cases c with
    | lst xs =>
      obtain ⟨g, vs, hh, rr⟩ := ok
      exact ⟨g, vs, by rw [upd_ne (ne_of_none hh h)]; exact hh, rr⟩
    | dct xs =>
      obtain ⟨g, vs, hh, rr⟩ := ok
      exact ⟨g, vs, by rw [upd_ne (ne_of_none hh h)]; exact hh, rr⟩
    | ins cc xs =>
      obtain ⟨g, dx, vs, hh, rr⟩ := ok
      exact ⟨g, dx, vs, by rw [upd_ne (ne_of_none hh h)]; exact hh, rr⟩
    | dcT xs =>
      obtain ⟨g, vs, hh, rr⟩ := ok
      exact ⟨g, vs, by rw [upd_ne (ne_of_none hh h)]; exact hh, rr⟩
    | frz x => exact ok
theorem Rl.gnone (r : Rl cA al G s H) {p : Addr} (h : H p = none) : G p = none := by
  cases e : G p with
  | none => rfl
  | some u => rw [r.sub p u e] at h; cases h
theorem Rl.inH (r : Rl cA al G s H) {k : Nat} {a : Addr} (h : al[k]? = some a) : ∃ o, H a = some o := by
  have hk : k < s.length := by rw [← r.len]; exact (List.getElem?_eq_some_iff.mp h).1
  have ok := r.cell k a (s[k]) h (List.getElem?_eq_getElem hk)
  cases e : s[k] with
  | lst xs => rw [e] at ok; obtain ⟨_, _, hh, _⟩ := ok; exact ⟨_, hh⟩
  | dct xs => rw [e] at ok; obtain ⟨_, _, hh, _⟩ := ok; exact ⟨_, hh⟩
  | dcT xs => rw [e] at ok; obtain ⟨_, _, hh, _⟩ := ok; exact ⟨_, hh⟩
  | ins cc xs => rw [e] at ok; obtain ⟨_, _, _, hh, _⟩ := ok; exact ⟨_, hh⟩
  | frz x =>
    rw [e] at ok
    obtain ⟨_, o, z⟩ := ok
    exact ⟨o, r.sub _ _ z⟩
theorem Rl.newC (r : Rl cA al G s H) {p : Addr} {o : HO} {c : Cell} (h : H p = none) (ok : CellOk cA G (upd H p o) p c) : Rl cA (al ++ [p]) G (s ++ [c]) (upd H p o) := by
  have r' := r.newX (o := o) h
  refine ⟨r'.sub, by simp [r.len], ?_, fun k a c' ha hc => ?_⟩
  · rw [List.nodup_append]
    refine ⟨r.nd, by simp, fun a ha b hb => ?_⟩
    simp at hb; subst hb
    obtain ⟨k, hk, e⟩ := List.mem_iff_getElem.mp ha
    obtain ⟨u, hu⟩ := r.inH (k := k) (a := a) (by rw [List.getElem?_eq_getElem hk, e])
    exact ne_of_none hu h
  · by_cases hk : k < al.length
    · rw [List.getElem?_append_left hk] at ha
      rw [List.getElem?_append_left (by rw [← r.len]; exact hk)] at hc
      exact r'.cell k a c' ha hc
    · have hk' : k = al.length := by
        have := (List.getElem?_eq_some_iff.mp ha).1
        simp at this; omega
      subst hk'
      simp at ha
      rw [r.len] at hc
      simp at hc
      subst ha; subst hc
      exact ok
theorem nodup_ne {al : List Addr} (nd : al.Nodup) {i j : Nat} {a b : Addr} (ha : al[i]? = some a) (hb : al[j]? = some b) (h : i ≠ j) : a ≠ b := by
  intro e; subst e
  exact h (List.Nodup.eq_of_getElem? nd ha hb)
where
  List.Nodup.eq_of_getElem? {al : List Addr} (nd : al.Nodup) {i j : Nat} {a : Addr} (ha : al[i]? = some a) (hb : al[j]? = some a) : i = j := by
    obtain ⟨h1, e1⟩ := List.getElem?_eq_some_iff.mp ha
    obtain ⟨h2, e2⟩ := List.getElem?_eq_some_iff.mp hb
    exact (List.getElem_inj nd).mp (e1.trans e2.symm)
end
end Tw
namespace Tw
open PySem L2
inductive CR where
  | ty (n : String) | cl (c : Nat)
  deriving DecidableEq, Inhabited
inductive Blt where
  | len | abs | max | min | int | bool | str | repr | divmod | sum | any | all | list | tuple | gcd | lcm
  deriving DecidableEq, Inhabited
inductive E where
  | var (i : Nat) | int (i : Int) | str (x : Str) | bl (b : Bool) | non
  | gint (x : Str) (i : Int)
  | bin (o : Operator) (a b : E)
  | neg (a : E) | not (a : E)
  | cmp (o : CmpOp) (a b : E) | cmp2 (o p : CmpOp) (a b c : E)
  | and (a b : E) | or (a b : E) | ite (c a b : E)
  | nil | cons (a as : E)
  | lst (m : Bool) (as : E) | tup (as : E)
  | ix (a i : E) | sl (a lo hi : E) | omit | rev (a : E)
  | att (a : E) (f : Str)
  | prop (a : E) (f : Str)
  | isi (a : E) (cs : List CR)
  | cal (f : Nat) (as : E)
  | mk (c : Nat) (as : E)
  | mth (c : Nat) (m : Str) (a as : E)
  | blt (b : Blt) (as : E)
  | lc (m : Bool) (own : List Nat) (g : E) (it : E) (cond : E) (e : E)
  | iseq (a : E) | irng1 (a : E) | irng2 (a b : E) | izip (a b : E) | ienu (a : E)
  | fst (as : E) | fs1 (a : E) | fmt (a : E)
  | junk
  | dct (ks : List Key) (vs : E)
  | calk (f : Nat) (as : E) (pm : List Nat)
  -- a list that is laid anew, as a cell; frozen
  | own (a : E) | fz (a : E)
  -- o.pop(0), o.pop()
  | pop0 (i : Nat) | popl (i : Nat) | popi (i : Nat) (e : E)
  -- list(range(a)); {(): v}; d[e], d a name
  | lrg (m : Bool) (a : E) | dnew (v : E) | dget (i : Nat) (e : E)
  -- targets
  | gn (i : Nat) | gt (gs : E)
  deriving Inhabited
def E.isOmit : E → Bool
  | .omit => true
  | _ => false
inductive S where
  | skip | seq (a b : S)
  | asg (g : E) (e : E)
  | par (gs : E) (es : E)
  | ret (m : Bool) (e : E) | retn
  | ite (c : E) (a b : S)
  | for (g : E) (it : E) (b : S)
  | whl (c : E) (b : S)
  | exp (e : E)
  | satt (o : E) (f : Str) (e : E)
  | app (o : Nat) (e : E)
  | ext (o : Nat) (e : E)
  | rem (o : Nat) (e : E)
  | dput (o : Nat) (k e : E)
  | raise (c : Nat) (as : E)
  | junk
  | try1 (b : S) (c : Nat) (h : S)
  | brk | cont
  deriving Inhabited
structure Exc where
  c : Nat
  fs : List (Str × T)
  deriving Inhabited
inductive Out (α : Type) where
  | ok (a : α) (s : Store) | ex (e : Exc) (s : Store) | bad
def Out.bind {α β : Type} (x : Out α) (f : α → Store → Out β) : Out β :=
  match x with
  | .ok a s => f a s
  | .ex e s => .ex e s
  | .bad => .bad
def noex {α : Type} : Out α → Out α
  | .ex _ _ => .bad
  | x => x
def ofO {α : Type} (s : Store) : Option α → Out α
  | some a => .ok a s
  | none => .bad
def ofT (s : Store) : Option T → Out VV
  | some a => .ok (.t a) s
  | none => .bad
def emb (s : Store) : VV → Option (T × Store)
  | .t x => some (x, s)
  | .c k => match s[k]? with
    | some (.frz x) => some (x, s)
    | some c => some (c.tree, s.set k (.frz c.tree))
    | none => none
def embL (s : Store) : List VV → Option (List T × Store)
  | [] => some ([], s)
  | y :: ys => match emb s y with
    | some (x, s1) => match embL s1 ys with
      | some (xs, s2) => some (x :: xs, s2)
      | none => none
    | none => none
def embLM (s : Store) (y : List VV) : Out (List T) :=
  match embL s y with
  | some (x, s') => .ok x s'
  | none => .bad
def tru : T → Option Bool
  | .non => some false
  | .bl b => some b
  | .int i => some (i != 0)
  | .str x => if x.length ≤ sizeLine then some ((x.length : Int) != 0) else none
  | .lst xs => some (!xs.isEmpty)
  | .tup xs => some (!xs.isEmpty)
  | .dct xs => some (!xs.isEmpty)
  | _ => none
def mulOk (i j : Int) : Bool := decide (i.natAbs.log2 < 60) || decide (j.natAbs.log2 < 60) || decide (i.natAbs.log2 + j.natAbs.log2 < 100000000)
def binP : Operator → T → T → Option T
  | .Add, .int i, .int j => some (.int (i + j))
  | .Add, .str x, .str y => if x.length + y.length ≤ sizeLine then some (.str (x ++ y)) else none
  | .Add, .lst xs, .lst ys => if xs.length + ys.length ≤ sizeLine then some (.lst (xs ++ ys)) else none
  | .Add, .tup xs, .tup ys => if xs.length + ys.length ≤ sizeLine then some (.tup (xs ++ ys)) else none
  | .Sub, .int i, .int j => some (.int (i - j))
  | .Mult, .int i, .int j => if mulOk i j then some (.int (i * j)) else none
  | .Mult, .lst xs, .int k => if decide (-(2 ^ 63) ≤ k) && decide (k < 2 ^ 63) && decide (xs.length * k.toNat ≤ sizeLine) then some (.lst (List.replicate k.toNat xs).flatten) else none
  | .Mult, .tup xs, .int k => if !xs.isEmpty && decide (2 ≤ k) && decide (k ≤ 1000) && decide (xs.length ≤ 1000) then some (.tup (List.replicate k.toNat xs).flatten) else none
  | .FloorDiv, .int i, .int j => if decide (j ≠ 0) && decide (j.natAbs.log2 < 9000) then some (.int (i.fdiv j)) else none
  | .Mod, .int i, .int j => if decide (j ≠ 0) then some (.int (i.fmod j)) else none
  | .Pow, .int i, .int j => if decide (0 ≤ j) && decide (j ≤ 1000000) && decide (i.natAbs < 2 ^ 64) then some (.int (i ^ j.toNat)) else none
  | _, _, _ => none
def eqFlat : T → T → Option Bool
  | .non, .non => some true
  | .bl a, .bl b => some (decide (a = b))
  | .int a, .int b => some (decide (a = b))
  | .str a, .str b => some (decide (a = b))
  | .non, .int _ => some false
  | .int _, .non => some false
  | .non, .bl _ => some false
  | .bl _, .non => some false
  | .non, .str _ => some false
  | .str _, .non => some false
  | .int _, .str _ => some false
  | .str _, .int _ => some false
  | .bl _, .str _ => some false
  | .str _, .bl _ => some false
  | _, _ => none
def isSc : T → Bool
  | .non => true | .bl _ => true | .int _ => true | .str _ => true
  | _ => false
def inP (neg : Bool) (x : T) : List T → Option Bool
  | [] => some neg
  | y :: ys => match eqFlat y x, inP neg x ys with
    | some b, some r => some (if b then !neg else r)
    | _, _ => none
def cmpP : CmpOp → T → T → Option Bool
  | .Lt, .int i, .int j => some (decide (i < j))
  | .LtE, .int i, .int j => some (decide (i ≤ j))
  | .Gt, .int i, .int j => some (decide (j < i))
  | .GtE, .int i, .int j => some (decide (j ≤ i))
  | .Eq, x, y => eqFlat x y
  | .NotEq, x, y => (eqFlat x y).map (!·)
  | .Is, .bl a, .bl b => some (decide (a = b))
  | .IsNot, .bl a, .bl b => some (!decide (a = b))
  | .Is, x, .non => some (match x with | .non => true | _ => false)
  | .IsNot, x, .non => some (match x with | .non => false | _ => true)
  | .In, x, .lst ys => if isSc x && ys.all isSc then inP false x ys else none
  | .NotIn, x, .lst ys => if isSc x && ys.all isSc then inP true x ys else none
  | .In, x, .tup ys => if isSc x && ys.all isSc then inP false x ys else none
  | .NotIn, x, .tup ys => if isSc x && ys.all isSc then inP true x ys else none
  | _, _, _ => none
def itemP : T → T → Option T
  | .lst xs, .int i => atI xs i
  | .tup xs, .int i => atI xs i
  | .scr ns, .int i => (atI ns i).map T.int
  | _, _ => none
def cutT (xs : List T) (lo hi : Option Int) : List T := (xs.drop (HT.sIx xs.length 0 lo)).take (HT.sIx xs.length xs.length hi - HT.sIx xs.length 0 lo)
def isiP (sub : Nat → Nat → Bool) : CR → T → Bool
  | .ty n, .non => n == "NoneType" || n == "object"
  | .ty n, .bl _ => n == "bool" || n == "int" || n == "object"
  | .ty n, .int _ => n == "int" || n == "object"
  | .ty n, .str _ => n == "str" || n == "object"
  | .ty n, .lst _ => n == "list" || n == "object"
  | .ty n, .tup _ => n == "tuple" || n == "object"
  | .ty n, .dct _ => n == "dict" || n == "object"
  | .cl c, .ins d _ => sub d c
  | _, _ => false
def isiOk (kit : CR → T → Bool) (cls : Nat → Bool) (cs : List CR) (t : T) : Bool := (cs.all fun c => kit c t) && (match t with | .ty _ => false | .scr _ => false | .ins c _ => cls c | _ => true)
structure FD where
  np : Nat
  nl : Nat
  body : S
structure Defs where
  fn : Nat → Option FD
  /-- the methods and properties of a class -/
  om : Nat → Str → Option Nat
  /-- the attributes that instances of a class have -/
  fld : Nat → Str → Bool
  sub : Nat → Nat → Bool
  /-- classes whose instances are made by an own __init__ (its number) -/
  ini : Nat → Option Nat
  /-- own exception classes: the one field that __init__ stores, none for none -/
  exf : Nat → Option (Option Str)
  rep : Nat → Option Nat
  pr : Nat → Str → Option Nat
  /-- the defaults of the last parameters -/
  dfl : Nat → List T
  /-- what isinstance is served for -/
  kit : CR → T → Bool
  cls : Nat → Bool
  /-- classes whose own operators are served -/
  own : Nat → Bool
abbrev CF := Nat → List VV → Store → Out VV
def wipeL (loc : Loc) : List Nat → Loc
  | [] => loc
  | v :: vs => (wipeL loc vs).set v none
inductive Fl where
  | nx (loc : Loc) (s : Store) | rt (y : VV) (s : Store) | bk (loc : Loc) (s : Store) | ct (loc : Loc) (s : Store) | ex (e : Exc) (loc : Loc) (s : Store) | bad
  deriving Inhabited
def Fl.seq (x : Fl) (f : Loc → Store → Fl) : Fl :=
  match x with
  | .nx loc s => f loc s
  | x => x
def Out.toFl {α : Type} (x : Out α) (loc : Loc) (f : α → Store → Fl) : Fl :=
  match x with
  | .ok a s => f a s
  | .ex e s => .ex e loc s
  | .bad => .bad
inductive Src where
  | lst (y : VV) | tup (xs : List T) | rng (lo hi : Int) | zip (y z : VV) | enu (y : VV) | enT (xs : List T)
  deriving Inhabited
def lstAt (s : Store) (y : VV) : Option (List T) := match rd s y with
  | some (.lst xs) => some xs
  | _ => none
def Src.at (s : Store) : Src → Nat → Option (Option T)
  | .lst y, i => (lstAt s y).map fun xs => xs[i]?
  | .tup xs, i => some xs[i]?
  | .rng lo hi, i => some (if i < (hi - lo).toNat then some (.int (lo + i)) else none)
  | .zip y z, i => match lstAt s y, lstAt s z with
    | some xs, some ys => some (match xs[i]?, ys[i]? with | some a, some b => some (.tup [a, b]) | _, _ => none)
    | _, _ => none
  | .enu y, i => (lstAt s y).map fun xs => (xs[i]?).map fun a => .tup [.int i, a]
  | .enT xs, i => some ((xs[i]?).map fun a => .tup [.int i, a])
def Src.most (s : Store) : Src → Nat
  | .lst y => ((lstAt s y).getD []).length + 1
  | .tup xs => xs.length + 1
  | .rng lo hi => (hi - lo).toNat + 1
  | .zip y _ => ((lstAt s y).getD []).length + 1
  | .enu y => ((lstAt s y).getD []).length + 1
  | .enT xs => xs.length + 1
def items : T → Option (List T)
  | .tup xs => some xs
  | .lst xs => some xs
  | _ => none
def bindGs : E → List T → Loc → Option Loc
  | .nil, [], loc => some loc
  | .cons (.gn i) gs, x :: xs, loc => if i < loc.length then bindGs gs xs (loc.set i (some (.t x))) else none
  | .cons (.gt hs) gs, x :: xs, loc => match items x with
    | some zs => (bindGs hs zs loc).bind fun l => bindGs gs xs l
    | none => none
  | _, _, _ => none
def bindG : E → T → Loc → Option Loc
  | .gn i, x, loc => if i < loc.length then some (loc.set i (some (.t x))) else none
  | .gt gs, x, loc => match items x with
    | some xs => bindGs gs xs loc
    | none => none
  | _, _, _ => none
def gslots : E → List Nat
  | .gn i => [i]
  | .gt gs => gslots gs
  | .cons g gs => gslots g ++ gslots gs
  | _ => []
def loopF (src : Src) (g : E) (body : Loc → Store → Fl) : Nat → Nat → Loc → Store → Fl
  | 0, _, _, _ => .bad
  | n + 1, i, loc, s => match src.at s i with
    | none => .bad
    | some none => .nx loc s
    | some (some x) => match bindG g x loc with
      | none => .bad
      | some l1 => match body l1 s with
        | .nx l2 s2 => loopF src g body n (i + 1) l2 s2
        | .ct l2 s2 => loopF src g body n (i + 1) l2 s2
        | .bk l2 s2 => .nx l2 s2
        | r => r
def loopW (cond : Loc → Store → Out Bool) (body : Loc → Store → Fl) : Nat → Loc → Store → Fl
  | 0, _, _ => .bad
  | n + 1, loc, s => match cond loc s with
    | .bad => .bad
    | .ex e s1 => .ex e loc s1
    | .ok false s1 => .nx loc s1
    | .ok true s1 => match body loc s1 with
      | .nx l2 s2 => loopW cond body n l2 s2
      | .ct l2 s2 => loopW cond body n l2 s2
      | .bk l2 s2 => .nx l2 s2
      | r => r
def loopC (src : Src) (g : E) (cond : Loc → Store → Out Bool) (elt : Loc → Store → Out VV) (lw : Loc) (n0 : Nat) : Nat → Nat → Store → Out Unit
  | 0, _, _ => .bad
  | n + 1, i, s => match src.at s i with
    | none => .bad
    | some none => .ok () s
    | some (some x) => match bindG g x lw with
      | none => .bad
      | some l1 => match cond l1 s with
        | .ok false s1 => loopC src g cond elt lw n0 n (i + 1) s1
        | .ok true s1 => match elt l1 s1 with
          | .ok y s2 => match emb s2 y with
            | some (t, s3) => match s3[n0]? with
              | some (.lst acc) => if acc.length < sizeLine then loopC src g cond elt lw n0 n (i + 1) (s3.set n0 (.lst (acc ++ [t]))) else .bad
              | _ => .bad
            | none => .bad
          | _ => .bad
        | _ => .bad
def lcEnd (m : Bool) (n : Nat) (s : Store) : Out VV :=
  if m then .ok (.c n) (s.take (n + 1)) else match s[n]? with
    | some c => .ok (.t c.tree) (s.take n)
    | none => .bad
def finT (n k : Nat) (s : Store) : Out VV := match s[k]? with
  | some c => .ok (.t c.tree) (s.take n)
  | none => .bad
def fin (n : Nat) (y : VV) (s : Store) : Out VV :=
  match y with
  | .t x => .ok (.t x) (s.take n)
  | .c k => if k < n then .ok (.c k) (s.take n) else match s[k]? with
    | some (.frz x) => .ok (.t x) (s.take n)
    | some c => .ok (.c n) (s.take n ++ [c])
    | none => .bad
def mkEnd (n : Nat) (y : VV) (s : Store) : Out VV := match y with
  | .t .non => finT n n s
  | _ => .bad
def putT (f : Str) (x : T) : List (Str × T) → List (Str × T)
  | [] => [(f, x)]
  | (g, y) :: r => if g = f then (g, x) :: r else (g, y) :: putT f x r
def bltP : Blt → List T → Option T
  | .len, [.lst xs] => some (.int xs.length)
  | .len, [.tup xs] => some (.int xs.length)
  | .len, [.scr ns] => some (.int ns.length)
  | .len, [.dct xs] => some (.int xs.length)
  | .len, [.str x] => if x.length ≤ sizeLine then some (.int x.length) else none
  | .abs, [.int i] => some (.int (if i < 0 then -i else i))
  | .max, [.int i, .int j] => some (.int (if j > i then j else i))
  | .min, [.int i, .int j] => some (.int (if j < i then j else i))
  | .int, [.int i] => some (.int i)
  | .int, [.bl b] => some (.int (if b then 1 else 0))
  | .bool, [.int i] => some (.bl (i != 0))
  | .bool, [.bl b] => some (.bl b)
  | .str, [.int i] => if i.natAbs.log2 < 1920 then some (.str (toString i)) else none
  | .divmod, [.int i, .int j] => if decide (0 < j) && decide (j < 1073741824) then some (.tup [.int (i / j), .int (i % j)]) else none
  | .gcd, [.int i, .int j] => some (.int ((Nat.gcd i.natAbs j.natAbs : Nat) : Int))
  | .lcm, [.int i, .int j] => if i.natAbs.log2 < 9000 ∧ j.natAbs.log2 < 9000 then some (.int ((Nat.lcm i.natAbs j.natAbs : Nat) : Int)) else none
  | .tuple, [.lst xs] => some (.tup xs)
  | .tuple, [.tup xs] => some (.tup xs)
  | .list, [.lst xs] => some (.lst xs)
  | .list, [.tup xs] => some (.lst xs)
  | .all, [.lst xs] => allB xs
  | .any, [.lst xs] => anyB xs
  | .sum, [.lst xs] => sumI xs
  | _, _ => none
where
  allB : List T → Option T
    | [] => some (.bl true)
    | .bl b :: r => (allB r).bind fun x => match x with | .bl c => some (.bl (b && c)) | _ => none
    | _ :: _ => none
  anyB : List T → Option T
    | [] => some (.bl false)
    | .bl b :: r => (anyB r).bind fun x => match x with | .bl c => some (.bl (b || c)) | _ => none
    | .int i :: r => (anyB r).bind fun x => match x with | .bl c => some (.bl ((i != 0) || c)) | _ => none
    | _ :: _ => none
  sumI : List T → Option T
    | [] => some (.int 0)
    | .int b :: r => (sumI r).bind fun x => match x with | .int c => some (.int (b + c)) | _ => none
    | _ :: _ => none
section
variable (D : Defs) (cf : CF) (rp : Store → T → Out Str) (fw : Nat)
def optI (s : Store) (y : VV) : Out (Option Int) := match rd s y with
  | some (.int i) => .ok (some i) s
  | _ => .bad
def slV (y : VV) (i j : Option Int) (s : Store) : Out VV := match rd s y with
  | some (.lst xs) => .ok (.t (.lst (cutT xs i j))) s
  | some (.tup xs) => .ok (.t (.tup (cutT xs i j))) s
  | some (.scr ns) => .ok (.t (.lst (cutT (ns.map T.int) i j))) s
  | _ => .bad
def fill (f : Nat) (ys : List VV) : List VV := match D.fn f with
  | some d => if ys.length < d.np ∧ d.np ≤ ys.length + (D.dfl f).length then ys ++ ((D.dfl f).drop ((D.dfl f).length - (d.np - ys.length))).map VV.t else ys
  | none => ys
def opNm : Operator → Str
  | .Add => "__add__" | .Sub => "__sub__" | .Mult => "__mul__" | _ => Str.empty
def opRNm : Operator → Str
  | .Add => "__radd__" | .Sub => "__rsub__" | .Mult => "__rmul__" | _ => Str.empty
def omN (c : Nat) (m : Str) (n : Nat) : Option Nat := if D.own c then match D.om c m with
  | some g => match D.fn g with
    | some d => if d.np = n then some g else none
    | none => none
  | none => none else none
def ownBin (o : Operator) (a b : T) (y z : VV) (s : Store) : Out VV :=
  match a, b with
  | .ins c _, .ins c' _ => if c = c' then match omN D c (opNm o) 2 with
    | some g => cf g [y, z] s
    | none => .bad else .bad
  | .ins c _, .int _ => match omN D c (opNm o) 2 with
    | some g => cf g [y, z] s
    | none => .bad
  | .int _, .ins c _ => match omN D c (opRNm o) 2 with
    | some g => cf g [z, y] s
    | none => .bad
  | _, _ => .bad
def binV (o : Operator) (y z : VV) (s : Store) : Out VV :=
  match rd s y, rd s z with
  | some a, some b => match binP o a b with
    | some t => .ok (.t t) s
    | none => ownBin D cf o a b y z s
  | _, _ => .bad
def prN (c : Nat) (f : Str) : Option Nat := match D.pr c f with
  | some g => match D.fn g with
    | some d => if d.np = 1 then some g else none
    | none => none
  | none => none
def propV (f : Str) (y : VV) (s : Store) : Out VV := match rd s y with
  | some (.ins c _) => match prN D c f with
    | some g => noex (cf g [y] s)
    | none => .bad
  | _ => .bad
def mthOk (c : Nat) (m : Str) (y : VV) (s : Store) : Option Nat := match rd s y, D.om c m with
  | some (.ins c' fs), some g => if c' = c ∧ fs.lookup m = none then some g else none
  | _, _ => none
def attV (f : Str) (y : VV) (s : Store) : Out VV := match rd s y with
  | some (.ins c fs) => if D.fld c f then ofT s (fs.lookup f) else .bad
  | _ => .bad
def negV (y : VV) (s : Store) : Out VV := match rd s y with
  | some (.int i) => .ok (.t (.int (-i))) s
  | some (.ins c _) => match omN D c "__neg__" 1 with
    | some g => cf g [y] s
    | none => .bad
  | _ => .bad
mutual
/-- no one value stands for both -/
def dif : T → T → Bool
  | .lst xs, .lst ys => difL xs ys
  | .lst _, .tup _ => true
  | .tup _, .lst _ => true
  | .tup xs, .tup ys => difL xs ys
  | .ins _ fs, .ins _ gs => difF fs gs
  | .ins _ _, .lst _ => true
  | .ins _ _, .tup _ => true
  | x, y => match eqFlat x y with
    | some b => !b
    | none => false
def difL : List T → List T → Bool
  | [], [] => false
  | x :: xs, y :: ys => dif x y || difL xs ys
  | _, _ => true
def difF : List (Str × T) → List (Str × T) → Bool
  | [], [] => false
  | (_, x) :: xs, (_, y) :: ys => dif x y || difF xs ys
  | _, _ => true
end
open Classical in
noncomputable def ownEq (s : Store) (c : Nat) (y z : VV) : Option Bool := match omN D c "__eq__" 2 with
  | some g => match cf g [y, z] s with
    | .ok (.t (.bl b)) s' => if s' = s then some b else none
    | _ => none
  | none => none
def eqI (f : T → T → Option Bool) (x y : T) : Option Bool := match eqFlat x y with
  | some b => some b
  | none => match f x y with
    | some false => if dif x y then some false else none
    | r => r
def eqLs (f : T → T → Option Bool) : List T → List T → Option Bool
  | x :: xs, y :: ys => match f x y with
    | some true => eqLs f xs ys
    | some false => some false
    | none => none
  | _, _ => some true
def isLT : T → Bool
  | .lst _ => true | .tup _ => true | .non => true | .bl _ => true | .int _ => true | .str _ => true | _ => false
noncomputable def eqB (s : Store) (f : T → T → Option Bool) (y z : VV) (x w : T) : Option Bool := match x, w with
  | .lst xs, .lst ys => if xs.length = ys.length then eqLs (eqI f) xs ys else some false
  | .tup xs, .tup ys => (eqLs (eqI f) xs ys).map fun b => b && decide (xs.length = ys.length)
  | .lst _, .tup _ => some false
  | .tup _, .lst _ => some false
  | .ins c _, .ins c' _ => if c = c' then ownEq D cf s c y z else none
  | .ins c _, w => if isLT w then ownEq D cf s c y z else none
  | .lst _, w => if isSc w then some false else none
  | .tup _, w => if isSc w then some false else none
  | x, .lst _ => if isSc x then some false else none
  | x, .tup _ => if isSc x then some false else none
  | _, _ => none
noncomputable def eqD (s : Store) : Nat → T → T → Option Bool
  | 0, _, _ => none
  | n + 1, x, w => eqB D cf s (eqD s n) (.t x) (.t w) x w
noncomputable def cmpV (o : CmpOp) (y z : VV) (s : Store) : Option Bool := match rd s y, rd s z with
  | some x, some w => match cmpP o x w with
    | some b => some b
    | none => match o with
      | .Eq => eqB D cf s (eqD D cf s 12) y z x w
      | .NotEq => (eqB D cf s (eqD D cf s 12) y z x w).map (!·)
      | _ => none
  | _, _ => none
def pick {α : Type} : List Nat → List α → Option (List α)
  | [], _ => some []
  | i :: r, l => match l[i]?, pick r l with
    | some x, some xs => some (x :: xs)
    | _, _ => none
def ownLs (i : Nat) (loc : Loc) (s : Store) : Option (Nat × List T) := match loc[i]? with
  | some (some (.c k)) => match s[k]? with
    | some (.lst xs) => some (k, xs)
    | _ => none
  | _ => none
def popF : Option (Nat × List T) → Store → Out VV
  | some (k, x :: xs), s => .ok (.t x) (s.set k (.lst xs))
  | _, _ => .bad
def popB : Option (Nat × List T) → Store → Out VV
  | some (k, xs), s => match xs[xs.length - 1]? with
    | some x => .ok (.t x) (s.set k (.lst xs.dropLast))
    | none => .bad
  | _, _ => .bad
def binO (o : Operator) (y z : VV) (s : Store) : Out VV := match rd s y, rd s z with
  | some a, some b => match binP o a b with
    | some (.lst xs) => .ok (.c s.length) (s ++ [.lst xs])
    | _ => .bad
  | _, _ => .bad
def listO (ys : List VV) (s : Store) : Out VV := match ys.mapM (rd s) with
  | some xs => match bltP .list xs with
    | some (.lst xs) => .ok (.c s.length) (s ++ [.lst xs])
    | _ => .bad
  | none => .bad
def revO (y : VV) (s : Store) : Out VV := match rd s y with
  | some (.lst xs) => .ok (.c s.length) (s ++ [.lst xs.reverse])
  | _ => .bad
def slO (y : VV) (i j : Option Int) (s : Store) : Out VV := match rd s y with
  | some (.lst xs) => .ok (.c s.length) (s ++ [.lst (cutT xs i j)])
  | _ => .bad
def fzV (y : VV) (s : Store) : Out VV := match emb s y with
  | some (t, s2) => .ok (.t t) s2
  | none => .bad
def popI (k : Nat) (z : VV) (s : Store) : Out VV := match s[k]?, rd s z with
  | some (.lst xs), some (.int j) => match ixN xs.length j with
    | some p => match xs[p]? with
      | some x => if decide (-(2 ^ 63) ≤ j) && decide (j < 2 ^ 63) then .ok (.t x) (s.set k (.lst (xs.eraseIdx p))) else .bad
      | none => .bad
    | none => .bad
  | _, _ => .bad
def rgT (j : Int) : List T := (List.range j.toNat).map fun (i : Nat) => T.int i
def lay (m : Bool) (xs : List T) (s : Store) : Out VV := if m then .ok (.c s.length) (s ++ [.lst xs]) else .ok (.t (.lst xs)) s
def lrgV (m : Bool) (y : VV) (s : Store) : Out VV := match rd s y with
  | some (.int j) => if decide (-(2 ^ 62) ≤ j) && decide (j ≤ 16777216) then lay m (rgT j) s else .bad
  | _ => .bad
def keysT : List T → Option (List Key)
  | [] => some []
  | .int i :: xs => (keysT xs).map (.inl i :: ·)
  | .str x :: xs => (keysT xs).map (.inr x :: ·)
  | _ => none
def tupK : T → Option (List Key)
  | .tup xs => keysT xs
  | _ => none
def valT (ks : List (List Key × T)) (k : List Key) : Option T := (ks.find? fun kv => decide (kv.1 = k)).map (·.2)
def putD (ks : List (List Key × T)) (k : List Key) (v : T) : List (List Key × T) :=
  if (ks.any fun kv => decide (kv.1 = k)) = true then ks.map (fun kv => if kv.1 = k then (kv.1, v) else kv) else ks ++ [(k, v)]
def dcAt (i : Nat) (loc : Loc) (s : Store) : Option Nat := match loc[i]? with
  | some (some (.c k)) => match s[k]? with
    | some (.dcT _) => some k
    | _ => none
  | _ => none
def dgetV (k : Nat) (z : VV) (s : Store) : Out VV := match s[k]?, (rd s z).bind tupK with
  | some (.dcT ks), some key => ofT s (valT ks key)
  | _, _ => .bad
def dnewV (n : Nat) (y : VV) (s : Store) : Out VV := match emb s y with
  | some (t, s2) => match s2[n]? with
    | some (.dcT []) => .ok (.c n) (s2.set n (.dcT [([], t)]))
    | _ => .bad
  | none => .bad
def alen : E → Nat
  | .cons _ as => alen as + 1
  | _ => 0
mutual
noncomputable def ev : E → Loc → Store → Out VV
  | .var i, loc, s => match loc[i]? with
    | some (some y) => .ok y s
    | _ => .bad
  | .int i, _, s => .ok (.t (.int i)) s
  | .str x, _, s => .ok (.t (.str x)) s
  | .bl b, _, s => .ok (.t (.bl b)) s
  | .non, _, s => .ok (.t .non) s
  | .gint _ i, _, s => .ok (.t (.int i)) s
  | .bin o a b, loc, s => (ev a loc s).bind fun y s1 => (ev b loc s1).bind fun z s2 => binV D cf o y z s2
  | .neg a, loc, s => (ev a loc s).bind fun y s1 => negV D cf y s1
  | .not a, loc, s => (ev a loc s).bind fun y s1 => match (rd s1 y).bind tru with
    | some b => .ok (.t (.bl (!b))) s1
    | _ => .bad
  | .cmp o a b, loc, s => (ev a loc s).bind fun y s1 => (ev b loc s1).bind fun z s2 => ofT s2 ((cmpV D cf o y z s2).map .bl)
  | .cmp2 o p a b c, loc, s => (ev a loc s).bind fun y s1 => (ev b loc s1).bind fun z s2 => match rd s2 y, rd s2 z with
    | some x, some w => match cmpP o x w with
      | some true => (ev c loc s2).bind fun u s3 => match rd s3 z, rd s3 u with
        | some w', some v => ofT s3 ((cmpP p w' v).map .bl)
        | _, _ => .bad
      | some false => .ok (.t (.bl false)) s2
      | none => .bad
    | _, _ => .bad
  | .and a b, loc, s => (ev a loc s).bind fun y s1 => match (rd s1 y).bind tru with
    | some true => ev b loc s1
    | some false => .ok y s1
    | none => .bad
  | .or a b, loc, s => (ev a loc s).bind fun y s1 => match (rd s1 y).bind tru with
    | some true => .ok y s1
    | some false => ev b loc s1
    | none => .bad
  | .ite c a b, loc, s => (ev c loc s).bind fun y s1 => match (rd s1 y).bind tru with
    | some true => ev a loc s1
    | some false => ev b loc s1
    | none => .bad
  | .lst m as, loc, s => (evs as loc s).bind fun ys s1 => (embLM s1 ys).bind fun xs s2 =>
    if xs.length ≤ sizeLine then (if m then .ok (.c s2.length) (s2 ++ [.lst xs]) else .ok (.t (.lst xs)) s2) else .bad
  | .tup as, loc, s => (evs as loc s).bind fun ys s1 => (embLM s1 ys).bind fun xs s2 =>
    if xs.length ≤ sizeLine then .ok (.t (.tup xs)) s2 else .bad
  | .ix a i, loc, s => (ev a loc s).bind fun y s1 => (ev i loc s1).bind fun z s2 => match rd s2 y, rd s2 z with
    | some x, some w => ofT s2 (itemP x w)
    | _, _ => .bad
  | .att a f, loc, s => (ev a loc s).bind fun y s1 => attV D f y s1
  | .prop a f, loc, s => (ev a loc s).bind fun y s1 => propV D cf f y s1
  | .isi a cs, loc, s => (ev a loc s).bind fun y s1 => match rd s1 y with
    | some x => if isiOk D.kit D.cls cs x then .ok (.t (.bl (cs.any fun c => isiP D.sub c x))) s1 else .bad
    | _ => .bad
  | .cal f as, loc, s => (evs as loc s).bind fun ys s1 => cf f (fill D f ys) s1
  | .mk c as, loc, s => (evs as loc s).bind fun ys s1 => match D.ini c with
    | some f => (cf f (fill D f (.c s1.length :: ys)) (s1 ++ [.ins c []])).bind fun y s2 => mkEnd s1.length y s2
    | none => .bad
  | .mth c m a as, loc, s => (ev a loc s).bind fun y s1 => match mthOk D c m y s1 with
    | some g => (evs as loc s1).bind fun ys s2 => cf g (fill D g (y :: ys)) s2
    | none => .bad
  | .blt b as, loc, s => (evs as loc s).bind fun ys s1 => match b with
    | .repr => match ys with
      | [y] => match emb s1 y with
        | some (t, s2) => (noex (rp s2 t)).bind fun x s3 => .ok (.t (.str x)) s3
        | none => .bad
      | _ => .bad
    | b => match ys.mapM (rd s1) with
      | some xs => ofT s1 (bltP b xs)
      | none => .bad
  | .lc m own g it cond e, loc, s => (evI it loc s).bind fun src s1 =>
    (loopC src g (fun l s => if cond.isOmit then .ok true s else (ev cond l s).bind fun y s1 => ofO s1 ((rd s1 y).bind tru)) (ev e) (wipeL loc own) s1.length (src.most s1) 0 (s1 ++ [.lst []])).bind fun _ s2 => lcEnd m s1.length s2
  | .fst as, loc, s => (evF as loc s Str.empty).bind fun x s1 => .ok (.t (.str x)) s1
  | .fs1 a, loc, s => ev a loc s
  | .fmt a, loc, s => (ev a loc s).bind fun y s1 => match rd s1 y with
    | some (.str x) => if x.length ≤ sizeLine then .ok (.t (.str x)) s1 else .bad
    | some (.int i) => if i.natAbs.log2 < 1920 then .ok (.t (.str (toString i))) s1 else .bad
    | _ => .bad
  | .rev a, loc, s => (ev a loc s).bind fun y s1 => match rd s1 y with
    | some (.lst xs) => .ok (.t (.lst xs.reverse)) s1
    | _ => .bad
  | .sl a lo hi, loc, s => (ev a loc s).bind fun y s1 =>
    (if lo.isOmit then .ok none s1 else (ev lo loc s1).bind fun l s2 => optI s2 l).bind fun i s2 =>
      (if hi.isOmit then .ok none s2 else (ev hi loc s2).bind fun h s3 => optI s3 h).bind fun j s3 => slV y i j s3
  | .calk f as pm, loc, s => (evs as loc s).bind fun ys s1 => match pick pm ys with
    | some zs => cf f zs s1
    | none => .bad
  | .own (.bin o a b), loc, s => (ev a loc s).bind fun y s1 => (ev b loc s1).bind fun z s2 => binO o y z s2
  | .own (.blt .list as), loc, s => (evs as loc s).bind fun ys s1 => listO ys s1
  | .own (.rev a), loc, s => (ev a loc s).bind fun y s1 => revO y s1
  | .own (.sl a lo hi), loc, s => (ev a loc s).bind fun y s1 =>
    (if lo.isOmit then .ok none s1 else (ev lo loc s1).bind fun l s2 => optI s2 l).bind fun i s2 =>
      (if hi.isOmit then .ok none s2 else (ev hi loc s2).bind fun h s3 => optI s3 h).bind fun j s3 => slO y i j s3
  | .fz a, loc, s => (ev a loc s).bind fun y s1 => fzV y s1
  | .popi i e, loc, s => match ownLs i loc s with
    | some (k, _) => (ev e loc s).bind fun z s1 => popI k z s1
    | none => .bad
  | .lrg m a, loc, s => (ev a loc s).bind fun y s1 => lrgV m y s1
  | .dnew v, loc, s => (ev v loc (s ++ [.dcT []])).bind fun y s1 => dnewV s.length y s1
  | .dget i e, loc, s => match dcAt i loc s with
    | some k => (ev e loc s).bind fun z s1 => dgetV k z s1
    | none => .bad
  | .pop0 i, loc, s => popF (ownLs i loc s) s
  | .popl i, loc, s => popB (ownLs i loc s) s
  | .dct ks vs, loc, s => (evs vs loc (s ++ [.dct []])).bind fun ys s1 => (embLM s1 ys).bind fun xs s2 => match s2[s.length]? with
    | some (.dct []) => if ks.length = xs.length ∧ ks.length ≤ 15 ∧ ks.Nodup then .ok (.t (.dct (ks.zip xs))) (s2.take s.length) else .bad
    | _ => .bad
  | _, _, _ => .bad
noncomputable def evs : E → Loc → Store → Out (List VV)
  | .nil, _, s => .ok [] s
  | .cons a as, loc, s => (ev a loc s).bind fun y s1 => (evs as loc s1).bind fun ys s2 => .ok (y :: ys) s2
  | _, _, _ => .bad
noncomputable def evF : E → Loc → Store → Str → Out Str
  | .nil, _, s, acc => .ok acc s
  | .cons a as, loc, s, acc => (ev a loc s).bind fun y s1 => match rd s1 y with
    | some (.str x) => if (acc ++ x).length ≤ sizeLine then evF as loc s1 (acc ++ x) else .bad
    | _ => .bad
  | _, _, _, _ => .bad
noncomputable def evI : E → Loc → Store → Out Src
  | .iseq a, loc, s => (ev a loc s).bind fun y s1 => match rd s1 y with
    | some (.lst _) => .ok (.lst y) s1
    | some (.tup xs) => .ok (.tup xs) s1
    | _ => .bad
  | .irng1 a, loc, s => (ev a loc s).bind fun y s1 => match rd s1 y with
    | some (.int j) => if decide (-(2 ^ 62) ≤ j) && decide (j < 2 ^ 62) then .ok (.rng 0 j) s1 else .bad
    | _ => .bad
  | .irng2 a b, loc, s => (ev a loc s).bind fun y s1 => (ev b loc s1).bind fun z s2 => match rd s2 y, rd s2 z with
    | some (.int i), some (.int j) => if decide (-(2 ^ 62) ≤ i) && decide (i < 2 ^ 62) && decide (-(2 ^ 62) ≤ j) && decide (j < 2 ^ 62) then .ok (.rng i j) s2 else .bad
    | _, _ => .bad
  | .izip a b, loc, s => (ev a loc s).bind fun y s1 => (ev b loc s1).bind fun z s2 => match rd s2 y, rd s2 z with
    | some (.lst _), some (.lst _) => .ok (.zip y z) s2
    | _, _ => .bad
  | .ienu a, loc, s => (ev a loc s).bind fun y s1 => match rd s1 y with
    | some (.lst _) => .ok (.enu y) s1
    | some (.tup xs) => .ok (.enT xs) s1
    | _ => .bad
  | _, _, _ => .bad
end

noncomputable def evT (e : E) (loc : Loc) (s : Store) : Out Bool := (ev D cf rp e loc s).bind fun y s1 => ofO s1 ((rd s1 y).bind tru)
def bindV : E → List VV → Loc → Option Loc
  | .nil, [], loc => some loc
  | .cons (.gn i) gs, y :: ys, loc => if i < loc.length then bindV gs ys (loc.set i (some y)) else none
  | _, _, _ => none
def setIx (o z : VV) (y : VV) (loc : Loc) (s : Store) : Out Loc := match o with
  | .c k => match emb s y with
    | some (t, s1) => match s1[k]?, rd s1 z with
      | some (.lst xs), some (.int j) => match ixN xs.length j with
        | some p => .ok loc (s1.set k (.lst (xs.set p t)))
        | none => .bad
      | _, _ => .bad
    | none => .bad
  | _ => .bad
mutual
/-- a value put to a target -/
noncomputable def put : E → VV → Loc → Store → Out Loc
  | .gn i, y, loc, s => if i < loc.length then .ok (loc.set i (some y)) s else .bad
  | .gt gs, y, loc, s => match (rd s y).bind items with
    | some xs => if xs.length = alen gs then putL gs xs loc s else .bad
    | none => .bad
  | .ix o i, y, loc, s => (ev D cf rp o loc s).bind fun o' s1 => (ev D cf rp i loc s1).bind fun z s2 => setIx o' z y loc s2
  | _, _, _, _ => .bad
noncomputable def putL : E → List T → Loc → Store → Out Loc
  | .nil, [], loc, s => .ok loc s
  | .cons g gs, x :: xs, loc, s => (put g (.t x) loc s).bind fun l1 s1 => putL gs xs l1 s1
  | _, _, _, _ => .bad
end

def putFl : Out Loc → Fl
  | .ok l s => .nx l s
  | _ => .bad
def Fl.noex : Fl → Fl
  | .ex _ _ _ => .bad
  | x => x
def cellAt (o : Nat) (loc : Loc) (s : Store) : Option Nat := match loc[o]? with
  | some (some (.c k)) => match s[k]? with
    | some (.lst _) => some k
    | _ => none
  | _ => none
def appTo (k : Nat) (y : VV) (loc : Loc) (s : Store) : Fl := match emb s y with
  | some (t, s2) => match s2[k]? with
    | some (.lst xs) => if xs.length < sizeLine then .nx loc (s2.set k (.lst (xs ++ [t]))) else .bad
    | _ => .bad
  | none => .bad
def extTo (k : Nat) (y : VV) (loc : Loc) (s : Store) : Fl := match rd s y, s[k]? with
  | some (.lst ys), some (.lst xs) => if xs.length + ys.length ≤ sizeLine then .nx loc (s.set k (.lst (xs ++ ys))) else .bad
  | _, _ => .bad
def intsOf : List T → Option (List Int)
  | [] => some []
  | .int i :: xs => (intsOf xs).map (i :: ·)
  | _ => none
def remTo (k : Nat) (y : VV) (loc : Loc) (s : Store) : Fl := match rd s y, s[k]? with
  | some (.int i), some (.lst xs) => match intsOf xs with
    | some ns => if i ∈ ns then .nx loc (s.set k (.lst (xs.eraseIdx (ns.idxOf i)))) else .bad
    | none => .bad
  | _, _ => .bad
def dputTo (o : Nat) (y z : VV) (loc : Loc) (s : Store) : Fl := match dcAt o loc s, emb s y with
  | some k, some (t, s2) => match s2[k]?, (rd s2 z).bind tupK with
    | some (.dcT ks), some key => if ks.length < sizeLine then .nx loc (s2.set k (.dcT (putD ks key t))) else .bad
    | _, _ => .bad
  | _, _ => .bad
def attTo (fld : Nat → Str → Bool) (f : Str) (o y : VV) (loc : Loc) (s : Store) : Fl := match o with
  | .c k => match emb s y with
    | some (t, s3) => match s3[k]? with
      | some (.ins c fs) => if fld c f && decide (fs.length < 1000) then .nx loc (s3.set k (.ins c (putT f t fs))) else .bad
      | _ => .bad
    | none => .bad
  | _ => .bad
def raiseOf (exf : Nat → Option (Option Str)) (c : Nat) (ys : List VV) (loc : Loc) (s : Store) : Fl := match exf c, ys with
  | some (some f), [y] => match emb s y with
    | some (t, s2) => .ex ⟨c, [(f, t)]⟩ loc s2
    | none => .bad
  | _, _ => .bad
noncomputable def evS : S → Loc → Store → Fl
  | .skip, loc, s => .nx loc s
  | .seq a b, loc, s => (evS a loc s).seq fun l1 s1 => evS b l1 s1
  | .asg g e, loc, s => (ev D cf rp e loc s).toFl loc fun y s1 => putFl (put D cf rp g y loc s1)
  | .par gs es, loc, s => (evs D cf rp es loc s).toFl loc fun ys s1 => match bindV gs ys loc with
    | some l => .nx l s1
    | none => .bad
  | .ret m e, loc, s => (ev D cf rp e loc s).toFl loc fun y s1 => if m then .rt y s1 else match emb s1 y with
    | some (t, s2) => .rt (.t t) s2
    | none => .bad
  | .retn, _, s => .rt (.t .non) s
  | .ite c a b, loc, s => (evT D cf rp c loc s).toFl loc fun t s1 => if t then evS a loc s1 else evS b loc s1
  | .for g it b, loc, s => (evI D cf rp it loc s).toFl loc fun src s1 => loopF src g (evS b) (src.most s1) 0 loc s1
  | .whl c b, loc, s => loopW (evT D cf rp c) (evS b) fw loc s
  | .exp e, loc, s => (ev D cf rp e loc s).toFl loc fun _ s1 => .nx loc s1
  | .satt o f e, loc, s => (ev D cf rp e loc s).toFl loc fun y s1 => (ev D cf rp o loc s1).toFl loc fun o' s2 => attTo D.fld f o' y loc s2
  | .app o e, loc, s => match cellAt o loc s with
    | some k => (ev D cf rp e loc s).toFl loc fun y s1 => appTo k y loc s1
    | none => .bad
  | .ext o e, loc, s => match cellAt o loc s with
    | some k => (ev D cf rp e loc s).toFl loc fun y s1 => extTo k y loc s1
    | none => .bad
  | .rem o e, loc, s => match cellAt o loc s with
    | some k => (ev D cf rp e loc s).toFl loc fun y s1 => remTo k y loc s1
    | none => .bad
  | .dput o k e, loc, s => (ev D cf rp e loc s).toFl loc fun y s1 => match dcAt o loc s1 with
    | some _ => (ev D cf rp k loc s1).toFl loc fun z s2 => dputTo o y z loc s2
    | none => .bad
  | .raise c as, loc, s => (evs D cf rp as loc s).toFl loc fun ys s1 => raiseOf D.exf c ys loc s1
  | .try1 b c h, loc, s => match evS b loc s with
    | .ex e l1 s1 => if (D.exf e.c).isSome && (D.exf c).isSome then (if D.sub e.c c then (evS h l1 s1).noex else .ex e l1 s1) else .bad
    | r => r
  | .junk, _, _ => .bad
  | .brk, loc, s => .bk loc s
  | .cont, loc, s => .ct loc s
end
noncomputable def callN (D : Defs) (rp : CF → Store → T → Out Str) (fw : Nat) : Nat → CF
  | 0, _, _, _ => .bad
  | n + 1, f, args, s => match D.fn f with
    | none => .bad
    | some d => if args.length = d.np then match evS D (callN D rp fw n) (rp (callN D rp fw n)) fw d.body (args.map some ++ List.replicate (d.nl - d.np) none) s with
      | .nx _ s1 => fin s.length (.t .non) s1
      | .rt y s1 => fin s.length y s1
      | .ex e _ s1 => .ex e (s1.take s.length)
      | _ => .bad
      else .bad
end Tw
namespace Tw
open PySem L2
def RepVs (cA : CA) (al : List Addr) (G : Hp) : List VV → List V → Prop
  | [], vs => vs = []
  | y :: ys, vs => ∃ v r, vs = v :: r ∧ RepV cA al G y v ∧ RepVs cA al G ys r
def RepX (cA : CA) (G H : Hp) (e : Exc) (cl : Value) (d : Option Addr) : Prop :=
  cl = .ref (cA e.c) ∧ match e.fs with
    | [] => d = none
    | fs => ∃ dd gs, d = some dd ∧ H dd = some (.xd gs) ∧ RepF cA G fs gs
section
variable {cA : CA} {al al' al1 : List Addr} {G G' G1 H : Hp} {s : Store}
theorem RepVs.mono (x : Xt al G al' G') : ∀ {ys : List VV} {vs : List V}, RepVs cA al G ys vs → RepVs cA al' G' ys vs
  | [], _, r => r
  | y :: ys, _, ⟨v, rr, e, q, q'⟩ => ⟨v, rr, e, q.mono x, RepVs.mono x q'⟩
theorem RepVs.length : ∀ {ys : List VV} {vs : List V}, RepVs cA al G ys vs → vs.length = ys.length
  | [], vs, r => by have e : vs = [] := r; subst e; rfl
  | y :: ys, _, ⟨v, rr, e, q, q'⟩ => by rw [e]; simp [RepVs.length q']
def Sees (cA : CA) (G H : Hp) : T → V → Prop
  | .lst xs, v => ∃ a vs, v = .ref a ∧ H a = some (.lst vs) ∧ RepL cA G xs vs
  | .dct xs, v => ∃ a vs, v = .ref a ∧ H a = some (.dK vs) ∧ RepD cA G xs vs
  | .ins c fs, v => ∃ a dx gs, v = .ref a ∧ H a = some (.ins (cA c) dx gs) ∧ RepF cA G fs gs
  | .opq, v => ∃ a kvs, v = .ref a ∧ H a = some (.dT kvs)
  | x, v => Rep cA G x v
theorem sees_of (sb : Sb G H) : ∀ {x : T} {v : V}, Rep cA G x v → Sees cA G H x v
  | .non, _, r => r | .bl _, _, r => r | .int _, _, r => r | .str _, _, r => r | .ty _, _, r => r | .tup _, _, r => r | .scr _, _, r => r
  | .opq, _, r => by
    unfold Rep at r
    obtain ⟨a, vs, e, g⟩ := r
    exact ⟨a, vs, e, sb _ _ g⟩
  | .lst xs, _, r => by
    unfold Rep at r
    obtain ⟨a, vs, e, g, q⟩ := r
    exact ⟨a, vs, e, sb _ _ g, q⟩
  | .dct xs, _, r => by
    unfold Rep at r
    obtain ⟨a, vs, e, g, q⟩ := r
    exact ⟨a, vs, e, sb _ _ g, q⟩
  | .ins c fs, _, r => by
    unfold Rep at r
    obtain ⟨a, dx, vs, e, g, q⟩ := r
    exact ⟨a, dx, vs, e, sb _ _ g, q⟩
theorem Rl.sees (r : Rl cA al G s H) {y : VV} {v : V} {x : T} (q : RepV cA al G y v) (e : Tw.rd s y = some x) : Sees cA G H x v := by
  cases y with
  | t y =>
    simp [Tw.rd] at e; subst e
    exact sees_of r.sub q
  | c k =>
    obtain ⟨a, ha, ev⟩ := q
    subst ev
    simp only [Tw.rd, Option.map_eq_some_iff] at e
    obtain ⟨c, hc, ec⟩ := e
    have ok := r.cell k a c ha hc
    cases c with
    | lst xs =>
      simp only [Cell.tree] at ec; subst ec
      obtain ⟨gn, vs, hh, rr⟩ := ok
      exact ⟨a, vs, rfl, hh, rr⟩
    | dct xs =>
      simp only [Cell.tree] at ec; subst ec
      obtain ⟨gn, vs, hh, rr⟩ := ok
      exact ⟨a, vs, rfl, hh, rr⟩
    | ins cc xs =>
      simp only [Cell.tree] at ec; subst ec
      obtain ⟨gn, dx, vs, hh, rr⟩ := ok
      exact ⟨a, dx, vs, rfl, hh, rr⟩
    | frz x' =>
      simp only [Cell.tree] at ec; subst ec
      exact sees_of r.sub ok.1
    | dcT xs =>
      simp only [Cell.tree] at ec; subst ec
      obtain ⟨gn, vs, hh, rr⟩ := ok
      exact ⟨a, vs, rfl, hh⟩
theorem Rl.freeze (r : Rl cA al G s H) {k : Nat} {a : Addr} {c : Cell} (ha : al[k]? = some a) (hc : s[k]? = some c) :
    ∃ G', Sb G G' ∧ Rl cA al G' (s.set k (.frz c.tree)) H ∧ Rep cA G' c.tree (.ref a) := by
  have ok := r.cell k a c ha hc
  have go : ∀ o : HO, G a = none → H a = some o → (∀ G', Sb G G' → G' a = some o → Rep cA G' c.tree (.ref a)) →
      ∃ G', Sb G G' ∧ Rl cA al G' (s.set k (.frz c.tree)) H ∧ Rep cA G' c.tree (.ref a) := fun o gn hh mk => by
    have sb : Sb G (upd G a o) := Sb.new gn
    have rp := mk _ sb upd_same
    refine ⟨upd G a o, sb, ⟨fun b u e => ?_, by simp [r.len], r.nd, fun j b c' hb hc' => ?_⟩, rp⟩
    · by_cases hb : b = a
      · subst hb; rw [upd_same] at e; cases e; exact hh
      · rw [upd_ne hb] at e; exact r.sub b u e
    · by_cases hj : j = k
      · subst hj
        rw [ha] at hb; cases hb
        rw [List.getElem?_set_self (List.getElem?_eq_some_iff.mp hc).1] at hc'
        cases hc'
        exact ⟨rp, _, upd_same⟩
      · rw [List.getElem?_set_ne (Ne.symm hj)] at hc'
        have ok' := r.cell j b c' hb hc'
        have hba : b ≠ a := nodup_ne r.nd hb ha hj
        cases c' with
        | lst xs =>
          obtain ⟨g, vs, h1, h2⟩ := ok'
          exact ⟨by rw [upd_ne hba]; exact g, vs, h1, RepL.mono sb h2⟩
        | dct xs =>
          obtain ⟨g, vs, h1, h2⟩ := ok'
          exact ⟨by rw [upd_ne hba]; exact g, vs, h1, RepD.mono sb h2⟩
        | ins cc xs =>
          obtain ⟨g, dx, vs, h1, h2⟩ := ok'
          exact ⟨by rw [upd_ne hba]; exact g, dx, vs, h1, RepF.mono sb h2⟩
        | dcT xs =>
          obtain ⟨g, vs, h1, h2⟩ := ok'
          exact ⟨by rw [upd_ne hba]; exact g, vs, h1, RepDT.mono sb h2⟩
        | frz x => exact ⟨Rep.mono sb ok'.1, ok'.2.imp fun o z => sb _ _ z⟩
  cases c with
  | lst xs =>
    obtain ⟨gn, vs, hh, rr⟩ := ok
    exact go _ gn hh fun G' sb e => by
      show Rep cA G' (.lst xs) _
      unfold Rep; exact ⟨a, vs, rfl, e, RepL.mono sb rr⟩
  | dct xs =>
    obtain ⟨gn, vs, hh, rr⟩ := ok
    exact go _ gn hh fun G' sb e => by
      show Rep cA G' (.dct xs) _
      unfold Rep; exact ⟨a, vs, rfl, e, RepD.mono sb rr⟩
  | ins cc xs =>
    obtain ⟨gn, dx, vs, hh, rr⟩ := ok
    exact go _ gn hh fun G' sb e => by
      show Rep cA G' (.ins cc xs) _
      unfold Rep; exact ⟨a, dx, vs, rfl, e, RepF.mono sb rr⟩
  | dcT xs =>
    obtain ⟨gn, vs, hh, rr⟩ := ok
    exact go _ gn hh fun G' sb e => by
      show Rep cA G' .opq _
      unfold Rep; exact ⟨a, vs, rfl, e⟩
  | frz x =>
    refine ⟨G, Sb.rfl', ?_, ok.1⟩
    have e : s.set k (.frz (Cell.frz x).tree) = s := by
      apply List.ext_getElem?
      intro j
      by_cases hj : j = k
      · subst hj
        rw [List.getElem?_set_self (List.getElem?_eq_some_iff.mp hc).1, hc]; rfl
      · rw [List.getElem?_set_ne (Ne.symm hj)]
    rw [e]; exact r
theorem Rl.emb (r : Rl cA al G s H) {y : VV} {v : V} {x : T} {s' : Store} (q : RepV cA al G y v) (e : Tw.emb s y = some (x, s')) :
    ∃ G', Sb G G' ∧ Rl cA al G' s' H ∧ Rep cA G' x v := by
  cases y with
  | t y =>
    simp only [Tw.emb, Option.some.injEq, Prod.mk.injEq] at e
    obtain ⟨e1, e2⟩ := e
    subst e1; subst e2
    exact ⟨G, Sb.rfl', r, q⟩
  | c k =>
    obtain ⟨a, ha, ev⟩ := q
    subst ev
    simp only [Tw.emb] at e
    cases hc : s[k]? with
    | none => rw [hc] at e; cases e
    | some c =>
      rw [hc] at e
      obtain ⟨G', sb, rl, rp⟩ := r.freeze ha hc
      cases c with
      | frz z =>
        simp only [Option.some.injEq, Prod.mk.injEq] at e
        obtain ⟨e1, e2⟩ := e
        subst e1; subst e2
        exact ⟨G, Sb.rfl', r, (r.cell k a _ ha hc).1⟩
      | lst z =>
        simp only [Option.some.injEq, Prod.mk.injEq] at e
        obtain ⟨e1, e2⟩ := e
        subst e1; subst e2
        exact ⟨G', sb, rl, rp⟩
      | dct z =>
        simp only [Option.some.injEq, Prod.mk.injEq] at e
        obtain ⟨e1, e2⟩ := e
        subst e1; subst e2
        exact ⟨G', sb, rl, rp⟩
      | ins cc z =>
        simp only [Option.some.injEq, Prod.mk.injEq] at e
        obtain ⟨e1, e2⟩ := e
        subst e1; subst e2
        exact ⟨G', sb, rl, rp⟩
      | dcT z =>
        simp only [Option.some.injEq, Prod.mk.injEq] at e
        obtain ⟨e1, e2⟩ := e
        subst e1; subst e2
        exact ⟨G', sb, rl, rp⟩
theorem Xt.ofSb (h : Sb G G') : Xt al G al G' := ⟨⟨[], by simp⟩, h⟩
theorem Rl.embL : ∀ {ys : List VV} {vs : List V} {xs : List T} {s s' : Store} {G : Hp}, Rl cA al G s H → RepVs cA al G ys vs → Tw.embL s ys = some (xs, s') →
    ∃ G', Sb G G' ∧ Rl cA al G' s' H ∧ RepL cA G' xs vs
  | [], vs, xs, s, s', G, r, q, e => by
    simp only [Tw.embL, Option.some.injEq, Prod.mk.injEq] at e
    obtain ⟨e1, e2⟩ := e
    subst e1; subst e2
    rw [show vs = [] from q]
    exact ⟨G, Sb.rfl', r, .nil⟩
  | y :: ys, vs, xs, s, s', G, r, ⟨v, rr, ev, q, q'⟩, e => by
    subst ev
    unfold Tw.embL at e
    cases h1 : Tw.emb s y with
    | none => rw [h1] at e; cases e
    | some p =>
      obtain ⟨x, s1⟩ := p
      rw [h1] at e
      obtain ⟨G1, sb1, r1, p1⟩ := r.emb q h1
      cases h2 : Tw.embL s1 ys with
      | none => simp only [h2] at e; cases e
      | some p2 =>
        obtain ⟨xs2, s2⟩ := p2
        simp only [h2, Option.some.injEq, Prod.mk.injEq] at e
        obtain ⟨e1, e2⟩ := e
        subst e1; subst e2
        obtain ⟨G2, sb2, r2, p2⟩ := Rl.embL r1 (q'.mono (Xt.ofSb sb1)) h2
        exact ⟨G2, sb1.trans sb2, r2, .cons (Rep.mono sb2 p1) p2⟩
end
def Po (cA : CA) (W : WX) (al : List Addr) (G : Hp) (st : L2.St) {α : Type} (k : α → Store → List Addr → Hp → Hp → Prop) : Out α → Prop
  | .ok a s' => ∀ al' G' H', Xt al G al' G' → Rl cA al' G' s' H' → k a s' al' G' H'
  | .ex e s' => ∀ al' G' H' cl d, Xt al G al' G' → Rl cA al' G' s' H' → RepX cA G' H' e cl d → W cl d st H'
  | .bad => False
def kV (cA : CA) (Q : VK) : VV → Store → List Addr → Hp → Hp → Prop := fun y _ al' G' H' => ∀ v, RepV cA al' G' y v → Q v H'
def kL (cA : CA) (Q : List V → Hp → Prop) : List VV → Store → List Addr → Hp → Hp → Prop := fun y _ al' G' H' => ∀ v, RepVs cA al' G' y v → Q v H'
def kB (Q : Bool → Hp → Prop) : Bool → Store → List Addr → Hp → Hp → Prop := fun b _ _ _ H' => Q b H'
section
variable {cA : CA} {W : WX} {al al1 : List Addr} {G G1 : Hp} {st : L2.St} {α β : Type}
theorem Po.mono {k : α → Store → List Addr → Hp → Hp → Prop} {x : Out α} (h : Po cA W al G st k x) (e : Xt al G al1 G1) : Po cA W al1 G1 st k x := by
  cases x with
  | ok a s => exact fun al' G' H' e' r => h al' G' H' (e.trans e') r
  | ex x s => exact fun al' G' H' cl d e' r q => h al' G' H' cl d (e.trans e') r q
  | bad => exact h
theorem Po.bind {k : β → Store → List Addr → Hp → Hp → Prop} {x : Out α} {f : α → Store → Out β} (h : Po cA W al G st k (x.bind f)) :
    Po cA W al G st (fun a s1 al1 G1 _ => Po cA W al1 G1 st k (f a s1)) x := by
  cases x with
  | ok a s => exact fun al1 G1 H1 e r => Po.mono (x := f a s) h e
  | ex x s => exact h
  | bad => exact h
theorem Po.imp {k k' : α → Store → List Addr → Hp → Hp → Prop} {x : Out α} (h : Po cA W al G st k x)
    (f : ∀ a s1 al1 G1 H1, Xt al G al1 G1 → Rl cA al1 G1 s1 H1 → k a s1 al1 G1 H1 → k' a s1 al1 G1 H1) : Po cA W al G st k' x := by
  cases x with
  | ok a s => exact fun al1 G1 H1 e r => f a s al1 G1 H1 e r (h al1 G1 H1 e r)
  | ex x s => exact h
  | bad => exact h
theorem Po.here {k : α → Store → List Addr → Hp → Hp → Prop} {a : α} {s : Store} {H : Hp} (h : Po cA W al G st k (.ok a s)) (r : Rl cA al G s H) : k a s al G H := h al G H Xt.rfl' r
end
theorem Po.hereT {cA : CA} {W : WX} {al : List Addr} {G H : Hp} {st : L2.St} {t : T} {v : V} {Q : VK} {s : Store} (h : Po cA W al G st (kV cA Q) (.ok (.t t) s)) (r : Rl cA al G s H) (q : Rep cA G t v) : Q v H :=
  h al G H Xt.rfl' r v q
theorem Po.hereV {cA : CA} {W : WX} {al : List Addr} {G H : Hp} {st : L2.St} {y : VV} {v : V} {Q : VK} {s : Store} (h : Po cA W al G st (kV cA Q) (.ok y s)) (r : Rl cA al G s H) (q : RepV cA al G y v) : Q v H :=
  h al G H Xt.rfl' r v q
def TEv (cA : CA) (W : WX) (m : Loc → Store → Out VV) : TE := fun st H Q =>
  ∃ al G loc s, Rl cA al G s H ∧ RepS cA al G loc st ∧ Po cA W al G st (kV cA Q) (m loc s)
def TAv (cA : CA) (W : WX) (m : Loc → Store → Out (List VV)) : TA := fun st H Q =>
  ∃ al G loc s, Rl cA al G s H ∧ RepS cA al G loc st ∧ Po cA W al G st (kL cA Q) (m loc s)
def TTv (cA : CA) (W : WX) (m : Loc → Store → Out Bool) : TT := fun st H Q =>
  ∃ al G loc s, Rl cA al G s H ∧ RepS cA al G loc st ∧ Po cA W al G st (kB Q) (m loc s)
section
variable {cA : CA} {W : WX} {al : List Addr} {G H : Hp} {st : L2.St} {β : Type} {loc : Loc} {s : Store}
theorem TEv.go {m : Loc → Store → Out VV} {f : VV → Store → Out β} {k : β → Store → List Addr → Hp → Hp → Prop} {Q' : VK}
    (r : Rl cA al G s H) (S : RepS cA al G loc st) (h : Po cA W al G st k ((m loc s).bind f))
    (c : ∀ y s1 al1 G1 H1 v, Xt al G al1 G1 → Rl cA al1 G1 s1 H1 → RepS cA al1 G1 loc st → RepV cA al1 G1 y v → Po cA W al1 G1 st k (f y s1) → Q' v H1) : TEv cA W m st H Q' :=
  ⟨al, G, loc, s, r, S, h.bind.imp fun y s1 al1 G1 H1 x r1 p v q => c y s1 al1 G1 H1 v x r1 (S.mono x) q p⟩
theorem TAv.go {m : Loc → Store → Out (List VV)} {f : List VV → Store → Out β} {k : β → Store → List Addr → Hp → Hp → Prop} {Q' : List V → Hp → Prop}
    (r : Rl cA al G s H) (S : RepS cA al G loc st) (h : Po cA W al G st k ((m loc s).bind f))
    (c : ∀ y s1 al1 G1 H1 v, Xt al G al1 G1 → Rl cA al1 G1 s1 H1 → RepS cA al1 G1 loc st → RepVs cA al1 G1 y v → Po cA W al1 G1 st k (f y s1) → Q' v H1) : TAv cA W m st H Q' :=
  ⟨al, G, loc, s, r, S, h.bind.imp fun y s1 al1 G1 H1 x r1 p v q => c y s1 al1 G1 H1 v x r1 (S.mono x) q p⟩
theorem TTv.go {m : Loc → Store → Out Bool} {f : Bool → Store → Out β} {k : β → Store → List Addr → Hp → Hp → Prop} {Q' : Bool → Hp → Prop}
    (r : Rl cA al G s H) (S : RepS cA al G loc st) (h : Po cA W al G st k ((m loc s).bind f))
    (c : ∀ b s1 al1 G1 H1, Xt al G al1 G1 → Rl cA al1 G1 s1 H1 → RepS cA al1 G1 loc st → Po cA W al1 G1 st k (f b s1) → Q' b H1) : TTv cA W m st H Q' :=
  ⟨al, G, loc, s, r, S, h.bind.imp fun y s1 al1 G1 H1 x r1 p => c y s1 al1 G1 H1 x r1 (S.mono x) p⟩
end
section
variable {X : Cx}
theorem pe_weak {e : Expr} {t t' : TE} (h : PE X e t) (w : ∀ st H Q, t' st H Q → t st H Q) : PE X e t' :=
  ⟨fun pins s st H Q I q => h.run pins s st H Q I (w st H Q q)⟩
theorem pt_weak {e : Expr} {t t' : TT} (h : PT X e t) (w : ∀ st H Q, t' st H Q → t st H Q) : PT X e t' :=
  ⟨fun pins s st H Q I q => h.run pins s st H Q I (w st H Q q)⟩
theorem pa_weak {e : List Expr} {t t' : TA} (h : PA X e t) (w : ∀ st H Q, t' st H Q → t st H Q) : PA X e t' :=
  ⟨fun pos pins s st H Q I q => h.run pos pins s st H Q I (w st H Q q)⟩
theorem ps_weak {e : Stmt} {t t' : TS} (h : PS X e t) (w : ∀ D st H, t' D st H → t D st H) : PS X e t' :=
  ⟨fun pins s st H D I q => h.run pins s st H D I (w D st H q)⟩
theorem pss_weak {e : List Stmt} {t t' : TS} (h : PSs X e t) (w : ∀ D st H, t' D st H → t D st H) : PSs X e t' :=
  ⟨fun pins s st H D I q => h.run pins s st H D I (w D st H q)⟩
end
inductive Nx (G H : Hp) : Hp → Hp → Prop where
  | same : Nx G H G H
  | new (p : Addr) (o : HO) : H p = none → Nx G H (upd G p o) (upd H p o)
theorem Nx.rl {cA : CA} {al : List Addr} {G H G' H' : Hp} {s : Store} (n : Nx G H G' H') (r : Rl cA al G s H) : Xt al G al G' ∧ Rl cA al G' s H' := by
  cases n with
  | same => exact ⟨Xt.rfl', r⟩
  | new p o h => exact ⟨Xt.ofSb (Sb.new (r.gnone h)), r.newT h⟩
def isLs : T → Bool
  | .lst _ => true
  | _ => false
def Give (cA : CA) (G H : Hp) (t : T) (Q : VK) : Prop := (∀ G' H' v, Nx G H G' H' → Rep cA G' t v → Q v H') ∨ (∃ xs, t = .lst xs ∧ ∀ vs, RepL cA G xs vs → ∀ p, H p = none → Q (.ref p) (upd H p (.lst vs)))
theorem Give.of {cA : CA} {W : WX} {al : List Addr} {G H : Hp} {st : L2.St} {t : T} {Q : VK} {s : Store} (h : Po cA W al G st (kV cA Q) (.ok (.t t) s)) (r : Rl cA al G s H) : Give cA G H t Q := .inl fun G' H' v n q => by
  obtain ⟨x, r'⟩ := n.rl r
  exact h al G' H' x r' v q
theorem Give.lst {cA : CA} {G H : Hp} {xs : List T} {vs : List V} {Q : VK} (g : Give cA G H (.lst xs) Q) (gn : ∀ p, H p = none → G p = none) (r : RepL cA G xs vs) : ∀ p, H p = none → Q (.ref p) (upd H p (.lst vs)) := fun p hp => by
  rcases g with g | ⟨xs', e, g⟩
  · exact g _ _ _ (.new p (.lst vs) hp) (by unfold Rep; exact ⟨p, vs, rfl, upd_same, RepL.mono (Sb.new (gn p hp)) r⟩)
  · cases e; exact g vs r p hp
theorem Give.tup {cA : CA} {G H : Hp} {xs : List T} {vs : List V} {Q : VK} (g : Give cA G H (.tup xs) Q) (gn : ∀ p, H p = none → G p = none) (r : RepL cA G xs vs) : ∀ p, H p = none → Q (.ref p) (upd H p (.tup vs)) := fun p hp => by
  rcases g with g | ⟨xs', e, g⟩
  · exact g _ _ _ (.new p (.tup vs) hp) (by unfold Rep; exact ⟨p, vs, rfl, upd_same, RepL.mono (Sb.new (gn p hp)) r⟩)
  · cases e
theorem Give.val {cA : CA} {G H : Hp} {t : T} {v : V} {Q : VK} (g : Give cA G H t Q) (r : Rep cA G t v) (h : isLs t = false := by rfl) : Q v H := by
  rcases g with g | ⟨xs', e, g⟩
  · exact g G H v .same r
  · subst e; cases h
end Tw
namespace Tw
open PySem L2
section
variable {cA : CA} {X : Cx} {G H : Hp}
theorem seesI {i : Int} {v : V} (h : Sees cA G H (.int i) v) : v = .int i := by
  unfold Sees Rep at h; exact h
theorem seesB {i : Bool} {v : V} (h : Sees cA G H (.bl i) v) : v = .bl i := by
  unfold Sees Rep at h; exact h
theorem seesS {i : Str} {v : V} (h : Sees cA G H (.str i) v) : v = .str i := by
  unfold Sees Rep at h; exact h
theorem seesN {v : V} (h : Sees cA G H .non v) : v = .non := by
  unfold Sees Rep at h; exact h
theorem seesT {xs : List T} {v : V} (sb : Sb G H) (h : Sees cA G H (.tup xs) v) : ∃ a vs, v = .ref a ∧ H a = some (.tup vs) ∧ G a = some (.tup vs) ∧ RepL cA G xs vs := by
  unfold Sees Rep at h
  obtain ⟨a, vs, e, g, q⟩ := h
  exact ⟨a, vs, e, sb _ _ g, g, q⟩
theorem repI {i : Int} : Rep cA G (.int i) (.int i) := by unfold Rep; rfl
theorem repB {i : Bool} : Rep cA G (.bl i) (.bl i) := by unfold Rep; rfl
theorem repS {i : Str} : Rep cA G (.str i) (.str i) := by unfold Rep; rfl
theorem repN : Rep cA G .non .non := by unfold Rep; rfl
structure Bs (G H : Hp) : Prop where
  sb : Sb G H
theorem Bs.gn (b : Bs G H) : ∀ p, H p = none → G p = none := fun p hp => by
  cases e : G p with
  | none => rfl
  | some u => rw [b.sb p u e] at hp; cases hp
def rBin (cA : CA) (o : Operator) : R2 := fun x y H Q => ∃ G tx ty tz, Bs G H ∧ Sees cA G H tx x ∧ Sees cA G H ty y ∧ binP o tx ty = some tz ∧ Give cA G H tz Q
theorem mul_any : OpR X (binaryOp .Mult) (rI (fun i j => mulOk i j = true) fun i j => .int (i * j)) := opI fun i j _ _ _ _ _ hc q => by
  refine PyProof.Rows.mul_int q ?_
  unfold mulOk at hc
  have b : ∀ x : Int, Builtin.Int.intBits x ≤ x.natAbs.log2 + 1 := fun x => by
    unfold Builtin.Int.intBits
    split <;> omega
  have h1 := b i
  have h2 := b j
  simp only [Bool.or_eq_true, decide_eq_true_eq] at hc
  rcases hc with (hc | hc) | hc
  · exact .of_left (by omega)
  · exact .of_right (by omega)
  · have e : bitsLine = 134217728 := by decide
    unfold IntMulOk
    intro z
    rw [Bool.and_eq_true] at z
    have z2 := z.2
    unfold Builtin.Int.intTooBig at z2
    have z3 := of_decide_eq_true z2
    rw [e] at z3
    omega
theorem fdiv_any : OpR X (binaryOp .FloorDiv) (rI (fun _ j => j ≠ 0 ∧ j.natAbs.log2 < 9000) fun i j => .int (i.fdiv j)) := opI fun _ _ _ _ _ _ _ hc q =>
  PyProof.Rows.floordiv_int hc.1 q (.inl (PyProof.noPylong_of_log2 hc.2))
theorem op_bin (o : Operator) : OpR X (binaryOp o) (rBin cA o) := by
  intro pins s st H x y v u Q I rx ry h
  obtain ⟨G, tx, ty, tz, bs, sx, sy, e, g⟩ := h
  unfold binP at e
  split at e
  · cases e
    exact op_add pins s st H x y v u Q I rx ry ⟨_, _, seesI sx, seesI sy, g.val repI⟩
  · split at e
    · cases e
      rename_i hz
      exact op_add_str pins s st H x y v u Q I rx ry ⟨_, _, seesS sx, seesS sy, hz, g.val repS⟩
    · cases e
  · split at e
    · cases e
      rename_i hz
      obtain ⟨a, vs, ea, ha, ra⟩ := sx
      obtain ⟨b, us, eb, hb, rb⟩ := sy
      refine op_cat pins s st H x y v u Q I rx ry ⟨a, b, vs, us, ea, eb, ha, hb, ?_, g.lst bs.gn (ra.append rb)⟩
      rw [ra.length, rb.length]; exact hz
    · cases e
  · split at e
    · cases e
      rename_i xs ys hz
      obtain ⟨a, vs, ea, ha, ga, ra⟩ := seesT bs.sb sx
      obtain ⟨b, us, eb, hb, gb, rb⟩ := seesT bs.sb sy
      refine op_catA pins s st H x y v u Q I rx ry ⟨a, b, vs, us, ea, eb, .of ha, .of hb, ?_, fun z => ?_, fun z1 z2 => ?_, fun z1 z2 p hp => ?_⟩
      · rw [ra.length, rb.length]; exact hz
      · subst z
        have e0 : xs = [] := by have := ra.length; simp at this; exact List.eq_nil_of_length_eq_zero this.symm
        subst e0
        refine g.val ?_
        show Rep cA G (.tup ([] ++ ys)) (.ref b)
        unfold Rep; exact ⟨b, us, rfl, gb, rb⟩
      · subst z2
        have e0 : ys = [] := by have := rb.length; simp at this; exact List.eq_nil_of_length_eq_zero this.symm
        subst e0
        refine g.val ?_
        rw [List.append_nil]
        unfold Rep; exact ⟨a, vs, rfl, ga, ra⟩
      · exact g.tup bs.gn (ra.append rb) p hp
    · cases e
  · cases e
    exact op_sub pins s st H x y v u Q I rx ry ⟨_, _, seesI sx, seesI sy, g.val repI⟩
  · split at e
    · cases e
      rename_i hz
      exact mul_any pins s st H x y v u Q I rx ry ⟨_, _, seesI sx, seesI sy, hz, g.val repI⟩
    · cases e
  · split at e
    · cases e
      rename_i xs k hz
      simp only [Bool.and_eq_true, decide_eq_true_eq] at hz
      obtain ⟨a, vs, ea, ha, ra⟩ := sx
      refine op_rep pins s st H x y v u Q I rx ry ⟨a, k, vs, ea, seesI sy, ha, hz.1.1, hz.1.2, by rw [ra.length]; exact hz.2, g.lst bs.gn ?_⟩
      generalize k.toNat = n
      induction n with
      | zero => exact .nil
      | succ n ih => rw [List.replicate_succ, List.replicate_succ, List.flatten_cons, List.flatten_cons]; exact ra.append ih
    · cases e
  · split at e
    · cases e
      rename_i xs k hz
      simp only [Bool.and_eq_true, decide_eq_true_eq, Bool.not_eq_true', List.isEmpty_eq_false_iff] at hz
      obtain ⟨a, vs, ea, ha, ga, ra⟩ := seesT bs.sb sx
      refine op_repT pins s st H x y v u Q I rx ry ⟨a, k, vs, ea, seesI sy, .of ha, ?_, hz.1.1.2, hz.1.2, by rw [ra.length]; exact hz.2, g.tup bs.gn ?_⟩
      · intro z
        subst z
        have := ra.length
        exact hz.1.1.1 (List.eq_nil_of_length_eq_zero (by simpa using this.symm))
      · generalize k.toNat = n
        induction n with
        | zero => exact .nil
        | succ n ih => rw [List.replicate_succ, List.replicate_succ, List.flatten_cons, List.flatten_cons]; exact ra.append ih
    · cases e
  · split at e
    · cases e
      rename_i hz
      simp only [Bool.and_eq_true, decide_eq_true_eq] at hz
      exact fdiv_any pins s st H x y v u Q I rx ry ⟨_, _, seesI sx, seesI sy, hz, g.val repI⟩
    · cases e
  · split at e
    · cases e
      rename_i hz
      simp only [decide_eq_true_eq] at hz
      exact op_modN pins s st H x y v u Q I rx ry ⟨_, _, seesI sx, seesI sy, hz, g.val repI⟩
    · cases e
  · split at e
    · cases e
      rename_i hz
      simp only [Bool.and_eq_true, decide_eq_true_eq] at hz
      exact op_pow pins s st H x y v u Q I rx ry ⟨_, _, seesI sx, seesI sy, ⟨hz.1.1, hz.1.2, hz.2⟩, g.val repI⟩
    · cases e
  · cases e
def rCmp (cA : CA) (o : CmpOp) : R2 := fun x y H Q => ∃ G tx ty b, Bs G H ∧ Sees cA G H tx x ∧ Sees cA G H ty y ∧ cmpP o tx ty = some b ∧ Q (.bl b) H
theorem eqFlat_ok {tx ty : T} {x y : V} {b : Bool} (sx : Sees cA G H tx x) (sy : Sees cA G H ty y) (e : eqFlat tx ty = some b) : scal x y = true ∧ decide (x = y) = b := by
  unfold eqFlat at e
  split at e <;> first
    | (cases e; done)
    | (cases e; first
        | (rw [seesN sx, seesN sy]; exact ⟨rfl, by decide⟩)
        | (rw [seesB sx, seesB sy]; exact ⟨rfl, by simp⟩)
        | (rw [seesI sx, seesI sy]; exact ⟨rfl, by simp⟩)
        | (rw [seesS sx, seesS sy]; exact ⟨rfl, by simp⟩)
        | (rw [seesN sx, seesI sy]; exact ⟨rfl, by simp⟩)
        | (rw [seesI sx, seesN sy]; exact ⟨rfl, by simp⟩)
        | (rw [seesN sx, seesB sy]; exact ⟨rfl, by simp⟩)
        | (rw [seesB sx, seesN sy]; exact ⟨rfl, by simp⟩)
        | (rw [seesN sx, seesS sy]; exact ⟨rfl, by simp⟩)
        | (rw [seesS sx, seesN sy]; exact ⟨rfl, by simp⟩)
        | (rw [seesI sx, seesS sy]; exact ⟨rfl, by simp⟩)
        | (rw [seesS sx, seesI sy]; exact ⟨rfl, by simp⟩)
        | (rw [seesB sx, seesS sy]; exact ⟨rfl, by simp⟩)
        | (rw [seesS sx, seesB sy]; exact ⟨rfl, by simp⟩))
theorem sc_flat {t : T} {v : V} (s : Rep cA G t v) (h : isSc t = true) : flatV v = true := by
  cases t with
  | non => unfold Rep at s; rw [s]; rfl
  | bl _ => unfold Rep at s; rw [s]; rfl
  | int _ => unfold Rep at s; rw [s]; rfl
  | str _ => unfold Rep at s; rw [s]; rfl
  | _ => cases h
theorem sees_sc {t : T} {v : V} (s : Sees cA G H t v) (h : isSc t = true) : Rep cA G t v := by
  cases t with
  | non => exact s
  | bl _ => exact s
  | int _ => exact s
  | str _ => exact s
  | _ => cases h
theorem eqFlat_V {tx ty : T} {x y : V} {b : Bool} (sx : Rep cA G tx x) (sy : Rep cA G ty y) (e : eqFlat tx ty = some b) : eqV x y = b := by
  unfold eqFlat at e
  split at e <;> first
    | (cases e; done)
    | (unfold Rep at sx sy; subst sx; subst sy; cases e; first | rfl | (simp [eqV]; done) | (simp [eqV]; rw [Bool.eq_iff_iff]; simp))
theorem inP_ok {neg : Bool} {tx : T} {x : V} (sx : Rep cA G tx x) : ∀ {ys : List T} {vs : List V} {b : Bool}, RepL cA G ys vs → inP neg tx ys = some b → (if neg then !inV x vs else inV x vs) = b
  | [], vs, b, r, e => by
    unfold RepL at r; subst r
    unfold inP at e; cases e
    cases neg <;> rfl
  | y :: ys, vs, b, r, e => by
    unfold RepL at r
    obtain ⟨v, rr, ev, q, q'⟩ := r
    subst ev
    unfold inP at e
    cases h1 : eqFlat y tx with
    | none => rw [h1] at e; cases e
    | some c =>
      cases h2 : inP neg tx ys with
      | none => rw [h1, h2] at e; cases e
      | some d =>
        rw [h1, h2] at e
        have h3 := inP_ok sx q' h2
        have h4 := eqFlat_V q sx h1
        simp only [Option.some.injEq] at e
        subst e
        unfold inV at h3 ⊢
        rw [List.any_cons, h4]
        cases c with
        | true => cases neg <;> rfl
        | false =>
          simp only [Bool.false_or, Bool.false_eq_true, if_false]
          exact h3
theorem all_flat : ∀ {ys : List T} {vs : List V}, RepL cA G ys vs → ys.all isSc = true → vs.all flatV = true
  | [], vs, r, _ => by unfold RepL at r; subst r; rfl
  | y :: ys, vs, r, e => by
    unfold RepL at r
    obtain ⟨v, rr, ev, q, q'⟩ := r
    subst ev
    rw [List.all_cons, Bool.and_eq_true] at e
    rw [List.all_cons, Bool.and_eq_true]
    exact ⟨sc_flat q e.1, all_flat q' e.2⟩
theorem op_cmp (o : CmpOp) : OpR X (compareOp o) (rCmp cA o) := by
  intro pins s st H x y v u Q I rx ry h
  obtain ⟨G, tx, ty, b, bs, sx, sy, e, q⟩ := h
  unfold cmpP at e
  split at e
  · cases e
    exact op_lt pins s st H x y v u Q I rx ry ⟨_, _, seesI sx, seesI sy, q⟩
  · cases e
    exact op_le pins s st H x y v u Q I rx ry ⟨_, _, seesI sx, seesI sy, q⟩
  · cases e
    exact op_gt pins s st H x y v u Q I rx ry ⟨_, _, seesI sx, seesI sy, q⟩
  · cases e
    exact op_ge pins s st H x y v u Q I rx ry ⟨_, _, seesI sx, seesI sy, q⟩
  · obtain ⟨h1, h2⟩ := eqFlat_ok sx sy e
    exact op_eq pins s st H x y v u Q I rx ry ⟨h1, by rw [h2]; exact q⟩
  · rw [Option.map_eq_some_iff] at e
    obtain ⟨c, e, ec⟩ := e
    obtain ⟨h1, h2⟩ := eqFlat_ok sx sy e
    exact op_ne pins s st H x y v u Q I rx ry ⟨h1, by rw [h2, ec]; exact q⟩
  · cases e
    exact op_isBl pins s st H x y v u Q I rx ry ⟨_, _, seesB sx, seesB sy, q⟩
  · cases e
    exact op_notBl pins s st H x y v u Q I rx ry ⟨_, _, seesB sx, seesB sy, q⟩
  · refine op_isN pins s st H x y v u Q I rx ry ⟨seesN sy, ?_⟩
    have : decide (x = .non) = b := by
      cases e
      cases tx with
      | non => rw [seesN sx]; rfl
      | bl _ => rw [seesB sx]; rfl
      | int _ => rw [seesI sx]; rfl
      | str _ => rw [seesS sx]; rfl
      | ty _ => unfold Sees Rep at sx; rw [sx]; rfl
      | lst _ => obtain ⟨a, _, ea, _⟩ := sx; rw [ea]; rfl
      | tup _ => obtain ⟨a, _, ea, _⟩ := seesT bs.sb sx; rw [ea]; rfl
      | dct _ => obtain ⟨a, _, ea, _⟩ := sx; rw [ea]; rfl
      | ins _ _ => obtain ⟨a, _, _, ea, _⟩ := sx; rw [ea]; rfl
      | scr _ => unfold Sees Rep at sx; obtain ⟨a, ea, _⟩ := sx; rw [ea]; rfl
      | opq => obtain ⟨a, _, ea, _⟩ := sx; rw [ea]; rfl
    rw [this]; exact q
  · refine op_notN pins s st H x y v u Q I rx ry ⟨seesN sy, ?_⟩
    have : (!decide (x = .non)) = b := by
      cases e
      cases tx with
      | non => rw [seesN sx]; rfl
      | bl _ => rw [seesB sx]; rfl
      | int _ => rw [seesI sx]; rfl
      | str _ => rw [seesS sx]; rfl
      | ty _ => unfold Sees Rep at sx; rw [sx]; rfl
      | lst _ => obtain ⟨a, _, ea, _⟩ := sx; rw [ea]; rfl
      | tup _ => obtain ⟨a, _, ea, _⟩ := seesT bs.sb sx; rw [ea]; rfl
      | dct _ => obtain ⟨a, _, ea, _⟩ := sx; rw [ea]; rfl
      | ins _ _ => obtain ⟨a, _, _, ea, _⟩ := sx; rw [ea]; rfl
      | scr _ => unfold Sees Rep at sx; obtain ⟨a, ea, _⟩ := sx; rw [ea]; rfl
      | opq => obtain ⟨a, _, ea, _⟩ := sx; rw [ea]; rfl
    rw [this]; exact q
  · split at e
    · rename_i hz
      rw [Bool.and_eq_true] at hz
      obtain ⟨a, vs, ea, ha, ra⟩ := sy
      have rx' := sees_sc sx hz.1
      have z := inP_ok rx' ra e
      exact op_in_seq pins s st H x y v u Q I rx ry ⟨a, vs, ea, .inl (.of ha), sc_flat rx' hz.1, all_flat ra hz.2, by rw [z]; exact q⟩
    · cases e
  · split at e
    · rename_i hz
      rw [Bool.and_eq_true] at hz
      obtain ⟨a, vs, ea, ha, ra⟩ := sy
      have rx' := sees_sc sx hz.1
      have z := inP_ok rx' ra e
      exact op_notIn_seq pins s st H x y v u Q I rx ry ⟨a, vs, ea, .inl (.of ha), sc_flat rx' hz.1, all_flat ra hz.2, by rw [z]; exact q⟩
    · cases e
  · split at e
    · rename_i hz
      rw [Bool.and_eq_true] at hz
      obtain ⟨a, vs, ea, ha, ga, ra⟩ := seesT bs.sb sy
      have rx' := sees_sc sx hz.1
      have z := inP_ok rx' ra e
      exact op_in_seq pins s st H x y v u Q I rx ry ⟨a, vs, ea, .inr (.of ha), sc_flat rx' hz.1, all_flat ra hz.2, by rw [z]; exact q⟩
    · cases e
  · split at e
    · rename_i hz
      rw [Bool.and_eq_true] at hz
      obtain ⟨a, vs, ea, ha, ga, ra⟩ := seesT bs.sb sy
      have rx' := sees_sc sx hz.1
      have z := inP_ok rx' ra e
      exact op_notIn_seq pins s st H x y v u Q I rx ry ⟨a, vs, ea, .inr (.of ha), sc_flat rx' hz.1, all_flat ra hz.2, by rw [z]; exact q⟩
    · cases e
  · cases e
theorem tru_sees {K : PySem.W.Frag} {t : T} {v : V} {b : Bool} (sb : Sb G H) (h : Sees cA G H t v) (e : tru t = some b) : TruV K v H b := by
  cases t with
  | non => rw [seesN h]; cases e; rfl
  | bl _ => rw [seesB h]; cases e; rfl
  | int _ => rw [seesI h]; cases e; rfl
  | str x =>
    rw [seesS h]
    simp only [tru] at e
    split at e
    · cases e
      rename_i hz
      exact ⟨hz, rfl⟩
    · cases e
  | lst xs =>
    obtain ⟨a, vs, ea, ha, ra⟩ := h
    subst ea
    cases e
    refine .inl ⟨vs, .of ha, ?_⟩
    have := ra.length
    cases xs <;> cases vs <;> first | rfl | (simp at this)
  | tup xs =>
    obtain ⟨a, vs, ea, ha, ga, ra⟩ := seesT sb h
    subst ea
    cases e
    refine .inr (.inl ⟨vs, .of ha, ?_⟩)
    have := ra.length
    cases xs <;> cases vs <;> first | rfl | (simp at this)
  | dct xs =>
    obtain ⟨a, vs, ea, ha, ra⟩ := h
    subst ea
    cases e
    refine .inr (.inr ⟨vs, ha, ?_⟩)
    cases xs with
    | nil => unfold RepD at ra; subst ra; rfl
    | cons p r =>
      obtain ⟨k, x⟩ := p
      unfold RepD at ra
      obtain ⟨_, _, ea, _⟩ := ra
      subst ea; rfl
  | _ => cases e
end
end Tw
namespace Tw
open PySem L2
section
variable {cA : CA} {X : Cx} {G H : Hp}
def SeesL (cA : CA) (G H : Hp) : List T → List V → Prop
  | [], vs => vs = []
  | x :: xs, vs => ∃ v r, vs = v :: r ∧ Sees cA G H x v ∧ SeesL cA G H xs r
theorem SeesL.nil {vs : List V} (h : SeesL cA G H [] vs) : vs = [] := h
theorem SeesL.one {x : T} {vs : List V} (h : SeesL cA G H [x] vs) : ∃ v, vs = [v] ∧ Sees cA G H x v := by
  obtain ⟨v, r, e, s, h⟩ := h
  rw [SeesL.nil h] at e
  exact ⟨v, e, s⟩
theorem SeesL.two {x y : T} {vs : List V} (h : SeesL cA G H [x, y] vs) : ∃ v u, vs = [v, u] ∧ Sees cA G H x v ∧ Sees cA G H y u := by
  obtain ⟨v, r, e, s, h⟩ := h
  obtain ⟨u, e2, s2⟩ := SeesL.one h
  rw [e2] at e
  exact ⟨v, u, e, s, s2⟩
theorem _root_.Tw.RepD.length : ∀ {xs : List (Key × T)} {vs : List (Key × V)}, RepD cA G xs vs → vs.length = xs.length
  | [], _, r => by unfold RepD at r; subst r; rfl
  | (k, x) :: xs, _, r => by
    unfold RepD at r
    obtain ⟨v, rr, e, q, q'⟩ := r
    subst e
    simp [RepD.length q']
theorem allB_ok : ∀ {xs : List T} {vs : List V} {t : T}, RepL cA G xs vs → bltP.allB xs = some t → ∃ bs : List Bool, vs = bs.map V.bl ∧ t = .bl (bs.all id)
  | [], vs, t, r, e => by
    unfold RepL at r; subst r
    unfold bltP.allB at e; cases e
    exact ⟨[], rfl, rfl⟩
  | x :: xs, vs, t, r, e => by
    unfold RepL at r
    obtain ⟨v, rr, ev, q, q'⟩ := r
    cases x with
    | bl b =>
      unfold bltP.allB at e
      rw [Option.bind_eq_some_iff] at e
      obtain ⟨u, h1, h2⟩ := e
      obtain ⟨bs, e1, e2⟩ := allB_ok q' h1
      subst e2
      simp only [Option.some.injEq] at h2
      unfold Rep at q
      subst q; subst e1; subst ev; subst h2
      exact ⟨b :: bs, rfl, rfl⟩
    | _ => unfold bltP.allB at e; cases e
inductive Tv : V → Bool → Prop
  | bl (b : Bool) : Tv (.bl b) b
  | int (i : Int) : Tv (.int i) (i != 0)
inductive Tvs : List V → List Bool → Prop
  | nil : Tvs [] []
  | cons {v : V} {b : Bool} {vs : List V} {bs : List Bool} : Tv v b → Tvs vs bs → Tvs (v :: vs) (b :: bs)
theorem Tvs.length : ∀ {vs : List V} {bs : List Bool}, Tvs vs bs → vs.length = bs.length
  | _, _, .nil => rfl
  | _, _, .cons _ h => by rw [List.length_cons, List.length_cons, h.length]
theorem Tvs.get : ∀ {vs : List V} {bs : List Bool} {i : Nat} {v : V}, Tvs vs bs → vs[i]? = some v → ∃ b, bs[i]? = some b ∧ Tv v b
  | _, _, 0, _, .cons h _, e => by simp at e; subst e; exact ⟨_, rfl, h⟩
  | _, _, i + 1, v, .cons _ h, e => by
    obtain ⟨b, h1, h2⟩ := h.get (i := i) (v := v) (by simpa using e)
    exact ⟨b, by simpa using h1, h2⟩
theorem truth_mix {prog : Program} {w : World} {A : Around} {vs : List V} {bs : List Bool} {its : List Value} (e : Vals vs its) (h : Tvs vs bs) :
    TruthOf prog w A (fun i v => its.toArray[i]? = some v) (fun i => bs.getD i false) := fun i v s Q E hv hq => by
  have hv' : its[i]? = some v := by simpa using hv
  have hi := (List.getElem?_eq_some_iff.mp hv').1
  have hi' : i < vs.length := by rw [e.length]; exact hi
  obtain ⟨u, e1, r⟩ := Vals.get e (List.getElem?_eq_getElem hi')
  rw [hv'] at e1
  cases e1
  obtain ⟨b, e2, t⟩ := h.get (List.getElem?_eq_getElem hi')
  have hg : bs.getD i false = b := by rw [List.getD_eq_getElem?_getD, e2] <;> rfl
  have hq' : Q (bs.getD i false) s := hq
  rw [hg] at hq'
  generalize vs[i] = x at r t
  cases t with
  | bl b => cases r; exact wpAny_truthy_bool hq'
  | int z =>
    obtain ⟨t, rfl⟩ := r
    exact P.truthy_int hq'
theorem cr_anyM (hc : X.calm = true) : CallR X (.builtin "any") (fun vs H Q => ∃ (a : Addr) (xs : List V) (bs : List Bool), vs = [V.ref a] ∧ SqL X.K H a xs ∧ Tvs xs bs ∧ Q (.bl (bs.any id)) H) := by
  intro pins s σ H vs us Q I r h
  obtain ⟨a, xs, bs, rfl, hs, tv, q⟩ := h
  obtain ⟨its, rv, hl, _⟩ := I.list hs
  rw [Vals.ref1 r]
  refine call_any_walk (iter_any hl.isList fun s₂ e2 st hne => ?_)
  subst e2
  refine ⟨_, _, _, _, _, _, _, rfl, Walks.list (A := X.A.in1) (I.ok.hd hc) _ a hne its.toArray, st, truth_mix rv tv, fun h' tk hk => ?_⟩
  refine ⟨.bl _, H, I.kept fun b o eo => hk b o (fun hmem => ?_) (Heap.get?_push_of_some _ eo), ?_, q⟩
  · rcases List.mem_cons.mp hmem with e1 | hmem
    · exact absurd (e1 ▸ Heap.lt_size eo) (Nat.lt_irrefl _)
    · cases hmem
  · show Value.bool _ = Value.bool _
    rw [← any_range, List.size_toArray, ← rv.length, tv.length]
theorem anyB_ok : ∀ {xs : List T} {vs : List V} {t : T}, RepL cA G xs vs → bltP.anyB xs = some t → ∃ bs : List Bool, Tvs vs bs ∧ t = .bl (bs.any id)
  | [], vs, t, r, e => by
    unfold RepL at r; subst r
    unfold bltP.anyB at e; cases e
    exact ⟨[], .nil, rfl⟩
  | x :: xs, vs, t, r, e => by
    unfold RepL at r
    obtain ⟨v, rr, ev, q, q'⟩ := r
    cases x with
    | bl b =>
      unfold bltP.anyB at e
      rw [Option.bind_eq_some_iff] at e
      obtain ⟨u, h1, h2⟩ := e
      obtain ⟨bs, e1, e2⟩ := anyB_ok q' h1
      subst e2
      simp only [Option.some.injEq] at h2
      unfold Rep at q
      subst q; subst ev; subst h2
      exact ⟨b :: bs, .cons (.bl b) e1, rfl⟩
    | int i =>
      unfold bltP.anyB at e
      rw [Option.bind_eq_some_iff] at e
      obtain ⟨u, h1, h2⟩ := e
      obtain ⟨bs, e1, e2⟩ := anyB_ok q' h1
      subst e2
      simp only [Option.some.injEq] at h2
      unfold Rep at q
      subst q; subst ev; subst h2
      exact ⟨(i != 0) :: bs, .cons (.int i) e1, rfl⟩
    | _ => unfold bltP.anyB at e; cases e
theorem sumI_ok : ∀ {xs : List T} {vs : List V} {t : T}, RepL cA G xs vs → bltP.sumI xs = some t → ∃ bs : List Int, vs = bs.map V.int ∧ t = .int bs.sum
  | [], vs, t, r, e => by
    unfold RepL at r; subst r
    unfold bltP.sumI at e; cases e
    exact ⟨[], rfl, rfl⟩
  | x :: xs, vs, t, r, e => by
    unfold RepL at r
    obtain ⟨v, rr, ev, q, q'⟩ := r
    cases x with
    | int b =>
      unfold bltP.sumI at e
      rw [Option.bind_eq_some_iff] at e
      obtain ⟨u, h1, h2⟩ := e
      obtain ⟨bs, e1, e2⟩ := sumI_ok q' h1
      subst e2
      simp only [Option.some.injEq] at h2
      unfold Rep at q
      subst q; subst e1; subst ev; subst h2
      exact ⟨b :: bs, rfl, by rw [List.sum_cons]⟩
    | _ => unfold bltP.sumI at e; cases e
def bltV : Blt → Value
  | .len => .builtin "len" | .abs => .builtin "abs" | .max => .builtin "max" | .min => .builtin "min" | .int => .type "int" | .bool => .type "bool"
  | .str => .type "str" | .repr => .builtin "repr" | .divmod => .builtin "divmod" | .sum => .builtin "sum" | .any => .builtin "any" | .all => .builtin "all"
  | .list => .type "list" | .tuple => .type "tuple" | .gcd => .builtin "math.gcd" | .lcm => .builtin "math.lcm"
def isMath : Blt → Bool
  | .gcd => true | .lcm => true | _ => false
def rBlt (cA : CA) (b : Blt) : List V → Hp → VK → Prop := fun vs H Q => ∃ G ts t, Bs G H ∧ SeesL cA G H ts vs ∧ bltP b ts = some t ∧ Give cA G H t Q
theorem sq_scr {K : PySem.W.Frag} (hkl : ∀ a ns, cA.kl a ns → ∀ H, SqL K H a (ns.map V.int)) {ns : List Int} {v : V} (sb : Sb G H) (h : Sees cA G H (.scr ns) v) : ∃ a, v = .ref a ∧ SqL K H a (ns.map V.int) := by
  have h : Rep cA G (.scr ns) v := h
  unfold Rep at h
  obtain ⟨a, e, ⟨o, z⟩ | z⟩ := h
  · exact ⟨a, e, .inl (.inr ⟨o, sb _ _ z⟩)⟩
  · exact ⟨a, e, hkl a ns z H⟩
def rLcm : List V → Hp → VK → Prop := fun vs H Q => ∃ a b : Int, vs = [.int a, .int b] ∧ a.natAbs.log2 < 9000 ∧ b.natAbs.log2 < 9000 ∧ Q (.int ((Nat.lcm a.natAbs b.natAbs : Nat) : Int)) H
theorem lcm_log2 (m n : Nat) (h1 : m.log2 < 9000) (h2 : n.log2 < 9000) : (m.lcm n).log2 < 134217728 := by
  by_cases z : m.lcm n = 0
  · rw [z]; decide
  · have hm : m ≠ 0 := fun e => z (by rw [e]; simp)
    have hn : n ≠ 0 := fun e => z (by rw [e]; simp)
    have a1 := (Nat.log2_lt hm).mp h1
    have a2 := (Nat.log2_lt hn).mp h2
    have a3 : m.lcm n ≤ m * n := Nat.div_le_self _ _
    rw [Nat.log2_lt z]
    have a4 : m * n < 2 ^ 9000 * 2 ^ 9000 := Nat.mul_lt_mul'' a1 a2
    rw [← Nat.pow_add] at a4
    exact Nat.lt_of_le_of_lt a3 (Nat.lt_of_lt_of_le a4 (Nat.pow_le_pow_right (by decide) (by decide)))
theorem cr_lcm {X : Cx} : CallR X (.builtin "math.lcm") rLcm := by
  intro pins s st H vs us Q I r h
  obtain ⟨a, b, rfl, h1, h2, q⟩ := h
  obtain ⟨t, u, rfl⟩ := Vals.int2 r
  have l1 : ∀ n : Nat, n.log2 < 9000 → ¬ (max 1 n).log2 / 30 + 1 > 450 := fun n hn => by
    have : (max 1 n).log2 < 9000 := by
      rcases Nat.le_total 1 n with h | h
      · rw [Nat.max_eq_right h]; exact hn
      · rw [Nat.max_eq_left h]; decide
    omega
  have e1 : Nat.lcm 1 a.natAbs = a.natAbs := by simp [Nat.lcm]
  have go := PySem.W.mg_run_lcm a t b u (l1 _ h1) (by
    have : (max a.natAbs b.natAbs).log2 < 9000 := by
      rcases Nat.le_total a.natAbs b.natAbs with h | h
      · rw [Nat.max_eq_right h]; exact h2
      · rw [Nat.max_eq_left h]; exact h1
    omega) (by rw [e1]; exact lcm_log2 _ _ h1 h2)
  rw [e1] at go
  exact call_function_meets PySem.W.MGF.kind_lcm PySem.W.MGF.plain_lcm PySem.W.MGF.entry_lcm (PySem.W.MGF.args_lcm _ _) go.meets ⟨.int _, H, I.tok _, ⟨_, rfl⟩, q⟩
theorem call_blt (hc : X.calm = true) (hkl : ∀ a ns, cA.kl a ns → ∀ H, SqL X.K H a (ns.map V.int)) (b : Blt) : CallR X (bltV b) (rBlt cA b) := by
  intro pins s st H xs us Q I r h
  obtain ⟨G, ts, t, bs, se, e, g⟩ := h
  unfold bltP at e
  split at e
  · cases e
    obtain ⟨v, rfl, a, vs, rfl, ha, ra⟩ := se.one
    exact call_len pins s st H _ us Q I r ⟨_, _, rfl, .inl ⟨vs, .of ha, rfl⟩, by rw [ra.length]; exact g.val repI⟩
  · cases e
    obtain ⟨v, rfl, sv⟩ := se.one
    obtain ⟨a, vs, rfl, ha, ga, ra⟩ := seesT bs.sb sv
    exact call_len pins s st H _ us Q I r ⟨_, _, rfl, .inr ⟨vs, .of ha, rfl⟩, by rw [ra.length]; exact g.val repI⟩
  · cases e
    obtain ⟨v, rfl, sv⟩ := se.one
    obtain ⟨a, rfl, sq⟩ := sq_scr hkl bs.sb sv
    exact call_len pins s st H _ us Q I r ⟨_, _, rfl, .inl ⟨_, sq, rfl⟩, by rw [List.length_map]; exact g.val repI⟩
  · cases e
    obtain ⟨v, rfl, a, vs, rfl, ha, ra⟩ := se.one
    exact call_lenD pins s st H _ us Q I r ⟨a, vs, rfl, ha, by rw [ra.length]; exact g.val repI⟩
  · split at e
    · cases e
      rename_i hz
      obtain ⟨v, rfl, sv⟩ := se.one
      rw [seesS sv] at r
      exact call_len pins s st H _ us Q I r ⟨_, _, rfl, ⟨hz, rfl⟩, g.val repI⟩
    · cases e
  · cases e
    obtain ⟨v, rfl, sv⟩ := se.one
    rw [seesI sv] at r
    exact call_abs pins s st H _ us Q I r ⟨_, rfl, g.val repI⟩
  · cases e
    obtain ⟨v, u, rfl, sv, su⟩ := se.two
    rw [seesI sv, seesI su] at r
    exact call_max2 hc pins s st H _ us Q I r ⟨_, _, rfl, g.val repI⟩
  · cases e
    obtain ⟨v, u, rfl, sv, su⟩ := se.two
    rw [seesI sv, seesI su] at r
    exact call_min2 hc pins s st H _ us Q I r ⟨_, _, rfl, g.val repI⟩
  · cases e
    obtain ⟨v, rfl, sv⟩ := se.one
    rw [seesI sv] at r
    exact call_int1 pins s st H _ us Q I r (.inl ⟨_, rfl, g.val repI⟩)
  · cases e
    obtain ⟨v, rfl, sv⟩ := se.one
    rw [seesB sv] at r
    exact call_int1 pins s st H _ us Q I r (.inr ⟨_, rfl, g.val repI⟩)
  · cases e
    obtain ⟨v, rfl, sv⟩ := se.one
    rw [seesI sv] at r
    exact call_bool1 pins s st H _ us Q I r (.inl ⟨_, rfl, g.val repB⟩)
  · cases e
    obtain ⟨v, rfl, sv⟩ := se.one
    rw [seesB sv] at r
    exact call_bool1 pins s st H _ us Q I r (.inr ⟨_, rfl, g.val repB⟩)
  · split at e
    · cases e
      rename_i hz
      obtain ⟨v, rfl, sv⟩ := se.one
      rw [seesI sv] at r
      exact call_str_int pins s st H _ us Q I r ⟨_, rfl, hz, g.val repS⟩
    · cases e
  · split at e
    · cases e
      rename_i hz
      simp only [Bool.and_eq_true, decide_eq_true_eq] at hz
      obtain ⟨v, u, rfl, sv, su⟩ := se.two
      rw [seesI sv, seesI su] at r
      exact call_divmod pins s st H _ us Q I r ⟨_, _, rfl, hz, g.tup bs.gn (.cons repI (.cons repI .nil))⟩
    · cases e
  · cases e
    obtain ⟨v, u, rfl, sv, su⟩ := se.two
    rw [seesI sv, seesI su] at r
    exact cr_gcd pins s st H _ us Q I r ⟨_, _, rfl, g.val repI⟩
  · split at e
    · cases e
      rename_i hz
      obtain ⟨v, u, rfl, sv, su⟩ := se.two
      rw [seesI sv, seesI su] at r
      exact cr_lcm pins s st H _ us Q I r ⟨_, _, rfl, hz.1, hz.2, g.val repI⟩
    · cases e
  · cases e
    obtain ⟨v, rfl, a, vs, rfl, ha, ra⟩ := se.one
    exact call_tuple_of pins s st H _ us Q I r ⟨a, vs, rfl, .inl ⟨.of ha, g.tup bs.gn ra⟩⟩
  · cases e
    obtain ⟨v, rfl, sv⟩ := se.one
    obtain ⟨a, vs, rfl, ha, ga, ra⟩ := seesT bs.sb sv
    exact call_tuple_of pins s st H _ us Q I r ⟨a, vs, rfl, .inr ⟨.of ha, g.val (by unfold Rep; exact ⟨a, vs, rfl, ga, ra⟩)⟩⟩
  · cases e
    obtain ⟨v, rfl, a, vs, rfl, ha, ra⟩ := se.one
    exact call_list_of pins s st H _ us Q I r ⟨a, vs, rfl, .inl (.of ha), g.lst bs.gn ra⟩
  · cases e
    obtain ⟨v, rfl, sv⟩ := se.one
    obtain ⟨a, vs, rfl, ha, ga, ra⟩ := seesT bs.sb sv
    exact call_list_of pins s st H _ us Q I r ⟨a, vs, rfl, .inr (.of ha), g.lst bs.gn ra⟩
  · obtain ⟨v, rfl, a, vs, rfl, ha, ra⟩ := se.one
    obtain ⟨bl, rfl, rfl⟩ := allB_ok ra e
    exact cr_all hc pins s st H _ us Q I r ⟨a, bl, rfl, .of ha, g.val repB⟩
  · obtain ⟨v, rfl, a, vs, rfl, ha, ra⟩ := se.one
    obtain ⟨bl, tv, rfl⟩ := anyB_ok ra e
    exact cr_anyM hc pins s st H _ us Q I r ⟨a, vs, bl, rfl, .of ha, tv, g.val repB⟩
  · obtain ⟨v, rfl, a, vs, rfl, ha, ra⟩ := se.one
    obtain ⟨ns, rfl, rfl⟩ := sumI_ok ra e
    exact cr_sum hc pins s st H _ us Q I r ⟨a, ns, rfl, .of ha, g.val repI⟩
  · cases e
theorem seesL_of {al : List Addr} {s : Store} (r : Rl cA al G s H) : ∀ {ys : List VV} {vs : List V} {ts : List T}, RepVs cA al G ys vs → ys.mapM (rd s) = some ts → SeesL cA G H ts vs
  | [], vs, ts, q, e => by
    simp at e; subst e
    exact q
  | y :: ys, vs, ts, ⟨v, rr, ev, q, q'⟩, e => by
    rw [List.mapM_cons] at e
    cases h1 : rd s y with
    | none => rw [h1] at e; cases e
    | some x =>
      rw [h1] at e
      cases h2 : ys.mapM (rd s) with
      | none => rw [h2] at e; cases e
      | some xs =>
        rw [h2] at e
        cases e
        exact ⟨v, rr, ev, r.sees q h1, seesL_of r q' h2⟩
def tyT (cA : CA) : T → Value
  | .non => .type "NoneType" | .bl _ => .type "bool" | .int _ => .type "int" | .str _ => .type "str" | .ty _ => .type "type"
  | .lst _ => .type "list" | .tup _ => .type "tuple" | .dct _ => .type "dict" | .ins c _ => .ref (cA c) | .scr _ => .type "list" | .opq => .type "dict"
def crV (cA : CA) : CR → V
  | .ty n => .ty n
  | .cl c => .ref (cA c)
def crU (cA : CA) : CR → Value
  | .ty n => .type n
  | .cl c => .ref (cA c)
theorem crV_cls (c : CR) : ClsV (crV cA c) (crU cA c) := by
  cases c with
  | ty n => exact .ty n
  | cl c => exact .own _
structure InsTy (K : PySem.W.Frag) (C : Addr) : Prop where
  cl : Cls K C
  ha : PySem.W.findIn K (.ref C) "__class__" = some (some (.builtin "object.__class__"))
  hn : PySem.W.specialIn K (.builtin "object.__class__") "__get__" = some (some (.builtin "getset_descriptor.__get__"))
  htk : PySem.W.takesIn K (.builtin "object.__class__") = some true
  hm : PySem.W.mroIn K C (.type "object") = some true
theorem tyX_of {K : PySem.W.Frag} {t : T} {v : V} (sb : Sb G H) (h : Sees cA G H t v) (n : (∀ x, t ≠ .ty x) ∧ ∀ x, t ≠ .scr x) (hI : ∀ c fs, t = .ins c fs → InsTy K (cA c)) : TyX K H v (tyT cA t) := by
  refine .base ?_
  cases t with
  | non => rw [seesN h]; exact .non
  | bl _ => rw [seesB h]; exact .bl _
  | int _ => rw [seesI h]; exact .int _
  | str _ => rw [seesS h]; exact .str _
  | ty x => exact absurd rfl (n.1 x)
  | scr x => exact absurd rfl (n.2 x)
  | lst _ => obtain ⟨a, vs, rfl, ha, _⟩ := h; exact .lst ha
  | tup _ => obtain ⟨a, vs, rfl, ha, _⟩ := seesT sb h; exact .tup ha
  | dct _ => obtain ⟨a, vs, rfl, ha, _⟩ := h; exact .dK ha
  | opq => obtain ⟨a, vs, rfl, ha⟩ := h; exact .dT ha
  | ins c fs =>
    obtain ⟨a, dx, gs, rfl, ha, _⟩ := h
    have z := hI c fs rfl
    exact .ins ha z.cl z.ha z.hn z.htk z.hm
end
end Tw
set_option maxHeartbeats 4000000
namespace Tw
open PySem L2
def notStar : Expr → Bool
  | .Starred .. => false
  | _ => true
theorem star_cons {env : Env} {e : Expr} {es : List Expr} (h : notStar e = true) : starEach (e :: es) env = (false, eval e env) :: starEach es env := by
  cases e <;> first | rfl | cases h
theorem star_plain {env : Env} : ∀ {es : List Expr}, es.all notStar = true → (starEach es env).any (·.1) = false
  | [], _ => rfl
  | e :: es, h => by
    rw [List.all_cons, Bool.and_eq_true] at h
    rw [star_cons h.1, List.any_cons, star_plain h.2]; rfl
theorem back_any {pos : Pos} {l : List (Bool × Sem Value)} : (backTo pos l).any (·.1) = l.any (·.1) := by
  unfold backTo
  rw [List.any_map]; rfl
theorem plain_back {env : Env} {pos : Pos} {es : List Expr} (h : es.all notStar = true) : (backTo pos (starEach es env)).any (·.1) = false := by
  rw [back_any]; exact star_plain h
def notSuper : Expr → Bool
  | .Call (.Name _ _) [] [] _ => false
  | _ => true
theorem base_plain {env : Env} {o : Expr} {f : Str} {m : Sem Value} (h : notSuper o = true) : attributeBase o f env m = m := by
  unfold attributeBase
  split
  · cases h
  · rfl
theorem few_plain {env : Env} {pos : Pos} {es : List Expr} (h : es.all notStar = true) (hl : es.length < 29) :
    ((backTo pos (starEach es env)).all (fun x => !x.1) && (backToKw pos (keywordEach [] env)).all (fun x => x.1.isSome)
      && decide (es.length + ([] : List Keyword).length + (if ([] : List Keyword).isEmpty then 0 else 1) < 30)) = true := by
  have h1 : (backTo pos (starEach es env)).all (fun x => !x.1) = true := by
    have := plain_back (env := env) (pos := pos) h
    rw [List.all_eq_true]
    intro x hx
    rw [List.any_eq_false] at this
    have := this x hx
    simpa using this
  rw [h1]
  simp [keywordEach, backToKw]; omega
def ixPlain : Expr → Bool
  | .Slice .. => false
  | .Tuple .. => false
  | _ => true
def testPlain : Expr → Bool
  | .UnaryOp .Not _ _ => false
  | .BoolOp .. => false
  | .IfExp .. => false
  | .Compare .. => false
  | _ => true
theorem test_plain {a : Expr} (h : testPlain a = true) (env : Env) (whole : Sem Value) : isTrue a env whole = (do let v ← whole; standAt a.pos; holding [v] (truthy v)) := by
  cases a with
  | UnaryOp op x pos => cases op <;> first | rfl | cases h
  | BoolOp _ _ _ => cases h
  | IfExp _ _ _ _ => cases h
  | Compare _ _ _ _ => cases h
  | _ => rfl
def visB (sc : Scope) (x : Str) : Bool :=
  (match sc.names.lookup x with | some .local => true | some .cell => true | some .free => true | _ => false) && !(x == ("__debug__" : Str)) && !(x == ("__classdict__" : Str))
def glB (sc : Scope) (x : Str) : Bool :=
  (match sc.names.lookup x with | some .globalImplicit => true | _ => false) && !(x == ("__debug__" : Str)) && !(x == ("__name__" : Str))
structure Cok (X : Cx) (N : List Str) (sc : Scope) (W : WX) : Prop where
  hN : X.N = N
  nd : N.Nodup
  hs : X.env.scope = sc
  calm : X.calm = true
  tk : Takes X W
section
variable {X : Cx} {N : List Str} {sc : Scope} {W : WX}
theorem vis_of (c : Cok X N sc W) {x : Str} (h : visB sc x = true) : Vis X.env.scope x ∧ (x == ("__debug__" : Str)) = false ∧ (x == ("__classdict__" : Str)) = false := by
  unfold visB at h
  simp only [Bool.and_eq_true, Bool.not_eq_true'] at h
  refine ⟨?_, h.1.2, h.2⟩
  rw [c.hs]
  have h1 := h.1.1
  unfold Vis
  split at h1 <;> first
    | (rename_i z; exact .inl z)
    | (rename_i z; exact .inr (.inl z))
    | (rename_i z; exact .inr (.inr z))
    | cases h1
theorem gl_of (c : Cok X N sc W) {x : Str} (h : glB sc x = true) : Gl X x ∧ (x == ("__debug__" : Str)) = false ∧ x ≠ "__name__" := by
  unfold glB at h
  simp only [Bool.and_eq_true, Bool.not_eq_true'] at h
  refine ⟨?_, h.1.2, fun e => by have := h.2; simp [e] at this⟩
  have h1 := h.1.1
  show X.env.scope.names.lookup x = _
  rw [c.hs]
  split at h1
  · assumption
  · cases h1
end
section
variable {cA : CA} {X : Cx} {N : List Str} {sc : Scope} {W : WX}
theorem s_var {i : Nat} {x : Str} {pos : Pos} (c : Cok X N sc W) (h1 : N[i]? = some x) (h2 : visB sc x = true) :
    PE X (.Name x pos) (TEv cA W fun loc s => match loc[i]? with | some (some y) => .ok y s | _ => .bad) := by
  obtain ⟨v, d, e⟩ := vis_of c h2
  refine pe_weak (pe_var (i := i) (by rw [c.hN]; exact h1) v d e) fun st H Q q => ?_
  obtain ⟨al, G, loc, s, r, S, p⟩ := q
  cases hl : loc[i]? with
  | none => simp only [hl] at p; exact p.elim
  | some o =>
    cases o with
    | none => simp only [hl] at p; exact p.elim
    | some y =>
      simp only [hl] at p
      obtain ⟨v, hv, rv⟩ := S.get i y hl
      exact ⟨v, hv, p.hereV r rv⟩
theorem s_const {e : Expr} {v : V} {t : T} (h : PE X e (tC v)) (ht : ∀ G, Rep cA G t v) : PE X e (TEv cA W fun _ s => .ok (.t t) s) :=
  pe_weak h fun st H Q ⟨al, G, loc, s, r, S, p⟩ => p.hereT r (ht G)
theorem truth_go {al : List Addr} {G H : Hp} {st : L2.St} {s : Store} {y : VV} {v : V} {β : Type} {k : β → Store → List Addr → Hp → Hp → Prop} {f : Option Bool → Out β}
    (r : Rl cA al G s H) (rv : RepV cA al G y v) (p : Po cA W al G st k (f ((rd s y).bind tru))) (hf : ∀ b, Po cA W al G st k (f b) → b ≠ none) :
    ∃ b, TruV X.K v H b ∧ Po cA W al G st k (f (some b)) := by
  cases h : (rd s y).bind tru with
  | none => rw [h] at p; exact absurd rfl (hf _ p)
  | some b =>
    rw [h] at p
    rw [Option.bind_eq_some_iff] at h
    obtain ⟨t, h1, h2⟩ := h
    exact ⟨b, tru_sees r.sub (r.sees rv h1) h2, p⟩
theorem s_truth {a : Expr} {ma : Loc → Store → Out VV} (ha : PE X a (TEv cA W ma)) (h : testPlain a = true) :
    PT X a (TTv cA W fun loc s => (ma loc s).bind fun y s1 => ofO s1 ((rd s1 y).bind tru)) := by
  refine pt_weak (pt_truth ha (test_plain h X.env)) fun st H Q q => ?_
  obtain ⟨al, G, loc, s, r, S, p⟩ := q
  refine TEv.go r S p fun y s1 al1 G1 H1 v x1 r1 S1 rv p1 => ?_
  obtain ⟨b, h1, h2⟩ := truth_go (X := X) (f := fun o => ofO s1 o) r1 rv p1 fun o q => by cases o with | none => exact q.elim | some b => simp
  exact ⟨b, h1, h2.here r1⟩
theorem s_not {a : Expr} {ma : Loc → Store → Out VV} {pos : Pos} (ha : PE X a (TEv cA W ma)) :
    PE X (.UnaryOp .Not a pos) (TEv cA W fun loc s => (ma loc s).bind fun y s1 => match (rd s1 y).bind tru with
      | some b => .ok (.t (.bl (!b))) s1
      | _ => .bad) := by
  refine pe_weak (pe_notT ha) fun st H Q q => ?_
  obtain ⟨al, G, loc, s, r, S, p⟩ := q
  refine TEv.go r S p fun y s1 al1 G1 H1 v x1 r1 S1 rv p1 => ?_
  obtain ⟨b, h1, h2⟩ := truth_go (X := X) (f := fun o => match o with | some b => Out.ok (VV.t (T.bl (!b))) s1 | _ => Out.bad) r1 rv p1 fun o q => by cases o with | none => exact q.elim | some b => simp
  exact ⟨b, h1, h2.hereT r1 repB⟩
theorem s_and {a b : Expr} {rest : List Expr} {ma mb : Loc → Store → Out VV} {pos : Pos} (ha : PE X a (TEv cA W ma)) (hb : PE X (.BoolOp .And (b :: rest) pos) (TEv cA W mb)) :
    PE X (.BoolOp .And (a :: b :: rest) pos) (TEv cA W fun loc s => (ma loc s).bind fun y s1 => match (rd s1 y).bind tru with
      | some true => mb loc s1
      | some false => .ok y s1
      | none => .bad) := by
  refine pe_weak (pe_andT ha hb) fun st H Q q => ?_
  obtain ⟨al, G, loc, s, r, S, p⟩ := q
  refine TEv.go r S p fun y s1 al1 G1 H1 v x1 r1 S1 rv p1 => ?_
  obtain ⟨b, h1, h2⟩ := truth_go (X := X) (f := fun o => match o with | some true => mb loc s1 | some false => Out.ok y s1 | none => Out.bad) r1 rv p1 fun o q => by cases o with | none => exact q.elim | some b => simp
  refine ⟨b, h1, ?_⟩
  cases b with
  | true => exact ⟨al1, G1, loc, s1, r1, S1, h2⟩
  | false => exact h2.hereV r1 rv
theorem s_or {a b : Expr} {rest : List Expr} {ma mb : Loc → Store → Out VV} {pos : Pos} (ha : PE X a (TEv cA W ma)) (hb : PE X (.BoolOp .Or (b :: rest) pos) (TEv cA W mb)) :
    PE X (.BoolOp .Or (a :: b :: rest) pos) (TEv cA W fun loc s => (ma loc s).bind fun y s1 => match (rd s1 y).bind tru with
      | some true => .ok y s1
      | some false => mb loc s1
      | none => .bad) := by
  refine pe_weak (pe_orT ha hb) fun st H Q q => ?_
  obtain ⟨al, G, loc, s, r, S, p⟩ := q
  refine TEv.go r S p fun y s1 al1 G1 H1 v x1 r1 S1 rv p1 => ?_
  obtain ⟨b, h1, h2⟩ := truth_go (X := X) (f := fun o => match o with | some true => Out.ok y s1 | some false => mb loc s1 | none => Out.bad) r1 rv p1 fun o q => by cases o with | none => exact q.elim | some b => simp
  refine ⟨b, h1, ?_⟩
  cases b with
  | true => exact h2.hereV r1 rv
  | false => exact ⟨al1, G1, loc, s1, r1, S1, h2⟩
theorem bind_assoc {α β γ : Type} (x : Out α) (f : α → Store → Out β) (g : β → Store → Out γ) : (x.bind f).bind g = x.bind fun a s => (f a s).bind g := by
  cases x <;> rfl
theorem s_notT {a : Expr} {ma : Loc → Store → Out Bool} {pos : Pos} (ha : PT X a (TTv cA W ma)) :
    PT X (.UnaryOp .Not a pos) (TTv cA W fun loc s => (ma loc s).bind fun b s1 => .ok (!b) s1) := by
  refine pt_weak (pt_not ha) fun st H Q q => ?_
  obtain ⟨al, G, loc, s, r, S, p⟩ := q
  exact TTv.go r S p fun b s1 al1 G1 H1 x1 r1 S1 p1 => p1.here r1
theorem s_andT {a b : Expr} {rest : List Expr} {ma mb : Loc → Store → Out Bool} {pos : Pos} (ha : PT X a (TTv cA W ma)) (hb : PW X (.BoolOp .And (b :: rest) pos) (TTv cA W mb)) :
    PW X (.BoolOp .And (a :: b :: rest) pos) (TTv cA W fun loc s => (ma loc s).bind fun b s1 => if b then mb loc s1 else .ok false s1) := by
  refine ⟨fun whole pins s st H Q I q => (pw_and ha hb).run whole pins s st H Q I ?_⟩
  obtain ⟨al, G, loc, s, r, S, p⟩ := q
  refine TTv.go r S p fun b s1 al1 G1 H1 x1 r1 S1 p1 => ?_
  cases b with
  | true => exact ⟨al1, G1, loc, s1, r1, S1, p1⟩
  | false => exact p1.here r1
theorem s_orT {a b : Expr} {rest : List Expr} {ma mb : Loc → Store → Out Bool} {pos : Pos} (ha : PT X a (TTv cA W ma)) (hb : PW X (.BoolOp .Or (b :: rest) pos) (TTv cA W mb)) :
    PW X (.BoolOp .Or (a :: b :: rest) pos) (TTv cA W fun loc s => (ma loc s).bind fun b s1 => if b then .ok true s1 else mb loc s1) := by
  refine ⟨fun whole pins s st H Q I q => (pw_or ha hb).run whole pins s st H Q I ?_⟩
  obtain ⟨al, G, loc, s, r, S, p⟩ := q
  refine TTv.go r S p fun b s1 al1 G1 H1 x1 r1 S1 p1 => ?_
  cases b with
  | true => exact p1.here r1
  | false => exact ⟨al1, G1, loc, s1, r1, S1, p1⟩
end
end Tw
set_option maxHeartbeats 4000000
namespace Tw
open PySem L2
section
variable {cA : CA} {W : WX} {al : List Addr} {G H : Hp} {st : L2.St} {s : Store} {Q : VK}
theorem Po.hereC {xs : List T} {vs : List V} (h : Po cA W al G st (kV cA Q) (.ok (.c s.length) (s ++ [.lst xs]))) (r : Rl cA al G s H) (q : RepL cA G xs vs) :
    ∀ p, H p = none → Q (.ref p) (upd H p (.lst vs)) := fun p hp => by
  have r' : Rl cA (al ++ [p]) G (s ++ [.lst xs]) (upd H p (.lst vs)) := r.newC hp ⟨r.gnone hp, vs, upd_same, q⟩
  refine h (al ++ [p]) G _ ⟨⟨[p], rfl⟩, Sb.rfl'⟩ r' (.ref p) ⟨p, ?_, rfl⟩
  rw [← r.len]; simp
theorem Po.hereL {m : Bool} {xs : List T} {vs : List V} (h : Po cA W al G st (kV cA Q) (if m then .ok (.c s.length) (s ++ [.lst xs]) else .ok (.t (.lst xs)) s)) (r : Rl cA al G s H) (q : RepL cA G xs vs) :
    ∀ p, H p = none → Q (.ref p) (upd H p (.lst vs)) := by
  cases m with
  | true => exact Po.hereC h r q
  | false => exact (Give.of h r).lst (Bs.gn ⟨r.sub⟩) q
theorem emb_go {ys : List VV} {vs : List V} {β : Type} {k : β → Store → List Addr → Hp → Hp → Prop} {f : List T → Store → Out β}
    (p : Po cA W al G st k ((embLM s ys).bind f)) (r : Rl cA al G s H) (q : RepVs cA al G ys vs) :
    ∃ xs s' G', Sb G G' ∧ Rl cA al G' s' H ∧ RepL cA G' xs vs ∧ Po cA W al G' st k (f xs s') := by
  unfold embLM at p
  cases h : embL s ys with
  | none => rw [h] at p; exact p.elim
  | some z =>
    obtain ⟨xs, s'⟩ := z
    rw [h] at p
    obtain ⟨G', sb, r', q'⟩ := r.embL q h
    exact ⟨xs, s', G', sb, r', q', Po.mono (x := f xs s') p (Xt.ofSb sb)⟩
end
section
variable {cA : CA} {X : Cx} {W : WX}
theorem s_nil : PA X [] (TAv cA W fun _ s => .ok [] s) := by
  refine pa_weak pa_nil fun st H Q q => ?_
  obtain ⟨al, G, loc, s, r, S, p⟩ := q
  exact p.here r [] rfl
theorem s_cons {e : Expr} {es : List Expr} {ma : Loc → Store → Out VV} {ms : Loc → Store → Out (List VV)} (ha : PE X e (TEv cA W ma)) (hs : PA X es (TAv cA W ms)) (h : notStar e = true) :
    PA X (e :: es) (TAv cA W fun loc s => (ma loc s).bind fun y s1 => (ms loc s1).bind fun ys s2 => .ok (y :: ys) s2) := by
  refine pa_weak (pa_cons ha hs (star_cons h)) fun st H Q q => ?_
  obtain ⟨al, G, loc, s, r, S, p⟩ := q
  refine TEv.go r S p fun y s1 al1 G1 H1 v x1 r1 S1 rv p1 => ?_
  refine TAv.go r1 S1 p1 fun z s2 al2 G2 H2 u x2 r2 S2 ru p2 => ?_
  exact p2.here r2 (v :: u) ⟨v, u, rfl, rv.mono x2, ru⟩
theorem s_lst {m : Bool} {es : List Expr} {ms : Loc → Store → Out (List VV)} {pos : Pos} (hs : PA X es (TAv cA W ms)) :
    PE X (.List es pos) (TEv cA W fun loc s => (ms loc s).bind fun ys s1 => (embLM s1 ys).bind fun xs s2 =>
      if xs.length ≤ sizeLine then (if m then .ok (.c s2.length) (s2 ++ [.lst xs]) else .ok (.t (.lst xs)) s2) else .bad) := by
  refine pe_weak (pe_lst hs) fun st H Q q => ?_
  obtain ⟨al, G, loc, s, r, S, p⟩ := q
  refine TAv.go r S p fun ys s1 al1 G1 H1 vs x1 r1 S1 rv p1 => ?_
  obtain ⟨xs, s2, G2, sb, r2, rl, p2⟩ := emb_go p1 r1 rv
  split at p2
  · rename_i hz
    exact ⟨by rw [rl.length]; exact hz, p2.hereL r2 rl⟩
  · exact p2.elim
theorem s_tup {es : List Expr} {ms : Loc → Store → Out (List VV)} {k : Nat} {pos : Pos} (hs : PA X es (TAv cA W ms)) :
    PE X (.Tuple es k pos) (TEv cA W fun loc s => (ms loc s).bind fun ys s1 => (embLM s1 ys).bind fun xs s2 =>
      if xs.length ≤ sizeLine then .ok (.t (.tup xs)) s2 else .bad) := by
  refine pe_weak (pe_tup hs) fun st H Q q => ?_
  obtain ⟨al, G, loc, s, r, S, p⟩ := q
  refine TAv.go r S p fun ys s1 al1 G1 H1 vs x1 r1 S1 rv p1 => ?_
  obtain ⟨xs, s2, G2, sb, r2, rl, p2⟩ := emb_go p1 r1 rv
  split at p2
  · rename_i hz
    exact ⟨by rw [rl.length]; exact hz, (Give.of p2 r2).tup (Bs.gn ⟨r2.sub⟩) rl⟩
  · exact p2.elim
theorem atI_rep {G : Hp} {xs : List T} {vs : List V} {i : Int} {x : T} (r : RepL cA G xs vs) (h : atI xs i = some x) : ∃ v, atI vs i = some v ∧ Rep cA G x v := by
  unfold atI at h ⊢
  rw [Option.bind_eq_some_iff] at h
  obtain ⟨k, h1, h2⟩ := h
  obtain ⟨v, hv, rv⟩ := r.get h2
  refine ⟨v, ?_, rv⟩
  rw [r.length, h1]
  exact hv
theorem s_ix {a i : Expr} {ma mi : Loc → Store → Out VV} {pos : Pos} (ha : PE X a (TEv cA W ma)) (hi : PE X i (TEv cA W mi)) (hp : PlainIx i) (hkl : ∀ a ns, cA.kl a ns → ∀ H, SqL X.K H a (ns.map V.int)) :
    PE X (.Subscript a i pos) (TEv cA W fun loc s => (ma loc s).bind fun y s1 => (mi loc s1).bind fun z s2 => match rd s2 y, rd s2 z with
      | some x, some w => ofT s2 (itemP x w)
      | _, _ => .bad) := by
  have hr : IxR X (fun x y H Q => rIxL X.K x y H Q ∨ rIxT X.K x y H Q) := fun value slice pins s st H x y v u Q I rx ry h hs => by
    rcases h with h | h
    · exact ix_list value slice pins s st H x y v u Q I rx ry h hs
    · exact ix_tup value slice pins s st H x y v u Q I rx ry h hs
  refine pe_weak (pe_ix hr ha hi hp) fun st H Q q => ?_
  obtain ⟨al, G, loc, s, r, S, p⟩ := q
  refine TEv.go r S p fun y s1 al1 G1 H1 v x1 r1 S1 rv p1 => ?_
  refine TEv.go r1 S1 p1 fun z s2 al2 G2 H2 u x2 r2 S2 ru p2 => ?_
  split at p2
  · rename_i tx ty h1 h2
    have sx := r2.sees (rv.mono x2) h1
    have sy := r2.sees ru h2
    unfold itemP at p2
    split at p2
    · rename_i xs i
      cases hz : atI xs i with
      | none => rw [hz] at p2; exact p2.elim
      | some t =>
        rw [hz] at p2
        obtain ⟨b, vs, rfl, hb, rb⟩ := sx
        obtain ⟨w, hw, rw'⟩ := atI_rep rb hz
        exact .inl ⟨b, vs, i, w, rfl, seesI sy, .of hb, hw, p2.hereT r2 rw'⟩
    · rename_i xs i
      cases hz : atI xs i with
      | none => rw [hz] at p2; exact p2.elim
      | some t =>
        rw [hz] at p2
        obtain ⟨b, vs, rfl, hb, gb, rb⟩ := seesT r2.sub sx
        obtain ⟨w, hw, rw'⟩ := atI_rep rb hz
        exact .inr ⟨b, vs, i, w, rfl, seesI sy, .of hb, hw, p2.hereT r2 rw'⟩
    · rename_i ns i
      cases hz : atI ns i with
      | none => rw [hz] at p2; exact p2.elim
      | some j =>
        rw [hz] at p2
        obtain ⟨b, rfl, sq⟩ := sq_scr hkl r2.sub sx
        refine .inl ⟨b, _, i, .int j, rfl, seesI sy, sq, ?_, p2.hereT r2 repI⟩
        unfold atI at hz ⊢
        rw [List.length_map]
        rw [Option.bind_eq_some_iff] at hz ⊢
        obtain ⟨k, h1, h2⟩ := hz
        exact ⟨k, h1, by rw [List.getElem?_map, h2]; rfl⟩
    · exact p2.elim
  · exact p2.elim
theorem repL_ints {G : Hp} : ∀ ns : List Int, RepL cA G (ns.map T.int) (ns.map V.int)
  | [] => by unfold RepL; rfl
  | i :: ns => by
    unfold RepL
    exact ⟨.int i, _, rfl, by unfold Rep; rfl, repL_ints ns⟩
theorem cut_rep {G : Hp} {xs : List T} {vs : List V} {lo hi : Option Int} (r : RepL cA G xs vs) : RepL cA G (cutT xs lo hi) (cutV vs lo hi) := by
  unfold cutT cutV
  rw [r.length]
  exact (r.drop _).take _
def TOv (cA : CA) (W : WX) (m : Loc → Store → Out (Option Int)) : TO := fun st H Q =>
  ∃ al G loc s, Rl cA al G s H ∧ RepS cA al G loc st ∧ Po cA W al G st (fun o _ _ _ H' => Q o H') (m loc s)
theorem po_weak {e : Option Expr} {t t' : TO} (h : PO X e t) (w : ∀ st H Q, t' st H Q → t st H Q) : PO X e t' :=
  ⟨fun pins s st H Q I q => h.run pins s st H Q I (w st H Q q)⟩
theorem s_omit : PO X none (TOv cA W fun _ s => .ok none s) := by
  refine po_weak po_none fun st H Q q => ?_
  obtain ⟨al, G, loc, s, r, S, p⟩ := q
  exact p.here r
theorem s_part {e : Expr} {m : Loc → Store → Out VV} (h : PE X e (TEv cA W m)) : PO X (some e) (TOv cA W fun loc s => (m loc s).bind fun y s1 => optI s1 y) := by
  refine po_weak (po_some h) fun st H Q q => ?_
  obtain ⟨al, G, loc, s, r, S, p⟩ := q
  refine TEv.go r S p fun y s1 al1 G1 H1 v x1 r1 S1 rv p1 => ?_
  unfold optI at p1
  split at p1
  · rename_i i h1
    exact ⟨i, seesI (r1.sees rv h1), p1.here r1⟩
  · exact p1.elim
theorem TOv.go {al : List Addr} {G H : Hp} {st : L2.St} {β : Type} {loc : Loc} {s : Store} {m : Loc → Store → Out (Option Int)} {f : Option Int → Store → Out β} {k : β → Store → List Addr → Hp → Hp → Prop} {Q' : Option Int → Hp → Prop}
    (r : Rl cA al G s H) (S : RepS cA al G loc st) (h : Po cA W al G st k ((m loc s).bind f))
    (c : ∀ b s1 al1 G1 H1, Xt al G al1 G1 → Rl cA al1 G1 s1 H1 → RepS cA al1 G1 loc st → Po cA W al1 G1 st k (f b s1) → Q' b H1) : TOv cA W m st H Q' :=
  ⟨al, G, loc, s, r, S, h.bind.imp fun y s1 al1 G1 H1 x r1 p => c y s1 al1 G1 H1 x r1 (S.mono x) p⟩
theorem s_sl {a : Expr} {lo hi : Option Expr} {ma : Loc → Store → Out VV} {ml mh : Loc → Store → Out (Option Int)} {p2 pos : Pos} (ha : PE X a (TEv cA W ma)) (hl : PO X lo (TOv cA W ml)) (hh : PO X hi (TOv cA W mh)) (hkl : ∀ a ns, cA.kl a ns → ∀ H, SqL X.K H a (ns.map V.int)) :
    PE X (.Subscript a (.Slice lo hi none p2) pos) (TEv cA W fun loc s => (ma loc s).bind fun y s1 => (ml loc s1).bind fun i s2 => (mh loc s2).bind fun j s3 => slV y i j s3) := by
  refine pe_weak (pe_slice (SlR.or sl_list sl_tupA) ha hl hh) fun st H Q q => ?_
  obtain ⟨al, G, loc, s, r, S, p⟩ := q
  refine TEv.go r S p fun y s1 al1 G1 H1 v x1 r1 S1 rv p1 => ?_
  refine TOv.go r1 S1 p1 fun i s2 al2 G2 H2 x2 r2 S2 p2 => ?_
  refine TOv.go r2 S2 p2 fun j s3 al3 G3 H3 x3 r3 S3 p3 => ?_
  unfold slV at p3
  split at p3
  · rename_i xs h1
    obtain ⟨b, vs, rfl, hb, rb⟩ := r3.sees (rv.mono (x2.trans x3)) h1
    exact .inl ⟨b, vs, rfl, .of hb, (Give.of p3 r3).lst (Bs.gn ⟨r3.sub⟩) (cut_rep rb)⟩
  · rename_i xs h1
    obtain ⟨b, vs, rfl, hb, gb, rb⟩ := seesT r3.sub (r3.sees (rv.mono (x2.trans x3)) h1)
    refine .inr ⟨b, vs, rfl, .of hb, fun z => ?_, fun z => (Give.of p3 r3).tup (Bs.gn ⟨r3.sub⟩) (cut_rep rb)⟩
    have e : cutT xs i j = xs := by
      rw [rb.length] at z
      unfold cutT
      rw [z.1, z.2]; simp
    rw [e] at p3
    exact p3.hereT r3 (by unfold Rep; exact ⟨b, vs, rfl, gb, rb⟩)
  · rename_i ns h1
    obtain ⟨b, rfl, sq⟩ := sq_scr hkl r3.sub (r3.sees (rv.mono (x2.trans x3)) h1)
    exact .inl ⟨b, _, rfl, sq, (Give.of p3 r3).lst (Bs.gn ⟨r3.sub⟩) (cut_rep (repL_ints ns))⟩
  · exact p3.elim
end
end Tw
set_option maxHeartbeats 4000000
namespace Tw
open PySem L2
structure Nms where
  /-- the global name of a function, of a class -/
  fnm : Nat → Option Str
  cnm : Nat → Option Str
  gint : Str → Option Int
  gcd : Blt → Bool
  /-- whether no repr is under way around -/
  gd : Bool
  /-- calls by keywords alone: the def, the names as written, for each parameter the place of its value -/
  kws : Nat → List Str → List Nat → Bool
def bltNm : Blt → Str
  | .len => "len" | .abs => "abs" | .max => "max" | .min => "min" | .int => "int" | .bool => "bool" | .str => "str" | .repr => "repr" | .divmod => "divmod"
  | .sum => "sum" | .any => "any" | .all => "all" | .list => "list" | .tuple => "tuple" | .gcd => "gcd" | .lcm => "lcm"
def bnames : List Str := ["len", "abs", "max", "min", "int", "bool", "str", "repr", "divmod", "sum", "any", "all", "list", "tuple", "isinstance", "range", "zip", "enumerate", "dict"]
def PoC (cA : CA) (al : List Addr) (G : Hp) (Q : VK) (E : XK) : Out VV → Prop
  | .ok y s' => ∀ al' G' H' v, Xt al G al' G' → Rl cA al' G' s' H' → RepV cA al' G' y v → Q v H'
  | .ex e s' => ∀ al' G' H' cl d, Xt al G al' G' → Rl cA al' G' s' H' → RepX cA G' H' e cl d → E cl d H'
  | .bad => False
def spF (cA : CA) (cf : CF) (f : Nat) (np : Nat) : Sp := fun vs H Q E =>
  ∃ al G args s, Rl cA al G s H ∧ RepVs cA al G args vs ∧ vs.length = np ∧ PoC cA al G Q E (cf f args s)
theorem PoC.of {cA : CA} {W : WX} {al : List Addr} {G : Hp} {st : L2.St} {Q : VK} {x : Out VV} (h : Po cA W al G st (kV cA Q) x) : PoC cA al G Q (fun cl d H => W cl d st H) x := by
  cases x with
  | ok y s => exact fun al' G' H' v e r q => h al' G' H' e r v q
  | ex u s => exact fun al' G' H' cl d e r q => h al' G' H' cl d e r q
  | bad => exact h
structure FnG (P : Program) (w : World) (K : PySem.W.Frag) (mg : Str → Option Value) (base : Heap) (g : Bool) (k : Nat) (f : Addr) (fd : FuncData) (ps : List Str) (sp : Sp) : Prop where
  len : ∀ xs H Q E, sp xs H Q E → xs.length = ps.length
  run : ∀ (A : Around) (outer : List Env) (s : Shared) (H : Hp) (args : Args) (us : List Value) (xs : List V) (Q : VK) (E : XK), Room k A → (g = true → A.guards = some []) →
    Env0 P w K mg base A outer s H → BindsTo s fd args (ps.zip us) → Vals xs us → sp xs H Q E → codeAny (model P w) A (.call (.ref f) args) (L2.CR (L2.CX P w) outer P w H s Q E) s
theorem FnG.of {P : Program} {w : World} {K : PySem.W.Frag} {mg : Str → Option Value} {base : Heap} {g : Bool} {k : Nat} {f : Addr} {fd : FuncData} {ps : List Str} {sp : Sp} (F : FnOk P w K mg base (L2.CX P w) k f fd ps sp) : FnG P w K mg base g k f fd ps sp :=
  ⟨F.len, fun A outer s H args us xs Q E hr _ => F.run A outer s H args us xs Q E hr⟩
structure OwnK (K : PySem.W.Frag) (C : Addr) : Prop where
  cls : Cls K C
  first : PySem.W.selfFirst K C = true
  both : ∀ nm, nm ∈ ["add", "sub", "mul"] → ∀ g : Addr, PySem.W.findIn K (.ref C) (dunderR nm) = some (some (.ref g)) → ∃ g : Addr, PySem.W.findIn K (.ref C) (PySem.dunder nm) = some (some (.ref g))
  ra : ∀ nm, nm ∈ ["add", "sub", "mul"] → ∃ rc, PySem.W.findIn K (.ref C) (dunderR nm) = some rc ∧ (rc = none ∨ ∃ g : Addr, rc = some (.ref g))
  ia : ∀ nm, nm ∈ ["add", "sub", "mul"] → ∃ fo ro, PySem.W.findIn K (.type "int") (PySem.dunder nm) = some fo ∧ PySem.W.findIn K (.type "int") (dunderR nm) = some ro
  sub : ∀ T, T ∈ ["int", "list", "tuple", "str", "bool", "NoneType"] → PySem.W.subIn K (.type T) (.ref C) = some false
  int : PySem.W.mroIn K C (.type "int") = some false
  ne : PySem.W.findIn K (.ref C) "__ne__" = some (some (.builtin "object.__ne__"))
  obj : PySem.W.mroIn K C (.type "object") = some true
def PropAt (K : PySem.W.Frag) (C : Addr) (f : Str) (g : Addr) : Prop := ∃ p, PropOf K C f p g
structure Pf (P : Program) (w : World) (K : PySem.W.Frag) (mg : Str → Option Value) (base : Heap) (A : Around) (D : Defs) (M : Nms) (cA : CA) (fA : Nat → Addr) (fdA : Nat → FuncData) (psA : Nat → List Str) (k : Nat) (cf : CF) : Prop where
  room : Room (k + 1) A
  bn : ∀ x, x ∈ bnames → mg x = none
  gi : ∀ x i, M.gint x = some i → ∃ t, mg x = some (.int i t)
  gg : ∀ b, isMath b = true → M.gcd b = true → mg (bltNm b) = some (bltV b)
  fld : ∀ c f, D.fld c f = true → Cls K (cA c) ∧ NoAttr K (cA c) f
  fn : ∀ f d, D.fn f = some d → FnG P w K mg base M.gd k (fA f) (fdA f) (psA f) (spF cA cf f d.np)
  ps : ∀ f d, D.fn f = some d → (psA f).length = d.np
  bd : ∀ f d, D.fn f = some d → Binds K (fdA f) (psA f) []
  bdd : ∀ f d n, D.fn f = some d → 0 < n → n ≤ (D.dfl f).length → ∃ ds vs, Binds K (fdA f) (psA f) ds ∧ Vals vs ds ∧ (∀ G, RepL cA G ((D.dfl f).drop ((D.dfl f).length - n)) vs)
  gf : ∀ f x, M.fnm f = some x → mg x = some (.ref (fA f)) ∧ PySem.W.keepIn K (.ref (fA f)) = true
  gc : ∀ c x f, M.cnm c = some x → D.ini c = some f → mg x = some (.ref (cA c)) ∧ Mk K (cA c) (fA f)
  gcc : ∀ c x, M.cnm c = some x → mg x = some (.ref (cA c))
  kit : ∀ c t, D.kit c t = true → PySem.W.kitOne K (tyT cA t) (crU cA c) = some (isiP D.sub c t)
  ity : ∀ c, D.cls c = true → InsTy K (cA c)
  mt : ∀ c m f, D.om c m = some f → Cls K (cA c) ∧ Meth K (cA c) m (fA f)
  gd : M.gd = true → A.guards = some []
  ow : ∀ c, D.own c = true → OwnK K (cA c)
  oe : ∀ c, D.om c Str.empty = none
  pr : ∀ c m f, D.pr c m = some f → Cls K (cA c) ∧ PropAt K (cA c) m (fA f)
  kb : ∀ f d ks pm, D.fn f = some d → M.kws f ks pm = true → pm.length = d.np ∧ ∀ (s : Shared) (ws zs : List Value), K.In s.heap → ws.length = ks.length → pick pm ws = some zs → BindsTo s (fdA f) ⟨[], ks.zip ws⟩ ((psA f).zip zs)
  kl : ∀ a ns, cA.kl a ns → ∀ H, SqL K H a (ns.map V.int)
theorem isiOk_iff {kit : CR → T → Bool} {cls : Nat → Bool} {cs : List CR} {t : T} : isiOk kit cls cs t = true ↔ (cs.all fun c => kit c t) = true ∧ ((∀ x, t ≠ .ty x) ∧ ∀ x, t ≠ .scr x) ∧ ∀ c fs, t = .ins c fs → cls c = true := by
  unfold isiOk
  rw [Bool.and_eq_true]
  refine and_congr Iff.rfl ?_
  cases t with
  | ty x => simp
  | scr x => simp
  | ins c fs => simp
  | _ => simp
section
variable {cA : CA} {X : Cx} {N : List Str} {sc : Scope} {W : WX}
theorem s_ite {c a b : Expr} {mc : Loc → Store → Out Bool} {ma mb : Loc → Store → Out VV} {pos : Pos} (hc : PT X c (TTv cA W mc)) (ha : PE X a (TEv cA W ma)) (hb : PE X b (TEv cA W mb)) :
    PE X (.IfExp c a b pos) (TEv cA W fun loc s => (mc loc s).bind fun t s1 => if t then ma loc s1 else mb loc s1) := by
  refine pe_weak (pe_ifExp hc ha hb) fun st H Q q => ?_
  obtain ⟨al, G, loc, s, r, S, p⟩ := q
  refine TTv.go r S p fun t s1 al1 G1 H1 x1 r1 S1 p1 => ?_
  cases t with
  | true => exact ⟨al1, G1, loc, s1, r1, S1, p1⟩
  | false => exact ⟨al1, G1, loc, s1, r1, S1, p1⟩
variable {D : Defs} {M : Nms} {fA : Nat → Addr} {fdA : Nat → FuncData} {psA : Nat → List Str} {k : Nat} {cf : CF}
abbrev PfX (X : Cx) (D : Defs) (M : Nms) (cA : CA) (fA : Nat → Addr) (fdA : Nat → FuncData) (psA : Nat → List Str) (k : Nat) (cf : CF) : Prop := Pf X.prog X.w X.K X.mg X.base X.A D M cA fA fdA psA k cf
theorem s_att {a : Expr} {ma : Loc → Store → Out VV} {f : Str} {pos : Pos} (F : PfX X D M cA fA fdA psA k cf) (ha : PE X a (TEv cA W ma)) (hb : notSuper a = true) :
    PE X (.Attribute a f pos) (TEv cA W fun loc s => (ma loc s).bind fun y s1 => attV D f y s1) := by
  refine pe_weak (pe_fld ha (base_plain hb)) fun st H Q q => ?_
  obtain ⟨al, G, loc, s, r, S, p⟩ := q
  refine TEv.go r S p fun y s1 al1 G1 H1 v x1 r1 S1 rv p1 => ?_
  unfold attV at p1
  split at p1
  · rename_i c fs h1
    split at p1
    · rename_i hf
      obtain ⟨b, dx, gs, rfl, hb, rb⟩ := r1.sees rv h1
      obtain ⟨hc, hn⟩ := F.fld c f hf
      cases hl : fs.lookup f with
      | none => rw [hl] at p1; exact p1.elim
      | some t =>
        rw [hl] at p1
        obtain ⟨w, hw, rw'⟩ := rb.lookup hl
        exact ⟨b, _, dx, gs, w, rfl, hb, hc, hn, hw, p1.hereT r1 rw'⟩
    · exact p1.elim
  · exact p1.elim
theorem s_gint (F : PfX X D M cA fA fdA psA k cf) (c : Cok X N sc W) {x : Str} {i : Int} {pos : Pos} (h : M.gint x = some i) (hg : glB sc x = true) : PE X (.Name x pos) (TEv cA W fun _ s => .ok (.t (.int i)) s) := by
  obtain ⟨g, d, n⟩ := gl_of c hg
  obtain ⟨t, e⟩ := F.gi x i h
  exact s_const (pe_glob (v := .int i) g e ⟨t, rfl⟩ d) fun G => repI
theorem boot_blt (b : Blt) (h : isMath b = false) : bootBuiltins (bltNm b) = some (bltV b) := by
  cases b <;> first | cases h; done | decide +kernel
theorem bn_blt (b : Blt) (h : isMath b = false) : bltNm b ∈ bnames := by
  cases b <;> first | cases h; done | decide +kernel
theorem pe_blt (F : PfX X D M cA fA fdA psA k cf) (c : Cok X N sc W) {b : Blt} {r : List V → Hp → VK → Prop} {e : Expr} {es : List Expr} {t : TA} {p pos : Pos} (hr : CallR X (bltV b) r) (hg : glB sc (bltNm b) = true) (hgc : isMath b = true → M.gcd b = true)
    (ha : PA X (e :: es) t) (hs : (e :: es).all notStar = true) : PE X (.Call (.Name (bltNm b) p) (e :: es) [] pos) (tCB r t) := by
  obtain ⟨g, d, n⟩ := gl_of c hg
  rw [List.all_cons, Bool.and_eq_true] at hs
  have st := star_cons (env := X.env) (es := es) hs.1
  have pl := plain_back (env := X.env) (pos := pos) hs.2
  by_cases hb : isMath b = true
  · have hm := F.gg b hb (hgc hb)
    cases b <;> first
      | cases hb; done
      | exact pe_callBfun hr g hm ha d st pl
  · have hb : isMath b = false := by simpa using hb
    have h1 := F.bn _ (bn_blt b hb)
    have h2 := boot_blt b hb
    cases b <;> first
      | cases hb; done
      | exact pe_callB hr g h1 h2 ha n d st pl
      | exact pe_callTy hr g h1 h2 ha n d st pl
theorem s_blt (F : PfX X D M cA fA fdA psA k cf) (c : Cok X N sc W) {b : Blt} {e : Expr} {es : List Expr} {ms : Loc → Store → Out (List VV)} {p pos : Pos} (hg : glB sc (bltNm b) = true) (hgc : isMath b = true → M.gcd b = true)
    (ha : PA X (e :: es) (TAv cA W ms)) (hs : (e :: es).all notStar = true) :
    PE X (.Call (.Name (bltNm b) p) (e :: es) [] pos) (TEv cA W fun loc s => (ms loc s).bind fun ys s1 => match ys.mapM (rd s1) with
      | some xs => ofT s1 (bltP b xs)
      | none => .bad) := by
  refine pe_weak (pe_blt F c (call_blt (cA := cA) c.calm F.kl b) hg hgc ha hs) fun st H Q q => ?_
  obtain ⟨al, G, loc, s, r, S, pp⟩ := q
  refine TAv.go r S pp fun ys s1 al1 G1 H1 vs x1 r1 S1 rv p1 => ?_
  split at p1
  · rename_i xs h1
    cases hz : bltP b xs with
    | none => rw [hz] at p1; exact p1.elim
    | some t =>
      rw [hz] at p1
      exact ⟨G1, xs, t, ⟨r1.sub⟩, seesL_of r1 rv h1, hz, Give.of p1 r1⟩
  · exact p1.elim
theorem s_fmt {a : Expr} {ma : Loc → Store → Out VV} {pos : Pos} (ha : PE X a (TEv cA W ma)) :
    PE X (.FormattedValue a (-1) none pos) (TEv cA W fun loc s => (ma loc s).bind fun y s1 => match rd s1 y with
      | some (.str x) => if x.length ≤ sizeLine then .ok (.t (.str x)) s1 else .bad
      | some (.int i) => if i.natAbs.log2 < 1920 then .ok (.t (.str (toString i))) s1 else .bad
      | _ => .bad) := by
  refine pe_weak (pe_fmt ha) fun st H Q q => ?_
  obtain ⟨al, G, loc, s, r, S, p⟩ := q
  refine TEv.go r S p fun y s1 al1 G1 H1 v x1 r1 S1 rv p1 => ?_
  split at p1
  · rename_i x h1
    split at p1
    · rename_i hz
      exact .inl ⟨x, seesS (r1.sees rv h1), hz, p1.hereT r1 repS⟩
    · exact p1.elim
  · rename_i i h1
    split at p1
    · rename_i hz
      exact .inr ⟨i, seesI (r1.sees rv h1), hz, p1.hereT r1 repS⟩
    · exact p1.elim
  · exact p1.elim
def TFv (cA : CA) (W : WX) (m : Loc → Store → Str → Out Str) : Str → L2.St → Hp → (Str → Hp → Prop) → Prop := fun acc st H Q =>
  ∃ al G loc s, Rl cA al G s H ∧ RepS cA al G loc st ∧ Po cA W al G st (fun x _ _ _ H' => Q x H') (m loc s acc)
def PFs (cA : CA) (W : WX) (X : Cx) (es : List Expr) (m : Loc → Store → Str → Out Str) : Prop :=
  ∃ ts, PJ X es ts ∧ ∀ acc st H Q, TFv cA W m acc st H Q → tJs ts acc st H Q
theorem f_nil : PFs cA W X [] (fun _ s acc => .ok acc s) := by
  refine ⟨[], .nil, fun acc st H Q q => ?_⟩
  obtain ⟨al, G, loc, s, r, S, p⟩ := q
  exact p.here r
theorem f_cons {e : Expr} {es : List Expr} {ma : Loc → Store → Out VV} {ms : Loc → Store → Str → Out Str} (ha : PE X e (TEv cA W ma)) (hs : PFs cA W X es ms) :
    PFs cA W X (e :: es) (fun loc s acc => (ma loc s).bind fun y s1 => match rd s1 y with
      | some (.str x) => if (acc ++ x).length ≤ sizeLine then ms loc s1 (acc ++ x) else .bad
      | _ => .bad) := by
  obtain ⟨ts, h1, h2⟩ := hs
  refine ⟨_ :: ts, .cons ha h1, fun acc st H Q q => ?_⟩
  obtain ⟨al, G, loc, s, r, S, p⟩ := q
  show TEv cA W ma st H _
  refine TEv.go r S p fun y s1 al1 G1 H1 v x1 r1 S1 rv p1 => ?_
  split at p1
  · rename_i x h3
    split at p1
    · rename_i hz
      refine ⟨x, seesS (r1.sees rv h3), hz, h2 _ st H1 Q ⟨al1, G1, loc, s1, r1, S1, p1⟩⟩
    · exact p1.elim
  · exact p1.elim
theorem s_fst {a b : Expr} {es : List Expr} {ms : Loc → Store → Str → Out Str} {pos : Pos} (h : PFs cA W X (a :: b :: es) ms) :
    PE X (.JoinedStr (a :: b :: es) pos) (TEv cA W fun loc s => (ms loc s Str.empty).bind fun x s1 => .ok (.t (.str x)) s1) := by
  obtain ⟨ts, h1, h2⟩ := h
  refine pe_weak (pe_joined h1) fun st H Q q => ?_
  obtain ⟨al, G, loc, s, rl, S, p⟩ := q
  exact h2 _ st H _ ⟨al, G, loc, s, rl, S, p.bind.imp fun x s1 al1 G1 H1 x1 r1 q => q.hereT r1 repS⟩
theorem s_cr (F : PfX X D M cA fA fdA psA k cf) (c : Cok X N sc W) {r : CR} {x : Str} {pos : Pos} (hg : glB sc x = true)
    (h : match r with | .ty n => x ∈ bnames ∧ bootBuiltins x = some (.type n) | .cl d => M.cnm d = some x) : PE X (.Name x pos) (tC (crV cA r)) := by
  obtain ⟨g, d, n⟩ := gl_of c hg
  cases r with
  | ty T => exact pe_bltn g (F.bn x h.1) h.2 rfl n d
  | cl C => exact pe_glob g (F.gcc C x h) rfl d
theorem paired_cr : ∀ rs : List CR, Paired ClsV (rs.map (crV cA)) (rs.map (crU cA))
  | [] => .nil
  | r :: rs => .cons (crV_cls r) (paired_cr rs)
theorem any_kit (F : PfX X D M cA fA fdA psA k cf) {t : T} : ∀ {cs : List CR}, (cs.all fun c => D.kit c t) = true →
    PySem.W.kitAny X.K (tyT cA t) (cs.map (crU cA)) = some (cs.any fun c => isiP D.sub c t)
  | [], _ => rfl
  | c :: cs, h => by
    rw [List.all_cons, Bool.and_eq_true] at h
    show (match PySem.W.kitOne X.K (tyT cA t) (crU cA c) with | some true => some true | some false => PySem.W.kitAny X.K (tyT cA t) (cs.map (crU cA)) | none => none) = _
    rw [F.kit c t h.1, List.any_cons]
    cases isiP D.sub c t with
    | true => rfl
    | false => exact any_kit F h.2
theorem s_isi1 (F : PfX X D M cA fA fdA psA k cf) (c : Cok X N sc W) {a e : Expr} {ma : Loc → Store → Out VV} {r : CR} {p pos : Pos} (ha : PE X a (TEv cA W ma)) (hg : glB sc "isinstance" = true) (he : PE X e (tC (crV cA r)))
    (hs : [a, e].all notStar = true) :
    PE X (.Call (.Name "isinstance" p) [a, e] [] pos) (TEv cA W fun loc s => (ma loc s).bind fun y s1 => match rd s1 y with
      | some x => if isiOk D.kit D.cls [r] x then .ok (.t (.bl ([r].any fun c => isiP D.sub c x))) s1 else .bad
      | _ => .bad) := by
  obtain ⟨g, d, n⟩ := gl_of c hg
  rw [List.all_cons, Bool.and_eq_true] at hs
  have pa : PA X [a, e] (tCons (TEv cA W ma) (tCons (tC (crV cA r)) tNil)) := pa_cons ha (pa_cons he pa_nil (star_cons (by have := hs.2; simpa using this))) (star_cons hs.1)
  refine pe_weak (pe_callB call_isi g (F.bn _ (by decide +kernel)) PyProof.Rows.boot_isinstance pa n d (star_cons hs.1) (plain_back hs.2)) fun st H Q q => ?_
  obtain ⟨al, G, loc, s, r', S, pp⟩ := q
  refine TEv.go r' S pp fun y s1 al1 G1 H1 v x1 r1 S1 rv p1 => ?_
  split at p1
  · rename_i x h1
    split at p1
    · rename_i hk
      obtain ⟨hk1, hk2, hk3⟩ := isiOk_iff.mp hk
      have sv := r1.sees rv h1
      refine ⟨v, crV cA r, tyT cA x, crU cA r, isiP D.sub r x, rfl, crV_cls r, tyX_of r1.sub sv hk2 (fun C fs e => F.ity C (hk3 C fs e)), F.kit r x (by simpa using hk1), ?_⟩
      have e0 : ([r].any fun c => isiP D.sub c x) = isiP D.sub r x := by simp
      rw [e0] at p1
      exact p1.hereT r1 repB
    · exact p1.elim
  · exact p1.elim
theorem s_isiT (F : PfX X D M cA fA fdA psA k cf) (c : Cok X N sc W) {a : Expr} {es : List Expr} {ma : Loc → Store → Out VV} {rs : List CR} {p pos pt : Pos} {kt : Nat} (ha : PE X a (TEv cA W ma)) (hg : glB sc "isinstance" = true)
    (hes : ∃ t, PA X es t ∧ ∀ st H (Q : List V → Hp → Prop), Q (rs.map (crV cA)) H → t st H Q) (hl : rs.length ≤ 100) (hs : [a].all notStar = true) :
    PE X (.Call (.Name "isinstance" p) [a, .Tuple es kt pt] [] pos) (TEv cA W fun loc s => (ma loc s).bind fun y s1 => match rd s1 y with
      | some x => if isiOk D.kit D.cls rs x then .ok (.t (.bl (rs.any fun c => isiP D.sub c x))) s1 else .bad
      | _ => .bad) := by
  obtain ⟨g, d, n⟩ := gl_of c hg
  obtain ⟨t, pe, ht⟩ := hes
  rw [List.all_cons, Bool.and_eq_true] at hs
  have pa : PA X [a, .Tuple es kt pt] (tCons (TEv cA W ma) (tCons (tTup t) tNil)) := pa_cons ha (pa_cons (pe_tup pe) pa_nil (star_cons rfl)) (star_cons hs.1)
  refine pe_weak (pe_callB call_isiT g (F.bn _ (by decide +kernel)) PyProof.Rows.boot_isinstance pa n d (star_cons hs.1) (plain_back rfl)) fun st H Q q => ?_
  obtain ⟨al, G, loc, s, r', S, pp⟩ := q
  refine TEv.go r' S pp fun y s1 al1 G1 H1 v x1 r1 S1 rv p1 => ?_
  refine ht st H1 _ ⟨?_, fun q hq => ?_⟩
  · rw [List.length_map]; exact Nat.le_trans hl (by decide)
  split at p1
  · rename_i x h1
    split at p1
    · rename_i hk
      obtain ⟨hk1, hk2, hk3⟩ := isiOk_iff.mp hk
      have r2 := r1.newX (o := .tup (rs.map (crV cA))) hq
      have sv := r2.sees rv h1
      have pc : Paired ClsV (rs.map (crV cA)) (rs.map (crU cA)) := paired_cr rs
      exact ⟨v, q, rs.map (crV cA), tyT cA x, rs.map (crU cA), rs.any fun c => isiP D.sub c x, rfl, upd_same, pc, tyX_of r2.sub sv hk2 (fun C fs e => F.ity C (hk3 C fs e)), any_kit F hk1, p1.hereT r2 repB⟩
    · exact p1.elim
  · exact p1.elim
end
end Tw
set_option maxHeartbeats 4000000
namespace Tw
open PySem L2
section
variable {cA : CA} {al l : List Addr} {G H : Hp} {s : Store}
theorem Rl.front (r : Rl cA (al ++ l) G s H) : Rl cA al G (s.take al.length) H := by
  have hl := r.len
  rw [List.length_append] at hl
  refine ⟨r.sub, ?_, (List.nodup_append.mp r.nd).1, fun k a c ha hc => ?_⟩
  · rw [List.length_take]; omega
  · have hk := (List.getElem?_eq_some_iff.mp ha).1
    rw [List.getElem?_take_of_lt hk] at hc
    exact r.cell k a c (by rw [List.getElem?_append_left hk]; exact ha) hc
theorem Rl.front1 (r : Rl cA (al ++ l) G s H) {k : Nat} {a : Addr} {c : Cell} (hk : al.length ≤ k) (ha : (al ++ l)[k]? = some a) (hc : s[k]? = some c) : Rl cA (al ++ [a]) G (s.take al.length ++ [c]) H := by
  have hl := r.len
  rw [List.length_append] at hl
  have f := r.front
  have htl : (s.take al.length).length = al.length := by rw [List.length_take]; omega
  refine ⟨r.sub, by rw [List.length_append, List.length_append, htl]; rfl, ?_, fun j b d hb hd => ?_⟩
  · rw [List.nodup_append]
    refine ⟨f.nd, by simp, fun x hx y hy => ?_⟩
    simp at hy; subst hy
    rw [List.getElem?_append_right hk] at ha
    have hm := List.mem_of_getElem? ha
    exact (List.nodup_append.mp r.nd).2.2 x hx y hm
  · by_cases hj : j < al.length
    · rw [List.getElem?_append_left hj] at hb
      rw [List.getElem?_append_left (by rw [htl]; exact hj)] at hd
      exact f.cell j b d hb hd
    · have hj' : j = al.length := by
        have := (List.getElem?_eq_some_iff.mp hb).1
        simp at this; omega
      subst hj'
      simp at hb
      rw [List.getElem?_append_right (by omega), htl] at hd
      simp at hd
      subst hb; subst hd
      exact r.cell k a c ha hc
theorem finT_ok {y' : VV} {v : V} {s' : Store} {n k : Nat} (hn : n = al.length) (r : Rl cA (al ++ l) G s H) (e : finT n k s = .ok y' s') (q : RepV cA (al ++ l) G (.c k) v) (hk : ¬ k < n) :
    ∃ G', Sb G G' ∧ Rl cA al G' s' H ∧ RepV cA al G' y' v := by
  subst hn
  unfold finT at e
  obtain ⟨a, ha, ev⟩ := q
  cases hc : s[k]? with
  | none => rw [hc] at e; cases e
  | some c =>
    rw [hc] at e
    cases e
    obtain ⟨G', sb, r', q'⟩ := r.freeze ha hc
    have z := r'.front
    rw [List.take_set_of_le (by omega)] at z
    subst ev
    exact ⟨G', sb, z, q'⟩
theorem fin_ok {y y' : VV} {v : V} {s' : Store} {n : Nat} (hn : n = al.length) (r : Rl cA (al ++ l) G s H) (e : fin n y s = .ok y' s') (q : RepV cA (al ++ l) G y v) :
    ∃ al', Xt al G al' G ∧ Rl cA al' G s' H ∧ RepV cA al' G y' v := by
  subst hn
  unfold fin at e
  cases y with
  | t x =>
    cases e
    exact ⟨al, Xt.rfl', r.front, q⟩
  | c k =>
    obtain ⟨a, ha, ev⟩ := q
    simp only at e
    split at e
    · rename_i hk
      cases e
      rw [List.getElem?_append_left hk] at ha
      exact ⟨al, Xt.rfl', r.front, a, ha, ev⟩
    · rename_i hk
      split at e
      · rename_i x hc
        cases e
        subst ev
        exact ⟨al, Xt.rfl', r.front, (r.cell k a _ ha hc).1⟩
      · rename_i c hc
        cases e
        exact ⟨al ++ [a], ⟨⟨[a], rfl⟩, Sb.rfl'⟩, r.front1 (by omega) ha hc, a, by simp, ev⟩
      · cases e
theorem RepVs.append : ∀ {xs ys : List VV} {vs us : List V}, RepVs cA al G xs vs → RepVs cA al G ys us → RepVs cA al G (xs ++ ys) (vs ++ us)
  | [], _, vs, _, r, q => by have e : vs = [] := r; subst e; exact q
  | x :: xs, ys, _, us, ⟨v, rr, e, h1, h2⟩, q => by
    subst e
    exact ⟨v, rr ++ us, rfl, h1, RepVs.append h2 q⟩
theorem RepVs.ofL : ∀ {xs : List T} {vs : List V}, RepL cA G xs vs → RepVs cA al G (xs.map VV.t) vs
  | [], vs, r => by unfold RepL at r; exact r
  | x :: xs, vs, r => by
    unfold RepL at r
    obtain ⟨v, rr, e, h1, h2⟩ := r
    exact ⟨v, rr, e, h1, RepVs.ofL h2⟩
end
section
variable {X : Cx} {gd : Bool} {k : Nat} {f C : Addr} {fd : FuncData} {ps : List Str} {sp : Sp} {dvs : List V} {ds : List Value} {E : L2.St → XK} {x m : Str} {p apos pos : Pos} {e : Expr} {es : List Expr} {t : TA}
theorem guards_make {A : Around} {C : Addr} {us : List Value} {kw : List (Str × Value)} (h : A.guards = some []) : (A.under (.builtin "type.__call__" ⟨.ref C :: us, kw⟩)).guards = some [] := by
  have e : (Code.builtin "type.__call__" ⟨.ref C :: us, kw⟩).guards = [] := by
    first | rfl | simp [Code.guards, Code.isGuard, guardIds]
  unfold Around.under
  simp only [e, pushGuards, h]
theorem run_fnG {pins : List (Addr × Obj)} {st : L2.St} {H : Hp} {s : Shared} {Q : VK} {us : List Value} {vs : List V} (F : FnG X.prog X.w X.K X.mg X.base gd k f fd ps sp) (hgd : gd = true → X.A.guards = some []) (hr : Room k X.A) (hb : Binds X.K fd ps ds) (hd : Vals dvs ds) (hx : PassesAt (L2.CX X.prog X.w) X st (E st))
    (I : Inv X pins st H s) (r : Vals vs us) (h : sp (vs ++ dvs) H Q (E st)) : wpAny (model X.prog X.w) X.A (call (.ref f) us) (EP X pins st Q) X.xe s := by
  have both : Vals (vs ++ dvs) (us ++ ds) := Vals.append r hd
  have same : (us ++ ds).length = ps.length := both.length.symm.trans (F.len _ _ _ _ h)
  have go := F.run X.A X.stack s H ⟨us, []⟩ _ _ Q (E st) hr hgd I.env0 (hb s us I.kIn same) both h
  refine wpAny_call (codeAny_mono go fun res s2 hres => ?_)
  match res, hres with
  | .error e, hres => exact hx pins H s e s2 I hres
  | .ok (.ret u), hres => exact I.after hres
  | .ok .next, hres => exact hres.elim
  | .ok .brk, hres => exact hres.elim
  | .ok .cont, hres => exact hres.elim
theorem pe_callG (F : FnG X.prog X.w X.K X.mg X.base gd k f fd ps sp) (hgd : gd = true → X.A.guards = some []) (hr : Room k X.A) (hg : Gl X x) (hm : X.mg x = some (.ref f)) (hk : PySem.W.keepIn X.K (.ref f) = true) (hb : Binds X.K fd ps ds) (hd : Vals dvs ds)
    (hx : ∀ st, PassesAt (L2.CX X.prog X.w) X st (E st)) (ha : PA X (e :: es) t) (hdb : (x == ("__debug__" : Str)) = false) (h1 : (e :: es).all notStar = true) :
    PE X (.Call (.Name x p) (e :: es) [] pos) (fun st H Q => t st H fun vs H1 => sp (vs ++ dvs) H1 Q (E st)) := by
  rw [List.all_cons, Bool.and_eq_true] at h1
  refine ⟨fun pins s st H Q I h => wpAny_Call_Name_kw (ld_glob I hg hm ?_ hdb)⟩
  exact PySem.W.callWith_K (h₀ := X.base) I.ok.mod.kin hk (thn (ha.run pos pins s st H _ I h) fun us s1 ⟨vs, H1, J, r, q⟩ => ⟨J.kIn, run_fnG F hgd hr hb hd (hx st) J r q⟩) (star_cons h1.1) (plain_back h1.2)
theorem pe_call0D (F : FnG X.prog X.w X.K X.mg X.base gd k f fd ps sp) (hgd : gd = true → X.A.guards = some []) (hr : Room k X.A) (hg : Gl X x) (hm : X.mg x = some (.ref f)) (hk : PySem.W.keepIn X.K (.ref f) = true) (hb : Binds X.K fd ps ds) (hd : Vals dvs ds)
    (hx : ∀ st, PassesAt (L2.CX X.prog X.w) X st (E st)) (hdb : (x == ("__debug__" : Str)) = false) : PE X (.Call (.Name x p) [] [] pos) (fun st H Q => sp ([] ++ dvs) H Q (E st)) := by
  refine ⟨fun pins s st H Q I h => ?_⟩
  refine PySem.wpAny_Call_Name_kw (ld_glob I hg hm ?_ hdb)
  exact PySem.W.callWith_K0 (first := []) I.kIn hk (run_fnG (us := []) (vs := []) F hgd hr hb hd (hx st) I .nil h)
theorem run_mkS {pins : List (Addr × Obj)} {st : L2.St} {H : Hp} {s : Shared} {Q : VK} {us : List Value} {vs : List V} {E : XK} (M : Mk X.K C f) (F : FnG X.prog X.w X.K X.mg X.base gd k f fd ps sp) (hgd : gd = true → X.A.guards = some []) (hr : Room (k + 1) X.A)
    (hb : Binds X.K fd ps ds) (hd : Vals dvs ds) (hx : PassesAt (L2.CX X.prog X.w) X st E) (I : Inv X pins st H s) (r : Vals vs us)
    (h : ∀ x dx, H x = none → H dx = none → dx ≠ x → sp ((.ref x :: vs) ++ dvs) (upd (upd H dx (.own x)) x (.ins C dx [])) (fun v H2 => v = .non ∧ Q (.ref x) H2) E) :
    wpAny (model X.prog X.w) X.A (call (.ref C) us) (EP X pins st Q) X.xe s := by
  have n0 : H (s.heap.objs.size + 1) = none := I.hok.fresh (Nat.le_succ _)
  have n1 : H s.heap.objs.size = none := I.hok.fresh (Nat.le_refl _)
  have hq := h _ _ n0 n1 (Nat.ne_of_lt (Nat.lt_succ_self _))
  have J := Inv.made (C := C) I
  have rs : Vals ((V.ref (s.heap.objs.size + 1) :: vs) ++ dvs) ((Value.ref (s.heap.objs.size + 1) :: us) ++ ds) := Vals.append (.cons rfl r) hd
  have hl : ((Value.ref (s.heap.objs.size + 1) :: us) ++ ds).length = ps.length := by
    have e := rs.length
    rw [F.len _ _ _ _ hq] at e
    exact e.symm
  have body := F.run _ X.stack _ _ ⟨Value.ref (s.heap.objs.size + 1) :: us, []⟩ _ _ _ E (hr.make C us []) (fun z => guards_make (hgd z)) (J.env0.make C us []) (hb _ (Value.ref (s.heap.objs.size + 1) :: us) J.kIn hl) rs hq
  refine wpAny_call (make_map (f := f) I.kIn M.makes M.init (beq_iff_eq.mp M.fn) (codeAny_mono body fun res s' hres => ?_))
  cases res with
  | error e =>
    exact hx pins _ _ e s' J hres
  | ok fl =>
    cases fl with
    | ret u =>
      obtain ⟨v, H', J', rv, ev, q'⟩ := J.after hres
      subst ev
      exact ⟨rv, ⟨V.ref (s.heap.objs.size + 1), H', J', rfl, q'⟩⟩
    | next => exact False.elim hres
    | brk => exact False.elim hres
    | cont => exact False.elim hres
end
end Tw
set_option maxHeartbeats 4000000
namespace Tw
open PySem L2
section
variable {cA : CA} {X : Cx} {N : List Str} {sc : Scope} {W : WX}
variable {D : Defs} {M : Nms} {fA : Nat → Addr} {fdA : Nat → FuncData} {psA : Nat → List Str} {k : Nat} {cf : CF}
structure Fills (X : Cx) (D : Defs) (cA : CA) (fdA : Nat → FuncData) (psA : Nat → List Str) (f n : Nat) (d : FD) (ds : List Value) (dvs : List V) : Prop where
  b : Binds X.K (fdA f) (psA f) ds
  v : Vals dvs ds
  len : n + dvs.length = d.np
  fill : ∀ (al : List Addr) (G : Hp) (ys : List VV) (vs : List V), ys.length = n → RepVs cA al G ys vs → RepVs cA al G (fill D f ys) (vs ++ dvs)
def fillOk (D : Defs) (f n : Nat) : Bool := match D.fn f with
  | some d => decide (n ≤ d.np) && decide (d.np ≤ n + (D.dfl f).length)
  | none => false
theorem fills_of (F : PfX X D M cA fA fdA psA k cf) {f n : Nat} {d : FD} (hd : D.fn f = some d) (h : fillOk D f n = true) : ∃ ds dvs, Fills X D cA fdA psA f n d ds dvs := by
  unfold fillOk at h
  rw [hd] at h
  simp only [Bool.and_eq_true, decide_eq_true_eq] at h
  obtain ⟨h1, h2⟩ := h
  by_cases e : n = d.np
  · subst e
    refine ⟨[], [], F.bd f d hd, .nil, by simp, fun al G ys vs hl r => ?_⟩
    unfold fill
    rw [hd]
    simp only
    rw [if_neg (by omega), List.append_nil]
    exact r
  · obtain ⟨ds, vs, hb, hv, hr⟩ := F.bdd f d (d.np - n) hd (by omega) (by omega)
    have hz := (hr (fun _ => none)).length
    rw [List.length_drop] at hz
    refine ⟨ds, vs, hb, hv, by omega, fun al G ys us hl r => ?_⟩
    unfold fill
    rw [hd]
    simp only
    rw [if_pos (by omega), hl]
    exact r.append (.ofL (hr G))
theorem spF_of {al : List Addr} {G H : Hp} {st : L2.St} {s : Store} {Q : VK} {f : Nat} {d : FD} {ys : List VV} {vs : List V} (r : Rl cA al G s H) (q : RepVs cA al G ys vs) (hl : vs.length = d.np)
    (p : Po cA W al G st (kV cA Q) (cf f ys s)) : spF cA cf f d.np vs H Q (WE W st) := ⟨al, G, ys, s, r, q, hl, PoC.of p⟩
theorem TAv.goE {al : List Addr} {G H : Hp} {st : L2.St} {β : Type} {loc : Loc} {s : Store} {m : Loc → Store → Out (List VV)} {f : List VV → Store → Out β} {k : β → Store → List Addr → Hp → Hp → Prop} {Q' : List V → Hp → Prop}
    (r : Rl cA al G s H) (S : RepS cA al G loc st) (h : Po cA W al G st k ((m loc s).bind f))
    (c : ∀ y s1 al1 G1 H1 v, m loc s = .ok y s1 → Xt al G al1 G1 → Rl cA al1 G1 s1 H1 → RepS cA al1 G1 loc st → RepVs cA al1 G1 y v → Po cA W al1 G1 st k (f y s1) → Q' v H1) : TAv cA W m st H Q' := by
  refine ⟨al, G, loc, s, r, S, ?_⟩
  have b := h.bind
  cases hm : m loc s with
  | bad => rw [hm] at b; exact b
  | ex e s1 => rw [hm] at b; exact b
  | ok y s1 =>
    rw [hm] at b
    exact fun al1 G1 H1 x r1 v q => c y s1 al1 G1 H1 v hm x r1 (S.mono x) q (b al1 G1 H1 x r1)
theorem s_cal (F : PfX X D M cA fA fdA psA k cf) (c : Cok X N sc W) {f n : Nat} {x : Str} {es : List Expr} {ms : Loc → Store → Out (List VV)} {p pos : Pos} (hf : M.fnm f = some x) (hg : glB sc x = true) (hn : fillOk D f n = true)
    (ha : PA X es (TAv cA W ms)) (hs : es.all notStar = true) (hl : ∀ loc s ys s', ms loc s = .ok ys s' → ys.length = n) (he : es = [] → ∀ loc s, ms loc s = .ok [] s) :
    PE X (.Call (.Name x p) es [] pos) (TEv cA W fun loc s => (ms loc s).bind fun ys s1 => cf f (fill D f ys) s1) := by
  obtain ⟨g, dd, _⟩ := gl_of c hg
  obtain ⟨hm, hk⟩ := F.gf f x hf
  cases hd : D.fn f with
  | none => unfold fillOk at hn; rw [hd] at hn; cases hn
  | some d =>
    obtain ⟨ds, dvs, fl⟩ := fills_of F hd hn
    have fin : ∀ {al : List Addr} {G H : Hp} {st : L2.St} {s : Store} {Q : VK} {ys : List VV} {vs : List V}, Rl cA al G s H → ys.length = n → RepVs cA al G ys vs →
        Po cA W al G st (kV cA Q) (cf f (fill D f ys) s) → spF cA cf f d.np (vs ++ dvs) H Q (WE W st) := fun {al G H st s Q ys vs} r hy q pp => by
      refine spF_of r (fl.fill al G ys vs hy q) ?_ pp
      rw [List.length_append, q.length, hy]; exact fl.len
    cases es with
    | nil =>
      refine pe_weak (pe_call0D (F.fn f d hd) F.gd (F.room.mono (by omega)) g hm hk fl.b fl.v (fun st => passAt c.tk st) dd) fun st H Q q => ?_
      obtain ⟨al, G, loc, s, r, S, pp⟩ := q
      have e0 := he rfl loc s
      simp only [e0] at pp
      exact fin (ys := []) (vs := []) r (hl loc s [] s e0) rfl pp
    | cons e es =>
      rw [List.all_cons, Bool.and_eq_true] at hs
      refine pe_weak (pe_callG (F.fn f d hd) F.gd (F.room.mono (by omega)) g hm hk fl.b fl.v (fun st => passAt c.tk st) ha dd (by simp [hs.1, hs.2])) fun st H Q q => ?_
      obtain ⟨al, G, loc, s, r, S, pp⟩ := q
      exact TAv.goE r S pp fun ys s1 al1 G1 H1 vs hms x1 r1 S1 rv p1 => fin r1 (hl loc s ys s1 hms) rv p1
theorem pe_mkS {C f : Addr} {k : Nat} {fd : FuncData} {ps : List Str} {sp : Sp} {dvs : List V} {ds : List Value} {E : L2.St → XK} {x : Str} {p pos : Pos} {e : Expr} {es : List Expr} {t : TA} {gd : Bool} (Mm : Mk X.K C f) (F : FnG X.prog X.w X.K X.mg X.base gd k f fd ps sp) (hgd : gd = true → X.A.guards = some []) (hr : Room (k + 1) X.A)
    (hg : Gl X x) (hm : X.mg x = some (.ref C)) (hb : Binds X.K fd ps ds) (hd : Vals dvs ds) (hx : ∀ st, PassesAt (L2.CX X.prog X.w) X st (E st)) (ha : PA X (e :: es) t) (hdb : (x == ("__debug__" : Str)) = false) (hs : (e :: es).all notStar = true) :
    PE X (.Call (.Name x p) (e :: es) [] pos) (fun st H Q => t st H fun vs H1 => ∀ y dx, H1 y = none → H1 dx = none → dx ≠ y → sp ((.ref y :: vs) ++ dvs) (upd (upd H1 dx (.own y)) y (.ins C dx [])) (fun v H2 => v = .non ∧ Q (.ref y) H2) (E st)) := by
  refine ⟨fun pins s st H Q I h => ?_⟩
  rw [List.all_cons, Bool.and_eq_true] at hs
  refine PySem.wpAny_Call_Name_kw (ld_glob I hg hm ?_ hdb)
  refine PySem.W.callWith_K (first := []) (h₀ := X.base) I.ok.mod.kin Mm.kp (thn (ha.run pos pins s st H _ I h) fun us s1 ⟨vs, H1, I1, r, q⟩ => ⟨I1.kIn, ?_⟩) (star_cons hs.1) (plain_back hs.2)
  exact run_mkS Mm F hgd hr hb hd (hx st) I1 r q
theorem s_mk (F : PfX X D M cA fA fdA psA k cf) (c : Cok X N sc W) {C n f : Nat} {x : Str} {e : Expr} {es : List Expr} {ms : Loc → Store → Out (List VV)} {p pos : Pos} (hi : D.ini C = some f) (hx : M.cnm C = some x) (hg : glB sc x = true)
    (hn : fillOk D f (n + 1) = true) (ha : PA X (e :: es) (TAv cA W ms)) (hs : (e :: es).all notStar = true) (hl : ∀ loc s ys s', ms loc s = .ok ys s' → ys.length = n) :
    PE X (.Call (.Name x p) (e :: es) [] pos) (TEv cA W fun loc s => (ms loc s).bind fun ys s1 => match D.ini C with
      | some f => (cf f (fill D f (.c s1.length :: ys)) (s1 ++ [.ins C []])).bind fun y s2 => mkEnd s1.length y s2
      | none => .bad) := by
  obtain ⟨g, dd, _⟩ := gl_of c hg
  obtain ⟨hm, hM⟩ := F.gc C x f hx hi
  cases hd : D.fn f with
  | none => unfold fillOk at hn; rw [hd] at hn; cases hn
  | some d =>
    obtain ⟨ds, dvs, fl⟩ := fills_of F hd hn
    refine pe_weak (pe_mkS hM (F.fn f d hd) F.gd (F.room.mono (by omega)) g hm fl.b fl.v (fun st => passAt c.tk st) ha dd hs) fun st H Q q => ?_
    obtain ⟨al, G, loc, s, r, S, pp⟩ := q
    refine TAv.goE r S pp fun ys s1 al1 G1 H1 vs hms x1 r1 S1 rv p1 => ?_
    intro y dx ny ndx nex
    rw [hi] at p1
    simp only at p1
    have hsl : s1.length = al1.length := r1.len.symm
    have r2 : Rl cA al1 G1 s1 (upd H1 dx (.own y)) := r1.newX ndx
    have ny2 : (upd H1 dx (.own y)) y = none := by rw [upd_ne (Ne.symm nex)]; exact ny
    have r3 : Rl cA (al1 ++ [y]) G1 (s1 ++ [.ins C []]) (upd (upd H1 dx (.own y)) y (.ins (cA C) dx [])) :=
      r2.newC ny2 ⟨r1.gnone ny, dx, [], upd_same, by unfold RepF; rfl⟩
    have x3 : Xt al1 G1 (al1 ++ [y]) G1 := ⟨⟨[y], rfl⟩, Sb.rfl'⟩
    have args : RepVs cA (al1 ++ [y]) G1 (.c s1.length :: ys) (.ref y :: vs) := ⟨_, _, rfl, ⟨y, by rw [hsl]; simp, rfl⟩, rv.mono x3⟩
    have a2 := fl.fill _ _ _ _ (by rw [List.length_cons, hl loc s ys s1 hms]) args
    refine ⟨al1 ++ [y], G1, _, _, r3, a2, ?_, ?_⟩
    · have := a2.length
      rw [List.length_append, List.length_cons, rv.length, hl loc s ys s1 hms]
      have := fl.len
      omega
    · cases hc : cf f (fill D f (.c s1.length :: ys)) (s1 ++ [.ins C []]) with
      | bad => rw [hc] at p1; exact p1.elim
      | ex e s2 =>
        rw [hc] at p1
        exact fun al' G' H' cl d x' r' q' => p1 al' G' H' cl d (x3.trans x') r' q'
      | ok z s2 =>
        rw [hc] at p1
        have p2 : Po cA W al1 G1 st (kV cA Q) (mkEnd s1.length z s2) := p1
        unfold mkEnd at p2
        intro al' G' H' v x' r' q'
        obtain ⟨⟨l2, el⟩, sb⟩ := x'
        subst el
        rw [List.append_assoc] at r'
        split at p2
        · refine ⟨by unfold RepV Rep at q'; exact q', ?_⟩
          cases hf : finT s1.length s1.length s2 with
          | bad => rw [hf] at p2; exact p2.elim
          | ex e s3 => unfold finT at hf; split at hf <;> cases hf
          | ok y' s3 =>
            rw [hf] at p2
            obtain ⟨G'', sb'', r'', q''⟩ := finT_ok hsl r' hf (v := .ref y) ⟨y, by rw [hsl]; simp, rfl⟩ (by omega)
            exact p2 al1 G'' H' (Xt.ofSb (sb.trans sb'')) r'' _ q''
        · exact p2.elim
end
end Tw
set_option maxHeartbeats 4000000
namespace PySem.W
open PySem PySem.Calls PyProof.Rows
section
variable {prog : Program} {w : World} {A : Around} {E : Value → Shared → Prop} {s : Shared} {K : Frag} {x y C f : Addr} {ox oy : Obj} {od od' : Option Obj}
theorem tw_bin2 {op : Operator} {Q : Value → Shared → Prop} (X : K.In s.heap) (I : InstAt s.heap x ox C od) (I' : InstAt s.heap y oy C od') (hc : selfFirst K C = true)
    (hs : findIn K (.ref C) (PySem.dunder op.info.2) = some (some (.ref f))) (hf : isFn K (.ref f) = true)
    (h : wpAny (model prog w) A (call (.ref f) [.ref x, .ref y]) (CmpBack Q) E s) : wpAny (model prog w) A (binaryOp op (.ref x) (.ref y)) Q E s := by
  obtain ⟨cd, rest, hcd, hm⟩ := ksp_first hc
  rcases hi : op.info with ⟨sym, nm'⟩
  rw [hi] at hs
  dsimp only at hs
  have one := ksp_try X I hs hf h
  obtain ⟨hh, g, d, tt, os⟩ := s
  have L1 : Looks (model prog w) hh (typeOf (.ref x)) (.ref C) := I.type
  have L2 : Looks (model prog w) hh (typeOf (.ref y)) (.ref C) := I'.type
  have L3 : Looks (model prog w) hh (fillsNumberSlot (.ref C) nm') true := fills_K X hcd hm hs
  have heq : (Value.ref C == Value.ref C) = true := by simp
  simp only [binaryOp, hi]
  refine wpAny_holding (wpAny_bind ?_)
  unfold binaryOp1
  refine wpAny_bind (L1.at (wpAny_bind (L2.at (wpAny_bind (L3.at ?_)))))
  simp only [heq, if_true]
  ksp_lk
  refine wpAny_mono one (fun r s' hr' => ?_) fun _ _ e => e
  obtain ⟨v, rfl, hq⟩ := hr'
  ksp_lk
  exact hq
theorem tw_rbin {op : Operator} {i : Int} {t : Tok} {idl : String} {Q : Value → Shared → Prop} (X : K.In s.heap) (I : InstAt s.heap x ox C od) (hc : selfFirst K C = true)
    (hs0 : ∃ g : Addr, findIn K (.ref C) (PySem.dunder op.info.2) = some (some (.ref g)))
    (hs : findIn K (.ref C) (dunderR op.info.2) = some (some (.ref f))) (hf : isFn K (.ref f) = true) (hsub : mroIn K C (.type "int") = some false) (hl : PySem.Slot "int" (PySem.dunder op.info.2) idl)
    (fT : fillsNumberSlot (.type "int") op.info.2 = pure true)
    (hd : ∀ Q' : Value → Shared → Prop, Q' .notImplemented s → wpAny (model prog w) A (call (.builtin idl) [.int i t, .ref x]) Q' E s)
    (h : wpAny (model prog w) A (call (.ref f) [.ref x, .int i t]) (CmpBack Q) E s) : wpAny (model prog w) A (binaryOp op (.int i t) (.ref x)) Q E s := by
  obtain ⟨cd, rest, hcd, hm⟩ := ksp_first hc
  obtain ⟨g0, hs0⟩ := hs0
  rcases hi : op.info with ⟨sym, nm'⟩
  rw [hi] at hs hs0 hl fT
  dsimp only at hs hs0 hl fT
  have one := ksp_try X I hs hf h
  have L1 : Looks (model prog w) s.heap (typeOf (.int i t)) (.type "int") := Looks.of_pure rfl
  have L2 : Looks (model prog w) s.heap (typeOf (.ref x)) (.ref C) := I.type
  have L3 : Looks (model prog w) s.heap (fillsNumberSlot (.type "int") nm') true := Looks.of_pure fT
  have L4 : Looks (model prog w) s.heap (fillsNumberSlot (.ref C) nm') true := fills_K X hcd hm hs0
  have L5 : Looks (model prog w) s.heap (isSubtype (.ref C) (.type "int")) false := looks_mroIn X hsub
  have hne : (Value.type "int" == Value.ref C) = false := Bool.eq_false_iff.mpr fun q => by cases beq_iff_eq.mp q
  have hpy : numberSlotInPython (.type "int") nm' = pure false := rfl
  simp only [binaryOp, hi]
  refine wpAny_holding (wpAny_bind ?_)
  unfold binaryOp1
  refine wpAny_bind (L1.here (wpAny_bind (L2.here (wpAny_bind (L3.here ?_)))))
  simp only [hne, Bool.false_eq_true, if_false]
  refine wpAny_bind (L4.here ?_)
  simp only [Bool.and_self, if_true]
  refine wpAny_bind (L5.here ?_)
  simp only [Bool.false_eq_true, if_false, pure_bind, Bool.not_false, Bool.and_self, if_true, hpy]
  refine wpAny_bind (m := tryMethod (.int i t) _ (.ref x)) ?_
  · unfold tryMethod
    refine wpAny_bind (wpAny_callSpecial?_slot (typeIs_int s i t) hl (hd _ ?_))
    refine wpAny_pure ?_
    refine wpAny_bind (wpAny_mono one (fun r s' hr' => ?_) fun _ _ e => e)
    obtain ⟨v, rfl, hq⟩ := hr'
    exact wpAny_bind (wpAny_rule (wpAny_pure (wpAny_pure hq)))
open PySem.SeqAt in
theorem tw_int_add_dec (b : Int) (u : Tok) (l : Addr) (c : Value) (dd : Option Addr) (sl : Array (Option Value)) :
    Meets (Builtin.«int.__add__» ⟨[.int b u, .ref l], []⟩) (fun _ R s => s.heap.get? l = some { cls := c, dict := dd, data := .plain, slots := sl } ∧ R (.ok (.ret .notImplemented)) s) :=
  .of_wp fun prog w A R s h => by obtain ⟨hp, g, d, tk, os⟩ := s; obtain ⟨hl, h⟩ := h; wp_walk using AutoSeq1.wpAny_loadPart' hl, wpAny_load hl; exact ⟨_, rfl, h⟩
theorem tw_int_sub_dec (b : Int) (u : Tok) (l : Addr) (c : Value) (dd : Option Addr) (sl : Array (Option Value)) :
    Meets (Builtin.«int.__sub__» ⟨[.int b u, .ref l], []⟩) (fun _ R s => s.heap.get? l = some { cls := c, dict := dd, data := .plain, slots := sl } ∧ R (.ok (.ret .notImplemented)) s) :=
  .of_wp fun prog w A R s h => by obtain ⟨hp, g, d, tk, os⟩ := s; obtain ⟨hl, h⟩ := h; wp_walk using AutoSeq1.wpAny_loadPart' hl, wpAny_load hl; exact ⟨_, rfl, h⟩
theorem tw_int_mul_dec (b : Int) (u : Tok) (l : Addr) (c : Value) (dd : Option Addr) (sl : Array (Option Value)) :
    Meets (Builtin.«int.__mul__» ⟨[.int b u, .ref l], []⟩) (fun _ R s => s.heap.get? l = some { cls := c, dict := dd, data := .plain, slots := sl } ∧ R (.ok (.ret .notImplemented)) s) :=
  .of_wp fun prog w A R s h => by obtain ⟨hp, g, d, tk, os⟩ := s; obtain ⟨hl, h⟩ := h; wp_walk using AutoSeq1.wpAny_loadPart' hl, wpAny_load hl; exact ⟨_, rfl, h⟩
end
end PySem.W
namespace Tw
open PySem PySem.Spec PyProof.Rows L2
section
variable {cA : CA} {X : Cx} {N : List Str} {sc : Scope} {W : WX}
variable {D : Defs} {M : Nms} {fA : Nat → Addr} {fdA : Nat → FuncData} {psA : Nat → List Str} {k : Nat} {cf : CF}
theorem omN_of {c n g : Nat} {m : Str} (h : omN D c m n = some g) : D.own c = true ∧ D.om c m = some g ∧ ∃ d, D.fn g = some d ∧ d.np = n := by
  unfold omN at h
  split at h
  · rename_i h1
    split at h
    · rename_i g' h2
      split at h
      · rename_i d h3
        split at h
        · rename_i h4
          cases h
          exact ⟨h1, h2, d, h3, h4⟩
        · cases h
      · cases h
    · cases h
  · cases h
theorem call_own (F : PfX X D M cA fA fdA psA k cf) (c : Cok X N sc W) {g n : Nat} {d : FD} {al : List Addr} {G H : Hp} {st : L2.St} {s : Store} {pins : List (Addr × Obj)} {sh : Shared} {Q : VK} {ys : List VV} {vs : List V} {us : List Value}
    (hd : D.fn g = some d) (hn : d.np = n) (I : Inv X pins st H sh) (r : Rl cA al G s H) (q : RepVs cA al G ys vs) (hl : vs.length = n) (rv : Vals vs us) (p : Po cA W al G st (kV cA Q) (cf g ys s)) :
    wpAny (model X.prog X.w) X.A (call (.ref (fA g)) us) (PySem.W.CmpBack (EP X pins st Q)) X.xe sh := by
  have sp := spF_of r q (d := d) (by rw [hl, hn]) p
  refine wpAny_mono (run_fnG (ds := []) (dvs := []) (E := WE W) (F.fn g d hd) F.gd (F.room.mono (by omega)) (F.bd g d hd) .nil (passAt c.tk st) I rv (by rw [List.append_nil]; exact sp)) (fun v s' z => ?_) fun _ _ e => e
  obtain ⟨z', H', I', rz, qz⟩ := z
  exact SlX.cmpback rz ⟨z', H', I', rz, qz⟩
theorem ops_of {ci g : Nat} {o : Operator} (h : omN D ci (opNm o) 2 = some g) (h0 : D.om ci Str.empty = none) : o.info.2 ∈ ["add", "sub", "mul"] ∧ opNm o = PySem.dunder o.info.2 ∧ opRNm o = dunderR o.info.2 := by
  obtain ⟨_, h2, _⟩ := omN_of h
  cases o <;> first
    | (rw [show opNm _ = Str.empty from rfl, h0] at h2; cases h2; done)
    | exact ⟨by decide, by decide +kernel, by decide +kernel⟩
theorem opsR_of {ci g : Nat} {o : Operator} (h : omN D ci (opRNm o) 2 = some g) (h0 : D.om ci Str.empty = none) : o.info.2 ∈ ["add", "sub", "mul"] ∧ opNm o = PySem.dunder o.info.2 ∧ opRNm o = dunderR o.info.2 ∧
    ∀ (i : Int) (t : Tok) (l C dx : Addr) (A : Around) (P : Program) (w : World) (E : Value → Shared → Prop) (s : Shared), s.heap.get? l = some (PySem.W.instObj C dx) → ∃ idl, PySem.Slot "int" (PySem.dunder o.info.2) idl ∧ fillsNumberSlot (.type "int") o.info.2 = pure true ∧
      ∀ Q' : Value → Shared → Prop, Q' .notImplemented s → wpAny (model P w) A (call (.builtin idl) [.int i t, .ref l]) Q' E s := by
  obtain ⟨_, h2, _⟩ := omN_of h
  cases o <;> first
    | (rw [show opRNm _ = Str.empty from rfl, h0] at h2; cases h2; done)
    | exact ⟨by decide, by decide +kernel, by decide +kernel, fun i t l C dx A P w E s hl => ⟨_, PySem.F.slot_int_add, PySem.F.fills_int_add, fun Q' hq => call_meets PySem.F.slot_int_add (typeIs_int s i t) PySem.F.entry_int_add (PySem.F.args_int_add_2 _ _) (PySem.W.tw_int_add_dec i t l _ _ _) ⟨hl, hq⟩⟩⟩
    | exact ⟨by decide, by decide +kernel, by decide +kernel, fun i t l C dx A P w E s hl => ⟨_, PySem.F.slot_int_sub, PySem.F.fills_int_sub, fun Q' hq => call_meets PySem.F.slot_int_sub (typeIs_int s i t) PySem.F.entry_int_sub (PySem.F.args_int_sub_2 _ _) (PySem.W.tw_int_sub_dec i t l _ _ _) ⟨hl, hq⟩⟩⟩
    | exact ⟨by decide, by decide +kernel, by decide +kernel, fun i t l C dx A P w E s hl => ⟨_, PySem.F.slot_int_mul, PySem.F.fills_int_mul, fun Q' hq => call_meets PySem.F.slot_int_mul (typeIs_int s i t) PySem.F.entry_int_mul (PySem.F.args_int_mul_2 _ _) (PySem.W.tw_int_mul_dec i t l _ _ _) ⟨hl, hq⟩⟩⟩
theorem own_bin (F : PfX X D M cA fA fdA psA k cf) (c : Cok X N sc W) {o : Operator} {al : List Addr} {G H : Hp} {st : L2.St} {s : Store} {pins : List (Addr × Obj)} {sh : Shared} {Q : VK} {y z : VV} {a b : T} {v u : V} {x1 x2 : Value}
    (I : Inv X pins st H sh) (r : Rl cA al G s H) (rv : RepV cA al G y v) (ru : RepV cA al G z u) (h1 : rd s y = some a) (h2 : rd s z = some b) (e1 : RelV v x1) (e2 : RelV u x2) (p : Po cA W al G st (kV cA Q) (ownBin D cf o a b y z s)) :
    wpAny (model X.prog X.w) X.A (binaryOp o x1 x2) (EP X pins st Q) X.xe sh := by
  unfold ownBin at p
  split at p
  · rename_i ci fs ci' fs'
    split at p
    · rename_i hcc
      subst hcc
      split at p
      · rename_i g hg
        obtain ⟨ho, hom, d, hd, hn⟩ := omN_of hg
        have ow := F.ow ci ho
        obtain ⟨hmem, hnm, _⟩ := ops_of hg (F.oe ci)
        obtain ⟨hcl, hme⟩ := F.mt ci _ g hom
        obtain ⟨xa, dx, gs, rfl, hb, rb⟩ := r.sees rv h1
        obtain ⟨xb, dx', gs', rfl, hb', rb'⟩ := r.sees ru h2
        cases e1
        cases e2
        obtain ⟨mA, O, _⟩ := ins_get I.hok hb
        obtain ⟨mB, O', _⟩ := ins_get I.hok hb'
        obtain ⟨od, J, _⟩ := O.look
        obtain ⟨od', J', _⟩ := O'.look
        exact PySem.W.tw_bin2 I.kIn J J' ow.first (by rw [← hnm]; exact hme.at_) hme.fn (call_own F c hd hn I r (ys := [y, z]) (vs := [.ref xa, .ref xb]) ⟨_, _, rfl, rv, _, _, rfl, ru, rfl⟩ rfl (.cons rfl (.cons rfl .nil)) p)
      · exact p.elim
    · exact p.elim
  · rename_i ci fs j
    split at p
    · rename_i g hg
      obtain ⟨ho, hom, d, hd, hn⟩ := omN_of hg
      have ow := F.ow ci ho
      obtain ⟨hmem, hnm, hnr⟩ := ops_of hg (F.oe ci)
      obtain ⟨hcl, hme⟩ := F.mt ci _ g hom
      obtain ⟨xa, dx, gs, rfl, hb, rb⟩ := r.sees rv h1
      have eu := seesI (r.sees ru h2)
      subst eu
      cases e1
      obtain ⟨t, rfl⟩ := (show ∃ t, x2 = Value.int j t from e2)
      obtain ⟨mA, O, _⟩ := ins_get I.hok hb
      obtain ⟨od, J, _⟩ := O.look
      obtain ⟨m, hF⟩ := I.fr
      obtain ⟨rc, hrc, hrp⟩ := ow.ra _ hmem
      obtain ⟨fo, ro, hfo, hro⟩ := ow.ia _ hmem
      exact PySem.W.ksp_binT hF I.ok.mod.kin J rfl ow.first (by rw [← hnm]; exact hme.at_) hme.fn hrc hrp hfo hro (ow.sub "int" (by decide)) (call_own F c hd hn I r (ys := [y, z]) (vs := [.ref xa, .int j]) ⟨_, _, rfl, rv, _, _, rfl, ru, rfl⟩ rfl (.cons rfl (.cons ⟨t, rfl⟩ .nil)) p)
    · exact p.elim
  · rename_i j ci fs
    split at p
    · rename_i g hg
      obtain ⟨ho, hom, d, hd, hn⟩ := omN_of hg
      have ow := F.ow ci ho
      obtain ⟨hmem, hnm, hnr, dec⟩ := opsR_of hg (F.oe ci)
      obtain ⟨hcl, hme⟩ := F.mt ci _ g hom
      obtain ⟨xa, dx, gs, rfl, hb, rb⟩ := r.sees ru h2
      have eu := seesI (r.sees rv h1)
      subst eu
      cases e2
      obtain ⟨t, rfl⟩ := (show ∃ t, x1 = Value.int j t from e1)
      obtain ⟨mA, O, _⟩ := ins_get I.hok hb
      obtain ⟨od, J, _⟩ := O.look
      obtain ⟨idl, hsl, hft, hdec⟩ := dec j t xa (cA ci) dx X.A X.prog X.w X.xe sh O.obj
      exact PySem.W.tw_rbin I.kIn J ow.first (ow.both _ hmem _ (by rw [← hnr]; exact hme.at_)) (by rw [← hnr]; exact hme.at_) hme.fn ow.int hsl hft hdec (call_own F c hd hn I r (ys := [z, y]) (vs := [.ref xa, .int j]) ⟨_, _, rfl, ru, _, _, rfl, rv, rfl⟩ rfl (.cons rfl (.cons ⟨t, rfl⟩ .nil)) p)
    · exact p.elim
  · exact p.elim
def rBin2 (cA : CA) (W : WX) (D : Defs) (cf : CF) (o : Operator) (x y : V) (st : L2.St) (H : Hp) (Q : VK) : Prop := ∃ al G s y' z', Rl cA al G s H ∧ RepV cA al G y' x ∧ RepV cA al G z' y ∧ Po cA W al G st (kV cA Q) (binV D cf o y' z' s)
theorem bin_run (F : PfX X D M cA fA fdA psA k cf) (c : Cok X N sc W) {o : Operator} {st : L2.St} {H : Hp} {pins : List (Addr × Obj)} {sh : Shared} {Q : VK} {v u : V} {x1 x2 : Value}
    (I : Inv X pins st H sh) (e1 : RelV v x1) (e2 : RelV u x2) (h : rBin2 cA W D cf o v u st H Q) : wpAny (model X.prog X.w) X.A (binaryOp o x1 x2) (EP X pins st Q) X.xe sh := by
  obtain ⟨al, G, s, y, z, r, rv, ru, p⟩ := h
  unfold binV at p
  split at p
  · rename_i tx ty h1 h2
    split at p
    · rename_i tz hz
      exact op_bin (cA := cA) o pins sh st H v u x1 x2 Q I e1 e2 ⟨G, tx, ty, tz, ⟨r.sub⟩, r.sees rv h1, r.sees ru h2, hz, Give.of p r⟩
    · exact own_bin F c I r rv ru h1 h2 e1 e2 p
  · exact p.elim
theorem s_bin (F : PfX X D M cA fA fdA psA k cf) (c : Cok X N sc W) {o : Operator} {a b : Expr} {ma mb : Loc → Store → Out VV} {pos : Pos} (ha : PE X a (TEv cA W ma)) (hb : PE X b (TEv cA W mb)) :
    PE X (.BinOp a o b pos) (TEv cA W fun loc s => (ma loc s).bind fun y s1 => (mb loc s1).bind fun z s2 => binV D cf o y z s2) := by
  refine ⟨fun pins s st H Q I h => ?_⟩
  obtain ⟨al, G, loc, s0, r, S, p⟩ := h
  refine wpAny_BinOp (binT ha hb (R := fun v u H2 => rBin2 cA W D cf o v u st H2 Q) I ?_ fun x1 x2 sh2 v u H2 I2 e1 e2 q => bin_run F c I2 e1 e2 q)
  refine TEv.go r S p fun y s1 al1 G1 H1 v x1 r1 S1 rv p1 => ?_
  exact TEv.go r1 S1 p1 fun z s2 al2 G2 H2 u x2 r2 S2 ru p2 => ⟨al2, G2, s2, y, z, r2, rv.mono x2, ru, p2⟩
theorem s_neg (F : PfX X D M cA fA fdA psA k cf) (c : Cok X N sc W) {a : Expr} {ma : Loc → Store → Out VV} {pos : Pos} (ha : PE X a (TEv cA W ma)) :
    PE X (.UnaryOp .USub a pos) (TEv cA W fun loc s => (ma loc s).bind fun y s1 => negV D cf y s1) := by
  refine ⟨fun pins s st H Q I h => ?_⟩
  obtain ⟨al, G, loc, s0, r, S, p⟩ := h
  refine UnaryOp_ (thn (ha.run pins s st H (fun v H1 => ∃ al1 G1 y s1, Rl cA al1 G1 s1 H1 ∧ RepV cA al1 G1 y v ∧ Po cA W al1 G1 st (kV cA Q) (negV D cf y s1)) I ?_) fun x1 sh1 ⟨v, H1, I1, e1, al1, G1, y, s1, r1, rv, p1⟩ => ?_)
  · exact TEv.go r S p fun y s1 al1 G1 H1 v x1 r1 S1 rv p1 => ⟨al1, G1, y, s1, r1, rv, p1⟩
  · unfold negV at p1
    split at p1
    · rename_i i h1
      exact un_neg pins sh1 st H1 v x1 Q I1 e1 ⟨i, seesI (r1.sees rv h1), p1.hereT r1 repI⟩
    · rename_i ci fs h1
      split at p1
      · rename_i g hg
        obtain ⟨ho, hom, d, hd, hn⟩ := omN_of hg
        obtain ⟨hcl, hme⟩ := F.mt ci _ g hom
        obtain ⟨xa, dx, gs, rfl, hb, rb⟩ := r1.sees rv h1
        cases e1
        obtain ⟨mA, O, _⟩ := ins_get I1.hok hb
        obtain ⟨od, J, _⟩ := O.look
        obtain ⟨m, hF⟩ := I1.fr
        refine PySem.W.ksp_neg hF I1.ok.mod.kin J hme.at_ hme.fn (wpAny_mono (call_own F c hd hn I1 r1 (ys := [y]) (vs := [.ref xa]) ⟨_, _, rfl, rv, rfl⟩ rfl (.cons rfl .nil) p1) (fun v s' z => ?_) fun _ _ e => e)
        cases v <;> first | exact z | exact z.elim
      · exact p1.elim
    · exact p1.elim
end
end Tw
set_option maxHeartbeats 4000000
namespace Tw.Q
open PySem PySem.SeqAt
open AutoSeq1 (wpAny_loadPart')
open MeetsSeq MeetsSeq2 MeetsSeq3 SeqRoads2
section
variable {prog : Program} {w : World} {A : Around} {R : Result → Shared → Prop}
def LLook (l b : Addr) (N : Nat) (s : Shared) (P : Array Value → Array Value → Prop) : Prop :=
  ∃ (items items2 : Array Value) (n n2 : Nat), s.heap.get? l = some { cls := .type "list", data := .seq items n } ∧ s.heap.get? b = some { cls := .type "list", data := .seq items2 n2 } ∧ items.size = N ∧ items2.size = N ∧ P items items2
def Turn (prog : Program) (w : World) (A : Around) (E : Value → Shared → Prop) (I : Nat → Shared → Prop) (J : Shared → Prop) (i : Nat) (s : Shared) (items items2 : Array Value) : Prop :=
  ∀ (h1 : i < items.size) (h2 : i < items2.size), wpAny (model prog w) A.in1 (eqBool items[i] items2[i]) (fun r s' => (r = true ∧ I (i + 1) s') ∨ (r = false ∧ J s')) E s
theorem eq_loopE (l b : Addr) (N : Nat) (I : Nat → Shared → Prop) (J : Shared → Prop) (hl : ∀ i s, I i s → LLook l b N s (Turn prog w A (fun e s' => R (.error e) s') I J i s)) (hj : ∀ s, J s → LLook l b N s fun _ _ => True)
    (fin : ∀ s, I N s → R (.ok (.ret (.bool true))) s) (finJ : ∀ s, J s → R (.ok (.ret (.bool false))) s) (k : Nat) :
    ∀ i : Nat, N - i = k → i ≤ N → ∀ s, I i s →
      wpAny (model prog w) A.in1 (Builtin.«list.__eq__.loop» ⟨[.ref l, .ref b, rawInt i, rawInt 2], []⟩) (GQ.FinOf prog w A R) (fun e s' => R (.error e) s') s := by
  induction k with
  | zero =>
    intro i hk hi s h
    obtain ⟨items, items2, n, n2, hl1, hb1, hs1, hs2, _⟩ := hl _ _ h
    have hi' : i = N := by omega
    have hR : R (.ok (.ret (.bool true))) s := fin s (hi' ▸ h)
    obtain ⟨hp, g, d, tk, os⟩ := s
    wp_walk using wpAny_loadPart' hl1, wpAny_loadPart' hb1
    have hi1 : items[((i : Nat) : Int).toNat]? = none := by simp; omega
    have hi2 : items2[((i : Nat) : Int).toNat]? = none := by simp; omega
    rw [hi1, hi2]
    wp_walk using wpAny_loadPart' hl1, wpAny_loadPart' hb1
    show R (.ok (.ret (.bool (items.size == items2.size)))) _
    rw [hs1, hs2]
    simpa using hR
  | succ k ih =>
    intro i hk hi s h
    obtain ⟨items, items2, n, n2, hl1, hb1, hs1, hs2, turn⟩ := hl _ _ h
    have hlt : i < items.size := by omega
    have hlt2 : i < items2.size := by omega
    have ht := turn hlt hlt2
    obtain ⟨hp, g, d, tk, os⟩ := s
    wp_walk using wpAny_loadPart' hl1, wpAny_loadPart' hb1
    have hi1 : items[((i : Nat) : Int).toNat]? = some items[i] := by simp [hlt]
    have hi2 : items2[((i : Nat) : Int).toNat]? = some items2[i] := by simp [hlt2]
    have hc : ((i : Int) + 1) = ((i + 1 : Nat) : Int) := by omega
    rw [hi1, hi2]
    refine wpAny_bind (wpAny_mono ht (fun r s2 h2 => ?_) fun _ _ x => x)
    rcases h2 with ⟨hr, h2⟩ | ⟨hr, h2⟩
    · subst hr
      have hrec := ih (i + 1) (by omega) (by omega) s2 h2
      obtain ⟨hp2, g2, d2, tk2, os2⟩ := s2
      wp_walk
      rw [hc]
      exact ⟨plainId_quiet plain_eq_loop _, codeAny_builtin entry_eq_loop (by
        rw [Around.under_plainId plain_eq_loop _]
        exact hrec)⟩
    · subst hr
      obtain ⟨it3, it4, n3, n4, hl3, hb3, hs3, hs4, _⟩ := hj _ h2
      have hR := finJ _ h2
      obtain ⟨hp2, g2, d2, tk2, os2⟩ := s2
      wp_walk using wpAny_loadPart' hl3, wpAny_loadPart' hb3
      have hi3 : it3[((i : Nat) : Int).toNat]? = some (it3[i]'(by omega)) := by simp [show i < it3.size by omega]
      have hi4 : it4[((i : Nat) : Int).toNat]? = some (it4[i]'(by omega)) := by simp [show i < it4.size by omega]
      rw [hi3, hi4]
      wp_walk
      exact hR
theorem ne_loopE (l b : Addr) (N : Nat) (I : Nat → Shared → Prop) (J : Shared → Prop) (hl : ∀ i s, I i s → LLook l b N s (Turn prog w A (fun e s' => R (.error e) s') I J i s)) (hj : ∀ s, J s → LLook l b N s fun _ _ => True)
    (fin : ∀ s, I N s → R (.ok (.ret (.bool false))) s) (finJ : ∀ s, J s → R (.ok (.ret (.bool true))) s) (k : Nat) :
    ∀ i : Nat, N - i = k → i ≤ N → ∀ s, I i s →
      wpAny (model prog w) A.in1 (Builtin.«list.__eq__.loop» ⟨[.ref l, .ref b, rawInt i, rawInt 3], []⟩) (GQ.FinOf prog w A R) (fun e s' => R (.error e) s') s := by
  induction k with
  | zero =>
    intro i hk hi s h
    obtain ⟨items, items2, n, n2, hl1, hb1, hs1, hs2, _⟩ := hl _ _ h
    have hi' : i = N := by omega
    have hR : R (.ok (.ret (.bool false))) s := fin s (hi' ▸ h)
    obtain ⟨hp, g, d, tk, os⟩ := s
    wp_walk using wpAny_loadPart' hl1, wpAny_loadPart' hb1
    have hi1 : items[((i : Nat) : Int).toNat]? = none := by simp; omega
    have hi2 : items2[((i : Nat) : Int).toNat]? = none := by simp; omega
    rw [hi1, hi2]
    wp_walk using wpAny_loadPart' hl1, wpAny_loadPart' hb1
    show R (.ok (.ret (.bool (items.size != items2.size)))) _
    rw [hs1, hs2]
    simpa using hR
  | succ k ih =>
    intro i hk hi s h
    obtain ⟨items, items2, n, n2, hl1, hb1, hs1, hs2, turn⟩ := hl _ _ h
    have hlt : i < items.size := by omega
    have hlt2 : i < items2.size := by omega
    have ht := turn hlt hlt2
    obtain ⟨hp, g, d, tk, os⟩ := s
    wp_walk using wpAny_loadPart' hl1, wpAny_loadPart' hb1
    have hi1 : items[((i : Nat) : Int).toNat]? = some items[i] := by simp [hlt]
    have hi2 : items2[((i : Nat) : Int).toNat]? = some items2[i] := by simp [hlt2]
    have hc : ((i : Int) + 1) = ((i + 1 : Nat) : Int) := by omega
    rw [hi1, hi2]
    refine wpAny_bind (wpAny_mono ht (fun r s2 h2 => ?_) fun _ _ x => x)
    rcases h2 with ⟨hr, h2⟩ | ⟨hr, h2⟩
    · subst hr
      have hrec := ih (i + 1) (by omega) (by omega) s2 h2
      obtain ⟨hp2, g2, d2, tk2, os2⟩ := s2
      wp_walk
      rw [hc]
      exact ⟨plainId_quiet plain_eq_loop _, codeAny_builtin entry_eq_loop (by
        rw [Around.under_plainId plain_eq_loop _]
        exact hrec)⟩
    · subst hr
      obtain ⟨it3, it4, n3, n4, hl3, hb3, hs3, hs4, _⟩ := hj _ h2
      have hR := finJ _ h2
      obtain ⟨hp2, g2, d2, tk2, os2⟩ := s2
      wp_walk using wpAny_loadPart' hl3, wpAny_loadPart' hb3
      have hi3 : it3[((i : Nat) : Int).toNat]? = some (it3[i]'(by omega)) := by simp [show i < it3.size by omega]
      have hi4 : it4[((i : Nat) : Int).toNat]? = some (it4[i]'(by omega)) := by simp [show i < it4.size by omega]
      rw [hi3, hi4]
      wp_walk
      exact hR
theorem list_eqE (l b : Addr) (N : Nat) (I : Nat → Shared → Prop) (J : Shared → Prop) (hl : ∀ i s, I i s → LLook l b N s (Turn prog w A (fun e s' => R (.error e) s') I J i s)) (hj : ∀ s, J s → LLook l b N s fun _ _ => True)
    (fin : ∀ s, I N s → R (.ok (.ret (.bool true))) s) (finJ : ∀ s, J s → R (.ok (.ret (.bool false))) s) {s : Shared} (h : I 0 s) :
    wpAny (model prog w) A.in1 (Builtin.«list.__eq__» ⟨[.ref l, .ref b], []⟩) (GQ.FinOf prog w A R) (fun e s' => R (.error e) s') s := by
  obtain ⟨items, items2, n, n2, hl1, hb1, hs1, hs2, _⟩ := hl _ _ h
  have hrec := eq_loopE (A := A) (R := R) l b N I J hl hj fin finJ _ 0 rfl (Nat.zero_le _) s h
  obtain ⟨hp, g, d, tk, os⟩ := s
  have f3 := AutoSeq1.sub_list_list
  have hne : ¬ (items.size != items2.size) = true := by simp [hs1, hs2]
  wp_walk using wpAny_loadPart' hl1, wpAny_loadPart' hb1
  exact ⟨plainId_quiet plain_eq_loop _, codeAny_builtin entry_eq_loop (by
    rw [Around.under_plainId plain_eq_loop _]
    exact hrec)⟩
theorem list_neE (l b : Addr) (N : Nat) (I : Nat → Shared → Prop) (J : Shared → Prop) (hl : ∀ i s, I i s → LLook l b N s (Turn prog w A (fun e s' => R (.error e) s') I J i s)) (hj : ∀ s, J s → LLook l b N s fun _ _ => True)
    (fin : ∀ s, I N s → R (.ok (.ret (.bool false))) s) (finJ : ∀ s, J s → R (.ok (.ret (.bool true))) s) {s : Shared} (h : I 0 s) :
    wpAny (model prog w) A.in1 (Builtin.«list.__ne__» ⟨[.ref l, .ref b], []⟩) (GQ.FinOf prog w A R) (fun e s' => R (.error e) s') s := by
  obtain ⟨items, items2, n, n2, hl1, hb1, hs1, hs2, _⟩ := hl _ _ h
  have hrec := ne_loopE (A := A) (R := R) l b N I J hl hj fin finJ _ 0 rfl (Nat.zero_le _) s h
  obtain ⟨hp, g, d, tk, os⟩ := s
  have f3 := AutoSeq1.sub_list_list
  have hne : ¬ (items.size != items2.size) = true := by simp [hs1, hs2]
  wp_walk using wpAny_loadPart' hl1, wpAny_loadPart' hb1
  exact ⟨plainId_quiet plain_eq_loop _, codeAny_builtin entry_eq_loop (by
    rw [Around.under_plainId plain_eq_loop _]
    exact hrec)⟩
theorem tuple_eqE (l b : Addr) (items items2 : Array Value) (n n2 : Nat) (dd dd2 : Option Addr) (sl sl2 : Array (Option Value)) (I : Nat → Shared → Prop) (J : Shared → Prop)
    (turn : ∀ i s, I i s → Turn prog w A (fun e s' => R (.error e) s') I J i s items items2)
    (fin : ∀ s, I (min items.size items2.size) s → R (.ok (.ret (.bool (items.size == items2.size)))) s) (finJ : ∀ s, J s → R (.ok (.ret (.bool false))) s)
    {s : Shared} (hl1 : s.heap.get? l = some { cls := .type "tuple", dict := dd, data := .seq items n, slots := sl }) (hb1 : s.heap.get? b = some { cls := .type "tuple", dict := dd2, data := .seq items2 n2, slots := sl2 }) (h : I 0 s) :
    wpAny (model prog w) A.in1 (Builtin.«tuple.__eq__» ⟨[.ref l, .ref b], []⟩) (GQ.FinOf prog w A R) (fun e s' => R (.error e) s') s := by
  have f2 := AutoSeq1.sub_tuple_tuple
  have hZ : (items.toList.zip items2.toList).length = min items.size items2.size := by simp
  have h0 := h
  obtain ⟨hp, g, d, tk, os⟩ := s
  wp_walk using wpAny_loadPart' hl1, wpAny_loadPart' hb1, wpAny_forIn_list _ (fun rest b s' => b.1 = none ∧ ∃ i, rest = (items.toList.zip items2.toList).drop i ∧ i ≤ min items.size items2.size ∧ I i s') _
  case turn =>
    rintro ⟨y, x⟩ rest b s' ⟨hb', i, hz, hi, hI⟩
    have hlt : i < (items.toList.zip items2.toList).length := by
      rcases Nat.lt_or_ge i (items.toList.zip items2.toList).length with h' | h'
      · exact h'
      · rw [List.drop_of_length_le h'] at hz; cases hz
    have hm : i < min items.size items2.size := hZ ▸ hlt
    have h1 : i < items.size := Nat.lt_of_lt_of_le hm (Nat.min_le_left _ _)
    have h2 : i < items2.size := Nat.lt_of_lt_of_le hm (Nat.min_le_right _ _)
    rw [List.drop_eq_getElem_cons hlt] at hz
    injection hz with hyx hrest
    have hy : y = items[i] := by have := congrArg Prod.fst hyx; simpa using this
    have hx : x = items2[i] := by have := congrArg Prod.snd hyx; simpa using this
    subst hy hx
    refine wpAny_bind (wpAny_mono (turn i s' hI h1 h2) (fun r s2 q2 => ?_) fun _ _ x => x)
    rcases q2 with ⟨hr, q2⟩ | ⟨hr, q2⟩
    · subst hr
      wp_walk
      exact ⟨rfl, i + 1, hrest, hm, q2⟩
    · subst hr
      have := finJ _ q2
      wp_walk
      exact this
  case fin =>
    rintro ⟨b1, b2⟩ s' ⟨hb', i, hz, hi, hI⟩
    simp only at hb'
    subst hb'
    have hge : min items.size items2.size ≤ i := by
      rcases Nat.lt_or_ge i (items.toList.zip items2.toList).length with h' | h'
      · rw [List.drop_eq_getElem_cons h'] at hz; cases hz
      · exact hZ ▸ h'
    have hi' : i = min items.size items2.size := by omega
    have hR := fin s' (hi' ▸ hI)
    wp_walk
    simpa [Builtin.Tuple.tupleCompareSizes] using hR
  case h =>
    exact ⟨rfl, 0, rfl, Nat.zero_le _, h0⟩
theorem tuple_neE (l b : Addr) (items items2 : Array Value) (n n2 : Nat) (dd dd2 : Option Addr) (sl sl2 : Array (Option Value)) (I : Nat → Shared → Prop) (J : Shared → Prop)
    (turn : ∀ i s, I i s → Turn prog w A (fun e s' => R (.error e) s') I J i s items items2)
    (fin : ∀ s, I (min items.size items2.size) s → R (.ok (.ret (.bool (items.size != items2.size)))) s) (finJ : ∀ s, J s → R (.ok (.ret (.bool true))) s)
    {s : Shared} (hl1 : s.heap.get? l = some { cls := .type "tuple", dict := dd, data := .seq items n, slots := sl }) (hb1 : s.heap.get? b = some { cls := .type "tuple", dict := dd2, data := .seq items2 n2, slots := sl2 }) (h : I 0 s) :
    wpAny (model prog w) A.in1 (Builtin.«tuple.__ne__» ⟨[.ref l, .ref b], []⟩) (GQ.FinOf prog w A R) (fun e s' => R (.error e) s') s := by
  have f2 := AutoSeq1.sub_tuple_tuple
  have hZ : (items.toList.zip items2.toList).length = min items.size items2.size := by simp
  have h0 := h
  obtain ⟨hp, g, d, tk, os⟩ := s
  wp_walk using wpAny_loadPart' hl1, wpAny_loadPart' hb1, wpAny_forIn_list _ (fun rest b s' => b.1 = none ∧ ∃ i, rest = (items.toList.zip items2.toList).drop i ∧ i ≤ min items.size items2.size ∧ I i s') _
  case turn =>
    rintro ⟨y, x⟩ rest b s' ⟨hb', i, hz, hi, hI⟩
    have hlt : i < (items.toList.zip items2.toList).length := by
      rcases Nat.lt_or_ge i (items.toList.zip items2.toList).length with h' | h'
      · exact h'
      · rw [List.drop_of_length_le h'] at hz; cases hz
    have hm : i < min items.size items2.size := hZ ▸ hlt
    have h1 : i < items.size := Nat.lt_of_lt_of_le hm (Nat.min_le_left _ _)
    have h2 : i < items2.size := Nat.lt_of_lt_of_le hm (Nat.min_le_right _ _)
    rw [List.drop_eq_getElem_cons hlt] at hz
    injection hz with hyx hrest
    have hy : y = items[i] := by have := congrArg Prod.fst hyx; simpa using this
    have hx : x = items2[i] := by have := congrArg Prod.snd hyx; simpa using this
    subst hy hx
    refine wpAny_bind (wpAny_mono (turn i s' hI h1 h2) (fun r s2 q2 => ?_) fun _ _ x => x)
    rcases q2 with ⟨hr, q2⟩ | ⟨hr, q2⟩
    · subst hr
      wp_walk
      exact ⟨rfl, i + 1, hrest, hm, q2⟩
    · subst hr
      have := finJ _ q2
      wp_walk
      exact this
  case fin =>
    rintro ⟨b1, b2⟩ s' ⟨hb', i, hz, hi, hI⟩
    simp only at hb'
    subst hb'
    have hge : min items.size items2.size ≤ i := by
      rcases Nat.lt_or_ge i (items.toList.zip items2.toList).length with h' | h'
      · rw [List.drop_eq_getElem_cons h'] at hz; cases hz
      · exact hZ ▸ h'
    have hi' : i = min items.size items2.size := by omega
    have hR := fin s' (hi' ▸ hI)
    wp_walk
    simpa [Builtin.Tuple.tupleCompareSizes] using hR
  case h =>
    exact ⟨rfl, 0, rfl, Nat.zero_le _, h0⟩
end
section
variable {prog : Program} {w : World} {A : Around} {E : Value → Shared → Prop} {s : Shared}
theorem rc_listE {l b : Addr} {N : Nat} {Q : Value → Shared → Prop} (hu : A.units < cLine) (I : Nat → Shared → Prop) (J : Shared → Prop) (hl : ∀ i s, I i s → LLook l b N s (Turn prog w A E I J i s)) (hj : ∀ s, J s → LLook l b N s fun _ _ => True)
    (fin : ∀ s, I N s → Q (.bool true) s) (finJ : ∀ s, J s → Q (.bool false) s) (h : I 0 s) : wpAny (model prog w) A (richCompare .Eq (.ref l) (.ref b)) Q E s := by
  obtain ⟨items, items2, n, n2, hl1, hb1, _, _, _⟩ := hl _ _ h
  refine wpAny_richCompare_same_room (op := .Eq) ⟨_, hl1, rfl⟩ ⟨_, hb1, rfl⟩ F.slot_list_eq (GQ.call_here F.slot_list_eq ⟨_, hl1, rfl⟩ F.entry_list_eq (F.args_list_eq_2 _ _) ?_) hu
  exact list_eqE (R := wants (fun v s' => v ≠ .notImplemented ∧ Q v s') E) l b N I J hl hj (fun s' q => ⟨(fun x => nomatch x), fin s' q⟩) (fun s' q => ⟨(fun x => nomatch x), finJ s' q⟩) h
theorem rc_listN {l b : Addr} {N : Nat} {Q : Value → Shared → Prop} (hu : A.units < cLine) (I : Nat → Shared → Prop) (J : Shared → Prop) (hl : ∀ i s, I i s → LLook l b N s (Turn prog w A E I J i s)) (hj : ∀ s, J s → LLook l b N s fun _ _ => True)
    (fin : ∀ s, I N s → Q (.bool false) s) (finJ : ∀ s, J s → Q (.bool true) s) (h : I 0 s) : wpAny (model prog w) A (richCompare .NotEq (.ref l) (.ref b)) Q E s := by
  obtain ⟨items, items2, n, n2, hl1, hb1, _, _, _⟩ := hl _ _ h
  refine wpAny_richCompare_same_room (op := .NotEq) ⟨_, hl1, rfl⟩ ⟨_, hb1, rfl⟩ F.slot_list_ne (GQ.call_here F.slot_list_ne ⟨_, hl1, rfl⟩ F.entry_list_ne (F.args_list_ne_2 _ _) ?_) hu
  exact list_neE (R := wants (fun v s' => v ≠ .notImplemented ∧ Q v s') E) l b N I J hl hj (fun s' q => ⟨(fun x => nomatch x), fin s' q⟩) (fun s' q => ⟨(fun x => nomatch x), finJ s' q⟩) h
theorem rc_tupE {l b : Addr} {items items2 : Array Value} {Q : Value → Shared → Prop} (hu : A.units < cLine) (I : Nat → Shared → Prop) (J : Shared → Prop) (hl : s.heap.IsTuple l items) (hb : s.heap.IsTuple b items2)
    (turn : ∀ i s, I i s → Turn prog w A E I J i s items items2) (fin : ∀ s, I (min items.size items2.size) s → Q (.bool (items.size == items2.size)) s) (finJ : ∀ s, J s → Q (.bool false) s) (h : I 0 s) :
    wpAny (model prog w) A (richCompare .Eq (.ref l) (.ref b)) Q E s := by
  obtain ⟨⟨cls, dd, data, sl⟩, ho, hc, n, hd⟩ := id hl
  obtain ⟨⟨cls2, dd2, data2, sl2⟩, ho2, hc2, n2, hd2⟩ := id hb
  simp only at hc hd hc2 hd2
  subst hc hd hc2 hd2
  refine wpAny_richCompare_same_room (op := .Eq) ⟨_, ho, rfl⟩ ⟨_, ho2, rfl⟩ F.slot_tuple_eq (GQ.call_here F.slot_tuple_eq ⟨_, ho, rfl⟩ F.entry_tuple_eq (F.args_tuple_eq_2 _ _) ?_) hu
  exact tuple_eqE (R := wants (fun v s' => v ≠ .notImplemented ∧ Q v s') E) l b items items2 n n2 dd dd2 sl sl2 I J turn (fun s' q => ⟨(fun x => nomatch x), fin s' q⟩) (fun s' q => ⟨(fun x => nomatch x), finJ s' q⟩) ho ho2 h
theorem rc_tupN {l b : Addr} {items items2 : Array Value} {Q : Value → Shared → Prop} (hu : A.units < cLine) (I : Nat → Shared → Prop) (J : Shared → Prop) (hl : s.heap.IsTuple l items) (hb : s.heap.IsTuple b items2)
    (turn : ∀ i s, I i s → Turn prog w A E I J i s items items2) (fin : ∀ s, I (min items.size items2.size) s → Q (.bool (items.size != items2.size)) s) (finJ : ∀ s, J s → Q (.bool true) s) (h : I 0 s) :
    wpAny (model prog w) A (richCompare .NotEq (.ref l) (.ref b)) Q E s := by
  obtain ⟨⟨cls, dd, data, sl⟩, ho, hc, n, hd⟩ := id hl
  obtain ⟨⟨cls2, dd2, data2, sl2⟩, ho2, hc2, n2, hd2⟩ := id hb
  simp only at hc hd hc2 hd2
  subst hc hd hc2 hd2
  refine wpAny_richCompare_same_room (op := .NotEq) ⟨_, ho, rfl⟩ ⟨_, ho2, rfl⟩ F.slot_tuple_ne (GQ.call_here F.slot_tuple_ne ⟨_, ho, rfl⟩ F.entry_tuple_ne (F.args_tuple_ne_2 _ _) ?_) hu
  exact tuple_neE (R := wants (fun v s' => v ≠ .notImplemented ∧ Q v s') E) l b items items2 n n2 dd dd2 sl sl2 I J turn (fun s' q => ⟨(fun x => nomatch x), fin s' q⟩) (fun s' q => ⟨(fun x => nomatch x), finJ s' q⟩) ho ho2 h
end
end Tw.Q
namespace PySem.W
open PySem PySem.Calls PyProof.Rows
section
variable {prog : Program} {w : World} {A : Around} {E : Value → Shared → Prop} {s : Shared} {K : Frag} {x C L f : Addr} {h₀ : Heap} {m : Str → Option Value} {ox : Obj} {od : Option Obj} {b tb : Value}
theorem tw_objNe {Q : Fin → Shared → Prop} (hu : A.units < cLine) (X : K.In s.heap) (I : InstAt s.heap x ox C od) (hs : findIn K (.ref C) "__eq__" = some (some (.ref f))) (hf : isFn K (.ref f) = true)
    (h : wpAny (model prog w) A (call (.ref f) [.ref x, b]) (fun v s' => ∃ r : Bool, v = .bool r ∧ Q (.done (.ret (.bool (!r)))) s') E s) : wpAny (model prog w) A (Builtin.«object.__ne__» ⟨[.ref x, b], []⟩) Q E s := by
  unfold Builtin.«object.__ne__»
  repeat (first
    | with_reducible refine wpAny_cRoomFor hu ?_
    | (refine wpAny_bind (m := callSpecialIfBound? (.ref x) (Str.ofString "__eq__") [b])
        (ifBound_K X I hs hf (wpAny_mono h (fun r s' hr => by
          obtain ⟨b, rfl, hq⟩ := hr
          repeat (first | exact hq | exact wpAny_pure hq | exact wpAny_truthy_bool hq | (refine wpAny_bind (m := truthy (.bool _)) (wpAny_truthy_bool ?_)) | wp_step)) fun _ _ e => e)))
    | wp_step)
theorem tw_ne {Q : Value → Shared → Prop} (hu : A.units + 2 < cLine) (X : K.In s.heap) (I : InstAt s.heap x ox C od) (hb : Looks (model prog w) s.heap (typeOf b) tb) (hn : notFirst K C tb = true)
    (hne : findIn K (.ref C) "__ne__" = some (some (.builtin "object.__ne__"))) (hs : findIn K (.ref C) "__eq__" = some (some (.ref f))) (hf : isFn K (.ref f) = true) (ho : mroIn K C (.type "object") = some true)
    (h : wpAny (model prog w) A.in1 (call (.ref f) [.ref x, b]) (fun v s' => ∃ r : Bool, v = .bool r ∧ Q (.bool (!r)) s') E s) : wpAny (model prog w) A (richCompare .NotEq (.ref x) b) Q E s := by
  have body : wpAny (model prog w) A (call (.builtin "object.__ne__") [.ref x, b]) (fun v s' => ∃ r : Bool, v = .bool r ∧ Q (.bool r) s') E s := by
    have hi : Looks (model prog w) s.heap (isInstance (.ref x) (.type "object")) true := I.type.andThen (looks_mroIn X ho)
    refine wpAny_call (codeAny_call_builtin F.slot_object_ne.plain F.cmpEntry_ne (check_slot F.cmpKind_ne F.cmpSplit_ne hi (F.cmpArgs_ne _ _) (tw_objNe (A := A.in1) (by show A.units + 1 < cLine; omega) X I hs hf (wpAny_mono h (fun v s' hv => ?_) fun _ _ e => e))))
    obtain ⟨r, rfl, q⟩ := hv
    exact ⟨r, rfl, !r, rfl, q⟩
  have one : wpAny (model prog w) A (tryCompare (.ref x) "__ne__" b) (fun r s' => ∃ v, r = some v ∧ Q v s') E s := by
    unfold tryCompare
    refine wpAny_bind (m := callSpecialIfBound? (.ref x) "__ne__" [b]) (wpAny_mono (Q := fun o s' => ∃ r : Bool, o = some (.bool r) ∧ Q (.bool r) s') ?_ (fun o s' ⟨r, e, q⟩ => ?_) fun _ _ e => e)
    · have fin : wpAny (model prog w) A (call (.builtin "object.__ne__") ([.ref x] ++ [b]) >>= fun v => pure (some v)) (fun o s' => ∃ r : Bool, o = some (.bool r) ∧ Q (.bool r) s') E s :=
        wpAny_bind (wpAny_mono body (fun v s' ⟨r, e, q⟩ => wpAny_pure ⟨r, by rw [e], q⟩) fun _ _ h' => h')
      have bd : bindSpecial (.builtin "object.__ne__") (.ref x) = pure (.builtin "object.__ne__", [.ref x]) := F.slot_object_ne.bind _
      simp only [callSpecialIfBound?, bindSpecialIfBound?]
      refine wpAny_holding (wpAny_bind (wpAny_bind (wpAny_bind (I.type.here ((looks_findIn X hne).here ?_)))))
      refine wpAny_bind (wpAny_askSetting (wpAny_ite ?_))
      split
      · exact wpAny_bind ((Looks.of_pure bd).here (wpAny_pure (by exact fin)))
      · exact wpAny_tryCatch (wpAny_bind ((Looks.of_pure bd).here (wpAny_pure (by exact fin))))
    · subst e
      exact wpAny_pure ⟨_, rfl, q⟩
  unfold richCompare
  simp only [oneThing_ref]
  refine wpAny_holding (wpAny_bind (wpAny_cRoomFor (by omega) ?_))
  refine wpAny_bind (I.type.here (wpAny_bind (hb.here ?_)))
  split
  · rename_i q
    have e : subIn K tb (.ref C) = some false := by
      rcases Bool.or_eq_true_iff.mp hn with e | e
      · rw [beq_iff_eq.mp e] at q; simp at q
      · exact beq_iff_eq.mp e
    refine wpAny_bind ((looks_subIn X e).here ?_)
    simp only [Bool.false_eq_true, if_false]
    refine wpAny_bind (wpAny_mono one (fun r s' z => ?_) fun _ _ e => e)
    obtain ⟨v, rfl, hq⟩ := z
    exact wpAny_pure hq
  · refine wpAny_bind (wpAny_pure ?_)
    simp only [Bool.false_eq_true, if_false]
    refine wpAny_bind (wpAny_mono one (fun r s' z => ?_) fun _ _ e => e)
    obtain ⟨v, rfl, hq⟩ := z
    exact wpAny_pure hq
end
end PySem.W
set_option maxHeartbeats 4000000
namespace Tw
open PySem PySem.Spec PyProof.Rows L2
structure SubG (X : Cx) (k j : Nat) (A : Around) : Prop where
  hd : A.handled = none
  dp : A.depth + 3 * k + 5 < recursionLimit
  un : A.units + 16 * k + 200 + j < cLine
  fr : A.frames = X.A.frames
  gd : A.guards = X.A.guards
theorem SubG.in1 {X : Cx} {k j : Nat} {A : Around} (s : SubG X k (j + 1) A) : SubG X k j A.in1 := ⟨s.hd, s.dp, by have := s.un; show A.units + 1 + 16 * k + 200 + j < _; omega, s.fr, s.gd⟩
theorem SubG.mono {X : Cx} {k j i : Nat} {A : Around} (s : SubG X k j A) (h : i ≤ j) : SubG X k i A := ⟨s.hd, s.dp, by have := s.un; omega, s.fr, s.gd⟩
theorem SubG.room {X : Cx} {k j : Nat} {A : Around} (s : SubG X k j A) : Room k A := ⟨s.hd, s.dp, by have := s.un; omega⟩
theorem SubG.top {X : Cx} {k : Nat} (r : Room (k + 1) X.A) : SubG X k 16 X.A := ⟨r.hd, by have := r.dp; omega, by have := r.un; omega, rfl, rfl⟩
def Lp (X : Cx) (cA : CA) (al : List Addr) (st : L2.St) (pins : List (Addr × Obj)) (s : Store) (G : Hp) (sh : Shared) : Prop := ∃ G' H', Sb G G' ∧ Rl cA al G' s H' ∧ Inv X pins st H' sh
section
variable {cA : CA} {G : Hp}
mutual
theorem dif_ok : ∀ {t t' : T} {v : V}, dif t t' = true → Rep cA G t v → Rep cA G t' v → False
  | .lst xs, t', v, h, r, r' => by
    unfold Rep at r
    obtain ⟨a, vs, rfl, g, q⟩ := r
    cases t' with
    | lst ys =>
      unfold Rep at r'
      obtain ⟨b, us, e, g', q'⟩ := r'
      cases e
      rw [g] at g'; cases g'
      unfold dif at h
      exact difL_ok h q q'
    | tup ys => unfold Rep at r'; obtain ⟨b, us, e, g', q'⟩ := r'; cases e; rw [g] at g'; cases g'
    | _ => unfold dif at h; simp [eqFlat] at h
  | .tup xs, t', v, h, r, r' => by
    unfold Rep at r
    obtain ⟨a, vs, rfl, g, q⟩ := r
    cases t' with
    | tup ys =>
      unfold Rep at r'
      obtain ⟨b, us, e, g', q'⟩ := r'
      cases e
      rw [g] at g'; cases g'
      unfold dif at h
      exact difL_ok h q q'
    | lst ys => unfold Rep at r'; obtain ⟨b, us, e, g', q'⟩ := r'; cases e; rw [g] at g'; cases g'
    | _ => unfold dif at h; simp [eqFlat] at h
  | .ins c fs, t', v, h, r, r' => by
    unfold Rep at r
    obtain ⟨a, dx, vs, rfl, g, q⟩ := r
    cases t' with
    | ins c' gs =>
      unfold Rep at r'
      obtain ⟨b, dx', us, e, g', q'⟩ := r'
      cases e
      rw [g] at g'
      injection Option.some.inj g' with e4 e5 e6
      subst e6
      unfold dif at h
      exact difF_ok h q q'
    | lst ys => unfold Rep at r'; obtain ⟨b, us, e, g', q'⟩ := r'; cases e; rw [g] at g'; cases g'
    | tup ys => unfold Rep at r'; obtain ⟨b, us, e, g', q'⟩ := r'; cases e; rw [g] at g'; cases g'
    | _ => unfold dif at h; simp [eqFlat] at h
  | .non, t', v, h, r, r' => dif_flat rfl h r r'
  | .bl _, t', v, h, r, r' => dif_flat rfl h r r'
  | .int _, t', v, h, r, r' => dif_flat rfl h r r'
  | .str _, t', v, h, r, r' => dif_flat rfl h r r'
  | .ty _, t', v, h, r, r' => by unfold dif at h; simp [eqFlat] at h
  | .dct _, t', v, h, r, r' => by unfold dif at h; simp [eqFlat] at h
  | .scr _, t', v, h, r, r' => by unfold dif at h; simp [eqFlat] at h
  | .opq, t', v, h, r, r' => by unfold dif at h; simp [eqFlat] at h
theorem difL_ok : ∀ {xs ys : List T} {vs : List V}, difL xs ys = true → RepL cA G xs vs → RepL cA G ys vs → False
  | [], [], vs, h, r, r' => by unfold difL at h; cases h
  | x :: xs, y :: ys, vs, h, r, r' => by
    unfold RepL at r r'
    obtain ⟨v, rr, e, q, q'⟩ := r
    obtain ⟨u, uu, e', p, p'⟩ := r'
    subst e; cases e'
    unfold difL at h
    rcases Bool.or_eq_true_iff.mp h with h | h
    · exact dif_ok h q p
    · exact difL_ok h q' p'
  | [], y :: ys, vs, h, r, r' => by
    unfold RepL at r r'
    obtain ⟨u, uu, e', p, p'⟩ := r'
    subst e'; cases r
  | x :: xs, [], vs, h, r, r' => by
    unfold RepL at r r'
    obtain ⟨u, uu, e', p, p'⟩ := r
    subst e'; cases r'
theorem difF_ok : ∀ {xs ys : List (Str × T)} {vs : List (Str × V)}, difF xs ys = true → RepF cA G xs vs → RepF cA G ys vs → False
  | [], [], vs, h, r, r' => by unfold difF at h; cases h
  | (k, x) :: xs, (k', y) :: ys, vs, h, r, r' => by
    unfold RepF at r r'
    obtain ⟨v, rr, e, q, q'⟩ := r
    obtain ⟨u, uu, e', p, p'⟩ := r'
    subst e; cases e'
    unfold difF at h
    rcases Bool.or_eq_true_iff.mp h with h | h
    · exact dif_ok h q p
    · exact difF_ok h q' p'
  | [], (k, y) :: ys, vs, h, r, r' => by
    unfold RepF at r r'
    obtain ⟨u, uu, e', p, p'⟩ := r'
    subst e'; cases r
  | (k, x) :: xs, [], vs, h, r, r' => by
    unfold RepF at r r'
    obtain ⟨u, uu, e', p, p'⟩ := r
    subst e'; cases r'
theorem dif_flat : ∀ {t t' : T} {v : V}, isSc t = true → dif t t' = true → Rep cA G t v → Rep cA G t' v → False := fun {t t' v} hs h r r' => by
  have key : ∀ b, eqFlat t t' = some b → b = false → False := fun b e z => by
    have := eqFlat_V r r' e
    rw [z] at this
    cases t with
    | non => unfold Rep at r; subst r; cases this
    | bl x => unfold Rep at r; subst r; simp [eqV] at this
    | int x => unfold Rep at r; subst r; simp [eqV] at this
    | str x => unfold Rep at r; subst r; simp [eqV] at this
    | _ => cases hs
  have : ∃ b, eqFlat t t' = some b ∧ b = false := by
    cases t <;> first
      | (cases hs; done)
      | (cases t' <;> unfold dif at h <;> first
          | (simp [eqFlat] at h; done)
          | (simp only [eqFlat] at h ⊢; exact ⟨_, rfl, by simpa using h⟩))
  obtain ⟨b, e, z⟩ := this
  exact key b e z
end
end
section
variable {cA : CA} {X : Cx} {D : Defs} {M : Nms} {fA : Nat → Addr} {fdA : Nat → FuncData} {psA : Nat → List Str} {k j : Nat} {cf : CF} {al : List Addr} {st : L2.St} {pins : List (Addr × Obj)} {s : Store}
theorem call_at (F : PfX X D M cA fA fdA psA k cf) {A : Around} {g n : Nat} {d : FD} {G H : Hp} {sh : Shared} {ys : List VV} {vs : List V} {us : List Value} {b : Bool} (hd : D.fn g = some d) (hn : d.np = n) (sb : SubG X k j A)
    (I : Inv X pins st H sh) (r : Rl cA al G s H) (q : RepVs cA al G ys vs) (hl : vs.length = n) (rv : Vals vs us) (e : cf g ys s = .ok (.t (.bl b)) s) :
    wpAny (model X.prog X.w) A (call (.ref (fA g)) us) (fun v s' => v = .bool b ∧ Lp X cA al st pins s G s') X.xe sh := by
  have FF := F.fn g d hd
  have env0 : Env0 X.prog X.w X.K X.mg X.base A X.stack sh H := by
    have z0 := I.env0
    exact ⟨by rw [sb.fr]; exact z0.frames, z0.mod, z0.bs, z0.bsz, z0.funs, z0.frf, z0.hok, z0.bare⟩
  have sp : spF cA cf g d.np vs H (fun v H' => v = .bl b ∧ ∃ G', Sb G G' ∧ Rl cA al G' s H') (fun _ _ _ => False) := by
    refine ⟨al, G, ys, s, r, q, by rw [hl, hn], ?_⟩
    rw [e]
    intro al' G' H' v x r' rv'
    refine ⟨by unfold RepV Rep at rv'; exact rv', G', x.sub, ?_⟩
    obtain ⟨⟨l, el⟩, _⟩ := x
    have h1 := r.len
    have h2 := r'.len
    subst el
    rw [List.length_append] at h2
    have e0 : l = [] := List.length_eq_zero_iff.mp (by omega)
    subst e0
    rw [List.append_nil] at r'
    exact r'
  have hlen : us.length = (psA g).length := by rw [← rv.length]; exact FF.len _ _ _ _ sp
  have go := FF.run A X.stack sh H ⟨us, []⟩ us vs _ _ sb.room (fun h => by rw [sb.gd]; exact F.gd h) env0 (by
    have := F.bd g d hd sh us I.kIn (by rw [List.append_nil]; exact hlen)
    rw [List.append_nil] at this
    exact this) rv sp
  refine wpAny_call (codeAny_mono go fun res s3 hres => ?_)
  match res, hres with
  | .error er, ⟨_, _, _, _, _, _, _, _, _, _, _, _, zz⟩ => exact zz.elim
  | .ok (.ret uu), hres =>
    obtain ⟨v, H2, I2, rv, ev, G2, sb2, r2⟩ := I.after hres
    subst ev
    exact ⟨rv, G2, H2, sb2, r2, I2⟩
  | .ok .next, hres => exact hres.elim
  | .ok .brk, hres => exact hres.elim
  | .ok .cont, hres => exact hres.elim
def rcOp : Bool → CmpOp
  | false => .Eq
  | true => .NotEq
def ItOk (X : Cx) (cA : CA) (k : Nat) (al : List Addr) (st : L2.St) (pins : List (Addr × Obj)) (s : Store) (j : Nat) (f : T → T → Option Bool) : Prop :=
  ∀ (A : Around) (G H : Hp) (sh : Shared) (t t' : T) (v v' : V) (u u' : Value) (b : Bool), SubG X k j A → Rl cA al G s H → Inv X pins st H sh → Rep cA G t v → Rep cA G t' v' → RelV v u → RelV v' u' → eqI f t t' = some b →
    wpAny (model X.prog X.w) A (eqBool u u') (fun r s' => r = b ∧ Lp X cA al st pins s G s') X.xe sh
theorem Lp.mono {G G' : Hp} {sh : Shared} (h : Lp X cA al st pins s G' sh) (e : Sb G G') : Lp X cA al st pins s G sh := by
  obtain ⟨G2, H2, e2, r, I⟩ := h
  exact ⟨G2, H2, e.trans e2, r, I⟩
theorem eqLs_drop {f : T → T → Option Bool} {xs ys : List T} {i : Nat} {b : Bool} (h : eqLs f (xs.drop i) (ys.drop i) = some b) (h1 : i < xs.length) (h2 : i < ys.length) :
    ∃ c, f xs[i] ys[i] = some c ∧ (c = true → eqLs f (xs.drop (i + 1)) (ys.drop (i + 1)) = some b) ∧ (c = false → b = false) := by
  rw [List.drop_eq_getElem_cons h1, List.drop_eq_getElem_cons h2] at h
  unfold eqLs at h
  split at h
  · rename_i e; exact ⟨true, e, fun _ => h, fun z => by cases z⟩
  · rename_i e; cases h; exact ⟨false, e, (fun z => by cases z), fun _ => rfl⟩
  · cases h
theorem eqLs_end {f : T → T → Option Bool} {xs ys : List T} {i : Nat} {b : Bool} (h : eqLs f (xs.drop i) (ys.drop i) = some b) (hi : xs.length ≤ i ∨ ys.length ≤ i) : b = true := by
  rcases hi with hi | hi
  · rw [List.drop_of_length_le hi] at h; unfold eqLs at h; cases h; rfl
  · rw [List.drop_of_length_le hi] at h
    cases hx : xs.drop i with
    | nil => rw [hx] at h; unfold eqLs at h; cases h; rfl
    | cons a l => rw [hx] at h; unfold eqLs at h; cases h; rfl
theorem turn_at {f : T → T → Option Bool} (ih : ItOk X cA k al st pins s j f) {A : Around} (sb : SubG X k (j + 1) A) {G G1 H1 : Hp} {sh : Shared} {xs ys : List T} {vs us : List V} {its its2 : List Value} {i : Nat} {b : Bool}
    (e1 : Sb G G1) (r1 : Rl cA al G1 s H1) (I1 : Inv X pins st H1 sh) (hx : RepL cA G1 xs vs) (hy : RepL cA G1 ys us) (rx : Vals vs its) (ry : Vals us its2) (h : eqLs (eqI f) (xs.drop i) (ys.drop i) = some b) :
    Q.Turn X.prog X.w A X.xe (fun i sh' => Lp X cA al st pins s G sh' ∧ eqLs (eqI f) (xs.drop i) (ys.drop i) = some b) (fun sh' => Lp X cA al st pins s G sh' ∧ b = false) i sh its.toArray its2.toArray := by
  intro h1 h2
  have k1 : i < vs.length := by rw [rx.length]; simpa using h1
  have k2 : i < us.length := by rw [ry.length]; simpa using h2
  have l1 : i < xs.length := by rw [← hx.length]; exact k1
  have l2 : i < ys.length := by rw [← hy.length]; exact k2
  obtain ⟨c, hc, ht, hf⟩ := eqLs_drop h l1 l2
  obtain ⟨v, hv, rv⟩ := hx.get (List.getElem?_eq_getElem l1)
  obtain ⟨u, hu, ru⟩ := hy.get (List.getElem?_eq_getElem l2)
  obtain ⟨v', hv', rv'⟩ := rx.get hv
  obtain ⟨u', hu', ru'⟩ := ry.get hu
  have g1 : its[i]? = some its.toArray[i] := by
    have h1' : i < its.length := by simpa using h1
    rw [List.getElem?_eq_getElem h1'] <;> simp
  have g2 : its2[i]? = some its2.toArray[i] := by
    have h2' : i < its2.length := by simpa using h2
    rw [List.getElem?_eq_getElem h2'] <;> simp
  rw [g1] at hv'
  rw [g2] at hu'
  rw [Option.some.inj hv', Option.some.inj hu']
  refine wpAny_mono (ih A.in1 G1 H1 sh _ _ v u v' u' c sb.in1 r1 I1 rv ru rv' ru' hc) (fun r s' z => ?_) fun _ _ x => x
  obtain ⟨hr, lp⟩ := z
  subst hr
  cases r with
  | true => exact .inl ⟨rfl, lp.mono e1, ht rfl⟩
  | false => exact .inr ⟨rfl, lp.mono e1, hf rfl⟩
theorem rc_lists {f : T → T → Option Bool} (ih : ItOk X cA k al st pins s j f) {A : Around} (sb : SubG X k (j + 1) A) {G H : Hp} {sh : Shared} {xs ys : List T} {y z : VV} {v v' : V} {u u' : Value} {b : Bool} (ne : Bool)
    (r : Rl cA al G s H) (I : Inv X pins st H sh) (rv : RepV cA al G y v) (rw' : RepV cA al G z v') (h1 : rd s y = some (.lst xs)) (h2 : rd s z = some (.lst ys)) (e1 : RelV v u) (e2 : RelV v' u') (hl : xs.length = ys.length)
    (h : eqLs (eqI f) xs ys = some b) : wpAny (model X.prog X.w) A (richCompare (rcOp ne) u u') (fun r s' => r = .bool (xor ne b) ∧ Lp X cA al st pins s G s') X.xe sh := by
  obtain ⟨a, _, rfl, _, _⟩ := r.sees rv h1
  obtain ⟨a', _, rfl, _, _⟩ := r.sees rw' h2
  cases e1; cases e2
  have look : ∀ sh', Lp X cA al st pins s G sh' → ∀ (P : Array Value → Array Value → Prop), (∀ G1 H1 vs us its its2, Sb G G1 → Rl cA al G1 s H1 → Inv X pins st H1 sh' → RepL cA G1 xs vs → RepL cA G1 ys us → Vals vs its → Vals us its2 → P its.toArray its2.toArray) → Q.LLook a a' xs.length sh' P := by
    intro sh' lp P hp
    obtain ⟨G1, H1, sb1, r1, I1⟩ := lp
    obtain ⟨b1, vs, eb1, hb1, q1⟩ := r1.sees (rv.mono (Xt.ofSb sb1)) h1
    obtain ⟨b2, us, eb2, hb2, q2⟩ := r1.sees (rw'.mono (Xt.ofSb sb1)) h2
    cases eb1; cases eb2
    obtain ⟨z1, its, n1, rr1, g1⟩ := I1.hok a _ hb1
    obtain ⟨z2, its2, n2, rr2, g2⟩ := I1.hok a' _ hb2
    exact ⟨its.toArray, its2.toArray, n1, n2, g1, g2, by rw [List.size_toArray, ← rr1.length, q1.length], by rw [List.size_toArray, ← rr2.length, q2.length, hl], hp G1 H1 vs us its its2 sb1 r1 I1 q1 q2 rr1 rr2⟩
  have start : Lp X cA al st pins s G sh ∧ eqLs (eqI f) (xs.drop 0) (ys.drop 0) = some b := ⟨⟨G, H, Sb.rfl', r, I⟩, by simpa using h⟩
  have turn : ∀ i sh', (Lp X cA al st pins s G sh' ∧ eqLs (eqI f) (xs.drop i) (ys.drop i) = some b) → Q.LLook a a' xs.length sh' (Q.Turn X.prog X.w A X.xe (fun i sh' => Lp X cA al st pins s G sh' ∧ eqLs (eqI f) (xs.drop i) (ys.drop i) = some b) (fun sh' => Lp X cA al st pins s G sh' ∧ b = false) i sh') := fun i sh' hI =>
    look sh' hI.1 _ fun G1 H1 vs us its its2 sb1 r1 I1 q1 q2 rr1 rr2 => turn_at ih sb sb1 r1 I1 q1 q2 rr1 rr2 hI.2
  have lookJ : ∀ sh', (Lp X cA al st pins s G sh' ∧ b = false) → Q.LLook a a' xs.length sh' fun _ _ => True := fun sh' hJ => look sh' hJ.1 _ fun _ _ _ _ _ _ _ _ _ _ _ _ _ => trivial
  cases ne with
  | false =>
    refine Q.rc_listE sb.room.units0 _ _ turn lookJ (fun sh' hI => ?_) (fun sh' hJ => ?_) start
    · rw [eqLs_end hI.2 (.inl (Nat.le_refl _))]; exact ⟨rfl, hI.1⟩
    · rw [hJ.2]; exact ⟨rfl, hJ.1⟩
  | true =>
    refine Q.rc_listN sb.room.units0 _ _ turn lookJ (fun sh' hI => ?_) (fun sh' hJ => ?_) start
    · rw [eqLs_end hI.2 (.inl (Nat.le_refl _))]; exact ⟨rfl, hI.1⟩
    · rw [hJ.2]; exact ⟨rfl, hJ.1⟩
theorem rc_tups {f : T → T → Option Bool} (ih : ItOk X cA k al st pins s j f) {A : Around} (sb : SubG X k (j + 1) A) {G H : Hp} {sh : Shared} {xs ys : List T} {y z : VV} {v v' : V} {u u' : Value} {b : Bool} (ne : Bool)
    (r : Rl cA al G s H) (I : Inv X pins st H sh) (rv : RepV cA al G y v) (rw' : RepV cA al G z v') (h1 : rd s y = some (.tup xs)) (h2 : rd s z = some (.tup ys)) (e1 : RelV v u) (e2 : RelV v' u')
    (h : eqLs (eqI f) xs ys = some b) : wpAny (model X.prog X.w) A (richCompare (rcOp ne) u u') (fun r s' => r = .bool (xor ne (b && decide (xs.length = ys.length))) ∧ Lp X cA al st pins s G s') X.xe sh := by
  obtain ⟨a, vs, rfl, ha, ga, qa⟩ := seesT r.sub (r.sees rv h1)
  obtain ⟨a', us, rfl, hb, gb, qb⟩ := seesT r.sub (r.sees rw' h2)
  cases e1; cases e2
  obtain ⟨its, rr1, t1, _⟩ := I.tuple (.of ha)
  obtain ⟨its2, rr2, t2, _⟩ := I.tuple (.of hb)
  have start : Lp X cA al st pins s G sh ∧ eqLs (eqI f) (xs.drop 0) (ys.drop 0) = some b := ⟨⟨G, H, Sb.rfl', r, I⟩, by simpa using h⟩
  have turn : ∀ i sh', (Lp X cA al st pins s G sh' ∧ eqLs (eqI f) (xs.drop i) (ys.drop i) = some b) → Q.Turn X.prog X.w A X.xe (fun i sh' => Lp X cA al st pins s G sh' ∧ eqLs (eqI f) (xs.drop i) (ys.drop i) = some b) (fun sh' => Lp X cA al st pins s G sh' ∧ b = false) i sh' its.toArray its2.toArray := fun i sh' hI => by
    obtain ⟨⟨G1, H1, sb1, r1, I1⟩, he⟩ := hI
    exact turn_at ih sb sb1 r1 I1 (RepL.mono sb1 qa) (RepL.mono sb1 qb) rr1 rr2 he
  have l1 : its.toArray.size = xs.length := by rw [List.size_toArray, ← rr1.length, qa.length]
  have l2 : its2.toArray.size = ys.length := by rw [List.size_toArray, ← rr2.length, qb.length]
  have hmin : xs.length ≤ min its.toArray.size its2.toArray.size ∨ ys.length ≤ min its.toArray.size its2.toArray.size := by rw [l1, l2]; omega
  cases ne with
  | false =>
    refine Q.rc_tupE sb.room.units0 _ _ t1 t2 turn (fun sh' hI => ?_) (fun sh' hJ => ?_) start
    · rw [eqLs_end hI.2 hmin, l1, l2]
      refine ⟨?_, hI.1⟩
      simp only [Bool.true_and, Bool.false_xor]
      rw [Bool.eq_iff_iff.mpr (show (xs.length == ys.length) = true ↔ decide (xs.length = ys.length) = true by simp)]
    · rw [hJ.2]; exact ⟨rfl, hJ.1⟩
  | true =>
    refine Q.rc_tupN sb.room.units0 _ _ t1 t2 turn (fun sh' hI => ?_) (fun sh' hJ => ?_) start
    · rw [eqLs_end hI.2 hmin, l1, l2]
      refine ⟨?_, hI.1⟩
      simp only [Bool.true_and, Bool.true_xor, bne]
      rw [Bool.eq_iff_iff.mpr (show (xs.length == ys.length) = true ↔ decide (xs.length = ys.length) = true by simp)]
    · rw [hJ.2]; exact ⟨rfl, hJ.1⟩
theorem ty_looks {P : Program} {w : World} {G H : Hp} {sh : Shared} {t : T} {v : V} {u : Value} (I : Inv X pins st H sh) (sb : Sb G H) (sv : Sees cA G H t v) (hl : isLT t = true) (e : RelV v u) :
    ∃ Tn, Tn ∈ ["int", "list", "tuple", "str", "bool", "NoneType"] ∧ PySem.W.Looks (model P w) sh.heap (typeOf u) (.type Tn) := by
  cases t with
  | lst xs =>
    obtain ⟨a, vs, rfl, ha, _⟩ := sv
    cases e
    obtain ⟨z, its, n, r, g⟩ := I.hok a _ ha
    exact ⟨"list", by decide, (PySem.W.Looks.ld g).andThen .now⟩
  | tup xs =>
    obtain ⟨a, vs, rfl, ha, ga, _⟩ := seesT sb sv
    cases e
    obtain ⟨its, r, ⟨o, g, hc, _⟩, z⟩ := I.tuple (.of ha)
    refine ⟨"tuple", by decide, ?_⟩
    rw [← hc]
    exact (PySem.W.Looks.ld g).andThen .now
  | non => rw [seesN sv] at e; cases e; exact ⟨"NoneType", by decide, PySem.W.Looks.of_pure rfl⟩
  | bl x => rw [seesB sv] at e; cases e; exact ⟨"bool", by decide, PySem.W.Looks.of_pure rfl⟩
  | int x => rw [seesI sv] at e; obtain ⟨t, rfl⟩ := e; exact ⟨"int", by decide, PySem.W.Looks.of_pure rfl⟩
  | str x => rw [seesS sv] at e; obtain ⟨t, rfl⟩ := e; exact ⟨"str", by decide, PySem.W.Looks.of_pure rfl⟩
  | _ => cases hl
theorem ownEq_of {c : Nat} {y z : VV} {b : Bool} (h : ownEq D cf s c y z = some b) : ∃ g d, D.own c = true ∧ D.om c "__eq__" = some g ∧ D.fn g = some d ∧ d.np = 2 ∧ cf g [y, z] s = .ok (.t (.bl b)) s := by
  unfold ownEq at h
  split at h
  · rename_i g hg
    obtain ⟨ho, hom, d, hd, hn⟩ := omN_of hg
    split at h
    · rename_i b' s' hc
      split at h
      · rename_i hs
        cases h
        subst hs
        exact ⟨g, d, ho, hom, hd, hn, hc⟩
      · cases h
    · cases h
  · cases h
theorem rc_own (F : PfX X D M cA fA fdA psA k cf) {A : Around} (sb : SubG X k (j + 1) A) {G H : Hp} {sh : Shared} {c : Nat} {fs : List (Str × T)} {w : T} {y z : VV} {v v' : V} {u u' : Value} {b : Bool} (ne : Bool)
    (r : Rl cA al G s H) (I : Inv X pins st H sh) (rv : RepV cA al G y v) (rw' : RepV cA al G z v') (h1 : rd s y = some (.ins c fs)) (h2 : rd s z = some w) (e1 : RelV v u) (e2 : RelV v' u')
    (hw : (∃ gs, w = .ins c gs) ∨ isLT w = true) (h : ownEq D cf s c y z = some b) : wpAny (model X.prog X.w) A (richCompare (rcOp ne) u u') (fun r s' => r = .bool (xor ne b) ∧ Lp X cA al st pins s G s') X.xe sh := by
  obtain ⟨g, d, ho, hom, hd, hn, e⟩ := ownEq_of h
  have ow := F.ow c ho
  obtain ⟨hcl, hme⟩ := F.mt c _ g hom
  obtain ⟨a, dx, gs, rfl, ha, qa⟩ := r.sees rv h1
  cases e1
  obtain ⟨mA, O, _⟩ := ins_get I.hok ha
  obtain ⟨od, J, _⟩ := O.look
  obtain ⟨m, hF⟩ := I.fr
  have tb : ∃ tb, PySem.W.Looks (model X.prog X.w) sh.heap (typeOf u') tb ∧ PySem.W.notFirst X.K (cA c) tb = true := by
    rcases hw with ⟨gs', rfl⟩ | hw
    · obtain ⟨a', dx', gs2, rfl, ha', qa'⟩ := r.sees rw' h2
      cases e2
      obtain ⟨mB, O', _⟩ := ins_get I.hok ha'
      obtain ⟨od', J', _⟩ := O'.look
      exact ⟨_, J'.type, by simp [PySem.W.notFirst]⟩
    · obtain ⟨Tn, hT, hl⟩ := ty_looks (P := X.prog) (w := X.w) I r.sub (r.sees rw' h2) hw e2
      exact ⟨_, hl, by unfold PySem.W.notFirst; rw [ow.sub Tn hT]; simp⟩
  obtain ⟨tb, hb, hnf⟩ := tb
  cases ne with
  | false =>
    refine PySem.W.cmp_K (op := .Eq) sb.room.units0 hF I.ok.mod.kin J hb hnf hme.at_ hme.fn ?_
    refine wpAny_mono (call_at F hd hn sb I r (ys := [y, z]) (vs := [.ref a, v']) ⟨_, _, rfl, rv, _, _, rfl, rw', rfl⟩ rfl (.cons rfl (.cons e2 .nil)) e) (fun v s' q => ?_) fun _ _ x => x
    obtain ⟨ev, lp⟩ := q
    subst ev
    exact ⟨by simp, lp⟩
  | true =>
    refine PySem.W.tw_ne (by have := sb.un; omega) I.kIn J hb hnf ow.ne hme.at_ hme.fn ow.obj ?_
    refine wpAny_mono (call_at F hd hn sb.in1 I r (ys := [y, z]) (vs := [.ref a, v']) ⟨_, _, rfl, rv, _, _, rfl, rw', rfl⟩ rfl (.cons rfl (.cons e2 .nil)) e) (fun v s' q => ?_) fun _ _ x => x
    obtain ⟨ev, lp⟩ := q
    subst ev
    exact ⟨b, rfl, by simp, lp⟩
open PySem.SeqAt in
theorem rc_kinds {A : Around} {G H : Hp} {sh : Shared} {u u' : Value} (ne : Bool) (r : Rl cA al G s H) (I : Inv X pins st H sh) (h1 : RcAt A sh u u' false) (h2 : RcNeAt A sh u u' true) :
    wpAny (model X.prog X.w) A (richCompare (rcOp ne) u u') (fun r s' => r = .bool (xor ne false) ∧ Lp X cA al st pins s G s') X.xe sh := by
  cases ne with
  | false => exact h1 _ _ _ _ ⟨rfl, G, H, Sb.rfl', r, I⟩
  | true => exact h2 _ _ _ _ ⟨rfl, G, H, Sb.rfl', r, I⟩
open PySem.SeqAt in
theorem rc_lst_sc {A : Around} {sh : Shared} {l : Addr} {its : Array Value} {w : T} {v : V} {u : Value} {G H : Hp} (hs : isSc w = true) (sv : Sees cA G H w v) (e : RelV v u) (hl : sh.heap.IsList l its) (hu : A.units < cLine) :
    RcAt A sh (.ref l) u false ∧ RcNeAt A sh (.ref l) u true ∧ RcAt A sh u (.ref l) false ∧ RcNeAt A sh u (.ref l) true := by
  cases w with
  | non => rw [seesN sv] at e; cases e; exact ⟨.list_none hl hu, .list_none hl hu, .none_list hl hu, .none_list hl hu⟩
  | bl x => rw [seesB sv] at e; cases e; exact ⟨.list_bool x hl hu, .list_bool x hl hu, .bool_list x hl hu, .bool_list x hl hu⟩
  | int x => rw [seesI sv] at e; obtain ⟨t, rfl⟩ := e; exact ⟨.list_int x t hl hu, .list_int x t hl hu, .int_list x t hl hu, .int_list x t hl hu⟩
  | str x => rw [seesS sv] at e; obtain ⟨t, rfl⟩ := e; exact ⟨.list_str x t hl hu, .list_str x t hl hu, .str_list x t hl hu, .str_list x t hl hu⟩
  | _ => cases hs
open PySem.SeqAt in
theorem rc_tup_sc {A : Around} {sh : Shared} {l : Addr} {its : Array Value} {w : T} {v : V} {u : Value} {G H : Hp} (hs : isSc w = true) (sv : Sees cA G H w v) (e : RelV v u) (hl : sh.heap.IsTuple l its) (hu : A.units < cLine) :
    RcAt A sh (.ref l) u false ∧ RcNeAt A sh (.ref l) u true ∧ RcAt A sh u (.ref l) false ∧ RcNeAt A sh u (.ref l) true := by
  cases w with
  | non => rw [seesN sv] at e; cases e; exact ⟨.tuple_none hl hu, .tuple_none hl hu, .none_tuple hl hu, .none_tuple hl hu⟩
  | bl x => rw [seesB sv] at e; cases e; exact ⟨.tuple_bool x hl hu, .tuple_bool x hl hu, .bool_tuple x hl hu, .bool_tuple x hl hu⟩
  | int x => rw [seesI sv] at e; obtain ⟨t, rfl⟩ := e; exact ⟨.tuple_int x t hl hu, .tuple_int x t hl hu, .int_tuple x t hl hu, .int_tuple x t hl hu⟩
  | str x => rw [seesS sv] at e; obtain ⟨t, rfl⟩ := e; exact ⟨.tuple_str x t hl hu, .tuple_str x t hl hu, .str_tuple x t hl hu, .str_tuple x t hl hu⟩
  | _ => cases hs
theorem list_is {G H : Hp} {sh : Shared} {xs : List T} {v : V} {u : Value} (I : Inv X pins st H sh) (sv : Sees cA G H (.lst xs) v) (e : RelV v u) : ∃ a its, u = .ref a ∧ sh.heap.IsList a its ∧ its.size = xs.length := by
  obtain ⟨a, vs, rfl, ha, q⟩ := sv
  cases e
  obtain ⟨z, its, n, r, g⟩ := I.hok a _ ha
  exact ⟨a, its.toArray, rfl, ⟨_, g, rfl, n, rfl⟩, by rw [List.size_toArray, ← r.length, q.length]⟩
theorem tup_is {G H : Hp} {sh : Shared} {xs : List T} {v : V} {u : Value} (I : Inv X pins st H sh) (sb : Sb G H) (sv : Sees cA G H (.tup xs) v) (e : RelV v u) : ∃ a its, u = .ref a ∧ sh.heap.IsTuple a its := by
  obtain ⟨a, vs, rfl, ha, ga, q⟩ := seesT sb sv
  cases e
  obtain ⟨its, r, t, z⟩ := I.tuple (.of ha)
  exact ⟨a, _, rfl, t⟩
theorem eqB_ok (F : PfX X D M cA fA fdA psA k cf) {f : T → T → Option Bool} (ih : ItOk X cA k al st pins s j f) {A : Around} (sb : SubG X k (j + 1) A) {G H : Hp} {sh : Shared} {x w : T} {y z : VV} {v v' : V} {u u' : Value} {b : Bool} (ne : Bool)
    (r : Rl cA al G s H) (I : Inv X pins st H sh) (rv : RepV cA al G y v) (rw' : RepV cA al G z v') (h1 : rd s y = some x) (h2 : rd s z = some w) (e1 : RelV v u) (e2 : RelV v' u') (h : eqB D cf s f y z x w = some b) :
    wpAny (model X.prog X.w) A (richCompare (rcOp ne) u u') (fun r s' => r = .bool (xor ne b) ∧ Lp X cA al st pins s G s') X.xe sh := by
  have s1 := r.sees rv h1
  have s2 := r.sees rw' h2
  have hu := sb.room.units0
  unfold eqB at h
  split at h
  · rename_i xs ys
    split at h
    · rename_i hl
      exact rc_lists ih sb ne r I rv rw' h1 h2 e1 e2 hl h
    · rename_i hl
      cases h
      obtain ⟨a, its, rfl, i1, l1⟩ := list_is I s1 e1
      obtain ⟨a', its', rfl, i2, l2⟩ := list_is I s2 e2
      have hne : (its.size != its'.size) = true := by rw [l1, l2]; simpa using hl
      exact rc_kinds ne r I (.lists_lengths i1 i2 hne hu) (.lists_lengths i1 i2 hne hu)
  · rename_i xs ys
    rw [Option.map_eq_some_iff] at h
    obtain ⟨b0, h, rfl⟩ := h
    exact rc_tups ih sb ne r I rv rw' h1 h2 e1 e2 h
  · cases h
    obtain ⟨a, its, rfl, i1, l1⟩ := list_is I s1 e1
    obtain ⟨a', its', rfl, i2⟩ := tup_is I r.sub s2 e2
    exact rc_kinds ne r I (.list_tuple i1 i2 hu) (.list_tuple i1 i2 hu)
  · cases h
    obtain ⟨a, its, rfl, i1⟩ := tup_is I r.sub s1 e1
    obtain ⟨a', its', rfl, i2, l2⟩ := list_is I s2 e2
    exact rc_kinds ne r I (.tuple_list i1 i2 hu) (.tuple_list i1 i2 hu)
  · rename_i c fs c' gs
    split at h
    · rename_i hc
      subst hc
      exact rc_own F sb ne r I rv rw' h1 h2 e1 e2 (.inl ⟨_, rfl⟩) h
    · cases h
  · split at h
    · rename_i hw
      exact rc_own F sb ne r I rv rw' h1 h2 e1 e2 (.inr hw) h
    · cases h
  · split at h
    · rename_i hw
      cases h
      obtain ⟨a, its, rfl, i1, l1⟩ := list_is I s1 e1
      have z := rc_lst_sc (A := A) hw s2 e2 i1 hu
      exact rc_kinds ne r I z.1 z.2.1
    · cases h
  · split at h
    · rename_i hw
      cases h
      obtain ⟨a, its, rfl, i1⟩ := tup_is I r.sub s1 e1
      have z := rc_tup_sc (A := A) hw s2 e2 i1 hu
      exact rc_kinds ne r I z.1 z.2.1
    · cases h
  · split at h
    · rename_i hw
      cases h
      obtain ⟨a, its, rfl, i1, l1⟩ := list_is I s2 e2
      have z := rc_lst_sc (A := A) hw s1 e1 i1 hu
      exact rc_kinds ne r I z.2.2.1 z.2.2.2
    · cases h
  · split at h
    · rename_i hw
      cases h
      obtain ⟨a, its, rfl, i1⟩ := tup_is I r.sub s2 e2
      have z := rc_tup_sc (A := A) hw s1 e1 i1 hu
      exact rc_kinds ne r I z.2.2.1 z.2.2.2
    · cases h
  · cases h
end
end Tw
set_option maxHeartbeats 4000000
namespace Tw
open PySem PySem.Spec PyProof.Rows L2
theorem rel_inj {v v' : V} {u : Value} (h : RelV v u) (h' : RelV v' u) : v = v' := by
  cases v <;> cases v' <;> simp only [L2.RelV] at h h' <;> first
    | (subst h; cases h'; done)
    | (subst h; cases h'; rfl)
    | (subst h; obtain ⟨_, e⟩ := h'; cases e; done)
    | (obtain ⟨_, rfl⟩ := h; cases h'; done)
    | (obtain ⟨_, rfl⟩ := h; obtain ⟨_, e⟩ := h'; cases e; first | rfl | done)
    | rfl
section
variable {prog : Program} {w : World} {A : Around} {E : Value → Shared → Prop} {s : Shared}
theorem eqBool_ne {u v : Value} {Q : Bool → Shared → Prop} (hne : u ≠ v) (hf : ∀ x t, u ≠ .float x t) (h : wpAny (model prog w) A (richCompare .Eq u v) (fun v s' => ∃ r, v = .bool r ∧ Q r s') E s) : wpAny (model prog w) A (eqBool u v) Q E s := by
  have go : wpAny (model prog w) A (truthOfDropped =<< richCompare .Eq u v) Q E s := by
    refine wpAny_bind (wpAny_mono h (fun v s' hv => ?_) fun _ _ x => x)
    obtain ⟨r, rfl, q⟩ := hv
    exact wpAny_truthy_bool q
  unfold eqBool
  refine wpAny_holding ?_
  refine wpAny_ite_split (fun hab => absurd (eq_of_beq hab) hne) (fun _ => ?_)
  cases u <;> first | exact absurd rfl (hf _ _) | exact go
end
section
variable {cA : CA} {X : Cx} {N : List Str} {sc : Scope} {W : WX} {D : Defs} {M : Nms} {fA : Nat → Addr} {fdA : Nat → FuncData} {psA : Nat → List Str} {k j : Nat} {cf : CF} {al : List Addr} {st : L2.St} {pins : List (Addr × Obj)} {s : Store}
theorem no_flt {G : Hp} {t : T} {v : V} {u : Value} (r : Rep cA G t v) (e : RelV v u) : ∀ x t, u ≠ .float x t := by
  intro x t' h
  subst h
  cases t with
  | non => unfold Rep at r; subst r; cases e
  | bl _ => unfold Rep at r; subst r; cases e
  | int _ => unfold Rep at r; subst r; obtain ⟨_, e⟩ := e; cases e
  | str _ => unfold Rep at r; subst r; obtain ⟨_, e⟩ := e; cases e
  | ty _ => unfold Rep at r; subst r; cases e
  | lst _ => unfold Rep at r; obtain ⟨_, _, rfl, _⟩ := r; cases e
  | tup _ => unfold Rep at r; obtain ⟨_, _, rfl, _⟩ := r; cases e
  | dct _ => unfold Rep at r; obtain ⟨_, _, rfl, _⟩ := r; cases e
  | ins _ _ => unfold Rep at r; obtain ⟨_, _, _, rfl, _⟩ := r; cases e
  | scr _ => unfold Rep at r; obtain ⟨_, rfl, _⟩ := r; cases e
  | opq => unfold Rep at r; obtain ⟨_, _, rfl, _⟩ := r; cases e
theorem flat_of {G : Hp} {t t' : T} {v v' : V} {b : Bool} (e : eqFlat t t' = some b) (r : Rep cA G t v) (r' : Rep cA G t' v') : flatV v = true ∧ flatV v' = true := by
  have : isSc t = true ∧ isSc t' = true := by
    unfold eqFlat at e
    split at e <;> first | exact ⟨rfl, rfl⟩ | cases e
  exact ⟨sc_flat r this.1, sc_flat r' this.2⟩
theorem itOk_eqD (F : PfX X D M cA fA fdA psA k cf) : ∀ (n j : Nat), n ≤ j → ItOk X cA k al st pins s j (eqD D cf s n)
  | n, j, hn => by
    intro A G H sh t t' v v' u u' b sb r I rv rv' e1 e2 h
    unfold eqI at h
    split at h
    · rename_i c hc
      cases h
      obtain ⟨f1, f2⟩ := flat_of hc rv rv'
      have q := eqAt_V (A := A) (s := sh) e1 e2 f1 f2
      rw [eqFlat_V rv rv' hc] at q
      exact q X.prog X.w X.xe _ ⟨rfl, G, H, Sb.rfl', r, I⟩
    · have hd : ∃ c, eqD D cf s n t t' = some c ∧ c = b ∧ (b = false → dif t t' = true) := by
        split at h
        · rename_i hz
          split at h
          · rename_i hdif
            cases h
            exact ⟨false, hz, rfl, fun _ => hdif⟩
          · cases h
        · rename_i hz
          cases hq : eqD D cf s n t t' with
          | none => rw [hq] at h; cases h
          | some c =>
            rw [hq] at h
            cases h
            cases b with
            | true => exact ⟨true, rfl, rfl, fun z => by cases z⟩
            | false => exact absurd hq hz
      obtain ⟨c, hc, rfl, hdif⟩ := hd
      by_cases huu : u = u'
      · subst huu
        have := rel_inj e1 e2
        subst this
        cases c with
        | true => exact SeqAt.EqAt.same (A := A) (s := sh) u X.prog X.w X.xe _ ⟨rfl, G, H, Sb.rfl', r, I⟩
        | false => exact (dif_ok (hdif rfl) rv rv').elim
      · refine eqBool_ne huu (no_flt rv e1) ?_
        match n, j, hn, hc with
        | n + 1, j + 1, hn, hc =>
          refine wpAny_mono (eqB_ok F (itOk_eqD F n j (by omega)) sb (y := .t t) (z := .t t') false r I rv rv' rfl rfl e1 e2 hc) (fun q s' z => ?_) fun _ _ x => x
          obtain ⟨hq, lp⟩ := z
          exact ⟨c, by rw [hq]; simp, rfl, lp⟩
        | 0, _, _, hc => simp [eqD] at hc
def rCmpO (cA : CA) (D : Defs) (cf : CF) (o : CmpOp) : R2 := fun x y H Q => ∃ al G s y' z' b, Rl cA al G s H ∧ RepV cA al G y' x ∧ RepV cA al G z' y ∧ cmpV D cf o y' z' s = some b ∧ ∀ G' H', Sb G G' → Rl cA al G' s H' → Q (.bl b) H'
theorem op_cmpO (F : PfX X D M cA fA fdA psA k cf) (o : CmpOp) : OpR X (compareOp o) (rCmpO cA D cf o) := by
  intro pins sh st H x y v u Q I rx ry h
  obtain ⟨al, G, s, y', z', b, r, rv, ru, e, q⟩ := h
  unfold cmpV at e
  split at e
  · rename_i tx ty h1 h2
    split at e
    · rename_i c hc
      cases e
      exact op_cmp (cA := cA) o pins sh st H x y v u Q I rx ry ⟨G, tx, ty, _, ⟨r.sub⟩, r.sees rv h1, r.sees ru h2, hc, q G H Sb.rfl' r⟩
    · have top : SubG X k (15 + 1) X.A := SubG.top F.room
      split at e
      · refine wpAny_mono (eqB_ok F (itOk_eqD F 12 15 (by decide)) top false r I rv ru h1 h2 rx ry e) (fun q' s' z => ?_) fun _ _ x => x
        obtain ⟨hq, G', H', sb', r', I'⟩ := z
        exact ⟨.bl b, H', I', by rw [hq]; simp [L2.RelV], q G' H' sb' r'⟩
      · rw [Option.map_eq_some_iff] at e
        obtain ⟨c, e, rfl⟩ := e
        refine wpAny_mono (eqB_ok F (itOk_eqD F 12 15 (by decide)) top true r I rv ru h1 h2 rx ry e) (fun q' s' z => ?_) fun _ _ x => x
        obtain ⟨hq, G', H', sb', r', I'⟩ := z
        exact ⟨.bl (!c), H', I', by rw [hq]; simp [L2.RelV], q G' H' sb' r'⟩
      · cases e
  · cases e
theorem s_cmp (F : PfX X D M cA fA fdA psA k cf) {o : CmpOp} {a b : Expr} {ma mb : Loc → Store → Out VV} {pos : Pos} (ha : PE X a (TEv cA W ma)) (hb : PE X b (TEv cA W mb)) (hm : behindInMarks o b = false) :
    PE X (.Compare a [o] [b] pos) (TEv cA W fun loc s => (ma loc s).bind fun y s1 => (mb loc s1).bind fun z s2 => ofT s2 ((cmpV D cf o y z s2).map .bl)) := by
  refine pe_weak (pe_cmpR (op_cmpO F o) ha hb hm) fun st H Q q => ?_
  obtain ⟨al, G, loc, s, r, S, p⟩ := q
  refine TEv.go r S p fun y s1 al1 G1 H1 v x1 r1 S1 rv p1 => ?_
  refine TEv.go r1 S1 p1 fun z s2 al2 G2 H2 u x2 r2 S2 ru p2 => ?_
  cases hz : cmpV D cf o y z s2 with
  | none => rw [hz] at p2; exact p2.elim
  | some b =>
    rw [hz] at p2
    exact ⟨al2, G2, s2, y, z, b, r2, rv.mono x2, ru, hz, fun G' H' sb r' => p2 al2 G' H' (Xt.ofSb sb) r' _ (show Rep cA G' (.bl b) (.bl b) from repB)⟩
theorem s_cmpT (F : PfX X D M cA fA fdA psA k cf) {o : CmpOp} {a b : Expr} {ma mb : Loc → Store → Out VV} {pos : Pos} (ha : PE X a (TEv cA W ma)) (hb : PE X b (TEv cA W mb)) (hm : behindInMarks o b = false) :
    PT X (.Compare a [o] [b] pos) (TTv cA W fun loc s => (ma loc s).bind fun y s1 => (mb loc s1).bind fun z s2 => ofO s2 (cmpV D cf o y z s2)) := by
  refine pt_weak (pt_cmpR (op_cmpO F o) ha hb hm) fun st H Q q => ?_
  obtain ⟨al, G, loc, s, r, S, p⟩ := q
  refine TEv.go r S p fun y s1 al1 G1 H1 v x1 r1 S1 rv p1 => ?_
  refine TEv.go r1 S1 p1 fun z s2 al2 G2 H2 u x2 r2 S2 ru p2 => ?_
  cases hz : cmpV D cf o y z s2 with
  | none => rw [hz] at p2; exact p2.elim
  | some b =>
    rw [hz] at p2
    exact ⟨al2, G2, s2, y, z, b, r2, rv.mono x2, ru, hz, fun G' H' sb r' => ⟨b, rfl, p2 al2 G' H' (Xt.ofSb sb) r'⟩⟩
end
end Tw
set_option maxHeartbeats 4000000
namespace Tw
open PySem L2
theorem wipe_set (x : Option V) (i : Nat) : ∀ (st : L2.St) (vs : List Nat), (i ∈ vs → wipe (st.set i x) vs = wipe st vs) ∧ (i ∉ vs → wipe (st.set i x) vs = (wipe st vs).set i x)
  | st, [] => ⟨fun h => (by cases h), fun _ => rfl⟩
  | st, v :: vs => by
    obtain ⟨h1, h2⟩ := wipe_set x i st vs
    refine ⟨fun h => ?_, fun h => ?_⟩
    · show (wipe (st.set i x) vs).set v none = (wipe st vs).set v none
      by_cases hi : i ∈ vs
      · rw [h1 hi]
      · have e : i = v := by
          rcases List.mem_cons.mp h with e | e
          · exact e
          · exact absurd e hi
        subst e
        rw [h2 hi, List.set_set]
    · show (wipe (st.set i x) vs).set v none = ((wipe st vs).set v none).set i x
      have hn : i ≠ v := fun e => h (by rw [e]; exact List.mem_cons_self)
      rw [h2 (fun q => h (List.mem_cons_of_mem _ q)), List.set_comm _ _ hn]
def Keeps (own : List Nat) (st st' : L2.St) : Prop := ∀ vs : List Nat, (∀ i ∈ own, i ∈ vs) → wipe st' vs = wipe st vs
theorem RepS.set {cA : CA} {al : List Addr} {G : Hp} {loc : Loc} {st : L2.St} {y : VV} {v : V} {i : Nat} (S : RepS cA al G loc st) (h : i < loc.length) (q : RepV cA al G y v) : RepS cA al G (loc.set i (some y)) (st.set i (some v)) := by
  refine ⟨by simp [S.len], fun j z e => ?_⟩
  by_cases hj : j = i
  · subst hj
    rw [List.getElem?_set_self h] at e
    cases e
    exact ⟨v, by rw [List.getElem?_set_self (by rw [← S.len]; exact h)], q⟩
  · rw [List.getElem?_set_ne (Ne.symm hj)] at e
    obtain ⟨u, h1, h2⟩ := S.get j z e
    exact ⟨u, by rw [List.getElem?_set_ne (Ne.symm hj)]; exact h1, h2⟩
def TGn (cA : CA) (i : Nat) : TG := fun v st H Q => ∃ al G loc s y, Rl cA al G s H ∧ RepS cA al G loc st ∧ RepV cA al G y v ∧ i < loc.length ∧ ∀ st', RepS cA al G (loc.set i (some y)) st' → Keeps [i] st st' → Q st' H
def TGl (cA : CA) (gs : E) : TGs := fun vs st H Q => ∃ al G loc s xs loc', Rl cA al G s H ∧ RepS cA al G loc st ∧ RepL cA G xs vs ∧ bindGs gs xs loc = some loc' ∧ ∀ st', RepS cA al G loc' st' → Keeps (gslots gs) st st' → Q st' H
def TGt (cA : CA) (gs : E) : TG := fun v st H Q => ∃ al G loc s x xs loc', Rl cA al G s H ∧ RepS cA al G loc st ∧ Sees cA G H x v ∧ items x = some xs ∧ bindGs gs xs loc = some loc' ∧ ∀ st', RepS cA al G loc' st' → Keeps (gslots gs) st st' → Q st' H
def TGb (cA : CA) (g : E) : TG := fun v st H Q => ∃ al G loc s x loc', Rl cA al G s H ∧ RepS cA al G loc st ∧ Rep cA G x v ∧ bindG g x loc = some loc' ∧ ∀ st', RepS cA al G loc' st' → Keeps (gslots g) st st' → Q st' H
structure Tgk (X : Cx) (N : List Str) (ts : Scope) : Prop where
  hN : X.N = N
  nd : N.Nodup
  lo : ∀ x, ts.names.lookup x = some .local → X.env.scope.names.lookup x = some .local
  ce : ∀ x, ts.names.lookup x = some .cell → X.env.scope.names.lookup x = some .cell ∧ X.fn x = true
def locB (ts : Scope) (x : Str) : Bool := match ts.names.lookup x with | some .local => true | some .cell => true | _ => false
section
variable {cA : CA} {X : Cx} {N : List Str} {ts : Scope}
theorem pg_weak {e : Expr} {t t' : TG} (h : PG X e t) (w : ∀ v st H Q, t' v st H Q → t v st H Q) : PG X e t' :=
  ⟨fun pins s st H v u Q I r q => h.run pins s st H v u Q I r (w v st H Q q)⟩
theorem g_name (T : Tgk X N ts) {i : Nat} {x : Str} {pos : Pos} (h1 : N[i]? = some x) (h2 : locB ts x = true) : PG X (.Name x pos) (TGn cA i) := by
  have hl : L2.Loc X.env.scope x ∧ (X.fn x = true ∨ X.env.scope.names.lookup x = some .local) := by
    unfold locB at h2
    split at h2
    · rename_i z; exact ⟨.inl (T.lo x z), .inr (T.lo x z)⟩
    · rename_i z; exact ⟨.inr (T.ce x z).1, .inl (T.ce x z).2⟩
    · cases h2
  refine pg_weak (pg_name (i := i) (by rw [T.hN]; exact T.nd) (by rw [T.hN]; exact h1) hl.1 hl.2) fun v st H Q q => ?_
  obtain ⟨al, G, loc, s, y, r, S, rv, hi, q⟩ := q
  exact q _ (S.set hi rv) fun vs h => (wipe_set _ _ st vs).1 (h i (List.mem_cons_self))
theorem pgs_weak {e : List Expr} {t t' : TGs} (h : PGs X e t) (w : ∀ v st H Q, t' v st H Q → t v st H Q) : PGs X e t' :=
  ⟨fun pins s st H v u Q I r q => h.run pins s st H v u Q I r (w v st H Q q)⟩
theorem each_cons {env : Env} {e : Expr} {es : List Expr} (h : notStar e = true) : (assignEach (e :: es) env).map (·.2) = assign e env :: (assignEach es env).map (·.2) := by
  cases e <;> first | rfl | cases h
theorem each_len {env : Env} : ∀ {es : List Expr}, (assignEach es env).length = es.length
  | [] => rfl
  | e :: es => by
    have ih := each_len (env := env) (es := es)
    cases e <;> (show (assignEach es env).length + 1 = es.length + 1; rw [ih])
theorem each_star {env : Env} : ∀ {es : List Expr}, es.all notStar = true → (assignEach es env).findIdx? (·.1) = none
  | [], _ => rfl
  | e :: es, h => by
    rw [List.all_cons, Bool.and_eq_true] at h
    have ih := each_star (env := env) h.2
    have : ∃ f, assignEach (e :: es) env = (false, f) :: assignEach es env := by
      cases e <;> first | exact ⟨_, rfl⟩ | (have z := h.1; cases z)
    obtain ⟨f, hf⟩ := this
    rw [hf, List.findIdx?_cons]
    simp [ih]
theorem Keeps.trans {a b : List Nat} {st st1 st2 : L2.St} (h1 : Keeps a st st1) (h2 : Keeps b st1 st2) : Keeps (a ++ b) st st2 := fun vs h =>
  (h2 vs fun i hi => h i (List.mem_append_right _ hi)).trans (h1 vs fun i hi => h i (List.mem_append_left _ hi))
theorem g_nil : PGs X [] (TGl cA .nil) := by
  refine pgs_weak pgs_nil fun vs st H Q q => ?_
  obtain ⟨al, G, loc, s, xs, loc', r, S, rl, hb, q⟩ := q
  cases xs with
  | nil =>
    unfold RepL at rl
    subst rl
    simp only [bindGs, Option.some.injEq] at hb
    subst hb
    exact ⟨rfl, q st S fun _ _ => rfl⟩
  | cons x xs => simp [bindGs] at hb
theorem g_consN {i : Nat} {gs : E} {e : Expr} {es : List Expr} (h1 : PG X e (TGn cA i)) (h2 : PGs X es (TGl cA gs)) (h : notStar e = true) : PGs X (e :: es) (TGl cA (.cons (.gn i) gs)) := by
  refine pgs_weak (pgs_cons h1 h2 (each_cons h)) fun vs st H Q q => ?_
  obtain ⟨al, G, loc, s, xs, loc', r, S, rl, hb, q⟩ := q
  cases xs with
  | nil => simp [bindGs] at hb
  | cons x xs =>
    unfold RepL at rl
    obtain ⟨v, rr, rfl, rx, rs⟩ := rl
    simp only [bindGs] at hb
    split at hb
    · rename_i hi
      refine ⟨v, rr, rfl, al, G, loc, s, .t x, r, S, rx, hi, fun st1 S1 k1 => ?_⟩
      exact ⟨al, G, _, s, xs, loc', r, S1, rs, hb, fun st2 S2 k2 => q st2 S2 (k1.trans k2)⟩
    · cases hb
theorem g_consT {hs gs : E} {e : Expr} {es : List Expr} (h1 : PG X e (TGt cA hs)) (h2 : PGs X es (TGl cA gs)) (h : notStar e = true) : PGs X (e :: es) (TGl cA (.cons (.gt hs) gs)) := by
  refine pgs_weak (pgs_cons h1 h2 (each_cons h)) fun vs st H Q q => ?_
  obtain ⟨al, G, loc, s, xs, loc', r, S, rl, hb, q⟩ := q
  cases xs with
  | nil => simp [bindGs] at hb
  | cons x xs =>
    unfold RepL at rl
    obtain ⟨v, rr, rfl, rx, rs⟩ := rl
    simp only [bindGs] at hb
    split at hb
    · rename_i zs hz
      rw [Option.bind_eq_some_iff] at hb
      obtain ⟨l1, hb1, hb2⟩ := hb
      refine ⟨v, rr, rfl, al, G, loc, s, x, zs, l1, r, S, sees_of r.sub rx, hz, hb1, fun st1 S1 k1 => ?_⟩
      exact ⟨al, G, _, s, xs, loc', r, S1, rs, hb2, fun st2 S2 k2 => q st2 S2 (k1.trans k2)⟩
    · cases hb
theorem bindGs_len : ∀ {gs : E} {xs : List T} {loc loc' : Loc}, bindGs gs xs loc = some loc' → xs.length = alen gs
  | .nil, [], _, _, _ => rfl
  | .cons (.gn i) gs, x :: xs, loc, loc', h => by
    simp only [bindGs] at h
    split at h
    · simp [alen, bindGs_len h]
    · cases h
  | .cons (.gt hs) gs, x :: xs, loc, loc', h => by
    simp only [bindGs] at h
    split at h
    · rw [Option.bind_eq_some_iff] at h
      obtain ⟨l1, _, h2⟩ := h
      simp [alen, bindGs_len h2]
    · cases h
theorem g_tup (hc : X.calm = true) {gs : E} {es : List Expr} {k : Nat} {pos : Pos} (h : PGs X es (TGl cA gs)) (hl : alen gs = es.length) (hs : es.all notStar = true) : PG X (.Tuple es k pos) (TGt cA gs) := by
  have g1 := pg_tup (k := k) (pos := pos) (n := es.length) hc h each_len (each_star hs)
  have g2 := pg_lst (k := k) (pos := pos) (n := es.length) hc h each_len (each_star hs)
  refine ⟨fun pins s st H v u Q I r q => ?_⟩
  obtain ⟨al, G, loc, s', x, xs, loc', rl, S, sx, hx, hb, q⟩ := q
  have hlen := bindGs_len hb
  cases x with
  | tup ys =>
    cases hx
    obtain ⟨a, vs, rfl, ha, ga, ra⟩ := seesT rl.sub sx
    exact g1.run pins s st H _ u Q I r ⟨a, vs, rfl, .of ha, by rw [ra.length, hlen, hl], al, G, loc, s', xs, loc', rl, S, ra, hb, q⟩
  | lst ys =>
    cases hx
    obtain ⟨a, vs, rfl, ha, ra⟩ := sx
    exact g2.run pins s st H _ u Q I r ⟨a, vs, rfl, .of ha, by rw [ra.length, hlen, hl], al, G, loc, s', xs, loc', rl, S, ra, hb, q⟩
  | _ => cases hx
theorem g_bn {i : Nat} {e : Expr} (h : PG X e (TGn cA i)) : PG X e (TGb cA (.gn i)) := pg_weak h fun v st H Q q => by
  obtain ⟨al, G, loc, s, x, loc', r, S, rx, hb, q⟩ := q
  simp only [bindG] at hb
  split at hb
  · rename_i hi
    cases hb
    exact ⟨al, G, loc, s, .t x, r, S, rx, hi, q⟩
  · cases hb
theorem g_bt {gs : E} {e : Expr} (h : PG X e (TGt cA gs)) : PG X e (TGb cA (.gt gs)) := pg_weak h fun v st H Q q => by
  obtain ⟨al, G, loc, s, x, loc', r, S, rx, hb, q⟩ := q
  simp only [bindG] at hb
  split at hb
  · rename_i xs hx
    exact ⟨al, G, loc, s, x, xs, loc', r, S, sees_of r.sub rx, hx, hb, q⟩
  · cases hb
end
end Tw
set_option maxHeartbeats 4000000
namespace Tw
open PySem L2 PySem.Spec PyProof.Rows
def IteT (K : PySem.W.Frag) (a : Addr) : It :=
  ⟨fun i H => ∃ (xs : List V) (x : V), SqT K H a xs ∧ xs[i]? = some x, fun i H v H' => ∃ T x, v = .ref T ∧ H T = none ∧ H' = upd H T (.tup [.int (i : Nat), x]) ∧ ∀ xs, SqT K H a xs → xs[i]? = some x, fun i H => ∃ xs : List V, SqT K H a xs ∧ xs.length ≤ i⟩
end Tw
set_option maxHeartbeats 4000000
namespace Tw
open PySem L2
def SrcIt (cA : CA) (K : PySem.W.Frag) (al : List Addr) (G : Hp) : Src → It → Prop
  | .lst y, J => ∃ a, RepV cA al G y (.ref a) ∧ J = Itl K a
  | .tup xs, J => ∃ a vs, G a = some (.tup vs) ∧ RepL cA G xs vs ∧ J = Itt K a
  | .rng lo hi, J => J = Itr lo (hi - lo).toNat
  | .zip y z, J => ∃ a b, RepV cA al G y (.ref a) ∧ RepV cA al G z (.ref b) ∧ J = Itz K a b
  | .enu y, J => ∃ a, RepV cA al G y (.ref a) ∧ J = Ite K a
  | .enT xs, J => ∃ a vs, G a = some (.tup vs) ∧ RepL cA G xs vs ∧ J = IteT K a
section
variable {cA : CA} {K : PySem.W.Frag} {al al' : List Addr} {G G' H : Hp} {s : Store} {src : Src} {J : It}
theorem SrcIt.mono (x : Xt al G al' G') (h : SrcIt cA K al G src J) : SrcIt cA K al' G' src J := by
  cases src with
  | lst y => obtain ⟨a, h1, h2⟩ := h; exact ⟨a, h1.mono x, h2⟩
  | tup xs => obtain ⟨a, vs, h1, h2, h3⟩ := h; exact ⟨a, vs, x.sub _ _ h1, RepL.mono x.sub h2, h3⟩
  | rng lo hi => exact h
  | zip y z => obtain ⟨a, b, h1, h2, h3⟩ := h; exact ⟨a, b, h1.mono x, h2.mono x, h3⟩
  | enu y => obtain ⟨a, h1, h2⟩ := h; exact ⟨a, h1.mono x, h2⟩
  | enT xs => obtain ⟨a, vs, h1, h2, h3⟩ := h; exact ⟨a, vs, x.sub _ _ h1, RepL.mono x.sub h2, h3⟩
theorem lst_at (r : Rl cA al G s H) {y : VV} {a : Addr} {xs : List T} (q : RepV cA al G y (.ref a)) (h : lstAt s y = some xs) : ∃ vs, H a = some (.lst vs) ∧ RepL cA G xs vs := by
  unfold lstAt at h
  split at h
  · rename_i ys e
    cases h
    obtain ⟨b, vs, hb, hh, rr⟩ := r.sees q e
    cases hb
    exact ⟨vs, hh, rr⟩
  · cases h
theorem turn_some (r : Rl cA al G s H) (h : SrcIt cA K al G src J) {i : Nat} {x : T} (e : src.at s i = some (some x)) :
    J.go i H ∧ ∀ v H', J.yld i H v H' → ∃ G', Sb G G' ∧ Rl cA al G' s H' ∧ Rep cA G' x v := by
  cases src with
  | lst y =>
    obtain ⟨a, q, rfl⟩ := h
    simp only [Src.at, Option.map_eq_some_iff] at e
    obtain ⟨xs, h1, h2⟩ := e
    obtain ⟨vs, hh, rr⟩ := lst_at r q h1
    obtain ⟨u, hu, ru⟩ := rr.get h2
    refine ⟨⟨vs, u, .of hh, hu⟩, fun v H' hy => ?_⟩
    obtain ⟨e1, e2⟩ := hy
    subst e1
    have e3 := e2 vs (.of hh)
    rw [hu] at e3; cases e3
    exact ⟨G, Sb.rfl', r, ru⟩
  | tup xs =>
    obtain ⟨a, vs, hg, rr, rfl⟩ := h
    simp only [Src.at, Option.some.injEq] at e
    have hh := r.sub _ _ hg
    obtain ⟨u, hu, ru⟩ := rr.get e
    refine ⟨⟨vs, u, .of hh, hu⟩, fun v H' hy => ?_⟩
    obtain ⟨e1, e2⟩ := hy
    subst e1
    have e3 := e2 vs (.of hh)
    rw [hu] at e3; cases e3
    exact ⟨G, Sb.rfl', r, ru⟩
  | rng lo hi =>
    have h : J = Itr lo (hi - lo).toNat := h
    subst h
    simp only [Src.at, Option.some.injEq] at e
    split at e
    · rename_i hi'
      cases e
      refine ⟨hi', fun v H' hy => ?_⟩
      obtain ⟨e1, e2⟩ := hy
      subst e1; subst e2
      exact ⟨G, Sb.rfl', r, repI⟩
    · cases e
  | zip y z =>
    obtain ⟨a, b, qa, qb, rfl⟩ := h
    simp only [Src.at] at e
    split at e
    · rename_i xs ys h1 h2
      simp only [Option.some.injEq] at e
      split at e
      · rename_i x1 x2 e1 e2
        cases e
        obtain ⟨vs, hh, rr⟩ := lst_at r qa h1
        obtain ⟨us, hh2, rr2⟩ := lst_at r qb h2
        obtain ⟨u, hu, ru⟩ := rr.get e1
        obtain ⟨w, hw, rw'⟩ := rr2.get e2
        refine ⟨⟨vs, us, u, w, .of hh, .of hh2, hu, hw⟩, fun v H' hy => ?_⟩
        obtain ⟨Tt, p, q, rfl, hn, rfl, hp, hq⟩ := hy
        have e3 := hp vs (.of hh)
        have e4 := hq us (.of hh2)
        rw [hu] at e3; cases e3
        rw [hw] at e4; cases e4
        have gn := r.gnone hn
        refine ⟨upd G Tt (.tup [u, w]), Sb.new gn, r.newT hn, ?_⟩
        unfold Rep
        exact ⟨Tt, [u, w], rfl, upd_same, .cons (Rep.mono (Sb.new gn) ru) (.cons (Rep.mono (Sb.new gn) rw') .nil)⟩
      · cases e
    · cases e
  | enu y =>
    obtain ⟨a, q, rfl⟩ := h
    simp only [Src.at, Option.map_eq_some_iff] at e
    obtain ⟨xs, h1, x1, h2, h3⟩ := e
    subst h3
    obtain ⟨vs, hh, rr⟩ := lst_at r q h1
    obtain ⟨u, hu, ru⟩ := rr.get h2
    refine ⟨⟨vs, u, .of hh, hu⟩, fun v H' hy => ?_⟩
    obtain ⟨Tt, p, rfl, hn, rfl, hp⟩ := hy
    have e3 := hp vs (.of hh)
    rw [hu] at e3; cases e3
    have gn := r.gnone hn
    refine ⟨upd G Tt (.tup [.int (i : Nat), u]), Sb.new gn, r.newT hn, ?_⟩
    unfold Rep
    exact ⟨Tt, _, rfl, upd_same, .cons repI (.cons (Rep.mono (Sb.new gn) ru) .nil)⟩
  | enT xs =>
    obtain ⟨a, vs, hg, rr, rfl⟩ := h
    simp only [Src.at, Option.some.injEq, Option.map_eq_some_iff] at e
    obtain ⟨x1, h2, h3⟩ := e
    subst h3
    have hh := r.sub _ _ hg
    obtain ⟨u, hu, ru⟩ := rr.get h2
    refine ⟨⟨vs, u, .of hh, hu⟩, fun v H' hy => ?_⟩
    obtain ⟨Tt, p, rfl, hn, rfl, hp⟩ := hy
    have e3 := hp vs (.of hh)
    rw [hu] at e3; cases e3
    have gn := r.gnone hn
    refine ⟨upd G Tt (.tup [.int (i : Nat), u]), Sb.new gn, r.newT hn, ?_⟩
    unfold Rep
    exact ⟨Tt, _, rfl, upd_same, .cons repI (.cons (Rep.mono (Sb.new gn) ru) .nil)⟩
theorem turn_none (r : Rl cA al G s H) (h : SrcIt cA K al G src J) {i : Nat} (e : src.at s i = some none) : J.stop i H := by
  cases src with
  | lst y =>
    obtain ⟨a, q, rfl⟩ := h
    simp only [Src.at, Option.map_eq_some_iff] at e
    obtain ⟨xs, h1, h2⟩ := e
    obtain ⟨vs, hh, rr⟩ := lst_at r q h1
    exact ⟨vs, .of hh, by rw [rr.length]; exact List.getElem?_eq_none_iff.mp h2⟩
  | tup xs =>
    obtain ⟨a, vs, hg, rr, rfl⟩ := h
    simp only [Src.at, Option.some.injEq] at e
    exact ⟨vs, .of (r.sub _ _ hg), by rw [rr.length]; exact List.getElem?_eq_none_iff.mp e⟩
  | rng lo hi =>
    have h : J = Itr lo (hi - lo).toNat := h
    subst h
    simp only [Src.at, Option.some.injEq] at e
    split at e
    · cases e
    · rename_i z
      exact Nat.le_of_not_lt z
  | zip y z =>
    obtain ⟨a, b, qa, qb, rfl⟩ := h
    simp only [Src.at] at e
    split at e
    · rename_i xs ys h1 h2
      simp only [Option.some.injEq] at e
      obtain ⟨vs, hh, rr⟩ := lst_at r qa h1
      obtain ⟨us, hh2, rr2⟩ := lst_at r qb h2
      refine ⟨vs, us, .of hh, .of hh2, ?_⟩
      rw [rr.length, rr2.length]
      cases e1 : xs[i]? with
      | none => exact .inl (List.getElem?_eq_none_iff.mp e1)
      | some a =>
        cases e2 : ys[i]? with
        | none => exact .inr (List.getElem?_eq_none_iff.mp e2)
        | some b => rw [e1, e2] at e; cases e
    · cases e
  | enu y =>
    obtain ⟨a, q, rfl⟩ := h
    simp only [Src.at, Option.map_eq_some_iff] at e
    obtain ⟨xs, h1, h2⟩ := e
    obtain ⟨vs, hh, rr⟩ := lst_at r q h1
    refine ⟨vs, .of hh, ?_⟩
    rw [rr.length]
    cases e1 : xs[i]? with
    | none => exact List.getElem?_eq_none_iff.mp e1
    | some a => rw [e1] at h2; cases h2
  | enT xs =>
    obtain ⟨a, vs, hg, rr, rfl⟩ := h
    simp only [Src.at, Option.some.injEq] at e
    refine ⟨vs, .of (r.sub _ _ hg), ?_⟩
    rw [rr.length]
    cases e1 : xs[i]? with
    | none => exact List.getElem?_eq_none_iff.mp e1
    | some a => rw [e1] at e; cases e
end
def TIv (cA : CA) (K : PySem.W.Frag) (W : WX) (m : Loc → Store → Out Src) : TI := fun st H R =>
  ∃ al G loc s, Rl cA al G s H ∧ RepS cA al G loc st ∧ Po cA W al G st (fun src s' al' G' H' => ∀ J, SrcIt cA K al' G' src J → R J H') (m loc s)
section
variable {cA : CA} {X : Cx} {N : List Str} {sc : Scope} {W : WX} {tg : Expr}
variable {D : Defs} {M : Nms} {fA : Nat → Addr} {fdA : Nat → FuncData} {psA : Nat → List Str} {k : Nat} {cf : CF}
theorem pi_weak {e : Expr} {t t' : TI} (h : PI X tg e t) (w : ∀ st H Q, t' st H Q → t st H Q) : PI X tg e t' :=
  ⟨fun pins s st H R I q => h.run pins s st H R I (w st H R q)⟩
theorem pi_any {e : Expr} {t : TE} (h : PE X e t) : PI X tg e (fun st H R => t st H fun x H1 => ∃ a, x = .ref a ∧ (((∃ xs, SqL X.K H1 a xs) ∧ R (Itl X.K a) H1) ∨ ((∃ xs, SqT X.K H1 a xs) ∧ R (Itt X.K a) H1))) := by
  refine ⟨fun pins s st H R I q => ?_⟩
  refine thn (h.run pins s st H _ I q) fun v s1 ⟨x, H1, I1, r1, a, e1, q1⟩ => ?_
  subst e1
  cases r1
  have new : ∀ b ∈ [s1.heap.objs.size], FpOk X pins H1 b := fun b hb => by
    have e : b = s1.heap.objs.size := by simpa using hb
    rw [e]
    exact I1.fpOk (Nat.le_refl _) (I1.hok.fresh (Nat.le_refl _))
  have kept : ∀ o : Obj, Inv X pins st H1 { s1 with heap := s1.heap.push o } := fun o => I1.kept (t' := s1.toks) fun b u e => Heap.get?_push_of_some _ e
  rcases q1 with ⟨⟨xs, hx⟩, q1⟩ | ⟨⟨xs, hx⟩, q1⟩
  · obtain ⟨its, rv, p, _⟩ := I1.list hx
    exact wpAny_pyIter_list p.isList ⟨_, [s1.heap.objs.size], _, _, H1, rfl, kept _, turn_list a _, ⟨_, Heap.get?_push_size _ rfl, rfl, rfl⟩, new, q1⟩
  · obtain ⟨its, rv, p, _⟩ := I1.tuple hx
    exact wpAny_pyIter_tuple (show s1.heap.IsTuple a its.toArray from p) ⟨_, [s1.heap.objs.size], _, _, H1, rfl, kept _, turn_tuple a _, ⟨_, Heap.get?_push_size _ rfl, rfl, rfl⟩, new, q1⟩
theorem i_seq {e : Expr} {m : Loc → Store → Out VV} (h : PE X e (TEv cA W m)) : PI X tg e (TIv cA X.K W fun loc s => (m loc s).bind fun y s1 => match rd s1 y with
      | some (.lst _) => .ok (.lst y) s1
      | some (.tup xs) => .ok (.tup xs) s1
      | _ => .bad) := by
  refine pi_weak (pi_any h) fun st H Q q => ?_
  obtain ⟨al, G, loc, s, r, S, p⟩ := q
  refine TEv.go r S p fun y s1 al1 G1 H1 v x1 r1 S1 rv p1 => ?_
  split at p1
  · rename_i xs h1
    obtain ⟨a, vs, rfl, ha, ra⟩ := r1.sees rv h1
    exact ⟨a, rfl, .inl ⟨⟨vs, .of ha⟩, p1.here r1 _ ⟨a, rv, rfl⟩⟩⟩
  · rename_i xs h1
    obtain ⟨a, vs, rfl, ha, ga, ra⟩ := seesT r1.sub (r1.sees rv h1)
    exact ⟨a, rfl, .inr ⟨⟨vs, .of ha⟩, p1.here r1 _ ⟨a, vs, ga, ra, rfl⟩⟩⟩
  · exact p1.elim
theorem i_rng1 (F : PfX X D M cA fA fdA psA k cf) (c : Cok X N sc W) {a : Expr} {p pos : Pos} {m : Loc → Store → Out VV} (h : PE X a (TEv cA W m)) (hg : glB sc "range" = true) (hs : notStar a = true) :
    PI X tg (.Call (.Name "range" p) [a] [] pos) (TIv cA X.K W fun loc s => (m loc s).bind fun y s1 => match rd s1 y with
      | some (.int j) => if decide (-(2 ^ 62) ≤ j) && decide (j < 2 ^ 62) then .ok (.rng 0 j) s1 else .bad
      | _ => .bad) := by
  obtain ⟨g, d, n⟩ := gl_of c hg
  refine pi_weak (pi_range1 g (F.bn _ (by decide +kernel)) (pa_cons h pa_nil (star_cons hs)) (star_cons hs)) fun st H Q q => ?_
  obtain ⟨al, G, loc, s, r, S, pp⟩ := q
  refine TEv.go r S pp fun y s1 al1 G1 H1 v x1 r1 S1 rv p1 => ?_
  split at p1
  · rename_i j h1
    split at p1
    · rename_i hz
      simp only [Bool.and_eq_true, decide_eq_true_eq] at hz
      rw [seesI (r1.sees rv h1)]
      refine ⟨j, rfl, hz.1, hz.2, p1.here r1 _ ?_⟩
      show _ = _
      simp
    · exact p1.elim
  · exact p1.elim
theorem i_rng2 (F : PfX X D M cA fA fdA psA k cf) (c : Cok X N sc W) {a b : Expr} {p pos : Pos} {m m2 : Loc → Store → Out VV} (h : PE X a (TEv cA W m)) (h2 : PE X b (TEv cA W m2)) (hg : glB sc "range" = true) (hs : notStar a = true) (hs2 : notStar b = true) :
    PI X tg (.Call (.Name "range" p) [a, b] [] pos) (TIv cA X.K W fun loc s => (m loc s).bind fun y s1 => (m2 loc s1).bind fun z s2 => match rd s2 y, rd s2 z with
      | some (.int i), some (.int j) => if decide (-(2 ^ 62) ≤ i) && decide (i < 2 ^ 62) && decide (-(2 ^ 62) ≤ j) && decide (j < 2 ^ 62) then .ok (.rng i j) s2 else .bad
      | _, _ => .bad) := by
  obtain ⟨g, d, n⟩ := gl_of c hg
  have e1 : starEach [a, b] X.env = [(false, eval a X.env), (false, eval b X.env)] := by rw [star_cons hs, star_cons hs2]; rfl
  have e2 : starEach [b] X.env = [(false, eval b X.env)] := by rw [star_cons hs2]; rfl
  refine pi_weak (pi_range2 g (F.bn _ (by decide +kernel)) (pa_cons h (pa_cons h2 pa_nil (star_cons hs2)) (star_cons hs)) e1 e2) fun st H Q q => ?_
  obtain ⟨al, G, loc, s, r, S, pp⟩ := q
  refine TEv.go r S pp fun y s1 al1 G1 H1 v x1 r1 S1 rv p1 => ?_
  refine TEv.go r1 S1 p1 fun z s2 al2 G2 H2 u x2 r2 S2 ru p2 => ?_
  split at p2
  · rename_i i j h1 h2
    split at p2
    · rename_i hz
      simp only [Bool.and_eq_true, decide_eq_true_eq] at hz
      rw [seesI (r2.sees (rv.mono x2) h1), seesI (r2.sees ru h2)]
      exact ⟨i, j, rfl, ⟨hz.1.1.1, hz.1.1.2, hz.1.2, hz.2⟩, p2.here r2 _ rfl⟩
    · exact p2.elim
  · exact p2.elim
end
end Tw
set_option maxHeartbeats 4000000
namespace Tw
open PySem L2
theorem wipe_get (st : L2.St) : ∀ (vs : List Nat) (j : Nat), (j ∈ vs → ∀ x, (wipe st vs)[j]? ≠ some (some x)) ∧ (j ∉ vs → (wipe st vs)[j]? = st[j]?)
  | [], j => ⟨fun h => (by cases h), fun _ => rfl⟩
  | v :: vs, j => by
    obtain ⟨h1, h2⟩ := wipe_get st vs j
    refine ⟨fun h x => ?_, fun h => ?_⟩
    · show ((wipe st vs).set v none)[j]? ≠ _
      by_cases e : v = j
      · subst e
        by_cases hv : v < (wipe st vs).length
        · rw [List.getElem?_set_self hv]; simp
        · rw [List.getElem?_eq_none (by simpa using hv)]; simp
      · rw [List.getElem?_set_ne e]
        rcases List.mem_cons.mp h with q | q
        · exact absurd q.symm e
        · exact h1 q x
    · show ((wipe st vs).set v none)[j]? = _
      rw [List.getElem?_set_ne (fun e => h (by rw [e]; exact List.mem_cons_self))]
      exact h2 fun q => h (List.mem_cons_of_mem _ q)
theorem wipeL_get (st : Loc) : ∀ (vs : List Nat) (j : Nat), (j ∈ vs → ∀ x, (wipeL st vs)[j]? ≠ some (some x)) ∧ (j ∉ vs → (wipeL st vs)[j]? = st[j]?)
  | [], j => ⟨fun h => (by cases h), fun _ => rfl⟩
  | v :: vs, j => by
    obtain ⟨h1, h2⟩ := wipeL_get st vs j
    refine ⟨fun h x => ?_, fun h => ?_⟩
    · show ((wipeL st vs).set v none)[j]? ≠ _
      by_cases e : v = j
      · subst e
        by_cases hv : v < (wipeL st vs).length
        · rw [List.getElem?_set_self hv]; simp
        · rw [List.getElem?_eq_none (by simpa using hv)]; simp
      · rw [List.getElem?_set_ne e]
        rcases List.mem_cons.mp h with q | q
        · exact absurd q.symm e
        · exact h1 q x
    · show ((wipeL st vs).set v none)[j]? = _
      rw [List.getElem?_set_ne (fun e => h (by rw [e]; exact List.mem_cons_self))]
      exact h2 fun q => h (List.mem_cons_of_mem _ q)
theorem wipeL_len (st : Loc) : ∀ vs : List Nat, (wipeL st vs).length = st.length
  | [] => rfl
  | v :: vs => by show ((wipeL st vs).set v none).length = _; rw [List.length_set, wipeL_len st vs]
theorem RepS.wipe {cA : CA} {al : List Addr} {G : Hp} {loc : Loc} {st : L2.St} (S : RepS cA al G loc st) (vs : List Nat) : RepS cA al G (wipeL loc vs) (wipe st vs) := by
  refine ⟨by rw [wipeL_len, wipe_length, S.len], fun j x e => ?_⟩
  by_cases h : j ∈ vs
  · exact absurd e ((wipeL_get loc vs j).1 h x)
  · rw [(wipeL_get loc vs j).2 h] at e
    rw [(wipe_get st vs j).2 h]
    exact S.get j x e
theorem wipe_twice (st : L2.St) : ∀ (vs us : List Nat), (∀ i ∈ vs, i ∈ us) → wipe (wipe st vs) us = wipe st us := fun vs us h => by
  induction vs with
  | nil => rfl
  | cons v vs ih =>
    show wipe ((wipe st vs).set v none) us = _
    rw [(wipe_set none v (wipe st vs) us).1 (h v List.mem_cons_self)]
    exact ih fun i hi => h i (List.mem_cons_of_mem _ hi)
abbrev W0 : WX := fun _ _ _ _ => False
section
variable {cA : CA} {X : Cx} {W : WX}
theorem Rl.setL {al : List Addr} {G H : Hp} {s : Store} (r : Rl cA al G s H) {k : Nat} {a : Addr} {acc : List T} {vs : List V} (ha : al[k]? = some a) (hs : s[k]? = some (.lst acc)) {xs : List T} {us : List V} (q : RepL cA G xs us) :
    Rl cA al G (s.set k (.lst xs)) (upd H a (.lst us)) := by
  have ok := r.cell k a _ ha hs
  obtain ⟨gn, ws, hh, _⟩ := ok
  refine ⟨fun b u e => ?_, by simp [r.len], r.nd, fun j b c hb hc => ?_⟩
  · have hne : b ≠ a := fun z => by rw [z, gn] at e; cases e
    rw [upd_ne hne]; exact r.sub b u e
  · by_cases hj : j = k
    · subst hj
      rw [ha] at hb; cases hb
      rw [List.getElem?_set_self (List.getElem?_eq_some_iff.mp hs).1] at hc
      cases hc
      exact ⟨gn, us, upd_same, q⟩
    · rw [List.getElem?_set_ne (Ne.symm hj)] at hc
      have hba : b ≠ a := nodup_ne r.nd hb ha hj
      have ok' := r.cell j b c hb hc
      cases c with
      | lst z => obtain ⟨g, w, h1, h2⟩ := ok'; exact ⟨g, w, by rw [upd_ne hba]; exact h1, h2⟩
      | dct z => obtain ⟨g, w, h1, h2⟩ := ok'; exact ⟨g, w, by rw [upd_ne hba]; exact h1, h2⟩
      | dcT z => obtain ⟨g, w, h1, h2⟩ := ok'; exact ⟨g, w, by rw [upd_ne hba]; exact h1, h2⟩
      | ins cc z => obtain ⟨g, dx, w, h1, h2⟩ := ok'; exact ⟨g, dx, w, by rw [upd_ne hba]; exact h1, h2⟩
      | frz z => exact ok'
theorem lc_end {al al' : List Addr} {G G' H : Hp} {s : Store} {D : Addr} {st : L2.St} {Q : VK} {m : Bool} (x : Xt (al ++ [D]) G al' G') (r : Rl cA al' G' s H)
    (p : Po cA W al G st (kV cA Q) (lcEnd m al.length s)) : Q (.ref D) H := by
  obtain ⟨⟨l, e⟩, sb⟩ := x
  unfold lcEnd at p
  split at p
  · have e' : al' = (al ++ [D]) ++ l := e
    subst e'
    have r' := r.front
    rw [List.length_append] at r'
    exact p (al ++ [D]) G' H ⟨⟨[D], rfl⟩, sb⟩ r' (.ref D) ⟨D, by simp, rfl⟩
  · split at p
    · rename_i c hc
      have e' : al' = al ++ ([D] ++ l) := by rw [e, List.append_assoc]
      subst e'
      have hD : (al ++ ([D] ++ l))[al.length]? = some D := by simp
      obtain ⟨G'', sb'', r'', q''⟩ := r.freeze hD hc
      have z := r''.front
      rw [List.take_set_of_le (Nat.le_refl _)] at z
      exact p al G'' H (Xt.ofSb (sb.trans sb'')) z (.ref D) q''
    · exact p.elim
theorem lc_read {src_m : Loc → Store → Out Src} {g : E} {cond : Loc → Store → Out Bool} {elt : Loc → Store → Out VV} {own : List Nat} {m : Bool} (hg : ∀ i ∈ gslots g, i ∈ own) (st : L2.St) (H : Hp) (Q : VK)
    (q : TEv cA W (fun loc s => (src_m loc s).bind fun src s1 => (loopC src g cond elt (wipeL loc own) s1.length (src.most s1) 0 (s1 ++ [.lst []])).bind fun _ s2 => lcEnd m s1.length s2) st H Q) :
    tLc (TIv cA X.K W src_m) (TGb cA g) (TTv cA W0 cond) (TEv cA W0 elt) own st H Q := by
  obtain ⟨al, G, loc, s, r, S, p⟩ := q
  refine ⟨al, G, loc, s, r, S, p.bind.imp fun src s1 al1 G1 H1 x1 r1 p1 J hJ => ?_⟩
  intro D hD
  have hsl : s1.length = al1.length := r1.len.symm
  rw [hsl] at p1
  have S1 : RepS cA al1 G1 (wipeL loc own) (wipe st own) := (S.mono x1).wipe own
  have r2 : Rl cA (al1 ++ [D]) G1 (s1 ++ [.lst []]) (upd H1 D (.lst [])) := r1.newC hD ⟨r1.gnone hD, [], upd_same, .nil⟩
  refine ⟨fun i n H' => ∃ al' G' s', Xt (al1 ++ [D]) G1 al' G' ∧ Rl cA al' G' s' H' ∧
      Po cA W al1 G1 st (kV cA Q) ((loopC src g cond elt (wipeL loc own) al1.length n i s').bind fun _ s2 => lcEnd m al1.length s2),
    ⟨_, al1 ++ [D], G1, _, Xt.rfl', r2, p1⟩, ?_⟩
  rintro i n H' ⟨al', G', s', x', r', pp⟩
  have xD : Xt al1 G1 al' G' := Xt.trans ⟨⟨[D], rfl⟩, Sb.rfl'⟩ x'
  have hJ' := hJ.mono xD
  cases n with
  | zero => exact pp.elim
  | succ n =>
    unfold loopC at pp
    cases ha : src.at s' i with
    | none => rw [ha] at pp; exact pp.elim
    | some o =>
      rw [ha] at pp
      cases o with
      | none => exact .inl ⟨turn_none r' hJ' ha, lc_end x' r' pp⟩
      | some x =>
        obtain ⟨go, yl⟩ := turn_some r' hJ' ha
        refine .inr ⟨go, _, fun H'' h => ⟨n, Nat.lt_succ_self n, h⟩, fun v H'' hy => ?_⟩
        obtain ⟨G2, sb2, r2', rx⟩ := yl v H'' hy
        cases hb : bindG g x (wipeL loc own) with
        | none => simp only [hb] at pp; exact pp.elim
        | some l1 =>
          simp only [hb] at pp
          have x2 : Xt al' G' al' G2 := Xt.ofSb sb2
          refine ⟨al', G2, wipeL loc own, s', x, l1, r2', S1.mono (xD.trans x2), rx, hb, fun st2 S2 k2 => ⟨?_, ?_⟩⟩
          · rw [k2 own hg]
            exact wipe_twice st own own fun _ h => h
          · refine ⟨al', G2, l1, s', r2', S2, ?_⟩
            cases hc : cond l1 s' with
            | bad => simp only [hc] at pp; exact pp.elim
            | ex e s3 => simp only [hc] at pp; exact pp.elim
            | ok b s3 =>
              simp only [hc] at pp
              intro al3 G3 H3 x3 r3
              show if b = true then _ else _
              cases b with
              | false =>
                rw [if_neg Bool.false_ne_true]
                exact ⟨al3, G3, s3, x'.trans (x2.trans x3), r3, pp⟩
              | true =>
                rw [if_pos rfl]
                refine ⟨al3, G3, l1, s3, r3, S2.mono x3, ?_⟩
                cases he : elt l1 s3 with
                | bad => simp only [he] at pp; exact pp.elim
                | ex e s4 => simp only [he] at pp; exact pp.elim
                | ok y s4 =>
                  simp only [he] at pp
                  intro al4 G4 H4 x4 r4 w rw4
                  cases hm : emb s4 y with
                  | none => simp only [hm] at pp; exact pp.elim
                  | some z =>
                    obtain ⟨t, s5⟩ := z
                    simp only [hm] at pp
                    obtain ⟨G5, sb5, r5, q5⟩ := r4.emb rw4 hm
                    have x5 : Xt (al1 ++ [D]) G1 al4 G5 := x'.trans (x2.trans (x3.trans (x4.trans (Xt.ofSb sb5))))
                    have hD4 : al4[al1.length]? = some D := x5.get (by simp)
                    cases hn : s5[al1.length]? with
                    | none => simp only [hn] at pp; exact pp.elim
                    | some c =>
                      simp only [hn] at pp
                      cases c with
                      | lst acc =>
                        simp only at pp
                        split at pp
                        · rename_i hz
                          obtain ⟨gn, vs, hh, ra⟩ := r5.cell _ _ _ hD4 hn
                          refine ⟨vs, hh, by rw [ra.length]; exact hz, al4, G5, _, x5, r5.setL (vs := vs) hD4 hn (ra.append (.one q5)), pp⟩
                        · exact pp.elim
                      | _ => exact pp.elim
end
end Tw
set_option maxHeartbeats 4000000
namespace Tw
open PySem L2
inductive Qt where
  | e (x : Expr) | l (xs : List Expr)
def isTg : E → Bool
  | .gn _ => true
  | .gt _ => true
  | _ => false
def chkT (N : List Str) (ts : Scope) : E → Qt → Bool
  | .gn i, .e (.Name x _) => decide (N[i]? = some x) && locB ts x
  | .gt gs, .e (.Tuple es _ _) => chkT N ts gs (.l es) && decide (alen gs = es.length) && es.all notStar
  | .nil, .l [] => true
  | .cons g gs, .l (e :: es) => isTg g && chkT N ts g (.e e) && notStar e && chkT N ts gs (.l es)
  | _, _ => false
section
variable {cA : CA} {X : Cx} {N : List Str} {ts : Scope}
def TgP (cA : CA) (X : Cx) (g : E) : Qt → Prop
  | .e x => (∃ i, g = .gn i ∧ PG X x (TGn cA i)) ∨ (∃ gs, g = .gt gs ∧ PG X x (TGt cA gs))
  | .l xs => PGs X xs (TGl cA g)
theorem chkT_ok (Tk : Tgk X N ts) (hc : X.calm = true) (g : E) (q : Qt) : chkT N ts g q = true → TgP cA X g q := by
  fun_induction chkT N ts g q with
  | case1 i x p =>
    intro h
    simp only [Bool.and_eq_true, decide_eq_true_eq] at h
    exact .inl ⟨i, rfl, g_name Tk h.1 h.2⟩
  | case2 gs es k p ih =>
    intro h
    simp only [Bool.and_eq_true, decide_eq_true_eq] at h
    exact .inr ⟨gs, rfl, g_tup hc (ih h.1.1) h.1.2 h.2⟩
  | case3 => exact fun _ => g_nil
  | case4 g gs e es ih1 ih2 =>
    intro h
    simp only [Bool.and_eq_true] at h
    obtain ⟨⟨⟨h3, h4⟩, h5⟩, h6⟩ := h
    rcases ih1 h4 with ⟨i, e1, z⟩ | ⟨hs, e1, z⟩
    · subst e1; exact g_consN z (ih2 h6) h5
    · subst e1; exact g_consT z (ih2 h6) h5
  | case5 => intro h; cases h
theorem chkT_e (Tk : Tgk X N ts) (hc : X.calm = true) {g : E} {x : Expr} (h : chkT N ts g (.e x) = true) : PG X x (TGb cA g) := by
  rcases chkT_ok (cA := cA) Tk hc g (.e x) h with ⟨i, e1, z⟩ | ⟨gs, e1, z⟩
  · subst e1; exact g_bn z
  · subst e1; exact g_bt z
end
end Tw
set_option maxHeartbeats 4000000
namespace Tw
open PySem L2
structure Cl where
  D : Defs
  M : Nms
  cA : CA
  fA : Nat → Addr
  fdA : Nat → FuncData
  psA : Nat → List Str
  k : Nat
  cf : CF
  rp : Store → T → Out Str
  fw : Nat
def rRp (cA : CA) (rp : Store → T → Out Str) : List V → Hp → VK → Prop := fun vs H Q => ∃ al G s t v z s', vs = [v] ∧ Rl cA al G s H ∧ Rep cA G t v ∧ rp s t = .ok z s' ∧ ∀ G' H', Sb G G' → Rl cA al G' s' H' → Q (.str z) H'
def At5 (X : Cx) (P : Program) (w : World) (K : PySem.W.Frag) (mg : Str → Option Value) (base : Heap) : Prop := X.prog = P ∧ X.w = w ∧ X.K = K ∧ X.mg = mg ∧ X.base = base
structure Cl.Ok (C : Cl) (X : Cx) : Prop where
  pf : PfX X C.D C.M C.cA C.fA C.fdA C.psA C.k C.cf
  rp : C.M.gd = true → ∀ X' : Cx, At5 X' X.prog X.w X.K X.mg X.base → X'.calm = true → PfX X' C.D C.M C.cA C.fA C.fdA C.psA C.k C.cf → CallR X' (.builtin "repr") (rRp C.cA C.rp)
section
variable (C : Cl) (N : List Str) (sc : Scope)
def Ke (x : Expr) (e : E) : Prop := ∀ X W, Cok X N sc W → C.Ok X → PE X x (TEv C.cA W (ev C.D C.cf C.rp e))
def Kt (x : Expr) (e : E) : Prop := ∀ X W, Cok X N sc W → C.Ok X → PT X x (TTv C.cA W (evT C.D C.cf C.rp e))
def Kw (x : Expr) (e : E) : Prop := ∀ X W, Cok X N sc W → C.Ok X → PW X x (TTv C.cA W (evT C.D C.cf C.rp e))
def Ka (xs : List Expr) (e : E) : Prop := ∀ X W, Cok X N sc W → C.Ok X → PA X xs (TAv C.cA W (evs C.D C.cf C.rp e))
def Kf (xs : List Expr) (e : E) : Prop := ∀ X W, Cok X N sc W → C.Ok X → PFs C.cA W X xs (evF C.D C.cf C.rp e)
def Ki (tg it : Expr) (e : E) : Prop := ∀ X W, Cok X N sc W → C.Ok X → PI X tg it (TIv C.cA X.K W (evI C.D C.cf C.rp e))
def Ko (x : Option Expr) (e : E) : Prop := ∀ X W, Cok X N sc W → C.Ok X → PO X x (TOv C.cA W fun loc s => if e.isOmit then .ok none s else (ev C.D C.cf C.rp e loc s).bind fun l s2 => optI s2 l)
end
theorem pt_eq {cA : CA} {X : Cx} {W : WX} {x : Expr} {m m' : Loc → Store → Out Bool} (h : PT X x (TTv cA W m)) (e : m = m') : PT X x (TTv cA W m') := e ▸ h
theorem pw_eq {cA : CA} {X : Cx} {W : WX} {x : Expr} {m m' : Loc → Store → Out Bool} (h : PW X x (TTv cA W m)) (e : m = m') : PW X x (TTv cA W m') := e ▸ h
theorem pe_eq {cA : CA} {X : Cx} {W : WX} {x : Expr} {m m' : Loc → Store → Out VV} (h : PE X x (TEv cA W m)) (e : m = m') : PE X x (TEv cA W m') := e ▸ h
section
variable {C : Cl} {N : List Str} {sc : Scope} {a b c : Expr} {x y z : E} {pos p : Pos}
theorem evs_len {D : Defs} {cf : CF} {rp : Store → T → Out Str} : ∀ {as : E} {loc : Loc} {s s' : Store} {ys : List VV}, evs D cf rp as loc s = .ok ys s' → ys.length = alen as
  | .nil, loc, s, s', ys, h => by
    simp only [evs] at h; cases h; rfl
  | .cons a as, loc, s, s', ys, h => by
    simp only [evs] at h
    cases h1 : ev D cf rp a loc s with
    | bad => rw [h1] at h; cases h
    | ex e s1 => rw [h1] at h; cases h
    | ok y s1 =>
      rw [h1] at h
      simp only [Out.bind] at h
      cases h2 : evs D cf rp as loc s1 with
      | bad => rw [h2] at h; cases h
      | ex e s2 => rw [h2] at h; cases h
      | ok zs s2 =>
        rw [h2] at h
        cases h
        simp [alen, evs_len h2]
theorem k_var {i : Nat} {n : Str} (h1 : N[i]? = some n) (h2 : visB sc n = true) : Ke C N sc (.Name n p) (.var i) := fun X W c F => s_var c h1 h2
theorem k_int {i : Int} {k : _} : Ke C N sc (.Constant (.int i) k p) (.int i) := fun X W c F => s_const pe_int fun G => repI
theorem k_str {i : Str} {k : _} : Ke C N sc (.Constant (.str i) k p) (.str i) := fun X W c F => s_const pe_str fun G => repS
theorem k_bl {i : Bool} {k : _} : Ke C N sc (.Constant (.bool i) k p) (.bl i) := fun X W c F => s_const pe_bl fun G => repB
theorem k_non {k : _} : Ke C N sc (.Constant .none k p) .non := fun X W c F => s_const pe_non fun G => repN
theorem k_bin {o : Operator} (ha : Ke C N sc a x) (hb : Ke C N sc b y) : Ke C N sc (.BinOp a o b p) (.bin o x y) := fun X W c F => s_bin F.pf c (ha X W c F) (hb X W c F)
theorem k_neg (ha : Ke C N sc a x) : Ke C N sc (.UnaryOp .USub a p) (.neg x) := fun X W c F => s_neg F.pf c (ha X W c F)
theorem k_not (ha : Ke C N sc a x) : Ke C N sc (.UnaryOp .Not a p) (.not x) := fun X W c F => s_not (ha X W c F)
theorem k_cmp {o : CmpOp} (hm : behindInMarks o b = false) (ha : Ke C N sc a x) (hb : Ke C N sc b y) : Ke C N sc (.Compare a [o] [b] p) (.cmp o x y) := fun X W c F => s_cmp F.pf (ha X W c F) (hb X W c F) hm
theorem k_one {o : BoolOp} (ha : Ke C N sc a x) : Ke C N sc (.BoolOp o [a] p) x := fun X W c F => pe_one (ha X W c F)
theorem k_and {r : List Expr} (ha : Ke C N sc a x) (hb : Ke C N sc (.BoolOp .And (b :: r) p) y) : Ke C N sc (.BoolOp .And (a :: b :: r) p) (.and x y) := fun X W c F => s_and (ha X W c F) (hb X W c F)
theorem k_or {r : List Expr} (ha : Ke C N sc a x) (hb : Ke C N sc (.BoolOp .Or (b :: r) p) y) : Ke C N sc (.BoolOp .Or (a :: b :: r) p) (.or x y) := fun X W c F => s_or (ha X W c F) (hb X W c F)
theorem k_ite (hc : Kt C N sc c z) (ha : Ke C N sc a x) (hb : Ke C N sc b y) : Ke C N sc (.IfExp c a b p) (.ite z x y) := fun X W c F => by
  refine pe_eq (s_ite (hc X W c F) (ha X W c F) (hb X W c F)) ?_
  funext loc s
  simp only [ev]
  show Out.bind (Out.bind _ _) _ = _
  rw [bind_assoc]
  congr 1
  funext y s1
  cases (rd s1 y).bind tru with
  | none => rfl
  | some b => cases b <;> rfl
theorem k_lst {m : Bool} {es : List Expr} (ha : Ka C N sc es x) : Ke C N sc (.List es p) (.lst m x) := fun X W c F => s_lst (ha X W c F)
theorem k_tup {es : List Expr} {k : Nat} (ha : Ka C N sc es x) : Ke C N sc (.Tuple es k p) (.tup x) := fun X W c F => s_tup (ha X W c F)
theorem plainIx_of (h : ixPlain b = true) : PlainIx b := by
  cases b <;> first | (intro o i; rfl) | cases h
theorem k_ix (hp : ixPlain b = true) (ha : Ke C N sc a x) (hb : Ke C N sc b y) : Ke C N sc (.Subscript a b p) (.ix x y) := fun X W c F => s_ix (ha X W c F) (hb X W c F) (plainIx_of hp) F.pf.kl
theorem k_omit : Ko C N sc none .omit := fun X W c F => s_omit
theorem k_part (h : x.isOmit = false) (ha : Ke C N sc a x) : Ko C N sc (some a) x := fun X W c F => by
  rw [h]; exact s_part (ha X W c F)
theorem k_sl {lo hi : Option Expr} {p2 : Pos} (ha : Ke C N sc a x) (h1 : Ko C N sc lo y) (h2 : Ko C N sc hi z) : Ke C N sc (.Subscript a (.Slice lo hi none p2) p) (.sl x y z) := fun X W c F => s_sl (ha X W c F) (h1 X W c F) (h2 X W c F) F.pf.kl
theorem k_att {f : Str} (hb : notSuper a = true) (ha : Ke C N sc a x) : Ke C N sc (.Attribute a f p) (.att x f) := fun X W c F => s_att F.pf (ha X W c F) hb
theorem k_cal {f : Nat} {n : Str} {es : List Expr} {q : Pos} (hf : C.M.fnm f = some n) (hg : glB sc n = true) (hn : fillOk C.D f (alen x) = true) (hs : es.all notStar = true) (ha : Ka C N sc es x) (he : es = [] → x = .nil) :
    Ke C N sc (.Call (.Name n q) es [] p) (.cal f x) := fun X W c F => s_cal F.pf c hf hg hn (ha X W c F) hs (fun loc s ys s' h => evs_len h) fun e loc s => by rw [he e]; rfl
theorem k_mk {I f : Nat} {n : Str} {e : Expr} {es : List Expr} {q : Pos} (hf : C.M.cnm I = some n) (hi : C.D.ini I = some f) (hg : glB sc n = true) (hn : fillOk C.D f (alen x + 1) = true) (hs : (e :: es).all notStar = true) (ha : Ka C N sc (e :: es) x) :
    Ke C N sc (.Call (.Name n q) (e :: es) [] p) (.mk I x) := fun X W c F => s_mk F.pf c hi hf hg hn (ha X W c F) hs fun loc s ys s' h => evs_len h
theorem k_blt {b : Blt} {n : Str} {e : Expr} {es : List Expr} {q : Pos} (h0 : n = bltNm b) (hr : b ≠ .repr) (hg : glB sc n = true) (hgc : isMath b = true → C.M.gcd b = true) (hs : (e :: es).all notStar = true) (ha : Ka C N sc (e :: es) x) :
    Ke C N sc (.Call (.Name n q) (e :: es) [] p) (.blt b x) := fun X W c F => by
  subst h0
  refine pe_eq (s_blt F.pf c hg hgc (ha X W c F) hs) ?_
  funext loc s
  cases b <;> first | exact absurd rfl hr | rfl
theorem k_repr {q : Pos} {e : Expr} (hd : C.M.gd = true) (hg : glB sc "repr" = true) (hs : notStar e = true) (ha : Ke C N sc e x) :
    Ke C N sc (.Call (.Name "repr" q) [e] [] p) (.blt .repr (.cons x .nil)) := fun X W c F => by
  refine pe_weak (pe_blt F.pf c (b := .repr) (F.rp hd X ⟨rfl, rfl, rfl, rfl, rfl⟩ c.calm F.pf) hg (fun h => by cases h) (s_cons (ha X W c F) s_nil hs) (by simp [hs])) fun st H Q q => ?_
  obtain ⟨al, G, loc, s, r, S, pp⟩ := q
  refine TAv.go r S (f := fun ys s1 => match ys with
      | [y] => match emb s1 y with
        | some (t, s2) => (noex (C.rp s2 t)).bind fun x s3 => .ok (VV.t (.str x)) s3
        | none => .bad
      | _ => .bad) (by exact pp) fun ys s1 al1 G1 H1 vs x1 r1 S1 rv p1 => ?_
  split at p1
  · rename_i y
    split at p1
    · rename_i t s2 h1
      obtain ⟨v, rr, e1, q1, q2⟩ := rv
      have e2 : rr = [] := q2
      subst e1; subst e2
      obtain ⟨G2, sb2, r2, q2⟩ := r1.emb q1 h1
      cases hz : C.rp s2 t with
      | bad => rw [hz] at p1; exact p1.elim
      | ex e s2 => rw [hz] at p1; exact p1.elim
      | ok z s3 =>
        rw [hz] at p1
        exact ⟨al1, G2, s2, t, v, z, s3, rfl, r2, q2, hz, fun G' H' sb r' => p1 al1 G' H' (Xt.ofSb (sb2.trans sb)) r' _ (show Rep C.cA G' (.str z) (.str z) from repS)⟩
    · exact p1.elim
  · exact p1.elim
theorem k_fst {a b : Expr} {es : List Expr} (h : Kf C N sc (a :: b :: es) x) : Ke C N sc (.JoinedStr (a :: b :: es) p) (.fst x) := fun X W c F => s_fst (h X W c F)
theorem k_fmt (ha : Ke C N sc a x) : Ke C N sc (.FormattedValue a (-1) none p) (.fmt x) := fun X W c F => s_fmt (ha X W c F)
theorem k_nil : Ka C N sc [] .nil := fun X W c F => s_nil
theorem k_cons {es : List Expr} (h : notStar a = true) (ha : Ke C N sc a x) (hs : Ka C N sc es y) : Ka C N sc (a :: es) (.cons x y) := fun X W c F => s_cons (ha X W c F) (hs X W c F) h
theorem k_fnil : Kf C N sc [] .nil := fun X W c F => f_nil
theorem k_fcons {es : List Expr} (ha : Ke C N sc a x) (hs : Kf C N sc es y) : Kf C N sc (a :: es) (.cons x y) := fun X W c F => f_cons (ha X W c F) (hs X W c F)
def tyOk (n : String) (x : Str) : Bool :=
  (decide (n = "int") && decide (x = "int")) || (decide (n = "bool") && decide (x = "bool")) || (decide (n = "str") && decide (x = "str")) || (decide (n = "list") && decide (x = "list")) || (decide (n = "tuple") && decide (x = "tuple")) || (decide (n = "dict") && decide (x = "dict"))
theorem tyOk_ok {n : String} {x : Str} (h : tyOk n x = true) : x ∈ bnames ∧ bootBuiltins x = some (.type n) := by
  unfold tyOk at h
  simp only [Bool.or_eq_true, Bool.and_eq_true, decide_eq_true_eq] at h
  rcases h with ((((h | h) | h) | h) | h) | h <;> (obtain ⟨rfl, rfl⟩ := h)
  · exact ⟨by decide +kernel, PyProof.Rows.boot_int⟩
  · exact ⟨by decide +kernel, PyProof.Rows.boot_bool⟩
  · exact ⟨by decide +kernel, PyProof.Rows.boot_str⟩
  · exact ⟨by decide +kernel, PyProof.Rows.boot_list⟩
  · exact ⟨by decide +kernel, PyProof.Rows.boot_tuple⟩
  · exact ⟨by decide +kernel, PyProof.Rows.boot_dict⟩
def Kc (C : Cl) (sc : Scope) (a : Expr) (r : CR) : Prop := ∃ n p, a = .Name n p ∧ glB sc n = true ∧ match r with | .ty t => n ∈ bnames ∧ bootBuiltins n = some (.type t) | .cl d => C.M.cnm d = some n
theorem k_ty {n : Str} {t : String} (hg : glB sc n = true) (h : tyOk t n = true) : Kc C sc (.Name n p) (.ty t) := ⟨n, p, rfl, hg, tyOk_ok h⟩
theorem k_cls {n : Str} {d : Nat} (hg : glB sc n = true) (h : C.M.cnm d = some n) : Kc C sc (.Name n p) (.cl d) := ⟨n, p, rfl, hg, h⟩
inductive Kcs (C : Cl) (sc : Scope) : List Expr → List CR → Prop where
  | nil : Kcs C sc [] []
  | cons {e : Expr} {r : CR} {es : List Expr} {rs : List CR} : Kc C sc e r → Kcs C sc es rs → Kcs C sc (e :: es) (r :: rs)
theorem kc_pe {r : CR} {X : Cx} {W : WX} (c : Cok X N sc W) (F : C.Ok X) (h : Kc C sc a r) : PE X a (tC (crV C.cA r)) := by
  obtain ⟨n, p, rfl, hg, h⟩ := h
  exact s_cr F.pf c hg h
theorem kc_star {r : CR} (h : Kc C sc a r) : notStar a = true := by
  obtain ⟨n, p, rfl, hg, h⟩ := h; rfl
theorem kcs_pa {X : Cx} {W : WX} (c : Cok X N sc W) (F : C.Ok X) : ∀ {es : List Expr} {rs : List CR}, Kcs C sc es rs → ∃ t, PA X es t ∧ ∀ st H (Q : List V → Hp → Prop), Q (rs.map (crV C.cA)) H → t st H Q
  | _, _, .nil => ⟨tNil, pa_nil, fun st H Q q => q⟩
  | _, _, .cons (e := e) (r := r) h hs => by
    obtain ⟨t, h1, h2⟩ := kcs_pa c F hs
    exact ⟨_, pa_cons (kc_pe c F h) h1 (star_cons (kc_star h)), fun st H Q q => h2 st H _ q⟩
theorem k_isi1 {r : CR} {q : Pos} (hg : glB sc "isinstance" = true) (hs : notStar a = true) (ha : Ke C N sc a x) (hb : Kc C sc b r) : Ke C N sc (.Call (.Name "isinstance" q) [a, b] [] p) (.isi x [r]) := fun X W c F =>
  s_isi1 F.pf c (ha X W c F) hg (kc_pe c F hb) (by simp [hs, kc_star hb])
theorem k_isiT {rs : List CR} {es : List Expr} {q p2 : Pos} {k : Nat} (hg : glB sc "isinstance" = true) (hs : notStar a = true) (hl : rs.length ≤ 100) (ha : Ke C N sc a x) (hb : Kcs C sc es rs) :
    Ke C N sc (.Call (.Name "isinstance" q) [a, .Tuple es k p2] [] p) (.isi x rs) := fun X W c F =>
  s_isiT F.pf c (ha X W c F) hg (kcs_pa c F hb) hl (by simp [hs])
theorem k_tv (h : testPlain a = true) (ha : Ke C N sc a x) : Kt C N sc a x := fun X W c F => s_truth (ha X W c F) h
theorem k_tnot (ha : Kt C N sc a x) : Kt C N sc (.UnaryOp .Not a p) (.not x) := fun X W c F => by
  refine pt_eq (s_notT (ha X W c F)) ?_
  funext loc s
  simp only [evT, ev, bind_assoc]
  congr 1
  funext y s1
  cases h : (rd s1 y).bind tru with
  | none => rfl
  | some b => cases b <;> rfl
theorem k_tcmp {o : CmpOp} (hm : behindInMarks o b = false) (ha : Ke C N sc a x) (hb : Ke C N sc b y) : Kt C N sc (.Compare a [o] [b] p) (.cmp o x y) := fun X W c F => by
  refine pt_eq (s_cmpT F.pf (ha X W c F) (hb X W c F) hm) ?_
  funext loc s
  simp only [evT, ev, bind_assoc]
  congr 1
  funext y s1
  congr 1
  funext z s2
  cases cmpV C.D C.cf o y z s2 with
  | none => rfl
  | some b => cases b <;> rfl
theorem k_tcmp2 {o q : CmpOp} (hm : lastMarks [o, q] [b, c] = false) (ha : Ke C N sc a x) (hb : Ke C N sc b y) (hc : Ke C N sc c z) : Kt C N sc (.Compare a [o, q] [b, c] p) (.cmp2 o q x y z) := fun X W ck F => by
  refine pt_weak (pt_chain (op_cmp (cA := C.cA) o) (op_cmp (cA := C.cA) q) (ha X W ck F) (hb X W ck F) (hc X W ck F) hm) fun st H Q q' => ?_
  obtain ⟨al, G, loc, s, r, S, pp⟩ := q'
  simp only [evT, ev, bind_assoc] at pp
  refine TEv.go r S pp fun y s1 al1 G1 H1 v x1 r1 S1 rv p1 => ?_
  refine TEv.go r1 S1 p1 fun z s2 al2 G2 H2 u x2 r2 S2 ru p2 => ?_
  cases h1 : rd s2 y with
  | none => simp only [h1] at p2; exact p2.elim
  | some tx =>
    cases h2 : rd s2 z with
    | none => simp only [h1, h2] at p2; exact p2.elim
    | some ty =>
      simp only [h1, h2] at p2
      cases hz : cmpP o tx ty with
      | none => simp only [hz] at p2; exact p2.elim
      | some b1 =>
        simp only [hz] at p2
        cases b1 with
        | false =>
          refine ⟨G2, tx, ty, false, ⟨r2.sub⟩, r2.sees (rv.mono x2) h1, r2.sees ru h2, hz, false, rfl, ?_⟩
          rw [if_neg Bool.false_ne_true]
          exact ⟨false, rfl, p2.here r2⟩
        | true =>
          refine ⟨G2, tx, ty, true, ⟨r2.sub⟩, r2.sees (rv.mono x2) h1, r2.sees ru h2, hz, true, rfl, ?_⟩
          rw [if_pos rfl]
          simp only [bind_assoc] at p2
          refine TEv.go r2 S2 p2 fun e s3 al3 G3 H3 vv x3 r3 S3 re p3 => ?_
          cases h3 : rd s3 z with
          | none => simp only [h3] at p3; exact p3.elim
          | some tw =>
            cases h4 : rd s3 e with
            | none => simp only [h3, h4] at p3; exact p3.elim
            | some tv =>
              simp only [h3, h4] at p3
              cases hz : cmpP q tw tv with
              | none => simp only [hz] at p3; exact p3.elim
              | some b =>
                simp only [hz] at p3
                refine ⟨G3, tw, tv, b, ⟨r3.sub⟩, r3.sees (ru.mono x3) h3, r3.sees re h4, hz, b, rfl, ?_⟩
                cases b <;> exact p3.here r3
theorem k_tw (h : Kw C N sc a x) : Kt C N sc a x := fun X W c F => (h X W c F).pt
theorem k_w1a (h : Kt C N sc a x) : Kw C N sc (.BoolOp .And [a] p) x := fun X W c F => pw_and1 (h X W c F)
theorem k_w1o (h : Kt C N sc a x) : Kw C N sc (.BoolOp .Or [a] p) x := fun X W c F => pw_or1 (h X W c F)
theorem k_wand {r : List Expr} (ha : Kt C N sc a x) (hb : Kw C N sc (.BoolOp .And (b :: r) p) y) : Kw C N sc (.BoolOp .And (a :: b :: r) p) (.and x y) := fun X W c F => by
  refine pw_eq (s_andT (ha X W c F) (hb X W c F)) ?_
  funext loc s
  simp only [evT, ev, bind_assoc]
  congr 1
  funext y s1
  cases h : (rd s1 y).bind tru with
  | none => rfl
  | some b =>
    cases b with
    | true => rfl
    | false => simp only [Out.bind, ofO, h]; rfl
theorem k_wor {r : List Expr} (ha : Kt C N sc a x) (hb : Kw C N sc (.BoolOp .Or (b :: r) p) y) : Kw C N sc (.BoolOp .Or (a :: b :: r) p) (.or x y) := fun X W c F => by
  refine pw_eq (s_orT (ha X W c F) (hb X W c F)) ?_
  funext loc s
  simp only [evT, ev, bind_assoc]
  congr 1
  funext y s1
  cases h : (rd s1 y).bind tru with
  | none => rfl
  | some b =>
    cases b with
    | true => simp only [Out.bind, ofO, h]; rfl
    | false => rfl
theorem k_irng1 {tg : Expr} {q : Pos} (hg : glB sc "range" = true) (hs : notStar a = true) (ha : Ke C N sc a x) : Ki C N sc tg (.Call (.Name "range" q) [a] [] p) (.irng1 x) := fun X W c F => i_rng1 F.pf c (ha X W c F) hg hs
theorem k_irng2 {tg : Expr} {q : Pos} (hg : glB sc "range" = true) (hs : notStar a = true) (hs2 : notStar b = true) (ha : Ke C N sc a x) (hb : Ke C N sc b y) : Ki C N sc tg (.Call (.Name "range" q) [a, b] [] p) (.irng2 x y) := fun X W c F => i_rng2 F.pf c (ha X W c F) (hb X W c F) hg hs hs2
theorem k_iseq {tg : Expr} (ha : Ke C N sc a x) : Ki C N sc tg a (.iseq x) := fun X W c F => i_seq (ha X W c F)
end
end Tw
set_option maxHeartbeats 4000000
namespace Tw
open PySem L2
section
variable {C : Cl} {N : List Str} {sc : Scope}
abbrev Kg (N : List Str) (ts : Scope) (tg : Expr) (g : E) : Prop := chkT N ts g (.e tg) = true
theorem kg_pg {X : Cx} {ts : Scope} {cA : CA} (Tk : Tgk X N ts) (hc : X.calm = true) {g : E} {x : Expr} (h : Kg N ts x g) : PG X x (TGb cA g) := chkT_e Tk hc h
def Kts (C : Cl) (N : List Str) (sc : Scope) (ifs : List Expr) (cond : E) : Prop := (ifs = [] ∧ cond.isOmit = true) ∨ (∃ c, ifs = [c] ∧ cond.isOmit = false ∧ Kt C N sc c cond)
theorem k_ts0 : Kts C N sc [] .omit := .inl ⟨rfl, rfl⟩
theorem tYes_of {cA : CA} {W : WX} {X : Cx} : PTs X [] (TTv cA W fun _ s => .ok true s) := by
  refine ⟨fun pins s σ H Q I q => pts_nil.run pins s σ H Q I ?_⟩
  obtain ⟨al, G, loc, s', r, S, p⟩ := q
  exact p.here r
theorem cok_blk {X : Cx} {W : WX} (c : Cok X N sc W) (s : Shared) (H : Hp) (scope : Scope) (D : Addr) (cl : List (Str × Addr)) (fp : List Addr) : Cok (X.blk s H scope (compEnvC scope cl D X.env) fp) N (relS scope sc) W0 :=
  ⟨c.hN, c.nd, by show relS scope X.env.scope = _; rw [c.hs], c.calm, takes0⟩
theorem ok_blk {X : Cx} (F : C.Ok X) (s : Shared) (H : Hp) (scope : Scope) (env : Env) (fp : List Addr) : C.Ok (X.blk s H scope env fp) := ⟨F.pf, F.rp⟩
theorem tgk_blk {X : Cx} {W : WX} (c : Cok X N sc W) (s : Shared) (H : Hp) (scope : Scope) (D : Addr) (cl : List (Str × Addr)) (fp : List Addr) : Tgk (X.blk s H scope (compEnvC scope cl D X.env) fp) N scope := by
  refine ⟨c.hN, c.nd, fun x h => ?_, fun x h => ⟨?_, ?_⟩⟩
  · exact lookup_relS_keep (by decide) h
  · exact lookup_relS_keep (by decide) h
  · show (scope.names.lookup x == some .cell) = true
    rw [h]; rfl
def notSetE : Expr → Bool
  | .Set .. => false
  | _ => true
theorem fold_plain {it : Expr} {env : Env} (h : notSetE it = true) : ∀ x, foldedSetIterable it env x = pure x := by
  cases it <;> first | exact fun _ => rfl | cases h
structure LcOk (N : List Str) (sc scope : Scope) (own : List Nat) (g : E) (it tg : Expr) : Prop where
  b : blkC N sc scope (own.map fun i => (N.getD i Str.empty, i)) = true
  gs : (gslots g).all (fun i => decide (i ∈ own)) = true
  n : notSetE it = true
  t : @Kg N scope tg g
theorem lc_pe {X : Cx} {W : WX} {m : Bool} {own : List Nat} {g x cond e : E} {elt tg it : Expr} {ifs : List Expr} {scope : Scope} {pos : Pos} (c : Cok X N sc W) (F : C.Ok X)
    (ok : LcOk N sc scope own g it tg) (hi : Ki C N sc tg it x) (ht : Kts C N (relS scope sc) ifs cond) (he : Ke C N (relS scope sc) elt e) :
    ∃ (tt : TT), (∀ (s : Shared) (H : Hp) (D : Addr) (cl : List (Str × Addr)) (fp : List Addr), PTs (X.blk s H scope (compEnvC scope cl D X.env) fp) ifs tt) ∧
      ∀ st H Q, TEv C.cA W (ev C.D C.cf C.rp (.lc m own g x cond e)) st H Q → tLc (TIv C.cA X.K W (evI C.D C.cf C.rp x)) (TGb C.cA g) tt (TEv C.cA W0 (ev C.D C.cf C.rp e)) own st H Q := by
  rcases ht with ⟨e1, e2⟩ | ⟨cc, e1, e2, h⟩
  · subst e1
    refine ⟨TTv C.cA W0 fun _ s => .ok true s, fun s H D cl fp => tYes_of, fun st H Q q => ?_⟩
    refine lc_read (m := m) (fun i hi => of_decide_eq_true (List.all_eq_true.mp ok.gs i hi)) st H Q ?_
    simp only [ev, e2, if_true] at q
    exact q
  · subst e1
    refine ⟨TTv C.cA W0 (evT C.D C.cf C.rp cond), fun s H D cl fp => pts_one (h _ _ (cok_blk c s H scope D cl fp) (ok_blk F s H scope _ fp)), fun st H Q q => ?_⟩
    refine lc_read (m := m) (fun i hi => of_decide_eq_true (List.all_eq_true.mp ok.gs i hi)) st H Q ?_
    simp only [ev, e2, Bool.false_eq_true, if_false] at q
    exact q
theorem own_map {N : List Str} {own : List Nat} : (own.map fun i => (N.getD i Str.empty, i)).map (·.2) = own := by
  rw [List.map_map]
  show own.map (fun i => i) = own
  simp
theorem k_lc {m : Bool} {own : List Nat} {g x cond e : E} {elt tg it : Expr} {ifs : List Expr} {scope : Scope} {pos : Pos} (ok : LcOk N sc scope own g it tg) (hi : Ki C N sc tg it x) (ht : Kts C N (relS scope sc) ifs cond) (he : Ke C N (relS scope sc) elt e) :
    Ke C N sc (.ListComp elt [⟨tg, it, ifs, 0⟩] scope pos) (.lc m own g x cond e) := fun X W c F => by
  obtain ⟨tt, h1, h2⟩ := lc_pe (m := m) (pos := pos) c F ok hi ht he
  have z := pe_lc (pos := pos) c.calm (by rw [c.hN]; exact c.nd) (hi X W c F) (by rw [c.hN, c.hs]; exact blkOk_by ok.b) (fun s H D cl fp => kg_pg (cA := C.cA) (tgk_blk c s H scope D cl fp) c.calm ok.t) h1
    (fun s H D cl fp => he _ _ (cok_blk c s H scope D cl fp) (ok_blk F s H scope _ fp)) (fold_plain ok.n)
  rw [own_map] at z
  exact pe_weak z h2
end
end Tw
set_option maxHeartbeats 4000000
namespace Tw
open PySem L2
def PoS (cA : CA) (W : WX) (al : List Addr) (G : Hp) (D : Ends) : Fl → Prop
  | .nx loc s' => ∀ al' G' H' st', Xt al G al' G' → Rl cA al' G' s' H' → RepS cA al' G' loc st' → D.nx st' H'
  | .bk loc s' => ∀ al' G' H' st', Xt al G al' G' → Rl cA al' G' s' H' → RepS cA al' G' loc st' → D.bk st' H'
  | .ct loc s' => ∀ al' G' H' st', Xt al G al' G' → Rl cA al' G' s' H' → RepS cA al' G' loc st' → D.ct st' H'
  | .rt y s' => ∀ al' G' H' v, Xt al G al' G' → Rl cA al' G' s' H' → RepV cA al' G' y v → D.rt v H'
  | .ex e loc s' => ∀ al' G' H' st' cl d, Xt al G al' G' → Rl cA al' G' s' H' → RepS cA al' G' loc st' → RepX cA G' H' e cl d → W cl d st' H'
  | .bad => False
def TSv (cA : CA) (W : WX) (m : Loc → Store → Fl) : TS := fun D st H => ∃ al G loc s, Rl cA al G s H ∧ RepS cA al G loc st ∧ PoS cA W al G D (m loc s)
section
variable {cA : CA} {W : WX} {al al1 : List Addr} {G G1 H : Hp} {D : Ends} {st : L2.St} {loc : Loc} {s : Store}
theorem PoS.mono {x : Fl} (h : PoS cA W al G D x) (e : Xt al G al1 G1) : PoS cA W al1 G1 D x := by
  cases x with
  | nx l s => exact fun al' G' H' st' x r S => h al' G' H' st' (e.trans x) r S
  | bk l s => exact fun al' G' H' st' x r S => h al' G' H' st' (e.trans x) r S
  | ct l s => exact fun al' G' H' st' x r S => h al' G' H' st' (e.trans x) r S
  | rt y s => exact fun al' G' H' v x r q => h al' G' H' v (e.trans x) r q
  | ex u l s => exact fun al' G' H' st' cl d x r S q => h al' G' H' st' cl d (e.trans x) r S q
  | bad => exact h
theorem PoS.toFl {α : Type} {x : Out α} {f : α → Store → Fl} (h : PoS cA W al G D (x.toFl loc f)) (S : RepS cA al G loc st) : Po cA W al G st (fun a s1 al1 G1 _ => PoS cA W al1 G1 D (f a s1)) x := by
  cases x with
  | ok a s1 => exact fun al1 G1 H1 e r => PoS.mono (x := f a s1) h e
  | ex u s1 => exact fun al1 G1 H1 cl d e r q => h al1 G1 H1 st cl d e r (S.mono e) q
  | bad => exact h
theorem PoS.hereN (h : PoS cA W al G D (.nx loc s)) (r : Rl cA al G s H) (S : RepS cA al G loc st) : D.nx st H := h al G H st Xt.rfl' r S
theorem TEv.goS {m : Loc → Store → Out VV} {f : VV → Store → Fl} {Q' : VK} (r : Rl cA al G s H) (S : RepS cA al G loc st) (h : PoS cA W al G D ((m loc s).toFl loc f))
    (c : ∀ y s1 al1 G1 H1 v, Xt al G al1 G1 → Rl cA al1 G1 s1 H1 → RepS cA al1 G1 loc st → RepV cA al1 G1 y v → PoS cA W al1 G1 D (f y s1) → Q' v H1) : TEv cA W m st H Q' :=
  ⟨al, G, loc, s, r, S, (h.toFl S).imp fun y s1 al1 G1 H1 x r1 p v q => c y s1 al1 G1 H1 v x r1 (S.mono x) q p⟩
theorem TAv.goS {m : Loc → Store → Out (List VV)} {f : List VV → Store → Fl} {Q' : List V → Hp → Prop} (r : Rl cA al G s H) (S : RepS cA al G loc st) (h : PoS cA W al G D ((m loc s).toFl loc f))
    (c : ∀ y s1 al1 G1 H1 v, Xt al G al1 G1 → Rl cA al1 G1 s1 H1 → RepS cA al1 G1 loc st → RepVs cA al1 G1 y v → PoS cA W al1 G1 D (f y s1) → Q' v H1) : TAv cA W m st H Q' :=
  ⟨al, G, loc, s, r, S, (h.toFl S).imp fun y s1 al1 G1 H1 x r1 p v q => c y s1 al1 G1 H1 v x r1 (S.mono x) q p⟩
theorem TTv.goS {m : Loc → Store → Out Bool} {f : Bool → Store → Fl} {Q' : Bool → Hp → Prop} (r : Rl cA al G s H) (S : RepS cA al G loc st) (h : PoS cA W al G D ((m loc s).toFl loc f))
    (c : ∀ y s1 al1 G1 H1, Xt al G al1 G1 → Rl cA al1 G1 s1 H1 → RepS cA al1 G1 loc st → PoS cA W al1 G1 D (f y s1) → Q' y H1) : TTv cA W m st H Q' :=
  ⟨al, G, loc, s, r, S, (h.toFl S).imp fun y s1 al1 G1 H1 x r1 p => c y s1 al1 G1 H1 x r1 (S.mono x) p⟩
end
def spI (C : Addr) (f : Str) : Sp := fun vs H Q _ => ∃ a v, vs = [.ref a, v] ∧ H a = some (exo a C none) ∧ ∀ dx, H dx = none → dx ≠ a → Q .non (upd (upd H dx (exd dx [(f, v)])) a (exo a C (some dx)))
structure Xfs (P : Program) (w : World) (K : PySem.W.Frag) (mg : Str → Option Value) (base : Heap) (D : Defs) (M : Nms) (cA : CA) (k : Nat) : Prop where
  sub : ∀ e c, (D.exf e).isSome = true → (D.exf c).isSome = true → PySem.W.exmOne K (.ref (cA e)) (.ref (cA c)) = some (D.sub e c)
  ini : ∀ c f, D.exf c = some (some f) → ∃ fI fd ps, OexC K (cA c) ∧ PySem.W.findIn K (.ref (cA c)) "__init__" = some (some (.ref fI)) ∧ PySem.W.typeIn K (.ref fI) = some (.type "function") ∧
    FnOk P w K mg base (L2.CX P w) k fI fd ps (spI (cA c) f) ∧ Binds K fd ps []
structure Cl.OkS (C : Cl) (X : Cx) : Prop where
  ok : C.Ok X
  xf : Xfs X.prog X.w X.K X.mg X.base C.D C.M C.cA C.k
structure Stc (X : Cx) (N : List Str) (sc : Scope) (W : WX) : Prop where
  c : Cok X N sc W
  g : Tgk X N sc
  st : X.stack = X.env :: X.outer
  fr : X.env.frame = some X.env.locals
  po : PassesOwn (model X.prog X.w) X.A X.env X.xe
section
variable (C : Cl) (N : List Str) (sc : Scope)
def Ks (x : Stmt) (e : S) : Prop := ∀ X W, Stc X N sc W → C.OkS X → PS X x (TSv C.cA W (evS C.D C.cf C.rp C.fw e))
def Kb (x : List Stmt) (e : S) : Prop := ∀ X W, Stc X N sc W → C.OkS X → PSs X x (TSv C.cA W (evS C.D C.cf C.rp C.fw e))
end
section
variable {C : Cl} {N : List Str} {sc : Scope} {a b c : Expr} {x y z : E} {pos p : Pos} {t : Stmt} {ts us : List Stmt} {u v : S}
theorem ret_go {cA : CA} {W : WX} {al : List Addr} {G H : Hp} {D : Ends} {s : Store} {y : VV} {v : V} {m : Bool} (r : Rl cA al G s H) (rv : RepV cA al G y v)
    (p : PoS cA W al G D (if m then .rt y s else match emb s y with
      | some (t, s2) => .rt (.t t) s2
      | none => .bad)) : D.rt v H := by
  cases m with
  | true => exact p al G H v Xt.rfl' r rv
  | false =>
    simp only [Bool.false_eq_true, if_false] at p
    cases he : emb s y with
    | none => rw [he] at p; exact p.elim
    | some z =>
      obtain ⟨t, s2⟩ := z
      rw [he] at p
      obtain ⟨G2, sb2, r2, q2⟩ := r.emb rv he
      exact p al G2 H v (Xt.ofSb sb2) r2 q2
theorem b_nil : Kb C N sc [] .skip := fun X W c F => pss_weak pss_nil fun D st H ⟨al, G, loc, s, r, S, p⟩ => p.hereN r S
theorem b_cons (h : Ks C N sc t u) (hs : Kb C N sc ts v) : Kb C N sc (t :: ts) (.seq u v) := fun X W c F => by
  refine pss_weak (pss_cons (h X W c F) (hs X W c F)) fun D st H q => ?_
  obtain ⟨al, G, loc, s, r, S, p⟩ := q
  refine ⟨al, G, loc, s, r, S, ?_⟩
  simp only [evS] at p
  cases hm : evS C.D C.cf C.rp C.fw u loc s with
  | nx l s1 => rw [hm] at p; exact fun al' G' H' st' x r' S' => ⟨al', G', l, s1, r', S', PoS.mono (x := evS C.D C.cf C.rp C.fw v l s1) p x⟩
  | bk l s1 => rw [hm] at p; exact p
  | ct l s1 => rw [hm] at p; exact p
  | rt y s1 => rw [hm] at p; exact p
  | ex e l s1 => rw [hm] at p; exact p
  | bad => rw [hm] at p; exact p
theorem b_one (h : Ks C N sc t u) : Kb C N sc [t] u := fun X W c F => pss_one (h X W c F)
theorem b_junk : Kb C N sc ts .junk := fun X W c F => pss_weak pss_never fun D st H ⟨al, G, loc, s, r, S, p⟩ => p
theorem t_ret {m : Bool} (h : Ke C N sc a x) : Ks C N sc (.Return (some a) p) (.ret m x) := fun X W c F => by
  refine ps_weak (ps_ret (h X W c.c F.ok)) fun D st H q => ?_
  obtain ⟨al, G, loc, s, r, S, p⟩ := q
  exact TEv.goS r S p fun y s1 al1 G1 H1 v x1 r1 S1 rv p1 => ret_go r1 rv p1
theorem t_if (h : Kt C N sc a x) (h1 : Kb C N sc ts u) (h2 : Kb C N sc us v) : Ks C N sc (.If a ts us p) (.ite x u v) := fun X W c F => by
  refine ps_weak (ps_if (h X W c.c F.ok) (h1 X W c F) (h2 X W c F)) fun D st H q => ?_
  obtain ⟨al, G, loc, s, r, S, p⟩ := q
  refine TTv.goS r S p fun b s1 al1 G1 H1 x1 r1 S1 p1 => ?_
  cases b with
  | true => exact ⟨al1, G1, loc, s1, r1, S1, p1⟩
  | false => exact ⟨al1, G1, loc, s1, r1, S1, p1⟩
theorem t_exp (hs : ∀ env, swapsWith a none p.line env = pure false) (h : Ke C N sc a x) : Ks C N sc (.Expr a p) (.exp x) := fun X W c F => by
  refine ps_weak (ps_expr (h X W c.c F.ok) (hs _)) fun D st H q => ?_
  obtain ⟨al, G, loc, s, r, S, p⟩ := q
  exact TEv.goS r S p fun y s1 al1 G1 H1 v x1 r1 S1 rv p1 => p1.hereN r1 S1
def TGp (C : Cl) (W : WX) (g : E) : TG := fun v st H Q => ∃ al G loc s y, Rl C.cA al G s H ∧ RepS C.cA al G loc st ∧ RepV C.cA al G y v ∧
  Po C.cA W al G st (fun l' _ al' G' H' => ∀ st', RepS C.cA al' G' l' st' → Q st' H') (put C.D C.cf C.rp g y loc s)
def TGps (C : Cl) (W : WX) (g : E) : TGs := fun vs st H Q => ∃ al G loc s ys, Rl C.cA al G s H ∧ RepS C.cA al G loc st ∧ RepL C.cA G ys vs ∧
  Po C.cA W al G st (fun l' _ al' G' H' => ∀ st', RepS C.cA al' G' l' st' → Q st' H') (putL C.D C.cf C.rp g ys loc s)
def Kp (C : Cl) (N : List Str) (sc : Scope) (x : Expr) (g : E) : Prop := ∀ X W, Stc X N sc W → C.OkS X → PG X x (TGp C W0 g)
def Kps (C : Cl) (N : List Str) (sc : Scope) (x : List Expr) (g : E) : Prop := ∀ X W, Stc X N sc W → C.OkS X → PGs X x (TGps C W0 g)
theorem g_gn {i : Nat} {n : Str} (h1 : N[i]? = some n) (h2 : locB sc n = true) : Kp C N sc (.Name n p) (.gn i) := fun X W c F => by
  refine pg_weak (g_name (cA := C.cA) c.g h1 h2) fun v st H Q q => ?_
  obtain ⟨al, G, loc, s, y, r, S, rv, p⟩ := q
  simp only [put] at p
  split at p
  · rename_i hi
    exact ⟨al, G, loc, s, y, r, S, rv, hi, fun st' S' _ => p al G H Xt.rfl' r st' S'⟩
  · exact p.elim
theorem cokW0 {X : Cx} {W : WX} (c : Cok X N sc W) : Cok X N sc W0 := ⟨c.hN, c.nd, c.hs, c.calm, takes0⟩
theorem g_ix (hsub : ∀ env v, assign (.Subscript a b p) env v = (do
      let ov ← holding [v] (eval a env)
      let iv ← holding [v, ov] (eval b env)
      standAt p
      holding [v, ov, iv] (setItem ov iv v)
      release [v, ov, iv] [])) (ha : Ke C N sc a x) (hb : Ke C N sc b y) : Kp C N sc (.Subscript a b p) (.ix x y) := fun X W c F => by
  refine pg_weak (pg_sub (ha X W0 (cokW0 c.c) F.ok) (hb X W0 (cokW0 c.c) F.ok) set_list (hsub _)) fun v st H Q q => ?_
  obtain ⟨al, G, loc, s, yv, r, S, rv, p⟩ := q
  simp only [put] at p
  refine TEv.go r S p fun o s1 al1 G1 H1 ov x1 r1 S1 ro p1 => ?_
  refine TEv.go r1 S1 p1 fun z s2 al2 G2 H2 zv x2 r2 S2 rz p2 => ?_
  unfold setIx at p2
  cases o with
  | t t => exact p2.elim
  | c k =>
    simp only at p2
    obtain ⟨adr, hk, rfl⟩ := ro
    cases he : emb s2 yv with
    | none => simp only [he] at p2; exact p2.elim
    | some w =>
      obtain ⟨t, s3⟩ := w
      simp only [he] at p2
      obtain ⟨G3, sb3, r3, q3⟩ := r2.emb (rv.mono (x1.trans x2)) he
      cases hc : s3[k]? with
      | none => simp only [hc] at p2; exact p2.elim
      | some cc =>
        simp only [hc] at p2
        split at p2
        · rename_i xs j e1 e2
          cases e1
          cases hx : ixN xs.length j with
          | none => simp only [hx] at p2; exact p2.elim
          | some pp =>
            simp only [hx] at p2
            have hk2 : al2[k]? = some adr := x2.get hk
            obtain ⟨gn, vs, hh, rr⟩ := r3.cell _ _ _ hk2 hc
            have rz3 : RepV C.cA al2 G3 z zv := rz.mono (Xt.ofSb sb3)
            have hz := seesI (r3.sees rz3 e2)
            refine ⟨adr, vs, j, pp, rfl, hz, hh, by rw [rr.length]; exact hx, ?_⟩
            exact p2 al2 G3 _ (Xt.ofSb sb3) (r3.setL (vs := vs) hk2 hc (rr.set pp q3)) st (S2.mono (Xt.ofSb sb3))
        · exact p2.elim
theorem g_pnil : Kps C N sc [] .nil := fun X W c F => by
  refine pgs_weak pgs_nil fun vs st H Q q => ?_
  obtain ⟨al, G, loc, s, ys, r, S, rl, p⟩ := q
  cases ys with
  | nil =>
    unfold RepL at rl
    subst rl
    exact ⟨rfl, p al G H Xt.rfl' r st S⟩
  | cons z zs => exact p.elim
theorem g_pcons {es : List Expr} (h : notStar a = true) (ha : Kp C N sc a x) (hs : Kps C N sc es y) : Kps C N sc (a :: es) (.cons x y) := fun X W c F => by
  refine pgs_weak (pgs_cons (ha X W c F) (hs X W c F) (each_cons h)) fun vs st H Q q => ?_
  obtain ⟨al, G, loc, s, ys, r, S, rl, p⟩ := q
  cases ys with
  | nil => exact p.elim
  | cons z zs =>
    unfold RepL at rl
    obtain ⟨v, rr, rfl, rx, rs⟩ := rl
    refine ⟨v, rr, rfl, al, G, loc, s, .t z, r, S, rx, ?_⟩
    simp only [putL] at p
    exact p.bind.imp fun l1 s1 al1 G1 H1 x1 r1 p1 st1 S1 => ⟨al1, G1, l1, s1, zs, r1, S1, RepL.mono x1.sub rs, by
      cases hm : putL C.D C.cf C.rp y zs l1 s1 with
      | ok l2 s2 => rw [hm] at p1; exact p1
      | ex e s2 => rw [hm] at p1; exact fun al' G' H' cl d x' r' q' => p1 al' G' H' cl d x' r' q'
      | bad => rw [hm] at p1; exact p1⟩
theorem g_gt {es : List Expr} {k : Nat} (hl : alen x = es.length) (hs : es.all notStar = true) (h : Kps C N sc es x) : Kp C N sc (.Tuple es k p) (.gt x) := fun X W c F => by
  have g1 := pg_tup (k := k) (pos := p) (n := es.length) c.c.calm (h X W c F) each_len (each_star hs)
  have g2 := pg_lst (k := k) (pos := p) (n := es.length) c.c.calm (h X W c F) each_len (each_star hs)
  refine ⟨fun pins s st H v u Q I r q => ?_⟩
  obtain ⟨al, G, loc, s', yv, rl, S, rv, pp⟩ := q
  simp only [put] at pp
  cases hx : (rd s' yv).bind items with
  | none => simp only [hx] at pp; exact pp.elim
  | some xs =>
    simp only [hx] at pp
    rw [Option.bind_eq_some_iff] at hx
    obtain ⟨t, ht, hi⟩ := hx
    split at pp
    case isFalse => exact pp.elim
    rename_i hl0
    have hlen : xs.length = es.length := by rw [hl0, hl]
    have sx := rl.sees rv ht
    cases t with
    | tup ys =>
      cases hi
      obtain ⟨a, vs, rfl, ha, ga, ra⟩ := seesT rl.sub sx
      exact g1.run pins s st H _ u Q I r ⟨a, vs, rfl, .of ha, by rw [ra.length, hlen], al, G, loc, s', xs, rl, S, ra, pp⟩
    | lst ys =>
      cases hi
      obtain ⟨a, vs, rfl, ha, ra⟩ := sx
      exact g2.run pins s st H _ u Q I r ⟨a, vs, rfl, .of ha, by rw [ra.length, hlen], al, G, loc, s', xs, rl, S, ra, pp⟩
    | _ => cases hi
theorem t_asg (hs : ∀ env : Env, env.scope = sc → swapsWithSole [a] b p.line env = pure false) (hw : ∀ env : Env, env.scope = sc → swappedStores [a] b env = pure none) (ho : ∀ env, (assignEach [a] env).map (·.2) = [assign a env]) (hg : Kp C N sc a x) (he : Ke C N sc b y) : Ks C N sc (.Assign [a] b p) (.asg x y) := fun X W c F => by
  refine ps_weak (ps_asg (he X W c.c F.ok) (hg X W c F) (hs _ c.c.hs) (hw _ c.c.hs) (ho _)) fun D st H q => ?_
  obtain ⟨al, G, loc, s, r, S, p⟩ := q
  simp only [evS] at p
  refine TEv.goS r S p fun y s1 al1 G1 H1 v x1 r1 S1 rv p1 => ?_
  refine ⟨al1, G1, loc, s1, y, r1, S1, rv, ?_⟩
  cases hm : put C.D C.cf C.rp x y loc s1 with
  | ok l2 s2 => rw [hm] at p1; exact fun al2 G2 H2 x2 r2 st2 S2 => p1 al2 G2 H2 st2 x2 r2 S2
  | ex e s2 => rw [hm] at p1; exact p1.elim
  | bad => rw [hm] at p1; exact p1.elim
def TGlV (cA : CA) (gs : E) : TGs := fun vs st H Q => ∃ al G loc s ys loc', Rl cA al G s H ∧ RepS cA al G loc st ∧ RepVs cA al G ys vs ∧ bindV gs ys loc = some loc' ∧ ∀ st', RepS cA al G loc' st' → Q st' H
def Kpn (C : Cl) (N : List Str) (sc : Scope) (x : List Expr) (g : E) : Prop := ∀ X W, Stc X N sc W → C.OkS X → PGs X x (TGlV C.cA g)
theorem gv_nil : Kpn C N sc [] .nil := fun X W c F => by
  refine pgs_weak pgs_nil fun vs st H Q q => ?_
  obtain ⟨al, G, loc, s, ys, loc', r, S, rl, hb, q⟩ := q
  cases ys with
  | nil =>
    simp only [bindV, Option.some.injEq] at hb
    subst hb
    exact ⟨rl, q st S⟩
  | cons x xs => simp [bindV] at hb
theorem gv_cons {es : List Expr} {i : Nat} {n : Str} (h1 : N[i]? = some n) (h2 : locB sc n = true) (hs : Kpn C N sc es y) : Kpn C N sc (.Name n p :: es) (.cons (.gn i) y) := fun X W c F => by
  refine pgs_weak (pgs_cons (g_name (cA := C.cA) c.g h1 h2) (hs X W c F) (each_cons rfl)) fun vs st H Q q => ?_
  obtain ⟨al, G, loc, s, ys, loc', r, S, rl, hb, q⟩ := q
  cases ys with
  | nil => simp [bindV] at hb
  | cons x xs =>
    obtain ⟨v, rr, rfl, rx, rs⟩ := rl
    simp only [bindV] at hb
    split at hb
    · rename_i hi
      refine ⟨v, rr, rfl, al, G, loc, s, x, r, S, rx, hi, fun st1 S1 k1 => ?_⟩
      exact ⟨al, G, _, s, xs, loc', r, S1, rs, hb, q⟩
    · cases hb
theorem bindV_len : ∀ {gs : E} {ys : List VV} {loc loc' : Loc}, bindV gs ys loc = some loc' → ys.length = alen gs
  | .nil, [], _, _, _ => rfl
  | .cons (.gn i) gs, x :: xs, loc, loc', h => by
    simp only [bindV] at h
    split at h
    · simp [alen, bindV_len h]
    · cases h
theorem t_parT {ts es : List Expr} {gs : E} {kt k2 : Nat} {pt pt2 : Pos} (hs : ∀ env : Env, env.scope = sc → swapsWithSole [.Tuple ts kt pt] (.Tuple es k2 pt2) p.line env = pure false) (hw : ∀ env : Env, env.scope = sc → swappedStores [.Tuple ts kt pt] (.Tuple es k2 pt2) env = pure none)
    (ho : ∀ env, (assignEach [.Tuple ts kt pt] env).map (·.2) = [assign (.Tuple ts kt pt) env]) (hl : alen gs = ts.length) (hz : alen gs ≤ 100) (ht : ts.all notStar = true) (hg : Kpn C N sc ts gs) (h : Ka C N sc es x) :
    Ks C N sc (.Assign [.Tuple ts kt pt] (.Tuple es k2 pt2) p) (.par gs x) := fun X W c F => by
  have g1 := pg_tup (k := kt) (pos := pt) (n := ts.length) c.c.calm (hg X W c F) each_len (each_star ht)
  refine ps_weak (ps_asg (pe_tup (x1 := k2) (pos := pt2) (h X W c.c F.ok)) g1 (hs _ c.c.hs) (hw _ c.c.hs) (ho _)) fun D st H q => ?_
  obtain ⟨al, G, loc, s, r, S, p⟩ := q
  simp only [evS] at p
  refine TAv.goS r S p fun ys s1 al1 G1 H1 vs x1 r1 S1 rv p1 => ?_
  split at p1
  · rename_i l hb
    have hn := bindV_len hb
    have hv := rv.length
    refine ⟨by rw [hv, hn]; exact Nat.le_trans hz (by decide), fun q hq => ?_⟩
    have r2 := r1.newX (o := .tup vs) hq
    exact ⟨q, vs, rfl, .of upd_same, by rw [hv, hn, hl], al1, G1, loc, s1, ys, l, r2, S1, rv, hb, fun st' S' => p1.hereN r2 S'⟩
  · exact p1.elim
theorem t_lc {i : Nat} {n : Str} {py lp : Pos} {m : Bool} {own : List Nat} {g w cond e : E} {elt tg it : Expr} {ifs : List Expr} {scope : Scope} (h1 : N[i]? = some n) (h2 : sc.names.lookup n = some .local) (hk : sc.kind = .function) (hl : (py.line == lp.line) = true)
    (ha : (scope.names.any fun (x, k) => x == n && (k == .local || k == .cell)) = false) (ok : LcOk N sc scope own g it tg) (hi : Ki C N sc tg it w) (ht : Kts C N (relS scope sc) ifs cond) (he : Ke C N (relS scope sc) elt e) :
    Ks C N sc (.Assign [.Name n py] (.ListComp elt [⟨tg, it, ifs, 0⟩] scope lp) p) (.asg (.gn i) (.lc m own g w cond e)) := fun X W c F => by
  obtain ⟨tt, q1, q2⟩ := lc_pe (m := m) (pos := lp) c.c F.ok ok hi ht he
  have z := ps_setLc (pos := lp) (spos := p) (py := py) c.c.calm (by rw [c.c.hN]; exact c.c.nd) (by rw [c.c.hN]; exact h1) (by rw [c.c.hs]; exact h2) (sw_true (by rw [c.c.hs]; exact hk) (by rw [c.c.hs]; exact h2) hl ha) (hi X W c.c F.ok) (by rw [c.c.hN, c.c.hs]; exact blkOk_by ok.b)
    (fun s H D cl fp => kg_pg (cA := C.cA) (tgk_blk c.c s H scope D cl fp) c.c.calm ok.t) q1 (fun s H D cl fp => he _ _ (cok_blk c.c s H scope D cl fp) (ok_blk F.ok s H scope _ fp)) (fold_plain ok.n)
  rw [own_map] at z
  refine ps_weak z fun D st H q => ?_
  obtain ⟨al, G, loc, s, r, S, p⟩ := q
  simp only [evS] at p
  refine q2 st H _ (TEv.goS r S p fun y s1 al1 G1 H1 v x1 r1 S1 rv p1 => ?_)
  simp only [put] at p1
  split at p1
  · rename_i hi
    exact p1.hereN r1 (S1.set hi rv)
  · exact p1.elim
theorem RepVs.two {cA : CA} {al : List Addr} {G : Hp} {ys : List VV} {vs : List V} (r : RepVs cA al G ys vs) (h : ys.length = 2) : ∃ y1 y2 v1 v2, ys = [y1, y2] ∧ vs = [v1, v2] ∧ RepV cA al G y1 v1 ∧ RepV cA al G y2 v2 := by
  match ys, h, r with
  | [y1, y2], _, ⟨v1, r1, e1, q1, v2, r2, e2, q2, e3⟩ =>
    have e3 : r2 = [] := e3
    subst e3; subst e2; subst e1
    exact ⟨y1, y2, v1, v2, rfl, rfl, q1, q2⟩
theorem t_par2 {i j : Nat} {n1 n2 : Str} {px py pt pt2 : Pos} {kt k2 : Nat} (h1 : N[i]? = some n1) (h2 : N[j]? = some n2) (hij : i ≠ j) (l1 : sc.names.lookup n1 = some .local) (l2 : sc.names.lookup n2 = some .local)
    (hw : ∀ env : Env, env.scope = sc → swappedStores [.Tuple [.Name n1 px, .Name n2 py] kt pt] (.Tuple [a, b] k2 pt2) env = pure (some [n1, n2])) (h : Ka C N sc [a, b] x) :
    Ks C N sc (.Assign [.Tuple [.Name n1 px, .Name n2 py] kt pt] (.Tuple [a, b] k2 pt2) p) (.par (.cons (.gn i) (.cons (.gn j) .nil)) x) := fun X W c F => by
  refine ps_weak (ps_par c.c.calm (by rw [c.c.hN]; exact c.c.nd) (by rw [c.c.hN]; exact h1) (by rw [c.c.hN]; exact h2) hij (by rw [c.c.hs]; exact l1) (by rw [c.c.hs]; exact l2) (h X W c.c F.ok) (hw _ c.c.hs)) fun D st H q => ?_
  obtain ⟨al, G, loc, s, r, S, p⟩ := q
  simp only [evS] at p
  refine TAv.goS r S p fun ys s1 al1 G1 H1 vs x1 r1 S1 rv p1 => ?_
  match ys, rv, p1 with
  | [], _, p1 => exact p1.elim
  | [_], _, p1 => simp only [bindV] at p1; split at p1 <;> first | exact p1.elim | (rename_i z; split at z <;> cases z)
  | _ :: _ :: _ :: _, _, p1 => simp only [bindV] at p1; split at p1 <;> first | exact p1.elim | (rename_i z; (repeat (split at z)) <;> cases z)
  | [y1, y2], rv, p1 =>
    obtain ⟨_, _, v1, v2, e, rfl, q1, q2⟩ := rv.two rfl
    cases e
    simp only [bindV] at p1
    split at p1
    · rename_i l hl
      split at hl
      · rename_i hi
        split at hl
        · rename_i hj
          cases hl
          exact ⟨v1, v2, rfl, p1.hereN r1 ((S1.set hi q1).set hj q2)⟩
        · cases hl
      · cases hl
    · exact p1.elim
end
end Tw
set_option maxHeartbeats 4000000
namespace Tw
open PySem L2
section
variable {C : Cl} {N : List Str} {sc : Scope} {a b c : Expr} {x y z : E} {pos p : Pos} {t : Stmt} {ts us : List Stmt} {u v : S}
theorem TIv.goS {cA : CA} {K : PySem.W.Frag} {W : WX} {al : List Addr} {G H : Hp} {D : Ends} {st : L2.St} {loc : Loc} {s : Store} {m : Loc → Store → Out Src} {f : Src → Store → Fl} {Q' : It → Hp → Prop} (r : Rl cA al G s H) (S : RepS cA al G loc st) (h : PoS cA W al G D ((m loc s).toFl loc f))
    (q : ∀ src s1 al1 G1 H1, Xt al G al1 G1 → Rl cA al1 G1 s1 H1 → RepS cA al1 G1 loc st → PoS cA W al1 G1 D (f src s1) → ∀ J, SrcIt cA K al1 G1 src J → Q' J H1) : TIv cA K W m st H Q' :=
  ⟨al, G, loc, s, r, S, (h.toFl S).imp fun src s1 al1 G1 H1 x r1 p J hJ => q src s1 al1 G1 H1 x r1 (S.mono x) p J hJ⟩
theorem t_for {tg it : Expr} {g i : E} (hn : notSetE it = true) (hg : Kg N sc tg g) (hi : Ki C N sc tg it i) (hb : Kb C N sc ts u) : Ks C N sc (.For tg it ts [] p) (.for g i u) := fun X W c F => by
  refine ps_weak (ps_for c.po c.c.calm (hi X W c.c F.ok) (kg_pg (cA := C.cA) c.g c.c.calm hg) (hb X W c F) (fold_plain hn)) fun D st H q => ?_
  obtain ⟨al, G, loc, s, r, S, p⟩ := q
  simp only [evS] at p
  refine TIv.goS r S p fun src s1 al1 G1 H1 x1 r1 S1 p1 J hJ => ?_
  refine ⟨fun k n st' H' => ∃ al' G' loc' s', Xt al1 G1 al' G' ∧ Rl C.cA al' G' s' H' ∧ RepS C.cA al' G' loc' st' ∧ PoS C.cA W al' G' D (loopF src g (evS C.D C.cf C.rp C.fw u) n k loc' s'), ⟨_, al1, G1, loc, s1, Xt.rfl', r1, S1, p1⟩, ?_⟩
  rintro k n st' H' ⟨al', G', loc', s', x', r', S', pp⟩
  have hJ' := hJ.mono x'
  cases n with
  | zero => exact pp.elim
  | succ n =>
    unfold loopF at pp
    cases ha : src.at s' k with
    | none => rw [ha] at pp; exact pp.elim
    | some o =>
      rw [ha] at pp
      cases o with
      | none => exact .inl ⟨turn_none r' hJ' ha, pp.hereN r' S'⟩
      | some w =>
        obtain ⟨go, yl⟩ := turn_some r' hJ' ha
        refine .inr ⟨go, _, fun st2 H2 h => ⟨n, Nat.lt_succ_self n, h⟩, fun v H2 hy => ?_⟩
        obtain ⟨G2, sb2, r2, rx⟩ := yl v H2 hy
        cases hb : bindG g w loc' with
        | none => simp only [hb] at pp; exact pp.elim
        | some l1 =>
          simp only [hb] at pp
          have x2 : Xt al' G' al' G2 := Xt.ofSb sb2
          refine ⟨al', G2, loc', s', w, l1, r2, S'.mono x2, rx, hb, fun st2 S2 _ => ⟨al', G2, l1, s', r2, S2, ?_⟩⟩
          cases hm : evS C.D C.cf C.rp C.fw u l1 s' with
          | nx l2 s2 => rw [hm] at pp; exact fun al3 G3 H3 st3 x3 r3 S3 => ⟨al3, G3, l2, s2, x'.trans (x2.trans x3), r3, S3, PoS.mono pp (x2.trans x3)⟩
          | ct l2 s2 => rw [hm] at pp; exact fun al3 G3 H3 st3 x3 r3 S3 => ⟨al3, G3, l2, s2, x'.trans (x2.trans x3), r3, S3, PoS.mono pp (x2.trans x3)⟩
          | bk l2 s2 => rw [hm] at pp; exact fun al3 G3 H3 st3 x3 r3 S3 => pp al3 G3 H3 st3 (x2.trans x3) r3 S3
          | rt y2 s2 => rw [hm] at pp; exact fun al3 G3 H3 st3 x3 r3 S3 => pp al3 G3 H3 st3 (x2.trans x3) r3 S3
          | ex e l2 s2 => rw [hm] at pp; exact fun al3 G3 H3 st3 cl d x3 r3 S3 q3 => pp al3 G3 H3 st3 cl d (x2.trans x3) r3 S3 q3
          | bad => rw [hm] at pp; exact pp.elim
theorem t_whl (hc : Kt C N sc a x) (hb : Kb C N sc ts u) : Ks C N sc (.While a ts [] p) (.whl x u) := fun X W c F => by
  refine ps_weak (ps_while c.po (hc X W c.c F.ok) (hb X W c F)) fun D st H q => ?_
  obtain ⟨al, G, loc, s, r, S, p⟩ := q
  simp only [evS] at p
  refine ⟨fun n st' H' => ∃ al' G' loc' s', Rl C.cA al' G' s' H' ∧ RepS C.cA al' G' loc' st' ∧ PoS C.cA W al' G' D (loopW (evT C.D C.cf C.rp x) (evS C.D C.cf C.rp C.fw u) n loc' s'), ⟨_, al, G, loc, s, r, S, p⟩, ?_⟩
  rintro n st' H' ⟨al', G', loc', s', r', S', pp⟩
  cases n with
  | zero => exact pp.elim
  | succ n =>
    unfold loopW at pp
    refine ⟨al', G', loc', s', r', S', ?_⟩
    cases hq : evT C.D C.cf C.rp x loc' s' with
    | bad => rw [hq] at pp; exact pp.elim
    | ex e s1 => rw [hq] at pp; exact fun al1 G1 H1 cl d x1 r1 q1 => pp al1 G1 H1 st' cl d x1 r1 (S'.mono x1) q1
    | ok b s1 =>
      rw [hq] at pp
      intro al1 G1 H1 x1 r1
      show if b = true then _ else _
      cases b with
      | false =>
        rw [if_neg Bool.false_ne_true]
        exact pp al1 G1 H1 st' x1 r1 (S'.mono x1)
      | true =>
        rw [if_pos rfl]
        refine ⟨_, fun st2 H2 h => ⟨n, Nat.lt_succ_self n, h⟩, al1, G1, loc', s1, r1, S'.mono x1, ?_⟩
        simp only at pp
        cases hm : evS C.D C.cf C.rp C.fw u loc' s1 with
        | nx l2 s2 => rw [hm] at pp; exact fun al3 G3 H3 st3 x3 r3 S3 => ⟨al3, G3, l2, s2, r3, S3, PoS.mono pp (x1.trans x3)⟩
        | ct l2 s2 => rw [hm] at pp; exact fun al3 G3 H3 st3 x3 r3 S3 => ⟨al3, G3, l2, s2, r3, S3, PoS.mono pp (x1.trans x3)⟩
        | bk l2 s2 => rw [hm] at pp; exact fun al3 G3 H3 st3 x3 r3 S3 => pp al3 G3 H3 st3 (x1.trans x3) r3 S3
        | rt y2 s2 => rw [hm] at pp; exact fun al3 G3 H3 st3 x3 r3 S3 => pp al3 G3 H3 st3 (x1.trans x3) r3 S3
        | ex e l2 s2 => rw [hm] at pp; exact fun al3 G3 H3 st3 cl d x3 r3 S3 q3 => pp al3 G3 H3 st3 cl d (x1.trans x3) r3 S3 q3
        | bad => rw [hm] at pp; exact pp.elim
theorem sw_call {f : Expr} {es : List Expr} {kw : List Keyword} {pos : Pos} (tg : Option Expr) (l : Nat) (env : Env) : swapsWith (.Call f es kw pos) tg l env = pure false := rfl
theorem bm_append {X : Cx} {o e : Expr} {to : TE} {t : TA} {apos : Pos} (ho : PE X o to) (ha : PA X [e] t) (hs : notStar e = true) (hsup : notSuper o = true) (hl : (apos.endLine == pos.line) = true) :
    PE X (.Call (.Attribute o "append" apos) [e] [] pos) (tBM X.K "list" rAppend to t) := by
  have few := few_plain (env := X.env) (pos := pos) (es := [e]) (by simp [hs]) (Nat.lt_of_lt_of_le Nat.one_lt_two (by decide))
  exact pe_bm PySem.F.plainAttrs_list PySem.F.slot_list_append PySem.F.type_list_append mt_append ho ha (base_plain hsup) few hl (star_cons hs) (plain_back rfl)
theorem RepL.dropLast {cA : CA} {G : Hp} : ∀ {xs : List T} {vs : List V}, RepL cA G xs vs → RepL cA G xs.dropLast vs.dropLast
  | [], _, r => by unfold RepL at r; subst r; exact (by unfold RepL; rfl)
  | [x], _, r => by
    unfold RepL at r
    obtain ⟨v, rr, rfl, q, q'⟩ := r
    unfold RepL at q'
    subst q'
    exact (by show RepL cA G [] []; unfold RepL; rfl)
  | x :: y :: xs, _, r => by
    unfold RepL at r
    obtain ⟨v, rr, rfl, q, q'⟩ := r
    have ih := RepL.dropLast q'
    unfold RepL at q'
    obtain ⟨w, ws, rfl, _, _⟩ := q'
    show RepL cA G (x :: (y :: xs).dropLast) (v :: (w :: ws).dropLast)
    unfold RepL
    exact ⟨v, _, rfl, q, ih⟩
theorem t_app {o : Nat} {n : Str} {q1 q2 : Pos} (h1 : N[o]? = some n) (h2 : visB sc n = true) (hs : notStar a = true) (hl : (q2.endLine == pos.line) = true) (he : Ke C N sc a x) :
    Ks C N sc (.Expr (.Call (.Attribute (.Name n q1) "append" q2) [a] [] pos) p) (.app o x) := fun X W c F => by
  have z1 := bm_append (s_var (cA := C.cA) (W := W) (pos := q1) c.c h1 h2) (s_cons (he X W c.c F.ok) s_nil hs) hs rfl hl (pos := pos)
  refine ps_weak (ps_expr z1 (sw_call _ _ _)) fun D st H q => ?_
  obtain ⟨al, G, loc, s, r, S, p⟩ := q
  simp only [evS] at p
  unfold cellAt at p
  split at p
  · rename_i k hk
    split at hk
    · rename_i k' hk1
      split at hk
      · rename_i xs0 hk2
        cases hk
        refine ⟨al, G, loc, s, r, S, ?_⟩
        simp only [hk1]
        intro al1 G1 H1 x1 r1 v0 rv0
        obtain ⟨adr, hadr, rfl⟩ := rv0
        have hS := r1.cell _ _ _ hadr hk2
        obtain ⟨gn0, vs0, hh0, rr0⟩ := hS
        refine ⟨.inl ⟨rfl, vs0, .of hh0⟩, ?_⟩
        refine TAv.goS (D := D) (m := evs C.D C.cf C.rp (.cons x .nil)) (f := fun ys s1 => match ys with | [y] => appTo k y loc s1 | _ => .bad) r1 (S.mono x1) ?_ fun ys s2 al2 G2 H2 vs x2 r2 S2 rvs p2 => ?_
        · have pm := PoS.mono p x1
          simp only [evs]
          cases hz : ev C.D C.cf C.rp x loc s with
          | bad => rw [hz] at pm; exact pm
          | ex e s2 => rw [hz] at pm; exact pm
          | ok y s2 => rw [hz] at pm; exact pm
        · split at p2
          · rename_i y
            obtain ⟨v, rr, e1, q1, q2⟩ := rvs
            have e2 : rr = [] := q2
            subst e2; subst e1
            unfold appTo at p2
            cases hm : emb s2 y with
            | none => rw [hm] at p2; exact p2.elim
            | some z =>
              obtain ⟨t, s3⟩ := z
              simp only [hm] at p2
              obtain ⟨G3, sb3, r3, q3⟩ := r2.emb q1 hm
              cases hc : s3[k]? with
              | none => simp only [hc] at p2; exact p2.elim
              | some cc =>
                cases cc with
                | lst xs =>
                  simp only [hc] at p2
                  split at p2
                  · rename_i hz
                    have hk3 : al2[k]? = some adr := x2.get hadr
                    obtain ⟨gn, vs, hh, rr⟩ := r3.cell _ _ _ hk3 hc
                    refine ⟨adr, vs, v, rfl, rfl, hh, by rw [rr.length]; exact hz, ?_⟩
                    exact p2 al2 G3 _ st (Xt.ofSb sb3) (r3.setL (vs := vs) hk3 hc (rr.append (.one q3))) (S2.mono (Xt.ofSb sb3))
                  · exact p2.elim
                | _ => simp only [hc] at p2; exact p2.elim
          · exact p2.elim
      · cases hk
    · cases hk
  · exact p.elim
end
end Tw
set_option maxHeartbeats 4000000
namespace Tw
open PySem L2
section
variable {C : Cl} {N : List Str} {sc : Scope} {a b c : Expr} {x y z : E} {pos p : Pos} {t : Stmt} {ts us : List Stmt} {u v : S}
theorem put_rep {cA : CA} {G : Hp} {f : Str} {t : T} {v : V} (q : Rep cA G t v) : ∀ {fs : List (Str × T)} {gs : List (Str × V)}, RepF cA G fs gs → RepF cA G (putT f t fs) (putF f v gs)
  | [], gs, r => by
    unfold RepF at r
    subst r
    unfold putT putF RepF
    exact ⟨v, [], rfl, q, by unfold RepF; rfl⟩
  | (g, y) :: fs, gs, r => by
    unfold RepF at r
    obtain ⟨w, rr, e, h1, h2⟩ := r
    subst e
    unfold putT putF
    by_cases hg : g = f
    · rw [if_pos hg, if_pos hg]
      unfold RepF
      exact ⟨v, rr, rfl, q, h2⟩
    · rw [if_neg hg, if_neg hg]
      unfold RepF
      exact ⟨w, _, rfl, h1, put_rep q h2⟩
theorem Rl.setI {cA : CA} {al : List Addr} {G H : Hp} {s : Store} (r : Rl cA al G s H) {k c dx : Nat} {a : Addr} {acc : List (Str × T)} (ha : al[k]? = some a) (hs : s[k]? = some (.ins c acc)) {xs : List (Str × T)} {us : List (Str × V)} (q : RepF cA G xs us) :
    Rl cA al G (s.set k (.ins c xs)) (upd H a (.ins (cA c) dx us)) := by
  have ok := r.cell k a _ ha hs
  obtain ⟨gn, ws, hh, _⟩ := ok
  refine ⟨fun b u e => ?_, by simp [r.len], r.nd, fun j b c hb hc => ?_⟩
  · have hne : b ≠ a := fun z => by rw [z, gn] at e; cases e
    rw [upd_ne hne]; exact r.sub b u e
  · by_cases hj : j = k
    · subst hj
      rw [ha] at hb; cases hb
      rw [List.getElem?_set_self (List.getElem?_eq_some_iff.mp hs).1] at hc
      cases hc
      exact ⟨gn, dx, us, upd_same, q⟩
    · rw [List.getElem?_set_ne (Ne.symm hj)] at hc
      have hba : b ≠ a := nodup_ne r.nd hb ha hj
      have ok' := r.cell j b c hb hc
      cases c with
      | lst z => obtain ⟨g, w, h1, h2⟩ := ok'; exact ⟨g, w, by rw [upd_ne hba]; exact h1, h2⟩
      | dct z => obtain ⟨g, w, h1, h2⟩ := ok'; exact ⟨g, w, by rw [upd_ne hba]; exact h1, h2⟩
      | dcT z => obtain ⟨g, w, h1, h2⟩ := ok'; exact ⟨g, w, by rw [upd_ne hba]; exact h1, h2⟩
      | ins cc z => obtain ⟨g, dx, w, h1, h2⟩ := ok'; exact ⟨g, dx, w, by rw [upd_ne hba]; exact h1, h2⟩
      | frz z => exact ok'
theorem t_satt {f : Str} {p2 : Pos} (hs : ∀ env, swapsWith b (some (.Attribute a f p2)) p.line env = pure false) (ha : Ke C N sc a x) (hb : Ke C N sc b y) : Ks C N sc (.Assign [.Attribute a f p2] b p) (.satt x f y) := fun X W c F => by
  refine ps_weak (ps_fld (ha X W c.c F.ok) (hb X W c.c F.ok) (hs _)) fun D st H q => ?_
  obtain ⟨al, G, loc, s, r, S, p⟩ := q
  simp only [evS] at p
  refine TEv.goS r S p fun w s1 al1 G1 H1 wv x1 r1 S1 rw1 p1 => ?_
  refine TEv.goS r1 S1 p1 fun o s2 al2 G2 H2 ov x2 r2 S2 ro p2 => ?_
  unfold attTo at p2
  cases o with
  | t t => exact p2.elim
  | c k =>
    simp only at p2
    obtain ⟨adr, hk, rfl⟩ := ro
    cases he : emb s2 w with
    | none => simp only [he] at p2; exact p2.elim
    | some z =>
      obtain ⟨t, s3⟩ := z
      simp only [he] at p2
      obtain ⟨G3, sb3, r3, q3⟩ := r2.emb (rw1.mono x2) he
      cases hc : s3[k]? with
      | none => simp only [hc] at p2; exact p2.elim
      | some cc =>
        cases cc with
        | ins ci fs =>
          simp only [hc] at p2
          split at p2
          · rename_i hz
            simp only [Bool.and_eq_true, decide_eq_true_eq] at hz
            obtain ⟨gn, dx, gs, hh, rr⟩ := r3.cell _ _ _ hk hc
            obtain ⟨f1, f2⟩ := F.ok.pf.fld ci f hz.1
            refine ⟨adr, _, dx, gs, rfl, hh, f1, f2, by rw [rr.length]; exact hz.2, ?_⟩
            exact p2 al2 G3 _ st (Xt.ofSb sb3) (r3.setI hk hc (put_rep q3 rr)) (S2.mono (Xt.ofSb sb3))
          · exact p2.elim
        | _ => simp only [hc] at p2; exact p2.elim
theorem passN {X : Cx} : Passes (L2.CX X.prog X.w) X (fun _ _ _ => False) := fun _ _ _ _ _ _ _ h => by
  obtain ⟨_, _, _, _, _, _, _, _, _, _, _, _, z⟩ := h
  exact z.elim
theorem t_raise {e : Nat} {f n : Str} {q1 : Pos} (hx : C.D.exf e = some (some f)) (hn : C.M.cnm e = some n) (hg : glB sc n = true) (hs : notStar a = true) (ha : Ke C N sc a x) :
    Ks C N sc (.Raise (some (.Call (.Name n q1) [a] [] pos)) none p) (.raise e (.cons x .nil)) := fun X W c F => by
  obtain ⟨fI, fd, ps, oc, iC, tI, fo, bi⟩ := F.xf.ini e f hx
  obtain ⟨g, dd, _⟩ := gl_of c.c hg
  have hr : Room (C.k + 1) X.A := F.ok.pf.room.mono (by omega)
  have z := pmk_oex (ds := []) (dvs := []) (pos := pos) (p := q1) oc iC tI fo hr bi .nil passN g (F.ok.pf.gcc e n hn) (s_cons (ha X W c.c F.ok) s_nil hs) dd (star_cons hs) (plain_back rfl)
  refine ps_weak (ps_raise c.c.calm c.c.tk z) fun D st H q => ?_
  obtain ⟨al, G, loc, s, r, S, p⟩ := q
  simp only [evS] at p
  refine TAv.goS r S p fun ys s1 al1 G1 H1 vs x1 r1 S1 rvs p1 => ?_
  unfold raiseOf at p1
  rw [hx] at p1
  split at p1
  · rename_i f' y e1
    cases e1
    obtain ⟨v, rr, e1, q1, q2⟩ := rvs
    have e2 : rr = [] := q2
    subst e2; subst e1
    cases he : emb s1 y with
    | none => rw [he] at p1; exact p1.elim
    | some z =>
      obtain ⟨t, s2⟩ := z
      simp only [he] at p1
      obtain ⟨G2, sb2, r2, q3⟩ := r1.emb q1 he
      refine ⟨by show 1 ≤ 1000; decide, fun ad had => ⟨ad, v, rfl, upd_same, fun dx hdx hne => ⟨rfl, dx, [(f, v)], upd_same, ?_, ?_, ?_⟩⟩⟩
      · rw [upd_ne hne, upd_same]
      · rw [upd_ne hne] at hdx; exact hdx
      · have hd1 : H1 dx = none := by rw [upd_ne hne] at hdx; exact hdx
        have eq : upd (del (upd (upd (upd H1 ad (exo ad (C.cA e) none)) dx (exd dx [(f, v)])) ad (exo ad (C.cA e) (some dx))) ad) dx (.xd [(f, v)]) = upd H1 dx (.xd [(f, v)]) := by
          funext b
          by_cases h1 : b = dx
          · subst h1; rw [upd_same, upd_same]
          · rw [upd_ne h1, upd_ne h1]
            by_cases h2 : b = ad
            · subst h2; rw [del_same]; exact had.symm
            · rw [del_ne h2, upd_ne h2, upd_ne h1, upd_ne h2]
        rw [eq]
        have r3 : Rl C.cA al1 G2 s2 (upd H1 dx (.xd [(f, v)])) := r2.newX hd1
        refine p1 al1 G2 _ st _ _ (Xt.ofSb sb2) r3 (S1.mono (Xt.ofSb sb2)) ⟨rfl, dx, [(f, v)], rfl, upd_same, ?_⟩
        unfold RepF
        exact ⟨v, [], rfl, q3, by unfold RepF; rfl⟩
  · exact p1.elim
structure Suc (X : Cx) (N : List Str) (sc : Scope) : Prop where
  hN : X.N = N
  nd : N.Nodup
  hs : X.env.scope = sc
  g : Tgk X N sc
def Kh (C : Cl) (N : List Str) (sc : Scope) (x : List Stmt) (e : S) : Prop := ∀ X, Suc X N sc → PSs X x (TSv C.cA W0 (evS C.D C.cf C.rp C.fw e))
def Kk (C : Cl) (x : Expr) (e : E) : Prop := ∀ X W, PE X x (TEv C.cA W (ev C.D C.cf C.rp e))
theorem kk_bl {i : Bool} {k : _} : Kk C (.Constant (.bool i) k p) (.bl i) := fun X W => s_const pe_bl fun G => repB
theorem h_one (h : ∀ X, Suc X N sc → PS X t (TSv C.cA W0 (evS C.D C.cf C.rp C.fw u))) : Kh C N sc [t] u := fun X c => pss_one (h X c)
theorem h_set {i : Nat} {n : Str} {q : Pos} (hs : ∀ env, swapsWith b (some (.Name n q)) p.line env = pure false) (h1 : N[i]? = some n) (h2 : locB sc n = true) (h : Kk C b x) : ∀ X, Suc X N sc → PS X (.Assign [.Name n q] b p) (TSv C.cA W0 (evS C.D C.cf C.rp C.fw (.asg (.gn i) x))) := fun X c => by
  have hl : L2.Loc X.env.scope n ∧ (X.fn n = true ∨ X.env.scope.names.lookup n = some .local) := by
    unfold locB at h2
    split at h2
    · rename_i z; exact ⟨.inl (c.g.lo n z), .inr (c.g.lo n z)⟩
    · rename_i z; exact ⟨.inr (c.g.ce n z).1, .inl (c.g.ce n z).2⟩
    · cases h2
  refine ps_weak (ps_set (i := i) (pos' := q) (by rw [c.hN]; exact c.nd) (by rw [c.hN]; exact h1) hl.1 (h X W0) (hs _) hl.2) fun D st H q => ?_
  obtain ⟨al, G, loc, s, r, S, p⟩ := q
  simp only [evS] at p
  refine TEv.goS r S p fun y s1 al1 G1 H1 v x1 r1 S1 rv p1 => ?_
  simp only [put] at p1
  split at p1
  · rename_i hi
    exact p1.hereN r1 (S1.set hi rv)
  · exact p1.elim
theorem t_try {e : Nat} {n : Str} {np hp : Pos} {h0 : Stmt} {hs : List Stmt} (hx : (C.D.exf e).isSome = true) (hn : C.M.cnm e = some n) (hg : glB sc n = true) (hb : Kb C N sc ts u) (hh : Kh C N sc (h0 :: hs) v) :
    Ks C N sc (.Try ts [.ExceptHandler (some (.Name n np)) none (h0 :: hs) hp] [] [] p) (.try1 u e v) := fun X W c F => by
  obtain ⟨g, dd, _⟩ := gl_of c.c hg
  refine ps_weak (ps_try_only (x := n) (c := .ref (C.cA e)) (Wout := W) (tb := fun W => TSv C.cA W (evS C.D C.cf C.rp C.fw u)) (ts := fun _ _ _ => TSv C.cA W0 (evS C.D C.cf C.rp C.fw v)) c.st c.fr ⟨g, dd, .inl (F.ok.pf.gcc e n hn)⟩ c.c.tk
    (fun W' pn xe tk po => hb _ _ ⟨⟨c.c.hN, c.c.nd, c.c.hs, c.c.calm, tk⟩, ⟨c.g.hN, c.g.nd, c.g.lo, c.g.ce⟩, c.st, c.fr, po⟩ ⟨⟨F.ok.pf, F.ok.rp⟩, F.xf⟩)
    (fun a oe cls d pn _ _ => hh _ ⟨c.c.hN, c.c.nd, c.c.hs, ⟨c.g.hN, c.g.nd, c.g.lo, c.g.ce⟩⟩)) fun D st H q => ?_
  obtain ⟨al, G, loc, s, r, S, p⟩ := q
  refine ⟨al, G, loc, s, r, S, ?_⟩
  simp only [evS] at p
  cases hm : evS C.D C.cf C.rp C.fw u loc s with
  | nx l s1 => rw [hm] at p; exact p
  | bk l s1 => rw [hm] at p; exact p
  | ct l s1 => rw [hm] at p; exact p
  | rt y s1 => rw [hm] at p; exact p
  | bad => rw [hm] at p; exact p
  | ex er l s1 =>
    simp only [hm] at p
    intro al1 G1 H1 st1 cl d x1 r1 S1 q1
    split at p
    · rename_i hz
      rw [Bool.and_eq_true] at hz
      have e1 := q1.1
      subst e1
      refine ⟨C.D.sub er.c e, F.xf.sub er.c e hz.1 hz.2, fun hb ad had => ?_, fun hb => ?_⟩
      · rw [if_pos hb] at p
        refine ⟨al1, G1, l, s1, r1, S1, ?_⟩
        have p' := PoS.mono p x1
        cases hk : evS C.D C.cf C.rp C.fw v l s1 with
        | nx l2 s2 => rw [hk] at p'; exact p'
        | bk l2 s2 => rw [hk] at p'; exact p'
        | ct l2 s2 => rw [hk] at p'; exact p'
        | rt y s2 => rw [hk] at p'; exact p'
        | ex e2 l2 s2 => rw [hk] at p'; exact p'.elim
        | bad => rw [hk] at p'; exact p'
      · rw [if_neg (by rw [hb]; exact Bool.false_ne_true)] at p
        exact p al1 G1 H1 st1 _ _ x1 r1 S1 q1
    · exact p.elim
end
end Tw
set_option maxHeartbeats 4000000
namespace Tw
open PySem PySem.Spec PyProof.Rows L2
structure FunD (K : PySem.W.Frag) (nm qual : Str) (st : Stmt) (f : Addr) (fd : FuncData) : Prop where
  ex : ∃ (oc : Value) (od : Option Addr) (dV kV doc pm : Value) (an : Option Addr) (cdv ct : Value) (osl : Array (Option Value)),
    fd = PySem.W.fnOf nm qual (defArgs st) (defBody st) (defScope st) dV kV doc pm an cdv ct ∧ K.lookup f = some ⟨oc, od, .func fd, osl⟩ ∧ PySem.W.codeIn K cdv qual = true
section
variable {P : Program} {w : World} {K : PySem.W.Frag} {mg : Str → Option Value} {base : Heap} {g : Bool}
theorem fnG_of {nm qual : Str} {st : Stmt} {f : Addr} {fd : FuncData} {N ps : List Str} {k : Nat} {sp : Sp} (F : FunD K nm qual st f fd) (S : FnScope N ps (defScope st)) (len : ∀ xs H Q E, sp xs H Q E → xs.length = ps.length)
    (hbody : ∀ (cdv : Value) (A : Around) (outer : List Env) (s : Shared) (H : Hp) (xs : List V) (Q : VK) (E : XK), Room k (A.deeper (envOfC qual (defScope st) s.heap.objs.size f cdv)) → (g = true → A.guards = some []) → sp xs H Q E →
      ∃ t, PSs (cxOf (L2.CX P w) P w K mg base N qual (defScope st) f cdv A outer s H E) (defBody st) t ∧ t { nx := fun _ H' => Q .non H', rt := Q } (start N xs) H) :
    FnG P w K mg base g (k + 1) f fd ps sp := by
  obtain ⟨oc, od, dV, kV, doc, pm, an, cdv, ct, osl, efd, lk, code⟩ := F.ex
  subst efd
  refine ⟨len, fun A outer s H args us xs Q E room hgd e0 bnd rel hsp => ?_⟩
  have here : K.In s.heap := e0.mod.kin.keeps fun b o e => (e0.bs b o e).1
  have limit : s.heap.NoLimit := e0.mod.nolimit.keeps fun b o e => (e0.bs b o e).1
  have sorts : ∀ y ∈ ps.zip us, (defScope st).names.lookup y.1 = some .local ∨ ((defScope st).names.lookup y.1 = some .cell ∧ ((cellsFrom (s.heap.objs.size + 1) (defScope st).names []).lookup y.1).isSome = true) := by
    rintro ⟨n, v⟩ hy
    rcases S.par n (List.of_mem_zip hy).1 with q | q
    · exact Or.inl q
    · exact Or.inr ⟨q, PySem.W.cellsFrom_some _ _ _ (Or.inl q)⟩
  refine codeAny_call_function room.depth (here _ _ lk) rfl S.co S.gen rfl (PySem.W.codeRec_of here code) (bnd _ _ _ _ ?_)
  refine wpAny_newFunctionEnv_cells S.kind sorts fun env eqv s1 frame => ?_
  subst eqv
  obtain ⟨t, ht, start0⟩ := hbody cdv A outer s H xs Q E (room.deeper _) hgd hsp
  refine ⟨limit.keeps frame.toInCall.keep, codeAny_func ?_⟩
  have I := inv_start (CX := L2.CX P w) (P := P) (w := w) (K := K) (mg := mg) (base := base) (E := E) (f := f) (cd := cdv) S room.hd e0 (len xs H Q E hsp) rel frame
  refine wpAny_mono (ht.run [] s1 (start N xs) H _ I start0) (fun fl s2 ends => ?_) fun _ _ z => z
  match fl, ends with
  | .ret u, ⟨v, _, H2, J, rv, q⟩ => exact ⟨v, H2, J.os, J.bare, J.base, J.hok, rv, q⟩
  | .next, ⟨_, H2, J, q⟩ => exact ⟨V.non, H2, J.os, J.bare, J.base, J.hok, rfl, q⟩
  | .brk, ⟨_, _, _, q⟩ => exact q.elim
  | .cont, ⟨_, _, _, q⟩ => exact q.elim
end
end Tw
set_option maxHeartbeats 4000000
namespace Tw
open PySem PySem.Spec PyProof.Rows L2
theorem Xfs.mono {P : Program} {w : World} {K : PySem.W.Frag} {mg : Str → Option Value} {base : Heap} {D : Defs} {M : Nms} {cA : CA} {j k : Nat} (x : Xfs P w K mg base D M cA j) (h : j ≤ k) : Xfs P w K mg base D M cA k :=
  ⟨x.sub, fun c f e => by
    obtain ⟨fI, fd, ps, h1, h2, h3, h4, h5⟩ := x.ini c f e
    exact ⟨fI, fd, ps, h1, h2, h3, h4.mono h, h5⟩⟩
structure Tx (P : Program) (w : World) (K : PySem.W.Frag) (mg : Str → Option Value) (base : Heap) (D : Defs) (M : Nms) (cA : CA) (fA : Nat → Addr) (fdA : Nat → FuncData) (psA : Nat → List Str) (fw : Nat) : Prop where
  bn : ∀ x, x ∈ bnames → mg x = none
  gi : ∀ x i, M.gint x = some i → ∃ t, mg x = some (.int i t)
  gg : ∀ b, isMath b = true → M.gcd b = true → mg (bltNm b) = some (bltV b)
  fld : ∀ c f, D.fld c f = true → Cls K (cA c) ∧ NoAttr K (cA c) f
  ps : ∀ f d, D.fn f = some d → (psA f).length = d.np
  bd : ∀ f d, D.fn f = some d → Binds K (fdA f) (psA f) []
  bdd : ∀ f d n, D.fn f = some d → 0 < n → n ≤ (D.dfl f).length → ∃ ds vs, Binds K (fdA f) (psA f) ds ∧ Vals vs ds ∧ (∀ G, RepL cA G ((D.dfl f).drop ((D.dfl f).length - n)) vs)
  gf : ∀ f x, M.fnm f = some x → mg x = some (.ref (fA f)) ∧ PySem.W.keepIn K (.ref (fA f)) = true
  gc : ∀ c x f, M.cnm c = some x → D.ini c = some f → mg x = some (.ref (cA c)) ∧ Mk K (cA c) (fA f)
  gcc : ∀ c x, M.cnm c = some x → mg x = some (.ref (cA c))
  kit : ∀ c t, D.kit c t = true → PySem.W.kitOne K (tyT cA t) (crU cA c) = some (isiP D.sub c t)
  ity : ∀ c, D.cls c = true → InsTy K (cA c)
  mt : ∀ c m f, D.om c m = some f → Cls K (cA c) ∧ Meth K (cA c) m (fA f)
  ow : ∀ c, D.own c = true → OwnK K (cA c)
  oe : ∀ c, D.om c Str.empty = none
  pr : ∀ c m f, D.pr c m = some f → Cls K (cA c) ∧ PropAt K (cA c) m (fA f)
  kb : ∀ f d ks pm, D.fn f = some d → M.kws f ks pm = true → pm.length = d.np ∧ ∀ (s : Shared) (ws zs : List Value), K.In s.heap → ws.length = ks.length → pick pm ws = some zs → BindsTo s (fdA f) ⟨[], ks.zip ws⟩ ((psA f).zip zs)
  kl : ∀ a ns, cA.kl a ns → ∀ H, SqL K H a (ns.map V.int)
  xf : Xfs P w K mg base D M cA 3
  fn : ∀ f d, D.fn f = some d → ∃ nm qual st N, FunD K nm qual st (fA f) (fdA f) ∧ FnScope N (psA f) (defScope st) ∧ N.length = d.nl ∧ ∀ k cf rp, Kb ⟨D, M, cA, fA, fdA, psA, k, cf, rp, fw⟩ N (defScope st) (defBody st) d.body
section
variable {P : Program} {w : World} {K : PySem.W.Frag} {mg : Str → Option Value} {base : Heap} {D : Defs} {M : Nms} {cA : CA} {fA : Nat → Addr} {fdA : Nat → FuncData} {psA : Nat → List Str} {fw : Nat} {rp : CF → Store → T → Out Str}
theorem start_rep {N : List Str} {al : List Addr} {G : Hp} {args : List VV} {vs : List V} (r : RepVs cA al G args vs) : RepS cA al G (args.map some ++ List.replicate (N.length - args.length) none) (L2.start N vs) := by
  have hl := r.length
  refine ⟨by unfold L2.start; simp [hl], fun i y e => ?_⟩
  have hi : i < args.length := by
    by_cases h : i < args.length
    · exact h
    · rw [List.getElem?_append_right (by simpa using h), List.getElem?_replicate] at e
      split at e <;> cases e
  rw [List.getElem?_append_left (by simpa using hi), List.getElem?_map] at e
  have key : ∀ {as : List VV} {us : List V} {i : Nat} {y : VV}, RepVs cA al G as us → as[i]? = some y → ∃ u, us[i]? = some u ∧ RepV cA al G y u := by
    intro as
    induction as with
    | nil => intro us i y _ h; simp at h
    | cons a as ih =>
      intro us i y r h
      obtain ⟨u, rr, e, q1, q2⟩ := r
      subst e
      cases i with
      | zero =>
        simp only [List.getElem?_cons_zero, Option.some.injEq] at h
        subst h
        exact ⟨u, by simp, q1⟩
      | succ i =>
        simp only [List.getElem?_cons_succ] at h ⊢
        exact ih q2 h
  cases ha : args[i]? with
  | none => rw [ha] at e; cases e
  | some z =>
    rw [ha] at e
    cases e
    obtain ⟨u, hu, ru⟩ := key r ha
    refine ⟨u, ?_, ru⟩
    unfold L2.start
    rw [List.getElem?_append_left (by rw [List.length_map, hl]; exact hi), List.getElem?_map, hu]
    rfl
theorem fin_noex (n : Nat) (y : VV) (s s' : Store) (e : Exc) : fin n y s ≠ .ex e s' := by
  unfold fin
  cases y with
  | t x => intro h; cases h
  | c k =>
    simp only
    by_cases hk : k < n
    · rw [if_pos hk]; intro h; cases h
    · rw [if_neg hk]
      intro h
      split at h <;> cases h
theorem fn_all (B : Nat) (hB : 3 ≤ B) (T : Tx P w K mg base D M cA fA fdA psA fw) (hrp : ∀ (X : Cx) (k : Nat) (cf : CF), B ≤ k → At5 X P w K mg base → X.calm = true → PfX X D M cA fA fdA psA k cf → M.gd = true → CallR X (.builtin "repr") (rRp cA (rp cf))) :
    ∀ n f d, D.fn f = some d → FnG P w K mg base M.gd (2 * n + B) (fA f) (fdA f) (psA f) (spF cA (callN D rp fw n) f d.np) := by
  intro n
  induction n with
  | zero =>
    intro f d hd
    refine ⟨fun xs H Q E q => ?_, fun A outer s H args us xs Q E _ _ _ _ _ q => ?_⟩
    · obtain ⟨_, _, _, _, _, _, _, p⟩ := q; exact p.elim
    · obtain ⟨_, _, _, _, _, _, _, p⟩ := q; exact p.elim
  | succ n ih =>
    intro f d hd
    obtain ⟨nm, qual, st, N, F, S, hN, hb⟩ := T.fn f d hd
    have e : 2 * (n + 1) + B = (2 * n + B + 1) + 1 := by omega
    rw [e]
    refine fnG_of F S (fun xs H Q E q => ?_) fun cdv A outer s H xs Q E room hgd q => ?_
    · obtain ⟨_, _, _, _, _, _, h, _⟩ := q
      rw [h, T.ps f d hd]
    · obtain ⟨al, G, args, s0, r, rv, hl, p⟩ := q
      refine ⟨_, hb (2 * n + B) (callN D rp fw n) (rp (callN D rp fw n)) _ (fun cls d _ H => E cls d H) ⟨⟨rfl, S.nd, rfl, rfl, takes_of rfl rfl rfl rfl⟩, ⟨rfl, S.nd, fun x h => h, fun x h => ⟨h, ?_⟩⟩, rfl, rfl, passes_of rfl⟩
        ⟨⟨⟨room, T.bn, T.gi, T.gg, T.fld, ih, T.ps, T.bd, T.bdd, T.gf, T.gc, T.gcc, T.kit, T.ity, T.mt, hgd, T.ow, T.oe, T.pr, T.kb, T.kl⟩, fun z X' a5 c' F' => hrp X' _ _ (Nat.le_add_left _ _) a5 c' F' z⟩, T.xf.mono (show 3 ≤ 2 * n + B by omega)⟩, ?_⟩
      · rfl
      · have ha : args.length = d.np := by rw [← hl]; exact rv.length.symm
        refine ⟨al, G, args.map some ++ List.replicate (d.nl - d.np) none, s0, r, ?_, ?_⟩
        · have z := start_rep (cA := cA) (N := N) rv
          rw [hN, ha] at z
          exact z
        · unfold callN at p
          rw [hd] at p
          simp only [ha, if_true] at p
          have hs : s0.length = al.length := r.len.symm
          cases hm : evS D (callN D rp fw n) (rp (callN D rp fw n)) fw d.body (args.map some ++ List.replicate (d.nl - d.np) none) s0 with
          | nx l s1 =>
            simp only [hm] at p
            intro al' G' H' st' x r' S'
            obtain ⟨⟨l2, el⟩, sb⟩ := x
            subst el
            cases hf : fin s0.length (.t .non) s1 with
            | bad => simp [fin] at hf
            | ex e2 s2 => simp [fin] at hf
            | ok y' s2 =>
              rw [hf] at p
              obtain ⟨al2, x2, r2, q2⟩ := fin_ok (v := .non) hs r' hf (show Rep cA G' .non .non from repN)
              exact p al2 G' H' .non ((Xt.ofSb sb).trans x2) r2 q2
          | rt y s1 =>
            simp only [hm] at p
            intro al' G' H' v x r' rv'
            obtain ⟨⟨l2, el⟩, sb⟩ := x
            subst el
            cases hf : fin s0.length y s1 with
            | bad => rw [hf] at p; exact p.elim
            | ex e2 s2 => exact absurd hf (fin_noex _ _ _ _ _)
            | ok y' s2 =>
              rw [hf] at p
              obtain ⟨al2, x2, r2, q2⟩ := fin_ok hs r' hf rv'
              exact p al2 G' H' v ((Xt.ofSb sb).trans x2) r2 q2
          | ex e2 l s1 =>
            simp only [hm] at p
            intro al' G' H' st' cl dd x r' S' q'
            obtain ⟨⟨l2, el⟩, sb⟩ := x
            subst el
            rw [hs] at p
            exact p al G' H' cl dd (Xt.ofSb sb) r'.front q'
          | bk l s1 => simp only [hm] at p; exact p.elim
          | ct l s1 => simp only [hm] at p; exact p.elim
          | bad => simp only [hm] at p; exact p.elim
end
end Tw
set_option maxHeartbeats 4000000
namespace Tw
open PySem PySem.Spec PyProof.Rows L2
def Done (s₁ : Shared) (r : Result) (s' : Shared) : Prop := r = .ok (.ret (.bool true)) ∧ OldK s₁.heap s'.heap ∧ s'.os = s₁.os ∧ AllBare s'.gens
section
variable {P : Program} {w : World} {K : PySem.W.Frag} {mg mb : Str → Option Value} {k : Nat} {fa a : Addr} {fd : FuncData} {x : Str} {sp : Sp} {s₁ : Shared} {vs : List Value} {ns : List Int}
theorem law_core (KX : K.In s₁.heap) (hns : s₁.heap.Ns mainGlobals mg) (hb : s₁.heap.Ns builtinsNs mb) (hbb : ∀ x : Str, x ≠ "__name__" → mb x = bootBuiltins x) (hlim : s₁.heap.NoLimit) (hg : s₁.gens = #[])
    (ha : s₁.heap.get? a = some { cls := .type "list", data := .seq vs.toArray }) (hr : Room k callerA)
    (F : ∀ base : Heap, K.In base → base.Ns mainGlobals mg → FnG P w K mg base true k fa fd [x] sp) (hbind : ∀ (s : Shared) (u : Value), BindsTo s fd ⟨[u], []⟩ [(x, u)])
    (hsp : ∀ H : Hp, Only H → SqL K H a (ns.map V.int) → sp [.ref a] H (fun v _ => v = .bl true) fun _ _ _ => False)
    (H : Hp) (only : Only H) (seq : SqL K H a (ns.map V.int)) (hok : HOk P w H s₁.heap) (alone : ∀ b, H b ≠ none → b = a) (apart : H a ≠ none → K.lookup a = none) :
    codeAny (model P w) callerA (.call (.ref fa) ⟨[.ref a], []⟩) (Done s₁) s₁ := by
  have hid : ∀ {b : Addr} {o : Obj}, s₁.heap.get? b = some o → H b = none → (hidT s₁.heap H).get? b = some o := fun e n => hidT_get e n
  have notDict : ∀ {b : Addr} {o : Obj} {es : Array DictEntry} {ep : Nat}, s₁.heap.get? b = some o → o.data = .dict es ep → H b = none := by
    intro b o es ep e d
    by_cases q : H b = none
    · exact q
    · have same := alone b q
      subst same
      rw [ha] at e
      cases e
      exact nomatch (show Data.seq vs.toArray _ = Data.dict es ep from d)
  have keepNs : ∀ {b : Addr} {m : Str → Option Value}, s₁.heap.Ns b m → (hidT s₁.heap H).Ns b m := by
    rintro b m ⟨o, es, ep, e, d, r⟩
    exact ⟨o, es, ep, hid e (notDict e d), d, r⟩
  have inK : K.In (hidT s₁.heap H) := by
    intro b o e
    refine hid (KX b o e) ?_
    by_cases q : H b = none
    · exact q
    · have same := alone b q
      subst same
      rw [apart q] at e
      cases e
  have noLim : (hidT s₁.heap H).NoLimit := by
    obtain ⟨mc, h1, h2⟩ := hlim
    exact ⟨mc, keepNs h1, h2⟩
  have env : Env0 P w K mg (hidT s₁.heap H) callerA [] s₁ H :=
    ⟨rfl, ⟨inK, keepNs hns, ⟨mb, keepNs hb, hbb⟩, noLim⟩, fun b o e => of_hidT e, Nat.le_of_eq (hidT_size _ _), trivial, (fun b hb => absurd (show b ∈ ([] : List Addr) from hb) (by simp)), hok, .of_eq hg⟩
  have go := (F _ inK (keepNs hns)).run callerA [] s₁ H ⟨[.ref a], []⟩ [.ref a] [.ref a] _ _ hr (fun _ => rfl) env (hbind s₁ (.ref a)) (.cons rfl .nil) (hsp H only seq)
  refine codeAny_mono go fun r s' h => ?_
  match r, h with
  | .error e, h =>
    obtain ⟨_, _, _, _, _, _, _, _, _, _, _, _, z⟩ := h
    exact z.elim
  | .ok .next, h => exact h.elim
  | .ok .brk, h => exact h.elim
  | .ok .cont, h => exact h.elim
  | .ok (.ret u), ⟨v, H', os, bare, un, hok', rel, q⟩ =>
    have q : v = .bl true := q
    subst q
    have eu : u = Value.bool true := rel
    subst eu
    refine ⟨rfl, OldK.of_keep fun b o e => ?_, os, bare⟩
    rcases only b with z | ⟨ob, xs, z⟩
    · exact un.keep b o e z (fun z => nomatch z) (by simp)
    · have before := (hok b _ z).1
      have after := (hok' b _ (un.frzs b ob _ z)).1
      rw [e] at before
      cases before
      exact after
theorem law_callG (KX : K.In s₁.heap) (hns : s₁.heap.Ns mainGlobals mg) (hb : s₁.heap.Ns builtinsNs mb) (hbb : ∀ x : Str, x ≠ "__name__" → mb x = bootBuiltins x) (hlim : s₁.heap.NoLimit) (hg : s₁.gens = #[])
    (ha : s₁.heap.get? a = some { cls := .type "list", data := .seq vs.toArray }) (hi : IntsAre vs ns) (hl : ns.length ≤ sizeLine) (hr : Room k callerA)
    (F : ∀ base : Heap, K.In base → base.Ns mainGlobals mg → FnG P w K mg base true k fa fd [x] sp) (hbind : ∀ (s : Shared) (u : Value), BindsTo s fd ⟨[u], []⟩ [(x, u)])
    (hsp : ∀ H : Hp, Only H → SqL K H a (ns.map V.int) → sp [.ref a] H (fun v _ => v = .bl true) fun _ _ _ => False) :
    codeAny (model P w) callerA (.call (.ref fa) ⟨[.ref a], []⟩) (Done s₁) s₁ := by
  have rel := vals_ints hi
  have len := hi.length
  by_cases own : ∃ o, K.lookup a = some o
  · obtain ⟨o, hk⟩ := own
    have e := KX a o hk
    rw [ha] at e
    cases e
    have seq : SqL K (fun _ => none) a (ns.map V.int) := .inr ⟨_, vs.toArray, _, hk, rfl, rfl, rfl, by rw [List.size_toArray, len]; exact hl, by simpa using rel⟩
    exact law_core (ns := ns) KX hns hb hbb hlim hg ha hr F hbind hsp (fun _ => none) (fun _ => .inl rfl) seq (fun b u z => nomatch (show (none : Option HO) = some u from z)) (fun b z => absurd rfl z) fun z => absurd rfl z
  · have free : K.lookup a = none := by
      cases e : K.lookup a with
      | none => rfl
      | some o => exact absurd ⟨o, e⟩ own
    let one : HO := .frz { cls := .type "list", data := .seq vs.toArray } (.lst (ns.map V.int))
    have at_a : (fun b => if b = a then some one else none) a = some one := if_pos rfl
    have off : ∀ {b : Addr}, b ≠ a → (fun b => if b = a then some one else none) b = none := fun h => if_neg h
    refine law_core (ns := ns) KX hns hb hbb hlim hg ha hr F hbind hsp (fun b => if b = a then some one else none) (fun b => ?_) (.inl (.inr ⟨_, at_a⟩)) (fun b u z => ?_) (fun b z => ?_) fun _ => free
    · by_cases h : b = a
      · subst h; exact .inr ⟨_, _, at_a⟩
      · exact .inl (off h)
    · by_cases h : b = a
      · subst h
        have z := at_a.symm.trans z
        cases z
        exact ⟨ha, by rw [List.length_map]; exact hl, vs, _, rel, ha⟩
      · exact nomatch (off h).symm.trans z
    · by_cases h : b = a
      · exact h
      · exact absurd (off h) z
end
theorem sp_law {K : PySem.W.Frag} {cA : CA} {cf : CF} {f : Nat} {n : Nat} (hk : ∀ a ns, (∀ H, SqL K H a (ns.map V.int)) → cA.kl a ns) (h : ∀ ns : List Int, ns.length ≤ n → ∃ s, cf f [.t (.scr ns)] [] = .ok (.t (.bl true)) s)
    (H : Hp) (a : Addr) (ns : List Int) (hl : ns.length ≤ n) (only : Only H) (seq : SqL K H a (ns.map V.int)) : spF cA cf f 1 [.ref a] H (fun v _ => v = .bl true) fun _ _ _ => False := by
  obtain ⟨s, e⟩ := h ns hl
  refine ⟨[], H, [.t (.scr ns)], [], ⟨Sb.rfl', rfl, .nil, fun k b c hb => by simp at hb⟩, ⟨.ref a, [], rfl, ?_, rfl⟩, rfl, ?_⟩
  · show Rep cA H (.scr ns) (.ref a)
    unfold Rep
    refine ⟨a, rfl, ?_⟩
    rcases seq with (z | z) | ⟨o, its, m, z⟩
    · rcases only a with y | ⟨o, xs, y⟩
      · rw [z] at y; cases y
      · rw [z] at y; cases y
    · exact .inl z
    · exact .inr (hk a ns fun H' => .inr ⟨o, its, m, z⟩)
  · rw [e]
    intro al' G' H' v x r q
    exact (show Rep cA G' (.bl true) v from q)
end Tw
set_option maxHeartbeats 4000000
namespace Tw
open PySem L2
section
variable {cA : CA} {al l : List Addr} {G H : Hp} {s : Store}
theorem Rl.setD (r : Rl cA al G s H) {k : Nat} {a : Addr} {acc : List (Key × T)} (ha : al[k]? = some a) (hs : s[k]? = some (.dct acc)) {xs : List (Key × T)} {us : List (Key × V)} (q : RepD cA G xs us) :
    Rl cA al G (s.set k (.dct xs)) (upd H a (.dK us)) := by
  have ok := r.cell k a _ ha hs
  obtain ⟨gn, ws, hh, _⟩ := ok
  refine ⟨fun b u e => ?_, by simp [r.len], r.nd, fun j b c hb hc => ?_⟩
  · have hne : b ≠ a := fun z => by rw [z, gn] at e; cases e
    rw [upd_ne hne]; exact r.sub b u e
  · by_cases hj : j = k
    · subst hj
      rw [ha] at hb; cases hb
      rw [List.getElem?_set_self (List.getElem?_eq_some_iff.mp hs).1] at hc
      cases hc
      exact ⟨gn, us, upd_same, q⟩
    · rw [List.getElem?_set_ne (Ne.symm hj)] at hc
      have hba : b ≠ a := nodup_ne r.nd hb ha hj
      have ok' := r.cell j b c hb hc
      cases c with
      | lst z => obtain ⟨g, w, h1, h2⟩ := ok'; exact ⟨g, w, by rw [upd_ne hba]; exact h1, h2⟩
      | dct z => obtain ⟨g, w, h1, h2⟩ := ok'; exact ⟨g, w, by rw [upd_ne hba]; exact h1, h2⟩
      | dcT z => obtain ⟨g, w, h1, h2⟩ := ok'; exact ⟨g, w, by rw [upd_ne hba]; exact h1, h2⟩
      | ins cc z => obtain ⟨g, dx, w, h1, h2⟩ := ok'; exact ⟨g, dx, w, by rw [upd_ne hba]; exact h1, h2⟩
      | frz z => exact ok'
theorem RepD.zip : ∀ {ks : List Key} {xs : List T} {vs : List V}, RepL cA G xs vs → RepD cA G (ks.zip xs) (ks.zip vs)
  | [], _, _, _ => by unfold RepD; rfl
  | k :: ks, [], vs, r => by unfold RepL at r; subst r; unfold RepD; rfl
  | k :: ks, x :: xs, vs, r => by
    unfold RepL at r
    obtain ⟨v, rr, e, q1, q2⟩ := r
    subst e
    show RepD cA G ((k, x) :: ks.zip xs) ((k, v) :: ks.zip rr)
    unfold RepD
    exact ⟨v, _, rfl, q1, RepD.zip q2⟩
theorem merge_nodup : ∀ {more acc : List (Key × V)}, ((acc ++ more).map (·.1)).Nodup → mergeK acc more = acc ++ more
  | [], acc, _ => by simp [mergeK]
  | p :: r, acc, h => by
    have hp : putK acc p.1 p.2 = acc ++ [p] := by
      unfold putK
      rw [if_neg]
      intro z
      rw [List.any_eq_true] at z
      obtain ⟨y, hy, e⟩ := z
      have e := of_decide_eq_true e
      rw [List.map_append, List.map_cons, List.nodup_append] at h
      exact h.2.2 y.1 (List.mem_map_of_mem hy) p.1 List.mem_cons_self e
    show mergeK (putK acc p.1 p.2) r = _
    rw [hp, merge_nodup (by rw [List.append_assoc]; exact h), List.append_assoc]
    rfl
end
section
variable {C : Cl} {N : List Str} {sc : Scope} {a b : Expr} {x y : E} {pos p : Pos}
def Kd (C : Cl) (N : List Str) (sc : Scope) (keys : List (Option Expr)) (values : List Expr) (ks : List Key) (vs : E) : Prop := ∀ X W, Cok X N sc W → C.Ok X → ∃ trs, (∀ pos, PPs X pos keys values trs) ∧
  ∀ st H (Q : List (V × V) → Hp → Prop), (∃ al G loc s, Rl C.cA al G s H ∧ RepS C.cA al G loc st ∧ Po C.cA W al G st (fun ys _ al' G' H' => ∀ us, RepVs C.cA al' G' ys us → Q ((ks.map L2.kV).zip us) H') (evs C.D C.cf C.rp vs loc s)) → tPairs trs st H Q
theorem kd_nil : Kd C N sc [] [] [] .nil := fun X W c F => ⟨[], fun _ => pps_nil, fun st H Q q => by
  obtain ⟨al, G, loc, s, r, S, pp⟩ := q
  exact pp.here r [] rfl⟩
theorem kd_cons {k : Key} {ke ve : Expr} {keys : List (Option Expr)} {values : List Expr} {ks : List Key} (hk : ∀ X : Cx, PE X ke (tC (L2.kV k))) (hv : Ke C N sc ve x) (hr : Kd C N sc keys values ks y) : Kd C N sc (some ke :: keys) (ve :: values) (k :: ks) (.cons x y) := fun X W c F => by
  obtain ⟨trs, h1, h2⟩ := hr X W c F
  refine ⟨_, fun pos => pps_cons (hk X) (hv X W c F) (h1 pos), fun st H Q q => ?_⟩
  obtain ⟨al, G, loc, s, r, S, pp⟩ := q
  simp only [evs] at pp
  show TEv C.cA W _ st H _
  refine TEv.go r S pp fun yv s1 al1 G1 H1 v x1 r1 S1 rv p1 => ?_
  refine h2 st H1 _ ⟨al1, G1, loc, s1, r1, S1, p1.bind.imp fun ys s2 al2 G2 H2 x2 r2 p2 us rus => ?_⟩
  exact p2.here r2 (v :: us) ⟨v, us, rfl, rv.mono x2, rus⟩
theorem kk_intk {i : Int} {k : _} (X : Cx) : PE X (.Constant (.int i) k p) (tC (L2.kV (.inl i))) := pe_int
theorem k_dct0 : Ke C N sc (.Dict [] [] p) (.dct [] .nil) := fun X W c F => by
  refine pe_weak pe_dnewK fun st H Q q => ?_
  obtain ⟨al, G, loc, s, r, S, pp⟩ := q
  intro q hq
  have r2 := r.newT (o := .dK []) hq
  have hl : (s ++ [Cell.dct []])[s.length]? = some (.dct []) := by simp
  have e : ev C.D C.cf C.rp (.dct [] .nil) loc s = .ok (.t (.dct [])) s := by
    simp only [ev, evs, Out.bind, embLM, embL, hl]
    simp
  rw [e] at pp
  exact pp al _ _ (Xt.ofSb (Sb.new (r.gnone hq))) r2 (.ref q) (by
    show Rep C.cA _ (.dct []) (.ref q)
    unfold Rep
    exact ⟨q, [], rfl, upd_same, by unfold RepD; rfl⟩)
theorem k_dct {keys : List (Option Expr)} {values : List Expr} {ks : List Key} (hall : keys.all (·.isSome) = true) (hl : keys.length = values.length) (h0 : keys ≠ []) (h15 : keys.length ≤ 15) (h : Kd C N sc keys values ks x) : Ke C N sc (.Dict keys values p) (.dct ks x) := fun X W c F => by
  obtain ⟨trs, h1, h2⟩ := h X W c F
  refine pe_weak (pe_disp (h1 p) hall hl h0 h15) fun st H Q q => ?_
  obtain ⟨al, G, loc, s, r, S, pp⟩ := q
  intro q hq
  have hs : s.length = al.length := r.len.symm
  have r2 : Rl C.cA (al ++ [q]) G (s ++ [.dct []]) (upd H q (.dK [])) := r.newC hq ⟨r.gnone hq, [], upd_same, by unfold RepD; rfl⟩
  have x2 : Xt al G (al ++ [q]) G := ⟨⟨[q], rfl⟩, Sb.rfl'⟩
  simp only [ev] at pp
  refine h2 st _ _ ⟨al ++ [q], G, loc, _, r2, S.mono x2, ?_⟩
  cases hm : evs C.D C.cf C.rp x loc (s ++ [.dct []]) with
  | bad => rw [hm] at pp; exact pp.elim
  | ex e s1 => rw [hm] at pp; exact fun al' G' H' cl d x' r' q' => pp al' G' H' cl d (x2.trans x') r' q'
  | ok ys s1 =>
    rw [hm] at pp
    intro al1 G1 H1 x3 r3 us rus
    simp only [Out.bind, embLM] at pp
    cases he : embL s1 ys with
    | none => simp only [he] at pp; exact pp.elim
    | some z =>
      obtain ⟨xs, s2⟩ := z
      simp only [he] at pp
      obtain ⟨G2, sb2, r4, rl4⟩ := r3.embL rus he
      obtain ⟨⟨l, el⟩, sb3⟩ := x3
      subst el
      have hq4 : ((al ++ [q]) ++ l)[s.length]? = some q := by rw [hs]; simp
      split at pp
      · rename_i hc
        obtain ⟨gn, kvs, hh, rd⟩ := r4.cell _ _ _ hq4 hc
        unfold RepD at rd
        subst rd
        split at pp
        · rename_i hz
          obtain ⟨z1, z2, z3⟩ := hz
          have hus : us.length = ks.length := by rw [rl4.length]; exact z1.symm
          refine ⟨hh, ks.zip us, ?_, ?_, ?_⟩
          · rw [List.zip_map_left]; rfl
          · rw [List.length_zip]; omega
          · have hm2 : mergeK [] (ks.zip us) = ks.zip us := by
              refine merge_nodup ?_
              rw [List.nil_append, List.map_fst_zip (by omega)]
              exact z3
            rw [hm2]
            have r5 := r4.setD hq4 hc (RepD.zip (ks := ks) rl4)
            have hc5 : (s2.set s.length (.dct (ks.zip xs)))[s.length]? = some (.dct (ks.zip xs)) := List.getElem?_set_self (List.getElem?_eq_some_iff.mp hc).1
            obtain ⟨G5, sb5, r6, q6⟩ := r5.freeze hq4 hc5
            rw [List.append_assoc] at r6
            have r7 := r6.front
            rw [List.take_set_of_le (by omega), List.take_set_of_le (by omega), ← hs] at r7
            exact pp al G5 _ (Xt.ofSb ((sb3.trans sb2).trans sb5)) r7 (.ref q) q6
        · exact pp.elim
      · exact pp.elim
end
end Tw
set_option maxHeartbeats 4000000
namespace Tw
open PySem L2
theorem RepVs.at {cA : CA} {al : List Addr} {G : Hp} : ∀ {ys : List VV} {vs : List V} {i : Nat} {y : VV}, RepVs cA al G ys vs → ys[i]? = some y → ∃ v, vs[i]? = some v ∧ RepV cA al G y v
  | [], _, _, _, _, h => by simp at h
  | a :: as, _, 0, y, ⟨u, rr, e, q1, q2⟩, h => by
    subst e
    simp only [List.getElem?_cons_zero, Option.some.injEq] at h
    subst h
    exact ⟨u, by simp, q1⟩
  | a :: as, _, i + 1, y, ⟨u, rr, e, q1, q2⟩, h => by
    subst e
    simp only [List.getElem?_cons_succ] at h ⊢
    exact RepVs.at q2 h
theorem pick_len {α : Type} : ∀ {pm : List Nat} {l r : List α}, pick pm l = some r → r.length = pm.length
  | [], l, r, h => by cases h; rfl
  | i :: pm, l, r, h => by
    unfold pick at h
    split at h
    · rename_i x xs h1 h2
      cases h
      simp [pick_len h2]
    · cases h
theorem pick_rep {cA : CA} {al : List Addr} {G : Hp} {ys : List VV} {vs : List V} (r : RepVs cA al G ys vs) : ∀ {pm : List Nat} {zs : List VV}, pick pm ys = some zs → ∃ us, pick pm vs = some us ∧ RepVs cA al G zs us
  | [], zs, h => by cases h; exact ⟨[], rfl, rfl⟩
  | i :: pm, zs, h => by
    unfold pick at h
    split at h
    · rename_i x xs h1 h2
      cases h
      obtain ⟨u, e1, q1⟩ := r.at h1
      obtain ⟨us, e2, q2⟩ := pick_rep r h2
      refine ⟨u :: us, by unfold pick; rw [e1, e2], u, us, rfl, q1, q2⟩
    · cases h
theorem pick_vals {vs : List V} {ws : List Value} (r : Vals vs ws) : ∀ {pm : List Nat} {zs : List V}, pick pm vs = some zs → ∃ us, pick pm ws = some us ∧ Vals zs us
  | [], zs, h => by cases h; exact ⟨[], rfl, .nil⟩
  | i :: pm, zs, h => by
    unfold pick at h
    split at h
    · rename_i x xs h1 h2
      cases h
      obtain ⟨u, e1, q1⟩ := r.get h1
      obtain ⟨us, e2, q2⟩ := pick_vals r h2
      exact ⟨u :: us, by unfold pick; rw [e1, e2], .cons q1 q2⟩
    · cases h
section
variable {C : Cl} {N : List Str} {sc : Scope} {a b : Expr} {x y : E} {pos p : Pos}
def Kkw (C : Cl) (N : List Str) (sc : Scope) (kws : List Keyword) (ks : List Str) (e : E) : Prop :=
  (∀ (env : Env) (pos : Pos), (backToKw pos (keywordEach kws env)).all (·.1.isSome) = true ∧ (backToKw pos (keywordEach kws env)).filterMap (·.1) = ks ∧ (backToKw pos (keywordEach kws env)).any (·.1.isNone) = false) ∧
  ∀ X W, Cok X N sc W → C.Ok X → PK X kws (TAv C.cA W (evs C.D C.cf C.rp e))
theorem pk_weak {X : Cx} {e : List Keyword} {t t' : TA} (h : PK X e t) (w : ∀ st H Q, t' st H Q → t st H Q) : PK X e t' :=
  ⟨fun pos pins s st H Q I q => h.run pos pins s st H Q I (w st H Q q)⟩
theorem kkw_nil : Kkw C N sc [] [] .nil := ⟨fun env pos => ⟨rfl, rfl, rfl⟩, fun X W c F => pk_weak pk_nil fun st H Q q => by
  obtain ⟨al, G, loc, s, r, S, p⟩ := q
  exact p.here r [] rfl⟩
theorem kkw_cons {n : Str} {kws : List Keyword} {ks : List Str} (ha : Ke C N sc a x) (hs : Kkw C N sc kws ks y) : Kkw C N sc (⟨some n, a, p⟩ :: kws) (n :: ks) (.cons x y) := by
  refine ⟨fun env pos => ?_, fun X W c F => pk_weak (pk_cons (ha X W c F) (hs.2 X W c F)) fun st H Q q => ?_⟩
  · obtain ⟨h1, h2, h3⟩ := hs.1 env pos
    have e : backToKw pos (keywordEach (⟨some n, a, p⟩ :: kws) env) = (some n, do let v ← eval a env; standAt pos; pure v) :: backToKw pos (keywordEach kws env) := rfl
    rw [e]
    refine ⟨?_, ?_, ?_⟩
    · rw [List.all_cons, h1]; rfl
    · rw [List.filterMap_cons]; simp only [h2]
    · rw [List.any_cons, h3]; rfl
  · obtain ⟨al, G, loc, s, r, S, p⟩ := q
    simp only [evs] at p
    refine TEv.go r S p fun y s1 al1 G1 H1 v x1 r1 S1 rv p1 => ?_
    refine TAv.go r1 S1 p1 fun z s2 al2 G2 H2 u x2 r2 S2 ru p2 => ?_
    exact p2.here r2 (v :: u) ⟨v, u, rfl, rv.mono x2, ru⟩
theorem k_calk {f : Nat} {n : Str} {q : Pos} {kws : List Keyword} {ks : List Str} {pm : List Nat} (hf : C.M.fnm f = some n) (hg : glB sc n = true) (hd : (C.D.fn f).isSome = true) (hk : C.M.kws f ks pm = true) (hl : ks.length = alen x) (ha : Kkw C N sc kws ks x) :
    Ke C N sc (.Call (.Name n q) [] kws p) (.calk f x pm) := fun X W c F => by
  obtain ⟨g, dd, _⟩ := gl_of c hg
  obtain ⟨hm, hkp⟩ := F.pf.gf f n hf
  obtain ⟨d, hd⟩ := Option.isSome_iff_exists.mp hd
  obtain ⟨kl, kb⟩ := F.pf.kb f d ks pm hd hk
  obtain ⟨h1, h2, h3⟩ := ha.1 X.env p
  refine ⟨fun pins s st H Q I h => ?_⟩
  refine wpAny_Call_Name_kw (ld_glob I g hm ?_ dd)
  refine PySem.W.callWith_KW0 (first := []) (h₀ := X.base) I.ok.mod.kin hkp h1 ?_ (by rw [h3]; rfl)
  obtain ⟨al, G, loc, s', r, S, pp⟩ := h
  simp only [ev] at pp
  refine thn ((ha.2 X W c F).run p pins s st H (fun vs H1 => ∃ us, pick pm vs = some us ∧ vs.length = ks.length ∧ spF C.cA C.cf f d.np us H1 Q (WE W st)) I ?_) fun ws s2 ⟨vs, H2, I2, rv, us, e1, e2, sp⟩ => ⟨I2.kIn, ?_⟩
  · refine TAv.goE r S pp fun ys s1 al1 G1 H1 vs hms x1 r1 S1 rv p1 => ?_
    cases hp : pick pm ys with
    | none => rw [hp] at p1; exact p1.elim
    | some zs =>
      rw [hp] at p1
      obtain ⟨us, e1, q1⟩ := pick_rep rv hp
      refine ⟨us, e1, by rw [rv.length, evs_len hms, hl], spF_of r1 q1 ?_ p1⟩
      rw [pick_len e1, kl]
  · rw [h2]
    obtain ⟨zs, e3, rz⟩ := pick_vals rv e1
    have lw : ws.length = ks.length := by rw [← rv.length, e2]
    have FF := F.pf.fn f d hd
    have go := FF.run X.A X.stack s2 H2 ⟨[], ks.zip ws⟩ _ _ Q _ (F.pf.room.mono (by omega)) F.pf.gd I2.env0 (kb s2 ws zs I2.kIn lw e3) rz sp
    show wpAny _ _ (call (.ref (C.fA f)) [] (ks.zip ws)) _ _ _
    refine wpAny_call (codeAny_mono go fun res s3 hres => ?_)
    match res, hres with
    | .error e, hres => exact passAt c.tk st pins H2 s2 e s3 I2 hres
    | .ok (.ret u), hres => exact I2.after hres
    | .ok .next, hres => exact hres.elim
    | .ok .brk, hres => exact hres.elim
    | .ok .cont, hres => exact hres.elim
end
end Tw
set_option maxHeartbeats 4000000
namespace Tw
open PySem L2
section
variable {cA : CA} {X : Cx} {N : List Str} {sc : Scope} {W : WX} {tg : Expr}
variable {D : Defs} {M : Nms} {fA : Nat → Addr} {fdA : Nat → FuncData} {psA : Nat → List Str} {k : Nat} {cf : CF}
end
section
variable {C : Cl} {N : List Str} {sc : Scope} {a b : Expr} {x y z : E} {pos p : Pos}
end
end Tw
set_option maxHeartbeats 4000000
namespace Tw
open PySem L2
section
variable {cA : CA} {al l : List Addr} {G H : Hp} {s : Store}
theorem RepL.erase : ∀ {xs : List T} {vs : List V} (n : Nat), RepL cA G xs vs → RepL cA G (xs.eraseIdx n) (vs.eraseIdx n)
  | [], _, n, r => by unfold RepL at r; subst r; simpa using RepL.nil
  | x :: xs, _, 0, r => by
    unfold RepL at r
    obtain ⟨v, rr, e, q, q'⟩ := r
    subst e
    exact q'
  | x :: xs, _, n + 1, r => by
    unfold RepL at r
    obtain ⟨v, rr, e, q, q'⟩ := r
    subst e
    exact .cons q (RepL.erase n q')
theorem RepDT.length : ∀ {ks : List (List Key × T)} {kvs : List (List Key × V)}, RepDT cA G ks kvs → kvs.length = ks.length
  | [], kvs, r => by have e : kvs = [] := r; subst e; rfl
  | (j, y) :: ks, kvs, r => by
    obtain ⟨w, rr, rfl, q, q'⟩ := r
    rw [List.length_cons, List.length_cons, RepDT.length q']
end
section
variable {C : Cl} {N : List Str} {sc : Scope} {a b : Expr} {x y z : E} {pos p : Pos}
end
end Tw
set_option maxHeartbeats 4000000
namespace Tw
open PySem PySem.Spec PyProof.Rows L2
mutual
def tsz : T → Nat
  | .lst xs => tszL xs + 1
  | .tup xs => tszL xs + 1
  | .dct ks => tszD ks + 1
  | .ins _ fs => tszF fs + 1
  | _ => 1
def tszL : List T → Nat
  | [] => 0
  | x :: xs => tsz x + tszL xs
def tszD : List (Key × T) → Nat
  | [] => 0
  | (_, x) :: xs => tsz x + tszD xs
def tszF : List (Str × T) → Nat
  | [] => 0
  | (_, x) :: xs => tsz x + tszF xs
end
mutual
/-- the script does not stand in it -/
def noS : T → Bool
  | .lst xs => noSL xs
  | .tup xs => noSL xs
  | .dct ks => noSD ks
  | .ins _ fs => noSF fs
  | .scr _ => false
  | .opq => false
  | _ => true
def noSL : List T → Bool
  | [] => true
  | x :: xs => noS x && noSL xs
def noSD : List (Key × T) → Bool
  | [] => true
  | (_, x) :: xs => noS x && noSD xs
def noSF : List (Str × T) → Bool
  | [] => true
  | (_, x) :: xs => noS x && noSF xs
end
section
variable {cA : CA} {G : Hp}
mutual
theorem sz_eq : ∀ {t t' : T} {v : V}, noS t = true → noS t' = true → Rep cA G t v → Rep cA G t' v → tsz t = tsz t'
  | .lst xs, t', v, h, h', r, r' => by
    unfold Rep at r
    obtain ⟨a, vs, rfl, g, q⟩ := r
    cases t' with
    | lst ys =>
      unfold Rep at r'
      obtain ⟨b, us, e, g', q'⟩ := r'
      cases e
      rw [g] at g'; cases g'
      unfold noS at h h'
      unfold tsz
      rw [sz_eqL h h' q q']
    | tup ys => unfold Rep at r'; obtain ⟨b, us, e, g', q'⟩ := r'; cases e; rw [g] at g'; cases g'
    | dct ys => unfold Rep at r'; obtain ⟨b, us, e, g', q'⟩ := r'; cases e; rw [g] at g'; cases g'
    | ins c ys => unfold Rep at r'; obtain ⟨b, dx, us, e, g', q'⟩ := r'; cases e; rw [g] at g'; cases g'
    | scr _ => cases h'
    | opq => cases h'
    | _ => unfold Rep at r'; cases r'
  | .tup xs, t', v, h, h', r, r' => by
    unfold Rep at r
    obtain ⟨a, vs, rfl, g, q⟩ := r
    cases t' with
    | tup ys =>
      unfold Rep at r'
      obtain ⟨b, us, e, g', q'⟩ := r'
      cases e
      rw [g] at g'; cases g'
      unfold noS at h h'
      unfold tsz
      rw [sz_eqL h h' q q']
    | lst ys => unfold Rep at r'; obtain ⟨b, us, e, g', q'⟩ := r'; cases e; rw [g] at g'; cases g'
    | dct ys => unfold Rep at r'; obtain ⟨b, us, e, g', q'⟩ := r'; cases e; rw [g] at g'; cases g'
    | ins c ys => unfold Rep at r'; obtain ⟨b, dx, us, e, g', q'⟩ := r'; cases e; rw [g] at g'; cases g'
    | scr _ => cases h'
    | opq => cases h'
    | _ => unfold Rep at r'; cases r'
  | .dct xs, t', v, h, h', r, r' => by
    unfold Rep at r
    obtain ⟨a, vs, rfl, g, q⟩ := r
    cases t' with
    | dct ys =>
      unfold Rep at r'
      obtain ⟨b, us, e, g', q'⟩ := r'
      cases e
      rw [g] at g'; cases g'
      unfold noS at h h'
      unfold tsz
      rw [sz_eqD h h' q q']
    | lst ys => unfold Rep at r'; obtain ⟨b, us, e, g', q'⟩ := r'; cases e; rw [g] at g'; cases g'
    | tup ys => unfold Rep at r'; obtain ⟨b, us, e, g', q'⟩ := r'; cases e; rw [g] at g'; cases g'
    | ins c ys => unfold Rep at r'; obtain ⟨b, dx, us, e, g', q'⟩ := r'; cases e; rw [g] at g'; cases g'
    | scr _ => cases h'
    | opq => cases h'
    | _ => unfold Rep at r'; cases r'
  | .ins c xs, t', v, h, h', r, r' => by
    unfold Rep at r
    obtain ⟨a, dx, vs, rfl, g, q⟩ := r
    cases t' with
    | ins c' ys =>
      unfold Rep at r'
      obtain ⟨b, dx', us, e, g', q'⟩ := r'
      cases e
      rw [g] at g'
      injection g' with g1
      injection g1 with _ _ g2
      subst g2
      unfold noS at h h'
      unfold tsz
      rw [sz_eqF h h' q q']
    | lst ys => unfold Rep at r'; obtain ⟨b, us, e, g', q'⟩ := r'; cases e; rw [g] at g'; cases g'
    | tup ys => unfold Rep at r'; obtain ⟨b, us, e, g', q'⟩ := r'; cases e; rw [g] at g'; cases g'
    | dct ys => unfold Rep at r'; obtain ⟨b, us, e, g', q'⟩ := r'; cases e; rw [g] at g'; cases g'
    | scr _ => cases h'
    | opq => cases h'
    | _ => unfold Rep at r'; cases r'
  | .scr _, _, _, h, _, _, _ => by cases h
  | .opq, _, _, h, _, _, _ => by cases h
  | .non, t', v, h, h', r, r' => by
    have e : v = .non := by unfold Rep at r; exact r
    subst e
    cases t' <;> first | rfl | cases h' | (unfold Rep at r'; obtain ⟨a, dx, gs, e, _⟩ := r'; (cases e; done)) | (unfold Rep at r'; obtain ⟨a, vs, e, _⟩ := r'; (cases e; done))
  | .bl b, t', v, h, h', r, r' => by
    have e : v = .bl b := by unfold Rep at r; exact r
    subst e
    cases t' <;> first | rfl | cases h' | (unfold Rep at r'; obtain ⟨a, dx, gs, e, _⟩ := r'; (cases e; done)) | (unfold Rep at r'; obtain ⟨a, vs, e, _⟩ := r'; (cases e; done))
  | .int i, t', v, h, h', r, r' => by
    have e : v = .int i := by unfold Rep at r; exact r
    subst e
    cases t' <;> first | rfl | cases h' | (unfold Rep at r'; obtain ⟨a, dx, gs, e, _⟩ := r'; (cases e; done)) | (unfold Rep at r'; obtain ⟨a, vs, e, _⟩ := r'; (cases e; done))
  | .str x, t', v, h, h', r, r' => by
    have e : v = .str x := by unfold Rep at r; exact r
    subst e
    cases t' <;> first | rfl | cases h' | (unfold Rep at r'; obtain ⟨a, dx, gs, e, _⟩ := r'; (cases e; done)) | (unfold Rep at r'; obtain ⟨a, vs, e, _⟩ := r'; (cases e; done))
  | .ty n, t', v, h, h', r, r' => by
    have e : v = .ty n := by unfold Rep at r; exact r
    subst e
    cases t' <;> first | rfl | cases h' | (unfold Rep at r'; obtain ⟨a, dx, gs, e, _⟩ := r'; (cases e; done)) | (unfold Rep at r'; obtain ⟨a, vs, e, _⟩ := r'; (cases e; done))
theorem sz_eqL : ∀ {xs ys : List T} {vs : List V}, noSL xs = true → noSL ys = true → RepL cA G xs vs → RepL cA G ys vs → tszL xs = tszL ys
  | [], ys, vs, h, h', r, r' => by
    unfold RepL at r
    subst r
    cases ys with
    | nil => rfl
    | cons y ys => unfold RepL at r'; obtain ⟨_, _, e, _⟩ := r'; cases e
  | x :: xs, ys, vs, h, h', r, r' => by
    unfold RepL at r
    obtain ⟨v, rr, rfl, q1, q2⟩ := r
    cases ys with
    | nil => unfold RepL at r'; cases r'
    | cons y ys =>
      unfold RepL at r'
      obtain ⟨v', rr', e, q1', q2'⟩ := r'
      cases e
      unfold noSL at h h'
      rw [Bool.and_eq_true] at h h'
      unfold tszL
      rw [sz_eq h.1 h'.1 q1 q1', sz_eqL h.2 h'.2 q2 q2']
theorem sz_eqD : ∀ {xs ys : List (Key × T)} {vs : List (Key × V)}, noSD xs = true → noSD ys = true → RepD cA G xs vs → RepD cA G ys vs → tszD xs = tszD ys
  | [], ys, vs, h, h', r, r' => by
    unfold RepD at r
    subst r
    cases ys with
    | nil => rfl
    | cons y ys => obtain ⟨k, y⟩ := y; unfold RepD at r'; obtain ⟨_, _, e, _⟩ := r'; cases e
  | (k, x) :: xs, ys, vs, h, h', r, r' => by
    unfold RepD at r
    obtain ⟨v, rr, rfl, q1, q2⟩ := r
    cases ys with
    | nil => unfold RepD at r'; cases r'
    | cons y ys =>
      obtain ⟨k', y⟩ := y
      unfold RepD at r'
      obtain ⟨v', rr', e, q1', q2'⟩ := r'
      cases e
      unfold noSD at h h'
      rw [Bool.and_eq_true] at h h'
      unfold tszD
      rw [sz_eq h.1 h'.1 q1 q1', sz_eqD h.2 h'.2 q2 q2']
theorem sz_eqF : ∀ {xs ys : List (Str × T)} {vs : List (Str × V)}, noSF xs = true → noSF ys = true → RepF cA G xs vs → RepF cA G ys vs → tszF xs = tszF ys
  | [], ys, vs, h, h', r, r' => by
    unfold RepF at r
    subst r
    cases ys with
    | nil => rfl
    | cons y ys => obtain ⟨k, y⟩ := y; unfold RepF at r'; obtain ⟨_, _, e, _⟩ := r'; cases e
  | (k, x) :: xs, ys, vs, h, h', r, r' => by
    unfold RepF at r
    obtain ⟨v, rr, rfl, q1, q2⟩ := r
    cases ys with
    | nil => unfold RepF at r'; cases r'
    | cons y ys =>
      obtain ⟨k', y⟩ := y
      unfold RepF at r'
      obtain ⟨v', rr', e, q1', q2'⟩ := r'
      cases e
      unfold noSF at h h'
      rw [Bool.and_eq_true] at h h'
      unfold tszF
      rw [sz_eq h.1 h'.1 q1 q1', sz_eqF h.2 h'.2 q2 q2']
end
end
section
variable (X : Cx) (cA : CA) (al : List Addr) (G0 : Hp) (st : L2.St) (sto : Store)
def Jr (pins : List (Addr × Obj)) (s : Shared) : Prop := ∃ G H, Sb G0 G ∧ Rl cA al G sto H ∧ Inv X pins st H s
structure ArOk (k d : Nat) (A : Around) : Prop where
  fr : A.frames = X.A.frames
  hd : A.handled = none
  dp : A.depth + d + 3 * k + 5 < recursionLimit
  un : A.units + d + 16 * k + 200 < cLine
def Sz (n : Nat) (g : List Code) : Prop := ∀ id b rest kw, Code.builtin id ⟨.ref b :: rest, kw⟩ ∈ g → G0 b = none ∨ ∃ tb, Rep cA G0 tb (.ref b) ∧ noS tb = true ∧ n < tsz tb
def RpE (k n d : Nat) (v : V) (t : Str) : Prop := ∀ (u : Value) (base : Nat), RelV v u → base + t.length ≤ sizeLine → ∀ (A : Around) (g : List Code) (pins : List (Addr × Obj)) (s : Shared) (Q : Str → Shared → Prop),
  A.guards = some g → Sz cA G0 n g → ArOk X k d A → Jr X cA al G0 st sto pins s → (∀ s', Jr X cA al G0 st sto pins s' → Q t s') → wpAny (model X.prog X.w) A (pyReprUnder base u) Q X.xe s
end
section
variable {X : Cx} {cA : CA} {al : List Addr} {G0 : Hp} {st : L2.St} {sto : Store} {k n d : Nat}
theorem Jr.tok {pins : List (Addr × Obj)} {s : Shared} {t : Nat} (j : Jr X cA al G0 st sto pins s) : Jr X cA al G0 st sto pins { s with toks := t } := by
  obtain ⟨G, H, sb, r, I⟩ := j
  exact ⟨G, H, sb, r, I.kept (h' := s.heap) (t' := t) fun _ _ e => e⟩
theorem rpe_leaf {v : V} {t : Str} (hv : ∀ a, v ≠ .ref a) (h : ∀ u, RelV v u → ReprIs X.prog X.w u t) : RpE X cA al G0 st sto k n d v t := by
  intro u base rel hb A g pins s Q hg sz ar j q
  exact h u rel base hb A X.xe s Q fun tk => q _ j.tok
theorem ArOk.guard {A : Around} {c : Code} (hc : c.weight = 1) (hu : (A.under c).units = A.units + 1) (hf : c.envs = []) (ar : ArOk X k (d + 1) A) : ArOk X k d (A.under c) := by
  refine ⟨?_, ar.hd, ?_, ?_⟩
  · have : (A.under c).frames = pushEnvs c.envs A.frames := rfl
    rw [this, hf]; exact ar.fr
  · have : (A.under c).depth = A.depth + c.weight := rfl
    rw [this, hc]; have := ar.dp; omega
  · rw [hu]; have := ar.un; omega
end
end Tw
set_option maxHeartbeats 4000000
namespace Tw
open PySem PySem.Spec PyProof.Rows L2 PySem.Builtin
section
variable {X : Cx} {cA : CA} {al : List Addr} {G0 : Hp} {st : L2.St} {sto : Store} {k n d : Nat}
abbrev ownL (acc : Array Value) (c : Nat) : Obj := { cls := .type "list", dict := none, data := .seq acc c, slots := #[] }
theorem Jr.drop {p : Addr × Obj} {pins : List (Addr × Obj)} {s : Shared} (j : Jr X cA al G0 st sto (p :: pins) s) : Jr X cA al G0 st sto pins s := by
  obtain ⟨G, H, sb, r, I⟩ := j
  exact ⟨G, H, sb, r, I.pins_of fun q hq => I.pin q (List.mem_append_right _ (List.mem_cons_of_mem _ hq))⟩
theorem Jr.get {p : Addr × Obj} {pins : List (Addr × Obj)} {s : Shared} (j : Jr X cA al G0 st sto (p :: pins) s) : s.heap.get? p.1 = some p.2 := by
  obtain ⟨G, H, sb, r, I⟩ := j
  exact (I.pin p (List.mem_append_right _ List.mem_cons_self)).1
theorem Sz.cons {m : Nat} {g : List Code} {a : Addr} {id : String} {rest : List Value} {kw : List (Str × Value)} (h : Sz cA G0 n g) (hm : m ≤ n) (ha : G0 a = none ∨ ∃ tb, Rep cA G0 tb (.ref a) ∧ noS tb = true ∧ m < tsz tb) : Sz cA G0 m (.builtin id ⟨.ref a :: rest, kw⟩ :: g) := by
  intro id' b rest' kw' hb
  rcases List.mem_cons.mp hb with e | hb
  · cases e; exact ha
  · rcases h id' b rest' kw' hb with z | ⟨tb, h1, h2, h3⟩
    · exact .inl z
    · exact .inr ⟨tb, h1, h2, by omega⟩
theorem Jr.push {pins : List (Addr × Obj)} {s : Shared} (j : Jr X cA al G0 st sto pins s) (acc : Array Value) (c : Nat) : Jr X cA al G0 st sto ((s.heap.objs.size, ownL acc c) :: pins) { s with heap := s.heap.push (ownL acc c) } := by
  obtain ⟨G, H, sb, r, I⟩ := j
  have J : Inv X pins st H { s with heap := s.heap.push (ownL acc c) } := I.kept (h' := s.heap.push (ownL acc c)) (t' := s.toks) fun _ _ e => Heap.get?_push_of_some _ e
  refine ⟨G, H, sb, r, J.pins_of fun q hq => ?_⟩
  rcases List.mem_cons.mp hq with e | hq
  · subst e
    have hs : ∀ b o, s.heap.get? b = some o → b ≠ s.heap.objs.size := fun b o e => Nat.ne_of_lt (Heap.lt_size e)
    refine ⟨Heap.get?_push_size _ rfl, I.hok.fresh (Nat.le_refl _), ?_, ?_, fun v => by simp⟩
    · exact (I.fpOk (Nat.le_refl _) (I.hok.fresh (Nat.le_refl _))).2.1
    · exact (I.fpOk (Nat.le_refl _) (I.hok.fresh (Nat.le_refl _))).2.2.1
  · exact J.pin q (List.mem_append_right _ hq)
def Fs (X : Cx) (pins : List (Addr × Obj)) (P : Addr) : Prop := (P ∈ X.ex ∨ X.s_0.heap.objs.size ≤ P) ∧ (∀ x c, X.env.cells.lookup x = some c → c ≠ P) ∧ ∀ p ∈ X.pn ++ pins, p.1 ≠ P
theorem Jr.fs {pins : List (Addr × Obj)} {s : Shared} (j : Jr X cA al G0 st sto pins s) : Fs X pins s.heap.objs.size := by
  obtain ⟨G, H, sb, r, I⟩ := j
  exact (I.fpOk (Nat.le_refl _) (I.hok.fresh (Nat.le_refl _))).2.2.2
theorem Jr.upd {P : Addr} {pins : List (Addr × Obj)} {s : Shared} {acc acc' : Array Value} {c c' : Nat} {h' : Heap} (j : Jr X cA al G0 st sto ((P, ownL acc c) :: pins) s) (f : Fs X pins P)
    (k : ∀ b o, b ≠ P → s.heap.get? b = some o → h'.get? b = some o) (e : h'.get? P = some (ownL acc' c')) : Jr X cA al G0 st sto ((P, ownL acc' c') :: pins) { s with heap := h' } := by
  obtain ⟨G, H, sb, r, I⟩ := j
  obtain ⟨h1, h2, h3, h4, h5⟩ := I.pin (P, ownL acc c) (List.mem_append_right _ List.mem_cons_self)
  have I0 : Inv X pins st H s := I.pins_of fun q hq => I.pin q (List.mem_append_right _ (List.mem_cons_of_mem _ hq))
  have J : Inv X pins st H { s with heap := h' } := I0.turned (t' := s.toks) (it := P) k h2 h3 f.1 f.2.1 f.2.2
  refine ⟨G, H, sb, r, J.pins_of fun q hq => ?_⟩
  rcases List.mem_cons.mp hq with z | hq
  · subst z
    exact ⟨e, h2, h3, h4, fun v => by simp⟩
  · exact J.pin q (List.mem_append_right _ hq)
theorem list_loop {a P : Addr} {vs : List V} {ts : List Str} {m : Nat} {pins : List (Addr × Obj)} {A : Around} {g : List Code} {base : Nat} {R : Result → Shared → Prop} (hg : A.guards = some g) (hsz : Sz cA G0 n g) (hm : m ≤ n) (ha : G0 a = none ∨ ∃ tb, Rep cA G0 tb (.ref a) ∧ noS tb = true ∧ m < tsz tb)
    (ar : ArOk X k (d + 1) A) (hlen : ts.length = vs.length) (f : Fs X pins P) (hR0 : ∀ e s, X.xe e s → R (.error e) s)
    (items : ∀ s pins, Jr X cA al G0 st sto pins s → ∃ o its c, s.heap.get? a = some o ∧ o.data = .seq its c ∧ Vals vs its.toList)
    (hT : ∀ (i : Nat) (v : V), vs[i]? = some v → ∃ t, ts[i]? = some t ∧ RpE X cA al G0 st sto k m d v t) (big : base + (listText ts).length ≤ sizeLine) :
    ∀ (j i : Nat) (s : Shared) (acc : Array Value) (c : Nat) (done : List (Str × Tok)), vs.length - i = j → i ≤ vs.length → Jr X cA al G0 st sto ((P, ownL acc c) :: pins) s → acc.toList = strValues done → done.map (·.1) = ts.take i →
      (∀ s' u, Jr X cA al G0 st sto pins s' → R (.ok (.ret (.str (listText ts) u))) s') → codeAny (model X.prog X.w) A (.builtin "list.__repr__.loop" ⟨[.ref a, rawInt i, .ref P, rawInt ((base + piled (ts.take i) : Nat) : Int)], []⟩) R s := by
  have hX : (listText ts).length = (textFrom 0 "[" ts).length + 1 := by
    show (textFrom 0 "[" ts ++ "]").length = _
    rw [strLen_append]; rfl
  have hL := textFrom_len ts 0 "["
  have each : ∀ t ∈ ts, t.length ≤ sizeLine := fun t ht => by have := hL.2.1 t ht; omega
  have whole : (listText ts).length ≤ sizeLine := by omega
  have many : vs.length ≤ sizeLine := by
    have := hL.1
    rw [if_neg (Nat.lt_irrefl 0)] at this
    omega
  have heap := piled_le_listText ts
  intro j
  induction j with
  | zero =>
    intro i s acc c done hj hi J hacc hdone hR
    have hin : i = vs.length := by omega
    obtain ⟨o, its, cc, ho, hd, rel⟩ := items s _ J
    have hits : its.size = vs.length := by have := rel.length; simp at this; omega
    refine codeAny_builtin F.entry_list_repr_loop ?_
    show wpAny _ _ («list.__repr__.loop» ⟨[.ref a, .int i 0, .ref P, .int ((base + piled (ts.take i) : Nat) : Int) 0], []⟩) _ _ s
    rw [repr_loop_tree]
    refine wpAny_bind (wpAny_listItems ho hd ?_)
    have none0 : its[(i : Int).toNat]? = none := by simp [hin, hits]
    simp only [none0]
    unfold reprEnd
    refine wpAny_bind (wpAny_listItems J.get rfl ?_)
    rw [hacc, repr_fold]
    refine wpAny_bind (wpAny_pure ?_)
    have full : done.map (·.1) = ts := by rw [hdone, hin, ← hlen, List.take_length]
    rw [full]
    refine wpAny_bind (wpAny_mkStr (wpAny_pure ?_) whole)
    exact hR _ _ J.drop.tok
  | succ j ih =>
    intro i s acc c done hj hi J hacc hdone hR
    have hlt : i < vs.length := by omega
    obtain ⟨o, its, cc, ho, hd, rel⟩ := items s _ J
    have hits : its.size = vs.length := by have := rel.length; simp at this; omega
    obtain ⟨t, ht, el⟩ := hT i vs[i] (by simp [hlt])
    obtain ⟨u, hu, ru⟩ := rel.get (show vs[i]? = some vs[i] by simp [hlt])
    have hu' : its[i]? = some u := by simpa using hu
    have step := piled_take_succ ht
    have most := piled_take_le ts (i + 1)
    refine codeAny_builtin F.entry_list_repr_loop ?_
    show wpAny _ _ («list.__repr__.loop» ⟨[.ref a, .int i 0, .ref P, .int ((base + piled (ts.take i) : Nat) : Int) 0], []⟩) _ _ s
    rw [repr_loop_tree]
    refine wpAny_bind (wpAny_listItems ho hd ?_)
    have some0 : its[(i : Int).toNat]? = some u := by simpa using hu'
    simp only [some0]
    rw [Int.toNat_natCast]
    refine wpAny_bind (wpAny_holding (wpAny_mono (el u (base + piled (ts.take i) + 1) ru (by omega) _ _ _ s (fun x s' => x = t ∧ Jr X cA al G0 st sto ((P, ownL acc c) :: pins) s') (guards_under_guard (isGuard_list_loop _) hg) (hsz.cons hm ha) (ar.guard ?_ (units_under_list_loop _ _) ?_) J (fun s' J' => ⟨rfl, J'⟩)) (fun x s' h => ?_) fun e s' h => ?_))
    · first | rfl | decide +kernel | simp [Code.weight, isGuard_list_loop, Code.frames, Code.isFrame, Code.isCreation, Code.isCaller]
    · first | rfl | simp [Code.envs, Code.isFrame]
    · obtain ⟨rfl, J'⟩ := h
      refine wpAny_bind (wpAny_mkStr ?_ (each x (List.mem_of_getElem? ht)))
      refine wpAny_bind ?_
      show wpAny _ _ (updateSeq P _) _ _ _
      have hasz : acc.size ≤ sizeLine := by
        have e1 : acc.toList.length = acc.size := by simp
        have e2 : (strValues done).length = done.length := by simp [strValues]
        have e3 : done.length = (ts.take i).length := by rw [← hdone, List.length_map]
        have e4 : (ts.take i).length ≤ i := by rw [List.length_take]; omega
        rw [hacc] at e1; omega
      have J2 := J'.tok (t := s'.toks + 1)
      refine wpAny_updateSeq J'.get rfl (wpAny_pure ⟨F.quiet_list_repr_loop _, ?_⟩) hasz
      have e1 : ((i : Int) + 1) = ((i + 1 : Nat) : Int) := by omega
      have e2 : base + piled (ts.take i) + (x.length + 2) = base + piled (ts.take (i + 1)) := by omega
      rw [e1, e2]
      refine ih (i + 1) _ (acc.push (.str x s'.toks)) _ (done ++ [(x, s'.toks)]) (by omega) hlt (J2.upd f (fun b o hb e => (Heap.get?_update_other _ _ (Ne.symm hb)).trans e) (Heap.get?_update_self _ J'.get rfl)) (by simp [hacc, strValues]) (by simp [List.take_add_one, ht, hdone]) hR
    · exact hR0 e s' h
end
end Tw
set_option maxHeartbeats 4000000
namespace Tw
open PySem PySem.Spec PyProof.Rows L2 PySem.Builtin
section
variable {X : Cx} {cA : CA} {al : List Addr} {G0 : Hp} {st : L2.St} {sto : Store} {k n d : Nat}
theorem list_at {a : Addr} {vs : List V} {ts : List Str} {m : Nat} {pins : List (Addr × Obj)} {A : Around} {g : List Code} {base : Nat} {R : Result → Shared → Prop} {s : Shared} (hg : A.guards = some g) (hsz : Sz cA G0 n g) (hm : m ≤ n) (ha : G0 a = none ∨ ∃ tb, Rep cA G0 tb (.ref a) ∧ noS tb = true ∧ m < tsz tb)
    (clear : ∀ id v rest kw, Code.builtin id ⟨v :: rest, kw⟩ ∈ g → v ≠ .ref a) (ar : ArOk X k (d + 1) A) (hlen : ts.length = vs.length) (hne : vs ≠ []) (hR0 : ∀ e s, X.xe e s → R (.error e) s)
    (items : ∀ s pins, Jr X cA al G0 st sto pins s → ∃ o its c, s.heap.get? a = some o ∧ o.data = .seq its c ∧ Vals vs its.toList)
    (hT : ∀ (i : Nat) (v : V), vs[i]? = some v → ∃ t, ts[i]? = some t ∧ RpE X cA al G0 st sto k m d v t) (big : base + (listText ts).length ≤ sizeLine) (J : Jr X cA al G0 st sto pins s)
    (hR : ∀ s' u, Jr X cA al G0 st sto pins s' → R (.ok (.ret (.str (listText ts) u))) s') :
    wpAny (model X.prog X.w) A.in1 (Builtin.listReprAt base ⟨[.ref a], []⟩) (fun fin s' => match fin with | .done f => R (.ok f) s' | .again c' => c'.quiet = true ∧ codeAny (model X.prog X.w) A c' R s') (fun e s' => R (.error e) s') s := by
  obtain ⟨o, its, c, ho, hd, rel⟩ := items s _ J
  obtain ⟨x, l, hxl⟩ : ∃ x l, its.toList = x :: l := by
    cases e : its.toList with
    | nil => rw [e] at rel; cases rel; exact absurd rfl hne
    | cons x l => exact ⟨x, l, rfl⟩
  have hits : its = (x :: l).toArray := by rw [← hxl]
  subst hits
  refine wpAny_list_repr_head (A := A.in1) hg (fun v rest kw hmem => listSameRef_of_ne (clear _ _ _ _ hmem)) ho hd ?_
  refine wpAny_bind (m := newList []) (wpAny_newObj_type ?_)
  refine wpAny_pure ⟨F.quiet_list_repr_loop _, ?_⟩
  exact list_loop (P := s.heap.objs.size) hg hsz hm ha ar hlen J.fs hR0 items hT big _ 0 _ #[] _ [] rfl (Nat.zero_le _) (J.push #[] _) rfl (by simp) hR
theorem rpe_list {a : Addr} {vs : List V} {ts : List Str} {m : Nat} {xs : List T} (hr : Rep cA G0 (.lst xs) (.ref a)) (hno : noS (.lst xs) = true) (hn : tsz (.lst xs) ≤ n) (hm : m < tsz (.lst xs)) (hlen : ts.length = vs.length) (hne : vs ≠ []) (hv : G0 a = some (.lst vs)) (hnox : ∀ e s, X.xe e s → True)
    (hT : ∀ (i : Nat) (v : V), vs[i]? = some v → ∃ t, ts[i]? = some t ∧ RpE X cA al G0 st sto k m d v t) : RpE X cA al G0 st sto k n (d + 1) (.ref a) (listText ts) := by
  intro u base rel big A g pins s Q hg hsz ar J q
  have eu : u = Value.ref a := rel
  subst eu
  have at_a : ∀ s pins, Jr X cA al G0 st sto pins s → ∃ o its c, s.heap.get? a = some o ∧ o.cls = .type "list" ∧ o.dict = none ∧ o.data = .seq its c ∧ Vals vs its.toList := by
    rintro s pins ⟨G, H, sb, r, I⟩
    obtain ⟨its, c, rv, ho, hz⟩ := I.lst (r.sub _ _ (sb _ _ hv))
    exact ⟨_, its.toArray, _, ho, rfl, rfl, rfl, by simpa using rv⟩
  have clear : ∀ id v rest kw, Code.builtin id ⟨v :: rest, kw⟩ ∈ g → v ≠ .ref a := by
    rintro id v rest kw hmem rfl
    rcases hsz id a rest kw hmem with z | ⟨tb, h1, h2, h3⟩
    · rw [hv] at z; cases z
    · have := sz_eq hno h2 hr h1; omega
  obtain ⟨o, its, c, ho, hc, hdn, hd, _⟩ := at_a s pins J
  have ty : s.TypeIs (.ref a) "list" := ⟨o, ho, hc⟩
  refine wpAny_pyReprUnder_ref (by omega) (wpAny_pyReprObjUnder_twin (twin := "list.__repr__.under") ty F.slot_list_repr.toG rfl (by have := ar.un; omega) ?_)
  refine call_twin_plain F.plain_list_repr_under F.entry_list_repr_under F.check_list_repr_under ty F.slot_list_repr.toG (F.args_list_repr_1 _) ?_
  exact list_at (m := m) hg hsz (by omega) (.inr ⟨_, hr, hno, hm⟩) clear ar hlen hne (fun e s h => h) (fun s pins j => by
    obtain ⟨o, its, c, h1, _, _, h2, h3⟩ := at_a s pins j
    exact ⟨o, its, c, h1, h2, h3⟩) hT big J fun s' u j => ⟨⟨_, _, rfl⟩, _, _, rfl, q s' j⟩
theorem rpe_nil {a : Addr} (hv : G0 a = some (.lst [])) : RpE X cA al G0 st sto k n d (.ref a) "[]" := by
  intro u base rel big A g pins s Q hg hsz ar J q
  have eu : u = Value.ref a := rel
  subst eu
  have J0 := J
  obtain ⟨G, H, sb, r, I⟩ := J
  obtain ⟨its, c, rv, ho, hz⟩ := I.lst (r.sub _ _ (sb _ _ hv))
  have e : its = [] := by cases rv; rfl
  subst e
  exact wpAny_pyReprUnder_ref (by omega) (wpAny_pyReprObjUnder_list_empty ⟨_, ho, rfl⟩ (by have := ar.un; omega) ho rfl ⟨_, _, rfl, q _ J0.tok⟩)
end
end Tw
set_option maxHeartbeats 4000000
namespace Tw
open PySem PySem.Spec PyProof.Rows L2 PySem.Builtin
section
variable {X : Cx} {cA : CA} {al : List Addr} {G0 : Hp} {st : L2.St} {sto : Store} {k n d : Nat}
theorem tup_fold {m : Nat} {A : Around} {g : List Code} {pins : List (Addr × Obj)} (hg : A.guards = some g) (hsz : Sz cA G0 m g) (ar : ArOk X k d A) : ∀ (us : List Value) (vs : List V) (ts : List Str) (acc : Array Str) (c : Nat) (s : Shared) (Q : (Array Str × Nat) → Shared → Prop), Vals vs us →
    ts.length = vs.length → (∀ (i : Nat) (v : V), vs[i]? = some v → ∃ t, ts[i]? = some t ∧ RpE X cA al G0 st sto k m d v t) → c + piled ts ≤ sizeLine → Jr X cA al G0 st sto pins s → (∀ s', Jr X cA al G0 st sto pins s' → Q ⟨acc ++ ts.toArray, c + piled ts⟩ s') →
    wpAny (model X.prog X.w) A (forIn us (⟨acc, c⟩ : (Array Str × Nat)) tupBody) Q X.xe s := by
  intro us
  induction us with
  | nil =>
    intro vs ts acc c s Q rel hl _ _ J h
    cases rel
    have e : ts = [] := List.length_eq_zero_iff.mp hl
    subst e
    simp only [List.forIn_nil]
    exact wpAny_pure (by simpa [piled] using h s J)
  | cons u us ih =>
    intro vs ts acc c s Q rel hl hT big J h
    cases rel with
    | @cons v _ vs' _ ru rs =>
      cases ts with
      | nil => simp at hl
      | cons t ts =>
        obtain ⟨t', e, el⟩ := hT 0 v rfl
        simp at e; subst e
        rw [piled_cons] at big
        rw [List.forIn_cons]
        refine wpAny_bind (wpAny_bind (el u (c + 1) ru (by omega) A g pins s _ hg hsz ar J fun s' J' => wpAny_pure ?_))
        refine ih vs' ts (acc.push t) (c + (t.length + 2)) s' Q rs (by simpa using hl) (fun i v h => by simpa using hT (i + 1) v (by simpa using h)) (by omega) J' fun s'' J'' => ?_
        have z := h s'' J''
        have e : c + piled (t :: ts) = c + (t.length + 2) + piled ts := by rw [piled_cons]; omega
        rw [e] at z
        simpa using z
theorem rpe_tup {a : Addr} {vs : List V} {ts : List Str} {m : Nat} {xs : List T} (hr : Rep cA G0 (.tup xs) (.ref a)) (hno : noS (.tup xs) = true) (hn : tsz (.tup xs) ≤ n) (hm : m < tsz (.tup xs)) (hlen : ts.length = vs.length) (hv : G0 a = some (.tup vs))
    (hT : ∀ (i : Nat) (v : V), vs[i]? = some v → ∃ t, ts[i]? = some t ∧ RpE X cA al G0 st sto k m d v t) : RpE X cA al G0 st sto k n (d + 1) (.ref a) (tupleText ts) := by
  intro u base rel big A g pins s Q hg hsz ar J q
  have eu : u = Value.ref a := rel
  subst eu
  have clear : Clear g a := by
    rintro id v rest kw hmem rfl
    rcases hsz id a rest kw hmem with z | ⟨tb, h1, h2, h3⟩
    · rw [hv] at z; cases z
    · have := sz_eq hno h2 hr h1; omega
  obtain ⟨its, c, o, ho, hc, hd, rv⟩ : ∃ its c o, s.heap.get? a = some o ∧ o.cls = .type "tuple" ∧ o.data = .seq its c ∧ Vals vs its.toList := by
    obtain ⟨G, H, sb, r, I⟩ := J
    have hh := r.sub _ _ (sb _ _ hv)
    obtain ⟨its, rv, ⟨o, h1, h2, c, h3⟩, hz⟩ := I.tuple (L2.SqT.of hh)
    exact ⟨its.toArray, c, o, h1, h2, h3, by simpa using rv⟩
  have ty : s.TypeIs (.ref a) "tuple" := ⟨o, ho, hc⟩
  have hits : ts.length = its.size := by have := rv.length; simp at this; omega
  have most := piled_le_tupleText ts
  have whole : (tupleText ts).length ≤ sizeLine := by omega
  refine wpAny_pyReprUnder_ref (by omega) (wpAny_pyReprObjUnder_twin (twin := "tuple.__repr__.under") ty F.slot_tuple_repr rfl (by have := ar.un; omega) ?_)
  refine call_twin_own (F.quiet_tuple_repr_under _) F.entry_tuple_repr_under F.check_tuple_repr_under ty F.slot_tuple_repr (F.args_tuple_repr_1 _) ?_
  rw [tuple_repr_tree, tupleReprUnderWay_eq]
  refine wpOwn_bind (wpOwn_stackTailAny hg (tupGuardF_off _) (tupGuardF_pos _) ?_)
  have free : (g.any fun c => tupGuardF (.ref a) (c, default)) = false := by
    rw [List.any_eq_false]
    intro c hcm
    rw [tupGuardF_of_clear clear c hcm]
    exact Bool.false_ne_true
  rw [free]
  refine wpOwn_of_wpAny ?_
  show wpAny _ _ (tupleReprRest base (.ref a)) _ _ s
  unfold tupleReprRest Builtin.Tuple.tupleItemsOf
  refine wpAny_bind (wpAny_bind (wpAny_seqItems ho hd (wpAny_pure ?_)))
  rw [← Array.forIn_toList]
  refine wpAny_bind (tup_fold (m := m) (guards_under_guard (isGuard_tuple_repr_under _) hg) (hsz.cons (by omega) (.inr ⟨_, hr, hno, hm⟩)) (ar.guard ?_ (units_under_tuple_repr_under _ _) ?_) _ vs ts _ _ s _ rv hlen hT (by omega) J fun s' J' => ?_)
  · first | rfl | decide +kernel | simp [Code.weight, isGuard_tuple_repr_under, Code.frames, Code.isFrame, Code.isCreation, Code.isCaller]
  · first | rfl | simp [Code.envs, Code.isFrame]
  · refine wpAny_bind (wpAny_mkStr (wpAny_pure ?_) (by simpa [tupleText, hits] using whole))
    have z := q _ (J'.tok (t := s'.toks + 1))
    have e : ∀ Y : Str, Y = tupleText ts → callEnd (fun v s' => (∃ x u, v = Value.str x u) ∧ ∃ x u, v = Value.str x u ∧ Q x s') X.xe (.ok (.ret (.str Y s'.toks))) { s' with toks := s'.toks + 1 } := fun Y h => by
      subst h; exact ⟨⟨_, _, rfl⟩, _, _, rfl, z⟩
    refine e _ ?_
    simp [tupleText, hits]
end
end Tw
set_option maxHeartbeats 4000000
namespace Tw
open PySem PySem.Spec PyProof.Rows L2 PySem.Builtin PySem.W
section
variable {prog : Program} {w : World} {A : Around} {E : Value → Shared → Prop} {s : Shared} {K : Frag} {x C f : Addr} {ox : Obj} {od : Option Obj}
theorem reprObj_own {base : Nat} {Q : Value → Shared → Prop} (hu : A.units < cLine) (KI : K.In s.heap) (I : InstAt s.heap x ox C od) (hs : findIn K (.ref C) "__repr__" = some (some (.ref f))) (hf : isFn K (.ref f) = true)
    (h : wpAny (model prog w) A (call (.ref f) [.ref x]) (fun v s' => ∃ z u, v = .str z u ∧ Q (.str z u) s') E s) : wpAny (model prog w) A (pyReprObjUnder base (.ref x)) Q E s := by
  unfold pyReprObjUnder pyReprObjBy
  refine wpAny_bind (wpAny_cRoomFor hu ?_)
  refine wpAny_bind (wpAny_bind (I.type.here ((looks_findIn KI hs).here ?_)))
  show wpAny _ _ (if (some (Value.ref f)).isNone = true then _ else _) _ _ _
  rw [if_neg (by simp)]
  have fin : wpAny (model prog w) A (call (.ref f) ([.ref x] ++ []) >>= fun v => pure (some v)) (fun o s' => ∃ z u, o = some (.str z u) ∧ Q (.str z u) s') E s :=
    wpAny_bind (wpAny_mono h (fun v s' ⟨z, u, e, q⟩ => wpAny_pure ⟨z, u, by rw [e], q⟩) fun _ _ h' => h')
  refine wpAny_bind (wpAny_mono (Q := fun o s' => ∃ z u, o = some (.str z u) ∧ Q (.str z u) s') ?_ (fun o s' hr => ?_) fun _ _ y => y)
  · simp only [callSpecialIfBoundBy?, bindSpecialIfBound?]
    refine wpAny_holding (wpAny_bind (wpAny_bind (wpAny_bind (I.type.here ((looks_findIn KI hs).here ?_)))))
    refine wpAny_bind (wpAny_askSetting (wpAny_ite ?_))
    split
    · exact wpAny_bind ((bind_fn KI _ (beq_iff_eq.mp hf)).here (wpAny_pure (by exact fin)))
    · exact wpAny_tryCatch (wpAny_bind ((bind_fn KI _ (beq_iff_eq.mp hf)).here (wpAny_pure (by exact fin))))
  · obtain ⟨z, u, rfl, q⟩ := hr
    exact wpAny_bind (wpAny_isInstance (T := "str") (b := true) rfl isSubtype_str_str (wpAny_pure q))
end
end Tw
set_option maxHeartbeats 4000000
namespace Tw
open PySem PySem.Spec PyProof.Rows L2 PySem.Builtin
section
variable {X : Cx} {cA : CA} {al : List Addr} {G0 : Hp} {st : L2.St} {sto : Store} {k n d : Nat}
theorem rpe_own {a f : Addr} {fd : FuncData} {ps : List Str} {cf : CF} {i c : Nat} {fs : List (Str × T)} {z : Str} (hr : Rep cA G0 (.ins c fs) (.ref a)) (hs : PySem.W.findIn X.K (.ref (cA c)) "__repr__" = some (some (.ref f))) (hf : PySem.W.isFn X.K (.ref f) = true)
    (F : FnG X.prog X.w X.K X.mg X.base false k f fd ps (spF cA cf i 1)) (hb : Binds X.K fd ps []) (hps : ps.length = 1) (e : cf i [.t (.ins c fs)] sto = .ok (.t (.str z)) sto) (hd : 1 ≤ d) : RpE X cA al G0 st sto k n d (.ref a) z := by
  intro u base rel big A g pins s Q hg hsz ar J q
  have eu : u = Value.ref a := rel
  subst eu
  obtain ⟨G, H, sb, r, I⟩ := J
  have hr' := Rep.mono sb hr
  have hr2 := hr'
  unfold Rep at hr2
  obtain ⟨a', dx, gs, ea, hG, _⟩ := hr2
  cases ea
  have hH := r.sub _ _ hG
  obtain ⟨mA, O, _, _, _, _⟩ := ins_get I.hok hH
  obtain ⟨od, IA, _⟩ := O.look
  refine wpAny_pyReprUnder_ref (by omega) (reprObj_own (by have := ar.un; omega) I.kIn IA hs hf ?_)
  have room : Room k A := ⟨ar.hd, by have := ar.dp; omega, by have := ar.un; omega⟩
  have env0 : Env0 X.prog X.w X.K X.mg X.base A X.stack s H := by
    have z0 := I.env0
    exact ⟨by rw [ar.fr]; exact z0.frames, z0.mod, z0.bs, z0.bsz, z0.funs, z0.frf, z0.hok, z0.bare⟩
  have go := F.run A X.stack s H ⟨[.ref a], []⟩ [.ref a] [.ref a] (fun v H' => v = .str z ∧ ∃ G', Sb G0 G' ∧ Rl cA al G' sto H') (fun _ _ _ => False) room (fun h => by cases h) env0 (hb s [.ref a] I.kIn (by simpa using hps.symm)) (.cons rfl .nil)
    ⟨al, G, [.t (.ins c fs)], sto, r, ⟨.ref a, [], rfl, hr', rfl⟩, rfl, by
      rw [e]
      intro al' G' H' v x r' rv
      refine ⟨by unfold RepV Rep at rv; exact rv, G', sb.trans x.sub, ?_⟩
      obtain ⟨⟨l, el⟩, _⟩ := x
      have h1 := r.len
      have h2 := r'.len
      subst el
      rw [List.length_append] at h2
      have e0 : l = [] := List.length_eq_zero_iff.mp (by omega)
      subst e0
      rw [List.append_nil] at r'
      exact r'⟩
  refine wpAny_call (codeAny_mono go fun res s3 hres => ?_)
  match res, hres with
  | .error er, ⟨_, _, _, _, _, _, _, _, _, _, _, _, zz⟩ => exact zz.elim
  | .ok (.ret uu), hres =>
    obtain ⟨v, H2, I2, rv, ev, G2, sb2, r2⟩ := I.after hres
    subst ev
    obtain ⟨t, et⟩ := rv
    subst et
    exact ⟨z, t, rfl, _, _, rfl, q _ ⟨G2, H2, sb2, r2, I2⟩⟩
  | .ok .next, hres => exact hres.elim
  | .ok .brk, hres => exact hres.elim
  | .ok .cont, hres => exact hres.elim
end
end Tw
set_option maxHeartbeats 4000000
namespace Tw
open PySem PySem.Spec PyProof.Rows L2 PySem.Builtin
def fit (z : Str) : Option Str := if z.length + 8 ≤ sizeLine then some z else none
theorem fit_some {z y : Str} (h : fit z = some y) : y = z ∧ z.length + 8 ≤ sizeLine := by
  unfold fit at h
  split at h
  · rename_i hz; cases h; exact ⟨rfl, hz⟩
  · cases h
def reprSc' : T → Option Str
  | .non => some "None"
  | .bl b => some (if b then "True" else "False")
  | .int i => if i.natAbs.log2 < 1920 then some (toString i) else none
  | .str x => fit (reprText x)
  | _ => none
def keyT : Key → T
  | .inl i => .int i
  | .inr x => .str x
mutual
def reprP : Nat → T → Option Str
  | d + 1, .lst xs => (reprPs d xs).bind fun ts => fit (listText ts)
  | d + 1, .tup xs => (reprPs d xs).bind fun ts => fit (tupleText ts)
  | d + 1, .dct ks => (reprPd d ks).bind fun ts => fit (dictText ts)
  | _, t => reprSc' t
def reprPs : Nat → List T → Option (List Str)
  | _, [] => some []
  | d, x :: xs => (reprP d x).bind fun t => (reprPs d xs).map fun ts => t :: ts
def reprPd : Nat → List (Key × T) → Option (List Str)
  | _, [] => some []
  | d, (k, x) :: xs => (reprSc' (keyT k)).bind fun u => (reprP d x).bind fun t => (reprPd d xs).map fun ts => (u ++ ": " ++ t) :: ts
end
section
variable {P : Program} {w : World} {cA : CA} {G0 H : Hp} {h₀ : Heap}
theorem reprSc_ok {t : T} {v : V} {u : Value} {z : Str} (r : Rep cA G0 t v) (rv : RelV v u) (e : reprSc' t = some z) : ReprIs P w u z := by
  cases t with
  | non => unfold Rep at r; subst r; cases e; cases rv; exact ReprIs.none
  | bl b => unfold Rep at r; subst r; cases e; cases rv; exact ReprIs.bool b
  | int i =>
    unfold Rep at r; subst r
    have e : (if i.natAbs.log2 < 1920 then some (toString i : Str) else none) = some z := e
    split at e
    · rename_i hz; cases e; obtain ⟨tk, rfl⟩ := rv; exact ReprIs.int tk hz
    · cases e
  | str x =>
    unfold Rep at r; subst r
    obtain ⟨rfl, hz⟩ := fit_some e
    obtain ⟨tk, rfl⟩ := rv
    exact ReprIs.str x tk (by omega)
  | _ => cases e
theorem key_repr {k : Key} {u : Value} {z : Str} (h : keyIs k u = true) (e : reprSc' (keyT k) = some z) : ReprIs P w u z := by
  rcases keyIs_shape h with ⟨i, t, rfl, rfl⟩ | ⟨x, t, rfl, rfl⟩
  · exact reprSc_ok (cA := ⟨fun _ => 0, fun _ _ => False⟩) (G0 := fun _ => none) (v := .int i) repI ⟨t, rfl⟩ e
  · exact reprSc_ok (cA := ⟨fun _ => 0, fun _ _ => False⟩) (G0 := fun _ => none) (v := .str x) repS ⟨t, rfl⟩ e
def Ats (cA : CA) (G0 : Hp) (m : Nat) (as : List Addr) : Prop := ∀ b ∈ as, ∃ tb, Rep cA G0 tb (.ref b) ∧ noS tb = true ∧ tsz tb ≤ m
theorem Ats.nil {m : Nat} : Ats cA G0 m [] := fun b h => by cases h
theorem Ats.mono {m m' : Nat} {as : List Addr} (h : Ats cA G0 m as) (hm : m ≤ m') : Ats cA G0 m' as := fun b hb => let ⟨t, h1, h2, h3⟩ := h b hb; ⟨t, h1, h2, by omega⟩
theorem Ats.app {m : Nat} {as bs : List Addr} (h : Ats cA G0 m as) (h' : Ats cA G0 m bs) : Ats cA G0 m (as ++ bs) := fun b hb => by
  rcases List.mem_append.mp hb with q | q
  · exact h b q
  · exact h' b q
theorem Ats.notIn {m : Nat} {as : List Addr} {a : Addr} {t : T} (h : Ats cA G0 m as) (r : Rep cA G0 t (.ref a)) (hno : noS t = true) (hm : m < tsz t) : a ∉ as := fun ha => by
  obtain ⟨tb, h1, h2, h3⟩ := h a ha
  have := sz_eq hno h2 r h1
  omega
theorem Ats.cons {m m' : Nat} {as : List Addr} {a : Addr} {t : T} (h : Ats cA G0 m as) (r : Rep cA G0 t (.ref a)) (hno : noS t = true) (hm : m ≤ m') (ht : tsz t ≤ m') : Ats cA G0 m' (a :: as) := fun b hb => by
  rcases List.mem_cons.mp hb with q | q
  · subst q; exact ⟨t, r, hno, ht⟩
  · exact h.mono hm b q
theorem allK_more {as as' : List Addr} {d : Nat} (hs : ∀ b ∈ as, b ∈ as') : ∀ {us : List Value} {ts : List Str}, ReprAllK P w as h₀ d us ts → ReprAllK P w as' h₀ d us ts
  | _, _, .nil => .nil
  | _, _, .cons h hl => .cons (h.more hs) (allK_more hs hl)
theorem entK_more {as as' : List Addr} {d : Nat} (hs : ∀ b ∈ as, b ∈ as') : ∀ {us : List DictEntry} {ts : List Str}, ReprEntriesK P w as h₀ d us ts → ReprEntriesK P w as' h₀ d us ts
  | _, _, .nil => .nil
  | _, _, .cons h h' hl => .cons (h.more hs) (h'.more hs) (entK_more hs hl)
theorem allK_get {as : List Addr} {d : Nat} : ∀ {us : List Value} {ts : List Str}, ReprAllK P w as h₀ d us ts → ∀ (i : Nat) (y : Value), us[i]? = some y → ∃ t, ts[i]? = some t ∧ ReprK P w as h₀ d y t
  | _, _, .nil, _, _, e => by simp at e
  | _, _, .cons h _, 0, _, e => by simp at e; subst e; exact ⟨_, rfl, h⟩
  | _, _, .cons _ hl, i + 1, y, e => by simpa using allK_get hl i y (by simpa using e)
mutual
theorem reprP_ok (hok : HOk P w H h₀) (sb : Sb G0 H) : ∀ (d : Nat) (t : T) (v : V) (u : Value) (z : Str), Rep cA G0 t v → RelV v u → noS t = true → reprP d t = some z → ∃ as, ReprK P w as h₀ d u z ∧ Ats cA G0 (tsz t) as
  | d + 1, .lst xs, v, u, z, r, rv, hno, e => by
    unfold reprP at e
    rw [Option.bind_eq_some_iff] at e
    obtain ⟨ts, h1, h2⟩ := e
    obtain ⟨rfl, hz⟩ := fit_some h2
    have r2 := r
    unfold Rep at r2
    obtain ⟨a, vs, rfl, hg, rl⟩ := r2
    have eu : u = Value.ref a := rv
    subst eu
    obtain ⟨_, its, n, rvs, ho⟩ : ObjOk P w H h₀ a (.lst vs) := hok a _ (sb _ _ hg)
    obtain ⟨as, hall, hats⟩ := reprPs_ok hok sb d xs vs its ts rl rvs (by unfold noS at hno; exact hno) h1
    cases its with
    | nil =>
      cases hall
      exact ⟨[], ReprK.listEmpty ho rfl rfl, .nil⟩
    | cons y l =>
      refine ⟨a :: as, ReprK.list ho rfl rfl (hats.notIn r hno (by unfold tsz; omega)) ?_ ?_, hats.cons r hno (by unfold tsz; omega) (Nat.le_refl _)⟩
      · simpa using hall.length_eq
      · intro i q hq
        exact allK_get hall i q (by simpa using hq)
  | d + 1, .tup xs, v, u, z, r, rv, hno, e => by
    unfold reprP at e
    rw [Option.bind_eq_some_iff] at e
    obtain ⟨ts, h1, h2⟩ := e
    obtain ⟨rfl, hz⟩ := fit_some h2
    have r2 := r
    unfold Rep at r2
    obtain ⟨a, vs, rfl, hg, rl⟩ := r2
    have eu : u = Value.ref a := rv
    subst eu
    obtain ⟨_, its, rvs, o, ho, hc, n, hd⟩ : ObjOk P w H h₀ a (.tup vs) := hok a _ (sb _ _ hg)
    obtain ⟨as, hall, hats⟩ := reprPs_ok hok sb d xs vs its ts rl rvs (by unfold noS at hno; exact hno) h1
    exact ⟨a :: as, ReprK.tuple ho hc hd (hats.notIn r hno (by unfold tsz; omega)) (by simpa using hall), hats.cons r hno (by unfold tsz; omega) (Nat.le_refl _)⟩
  | d + 1, .dct ks, v, u, z, r, rv, hno, e => by
    unfold reprP at e
    rw [Option.bind_eq_some_iff] at e
    obtain ⟨ts, h1, h2⟩ := e
    obtain ⟨rfl, hz⟩ := fit_some h2
    have r2 := r
    unfold Rep at r2
    obtain ⟨a, kvs, rfl, hg, rl⟩ := r2
    have eu : u = Value.ref a := rv
    subst eu
    obtain ⟨_, hsys, us, hkv, o, es, ep, ho, hx, hd, _, hp, _⟩ : ObjOk P w H h₀ a (.dK kvs) := hok a _ (sb _ _ hg)
    obtain ⟨as, hall, hats⟩ := reprPd_ok hok sb d ks kvs us es.toList ts rl hkv hp (by unfold noS at hno; exact hno) h1
    exact ⟨a :: as, ReprK.dict ho hx.1 hd hsys (hats.notIn r hno (by unfold tsz; omega)) hall, hats.cons r hno (by unfold tsz; omega) (Nat.le_refl _)⟩
  | d, .non, v, u, z, r, rv, hno, e => ⟨[], .of_is (reprSc_ok r rv (by cases d <;> (unfold reprP at e; exact e))) _ _ _, .nil⟩
  | d, .bl b, v, u, z, r, rv, hno, e => ⟨[], .of_is (reprSc_ok r rv (by cases d <;> (unfold reprP at e; exact e))) _ _ _, .nil⟩
  | d, .int b, v, u, z, r, rv, hno, e => ⟨[], .of_is (reprSc_ok r rv (by cases d <;> (unfold reprP at e; exact e))) _ _ _, .nil⟩
  | d, .str b, v, u, z, r, rv, hno, e => ⟨[], .of_is (reprSc_ok r rv (by cases d <;> (unfold reprP at e; exact e))) _ _ _, .nil⟩
  | d, .ty b, v, u, z, r, rv, hno, e => by cases d <;> (unfold reprP at e; cases e)
  | d, .scr b, v, u, z, r, rv, hno, e => by cases hno
  | d, .ins c b, v, u, z, r, rv, hno, e => by cases d <;> (unfold reprP at e; cases e)
  | 0, .lst xs, v, u, z, r, rv, hno, e => by unfold reprP at e; cases e
  | 0, .tup xs, v, u, z, r, rv, hno, e => by unfold reprP at e; cases e
  | 0, .dct xs, v, u, z, r, rv, hno, e => by unfold reprP at e; cases e
theorem reprPs_ok (hok : HOk P w H h₀) (sb : Sb G0 H) : ∀ (d : Nat) (xs : List T) (vs : List V) (us : List Value) (ts : List Str), RepL cA G0 xs vs → Vals vs us → noSL xs = true → reprPs d xs = some ts →
    ∃ as, ReprAllK P w as h₀ d us ts ∧ Ats cA G0 (tszL xs) as
  | d, [], vs, us, ts, r, rv, hno, e => by
    unfold RepL at r; subst r
    cases rv
    unfold reprPs at e; cases e
    exact ⟨[], .nil, .nil⟩
  | d, x :: xs, vs, us, ts, r, rv, hno, e => by
    unfold RepL at r
    obtain ⟨v, rr, rfl, q1, q2⟩ := r
    cases rv with
    | cons ru rs =>
      unfold reprPs at e
      rw [Option.bind_eq_some_iff] at e
      obtain ⟨t, h1, h2⟩ := e
      rw [Option.map_eq_some_iff] at h2
      obtain ⟨ts', h3, rfl⟩ := h2
      unfold noSL at hno
      rw [Bool.and_eq_true] at hno
      obtain ⟨as, a1, a2⟩ := reprP_ok hok sb d x v _ t q1 ru hno.1 h1
      obtain ⟨bs, b1, b2⟩ := reprPs_ok hok sb d xs rr _ ts' q2 rs hno.2 h3
      exact ⟨as ++ bs, .cons (a1.more fun b hb => List.mem_append_left _ hb) (allK_more (fun b hb => List.mem_append_right _ hb) b1), (a2.mono (by simp only [tszL]; omega)).app (b2.mono (by simp only [tszL]; omega))⟩
theorem reprPd_ok (hok : HOk P w H h₀) (sb : Sb G0 H) : ∀ (d : Nat) (xs : List (Key × T)) (vs : List (Key × V)) (us : List (Key × Value)) (es : List DictEntry) (ts : List Str), RepD cA G0 xs vs → KV vs us → Pairs (mixKind P w) es us → noSD xs = true → reprPd d xs = some ts →
    ∃ as, ReprEntriesK P w as h₀ d es ts ∧ Ats cA G0 (tszD xs) as
  | d, [], vs, us, es, ts, r, rv, hp, hno, e => by
    unfold RepD at r; subst r
    cases rv
    cases hp
    unfold reprPd at e; cases e
    exact ⟨[], .nil, .nil⟩
  | d, (k, x) :: xs, vs, us, es, ts, r, rv, hp, hno, e => by
    unfold RepD at r
    obtain ⟨v, rr, rfl, q1, q2⟩ := r
    cases rv with
    | cons ru rs =>
      cases hp with
      | cons hk hv hq =>
        unfold reprPd at e
        rw [Option.bind_eq_some_iff] at e
        obtain ⟨y, h0, e⟩ := e
        rw [Option.bind_eq_some_iff] at e
        obtain ⟨t, h1, h2⟩ := e
        rw [Option.map_eq_some_iff] at h2
        obtain ⟨ts', h3, rfl⟩ := h2
        unfold noSD at hno
        rw [Bool.and_eq_true] at hno
        obtain ⟨ek, ru⟩ := ru
        simp only at ek ru
        subst ek
        obtain ⟨as, a1, a2⟩ := reprP_ok hok sb d x v _ t q1 ru hno.1 h1
        obtain ⟨bs, b1, b2⟩ := reprPd_ok hok sb d xs rr _ _ ts' q2 rs hq hno.2 h3
        refine ⟨as ++ bs, .cons (.of_is (key_repr hk h0) _ _ _) (hv ▸ a1.more fun b hb => List.mem_append_left _ hb) (entK_more (fun b hb => List.mem_append_right _ hb) b1), (a2.mono (by simp only [tszD]; omega)).app (b2.mono (by simp only [tszD]; omega))⟩
end
end
section
variable {X : Cx} {cA : CA} {al : List Addr} {G0 : Hp} {st : L2.St} {sto : Store} {k n d : Nat}
theorem rpe_plain {t : T} {v : V} {z : Str} (r : Rep cA G0 t v) (hno : noS t = true) (hn : tsz t ≤ n) (e : reprP d t = some z) : RpE X cA al G0 st sto k n d v z := by
  intro u base rel big A g pins s Q hg hsz ar J q
  have J0 := J
  obtain ⟨G, H, sb, rr, I⟩ := J
  obtain ⟨as, h1, h2⟩ := reprP_ok (P := X.prog) (w := X.w) I.hok (sb.trans rr.sub) d t v u z r rel hno e
  refine h1 base big A g X.xe s Q hg (fun b hb => ?_) (by have := ar.un; omega) (fun _ _ e => e) fun h' tk hk => q _ ?_
  · rintro id v' rest kw hmem rfl
    obtain ⟨tb, t1, t2, t3⟩ := h2 b hb
    rcases hsz id b rest kw hmem with y | ⟨tb', y1, y2, y3⟩
    · have t1' := t1
      cases tb with
      | lst xs => unfold Rep at t1; obtain ⟨_, _, e, g', _⟩ := t1; cases e; rw [y] at g'; cases g'
      | tup xs => unfold Rep at t1; obtain ⟨_, _, e, g', _⟩ := t1; cases e; rw [y] at g'; cases g'
      | dct xs => unfold Rep at t1; obtain ⟨_, _, e, g', _⟩ := t1; cases e; rw [y] at g'; cases g'
      | ins c xs => unfold Rep at t1; obtain ⟨_, _, _, e, g', _⟩ := t1; cases e; rw [y] at g'; cases g'
      | scr xs => cases t2
      | opq => cases t2
      | _ => unfold Rep at t1; cases t1
    · have := sz_eq t2 y2 t1 y1
      omega
  · exact ⟨G, H, sb, rr, I.kept (h' := h') (t' := tk) hk⟩
end
mutual
def teq : T → T → Bool
  | .non, .non => true
  | .bl a, .bl b => a == b
  | .int a, .int b => decide (a = b)
  | .str a, .str b => decide (a = b)
  | .ty a, .ty b => decide (a = b)
  | .lst a, .lst b => teqL a b
  | .tup a, .tup b => teqL a b
  | .dct a, .dct b => teqD a b
  | .ins c a, .ins d b => decide (c = d) && teqF a b
  | .scr a, .scr b => decide (a = b)
  | .opq, .opq => true
  | _, _ => false
def teqL : List T → List T → Bool
  | [], [] => true
  | x :: xs, y :: ys => teq x y && teqL xs ys
  | _, _ => false
def teqD : List (Key × T) → List (Key × T) → Bool
  | [], [] => true
  | (k, x) :: xs, (j, y) :: ys => decide (k = j) && teq x y && teqD xs ys
  | _, _ => false
def teqF : List (Str × T) → List (Str × T) → Bool
  | [], [] => true
  | (k, x) :: xs, (j, y) :: ys => decide (k = j) && teq x y && teqF xs ys
  | _, _ => false
end
mutual
theorem teq_eq : ∀ {a b : T}, teq a b = true → a = b
  | .non, b, h => by cases b <;> first | rfl | (unfold teq at h; cases h)
  | .bl a, b, h => by cases b <;> first | (unfold teq at h; simp at h; rw [h]) | (unfold teq at h; cases h)
  | .int a, b, h => by cases b <;> first | (unfold teq at h; simp at h; rw [h]) | (unfold teq at h; cases h)
  | .str a, b, h => by cases b <;> first | (unfold teq at h; simp at h; rw [h]) | (unfold teq at h; cases h)
  | .ty a, b, h => by cases b <;> first | (unfold teq at h; simp at h; rw [h]) | (unfold teq at h; cases h)
  | .scr a, b, h => by cases b <;> first | (unfold teq at h; simp at h; rw [h]) | (unfold teq at h; cases h)
  | .opq, b, h => by cases b <;> first | rfl | (unfold teq at h; cases h)
  | .lst a, b, h => by cases b <;> first | (unfold teq at h; rw [teqL_eq h]) | (unfold teq at h; cases h)
  | .tup a, b, h => by cases b <;> first | (unfold teq at h; rw [teqL_eq h]) | (unfold teq at h; cases h)
  | .dct a, b, h => by cases b <;> first | (unfold teq at h; rw [teqD_eq h]) | (unfold teq at h; cases h)
  | .ins c a, b, h => by
    cases b with
    | ins d b =>
      unfold teq at h
      rw [Bool.and_eq_true] at h
      rw [of_decide_eq_true h.1, teqF_eq h.2]
    | _ => unfold teq at h; cases h
theorem teqL_eq : ∀ {a b : List T}, teqL a b = true → a = b
  | [], b, h => by
    cases b with
    | nil => rfl
    | cons y ys => unfold teqL at h; cases h
  | x :: xs, b, h => by
    cases b with
    | nil => unfold teqL at h; cases h
    | cons y ys =>
      unfold teqL at h
      rw [Bool.and_eq_true] at h
      rw [teq_eq h.1, teqL_eq h.2]
theorem teqD_eq : ∀ {a b : List (Key × T)}, teqD a b = true → a = b
  | [], b, h => by
    cases b with
    | nil => rfl
    | cons y ys => obtain ⟨k, y⟩ := y; unfold teqD at h; cases h
  | (k, x) :: xs, b, h => by
    cases b with
    | nil => unfold teqD at h; cases h
    | cons y ys =>
      obtain ⟨j, y⟩ := y
      unfold teqD at h
      rw [Bool.and_eq_true, Bool.and_eq_true] at h
      rw [of_decide_eq_true h.1.1, teq_eq h.1.2, teqD_eq h.2]
theorem teqF_eq : ∀ {a b : List (Str × T)}, teqF a b = true → a = b
  | [], b, h => by
    cases b with
    | nil => rfl
    | cons y ys => obtain ⟨k, y⟩ := y; unfold teqF at h; cases h
  | (k, x) :: xs, b, h => by
    cases b with
    | nil => unfold teqF at h; cases h
    | cons y ys =>
      obtain ⟨j, y⟩ := y
      unfold teqF at h
      rw [Bool.and_eq_true, Bool.and_eq_true] at h
      rw [of_decide_eq_true h.1.1, teq_eq h.1.2, teqF_eq h.2]
end
def teqT : List (List Key × T) → List (List Key × T) → Bool
  | [], [] => true
  | (j, x) :: xs, (k, y) :: ys => decide (j = k) && teq x y && teqT xs ys
  | _, _ => false
theorem teqT_eq : ∀ {a b : List (List Key × T)}, teqT a b = true → a = b
  | [], [], _ => rfl
  | [], _ :: _, h => by unfold teqT at h; cases h
  | _ :: _, [], h => by unfold teqT at h; cases h
  | (j, x) :: xs, (k, y) :: ys, h => by
    unfold teqT at h
    rw [Bool.and_eq_true, Bool.and_eq_true] at h
    rw [of_decide_eq_true h.1.1, teq_eq h.1.2, teqT_eq h.2]
def ceq : Cell → Cell → Bool
  | .lst a, .lst b => teqL a b
  | .dct a, .dct b => teqD a b
  | .ins c a, .ins d b => decide (c = d) && teqF a b
  | .frz a, .frz b => teq a b
  | .dcT a, .dcT b => teqT a b
  | _, _ => false
theorem ceq_eq {a b : Cell} (h : ceq a b = true) : a = b := by
  unfold ceq at h
  split at h
  · rw [teqL_eq h]
  · rw [teqD_eq h]
  · rw [Bool.and_eq_true] at h
    rw [of_decide_eq_true h.1, teqF_eq h.2]
  · rw [teq_eq h]
  · rw [teqT_eq h]
  · cases h
def stq : Store → Store → Bool
  | [], [] => true
  | x :: xs, y :: ys => ceq x y && stq xs ys
  | _, _ => false
theorem stq_eq : ∀ {a b : Store}, stq a b = true → a = b
  | [], [], _ => rfl
  | [], _ :: _, h => by unfold stq at h; cases h
  | _ :: _, [], h => by unfold stq at h; cases h
  | x :: xs, y :: ys, h => by
    unfold stq at h
    rw [Bool.and_eq_true] at h
    rw [ceq_eq h.1, stq_eq h.2]
mutual
theorem teq_rfl : ∀ (a : T), teq a a = true
  | .non => by unfold teq; rfl
  | .bl a => by unfold teq; simp
  | .int a => by unfold teq; simp
  | .str a => by unfold teq; simp
  | .ty a => by unfold teq; simp
  | .scr a => by unfold teq; simp
  | .opq => by unfold teq; rfl
  | .lst a => by unfold teq; exact teqL_rfl a
  | .tup a => by unfold teq; exact teqL_rfl a
  | .dct a => by unfold teq; exact teqD_rfl a
  | .ins c a => by unfold teq; rw [teqF_rfl a]; simp
theorem teqL_rfl : ∀ (a : List T), teqL a a = true
  | [] => by unfold teqL; rfl
  | x :: xs => by unfold teqL; rw [teq_rfl x, teqL_rfl xs]; rfl
theorem teqD_rfl : ∀ (a : List (Key × T)), teqD a a = true
  | [] => by unfold teqD; rfl
  | (k, x) :: xs => by unfold teqD; rw [teq_rfl x, teqD_rfl xs]; simp
theorem teqF_rfl : ∀ (a : List (Str × T)), teqF a a = true
  | [] => by unfold teqF; rfl
  | (k, x) :: xs => by unfold teqF; rw [teq_rfl x, teqF_rfl xs]; simp
end
theorem teqT_rfl : ∀ (a : List (List Key × T)), teqT a a = true
  | [] => by unfold teqT; rfl
  | (k, x) :: xs => by unfold teqT; rw [teq_rfl x, teqT_rfl xs]; simp
theorem ceq_rfl (a : Cell) : ceq a a = true := by
  cases a with
  | lst a => exact teqL_rfl a
  | dct a => exact teqD_rfl a
  | ins c a => show (decide (c = c) && teqF a a) = true; rw [teqF_rfl a]; simp
  | frz a => exact teq_rfl a
  | dcT a => exact teqT_rfl a
theorem stq_rfl : ∀ (a : Store), stq a a = true
  | [] => rfl
  | x :: xs => by unfold stq; rw [ceq_rfl x, stq_rfl xs]; rfl
def ownR (cf : CF) (f : Nat) (t : T) (s : Store) : Option Str := match cf f [.t t] s with
  | .ok (.t (.str z)) s' => if stq s' s then some z else none
  | _ => none
mutual
def reprT (D : Defs) (cf : CF) (s : Store) : Nat → T → Option Str
  | d + 1, .lst xs => (reprTs D cf s d xs).bind fun ts => fit (listText ts)
  | d + 1, .tup xs => (reprTs D cf s d xs).bind fun ts => fit (tupleText ts)
  | _ + 1, .ins c fs => (D.rep c).bind fun f => (ownR cf f (.ins c fs) s).bind fit
  | d + 1, .dct ks => reprP (d + 1) (.dct ks)
  | _, t => reprSc' t
def reprTs (D : Defs) (cf : CF) (s : Store) : Nat → List T → Option (List Str)
  | _, [] => some []
  | d, x :: xs => (reprT D cf s d x).bind fun t => (reprTs D cf s d xs).map fun ts => t :: ts
end
section
variable {X : Cx} {cA : CA} {al : List Addr} {G0 : Hp} {st : L2.St} {sto : Store} {k : Nat} {D : Defs} {cf : CF}
def OwnRs (X : Cx) (cA : CA) (D : Defs) (cf : CF) (k : Nat) : Prop := ∀ c i, D.rep c = some i → ∃ f fd ps, PySem.W.findIn X.K (.ref (cA c)) "__repr__" = some (some (.ref f)) ∧ PySem.W.isFn X.K (.ref f) = true ∧
  FnG X.prog X.w X.K X.mg X.base false k f fd ps (spF cA cf i 1) ∧ Binds X.K fd ps [] ∧ ps.length = 1
mutual
theorem reprT_ok (O : OwnRs X cA D cf k) : ∀ (d : Nat) (t : T) (v : V) (z : Str) (n : Nat), Rep cA G0 t v → noS t = true → tsz t ≤ n → reprT D cf sto d t = some z → RpE X cA al G0 st sto k n d v z
  | d, .non, v, z, n, r, hno, hn, h => by
    have r' := r
    unfold Rep at r'; subst r'
    exact rpe_leaf (fun a e => by cases e) fun u ru => reprSc_ok r ru (by cases d <;> (unfold reprT at h; exact h))
  | d, .bl b, v, z, n, r, hno, hn, h => by
    have r' := r
    unfold Rep at r'; subst r'
    exact rpe_leaf (fun a e => by cases e) fun u ru => reprSc_ok r ru (by cases d <;> (unfold reprT at h; exact h))
  | d, .int i, v, z, n, r, hno, hn, h => by
    have r' := r
    unfold Rep at r'; subst r'
    exact rpe_leaf (fun a e => by cases e) fun u ru => reprSc_ok r ru (by cases d <;> (unfold reprT at h; exact h))
  | d, .str x, v, z, n, r, hno, hn, h => by
    have r' := r
    unfold Rep at r'; subst r'
    exact rpe_leaf (fun a e => by cases e) fun u ru => reprSc_ok r ru (by cases d <;> (unfold reprT at h; exact h))
  | 0, .lst xs, v, z, n, r, hno, hn, h => by unfold reprT at h; cases h
  | d + 1, .lst xs, v, z, n, r, hno, hn, h => by
    unfold reprT at h
    rw [Option.bind_eq_some_iff] at h
    obtain ⟨ts, h1, h2⟩ := h
    obtain ⟨rfl, hz⟩ := fit_some h2
    have r2 := r
    unfold Rep at r2
    obtain ⟨a, vs, rfl, hg, rl⟩ := r2
    obtain ⟨hl, hel⟩ := reprTs_ok O d xs vs ts (tszL xs) rl (by unfold noS at hno; exact hno) (Nat.le_refl _) h1
    by_cases hne : vs = []
    · subst hne
      have e : ts = [] := List.length_eq_zero_iff.mp (by simpa using hl)
      subst e
      exact rpe_nil hg
    · exact rpe_list (m := tszL xs) r hno hn (by unfold tsz; omega) hl hne hg (fun _ _ _ => trivial) hel
  | 0, .tup xs, v, z, n, r, hno, hn, h => by unfold reprT at h; cases h
  | d + 1, .tup xs, v, z, n, r, hno, hn, h => by
    unfold reprT at h
    rw [Option.bind_eq_some_iff] at h
    obtain ⟨ts, h1, h2⟩ := h
    obtain ⟨rfl, hz⟩ := fit_some h2
    have r2 := r
    unfold Rep at r2
    obtain ⟨a, vs, rfl, hg, rl⟩ := r2
    obtain ⟨hl, hel⟩ := reprTs_ok O d xs vs ts (tszL xs) rl (by unfold noS at hno; exact hno) (Nat.le_refl _) h1
    exact rpe_tup (m := tszL xs) r hno hn (by unfold tsz; omega) hl hg hel
  | 0, .ins c fs, v, z, n, r, hno, hn, h => by unfold reprT at h; cases h
  | d + 1, .ins c fs, v, z, n, r, hno, hn, h => by
    unfold reprT at h
    rw [Option.bind_eq_some_iff] at h
    obtain ⟨i, h1, h2⟩ := h
    rw [Option.bind_eq_some_iff] at h2
    obtain ⟨y, h3, h4⟩ := h2
    obtain ⟨rfl, hz⟩ := fit_some h4
    obtain ⟨f, fd, ps, q1, q2, q3, q4, q5⟩ := O c i h1
    have r2 := r
    unfold Rep at r2
    obtain ⟨a, dx, gs, rfl, _⟩ := r2
    unfold ownR at h3
    split at h3
    · rename_i y s' e
      split at h3
      · rename_i es
        cases h3
        rw [stq_eq es] at e
        exact rpe_own r q1 q2 q3 q4 q5 e (by omega)
      · cases h3
    · cases h3
  | 0, .dct ks, v, z, n, r, hno, hn, h => by unfold reprT at h; cases h
  | d + 1, .dct ks, v, z, n, r, hno, hn, h => rpe_plain r hno hn (by unfold reprT at h; exact h)
  | d, .ty _, v, z, n, r, hno, hn, h => by cases d <;> (unfold reprT at h; cases h)
  | d, .scr _, v, z, n, r, hno, hn, h => by cases hno
theorem reprTs_ok (O : OwnRs X cA D cf k) : ∀ (d : Nat) (xs : List T) (vs : List V) (ts : List Str) (n : Nat), RepL cA G0 xs vs → noSL xs = true → tszL xs ≤ n → reprTs D cf sto d xs = some ts →
    ts.length = vs.length ∧ ∀ (i : Nat) (v : V), vs[i]? = some v → ∃ t, ts[i]? = some t ∧ RpE X cA al G0 st sto k n d v t
  | d, [], vs, ts, n, r, hno, hn, h => by
    unfold RepL at r; subst r
    unfold reprTs at h; cases h
    exact ⟨rfl, fun i v h => by simp at h⟩
  | d, x :: xs, vs, ts, n, r, hno, hn, h => by
    unfold RepL at r
    obtain ⟨v, rr, rfl, q1, q2⟩ := r
    unfold reprTs at h
    rw [Option.bind_eq_some_iff] at h
    obtain ⟨t, h1, h2⟩ := h
    rw [Option.map_eq_some_iff] at h2
    obtain ⟨ts', h3, rfl⟩ := h2
    unfold noSL at hno
    rw [Bool.and_eq_true] at hno
    unfold tszL at hn
    have e1 := reprT_ok O d x v t n q1 hno.1 (by omega) h1
    obtain ⟨e2, e3⟩ := reprTs_ok O d xs rr ts' n q2 hno.2 (by omega) h3
    refine ⟨by simp [e2], fun i v' hv => ?_⟩
    cases i with
    | zero => simp at hv; subst hv; exact ⟨t, rfl, e1⟩
    | succ i => simpa using e3 i v' (by simpa using hv)
end
end
end Tw
set_option maxHeartbeats 4000000
namespace Tw
open PySem PySem.Spec PyProof.Rows L2 PySem.Builtin PySem.W
section
variable {X : Cx} {cA : CA} {al : List Addr} {G0 : Hp} {st : L2.St} {sto : Store} {k : Nat} {D : Defs} {cf : CF}
def RpTop (X : Cx) (cA : CA) (al : List Addr) (G0 : Hp) (st : L2.St) (sto : Store) (k d : Nat) (v : V) (t : Str) : Prop := ∀ (u : Value) (A : Around) (pins : List (Addr × Obj)) (s : Shared) (Q : Value → Shared → Prop), RelV v u → A.guards = some [] →
  ArOk X k (d + 2) A → Jr X cA al G0 st sto pins s → (∀ s' tk, Jr X cA al G0 st sto pins s' → Q (.str t tk) s') → wpAny (model X.prog X.w) A (call (.builtin "repr") [u]) Q X.xe s
theorem ArOk.in1 {d : Nat} {A : Around} (ar : ArOk X k (d + 1) A) : ArOk X k d A.in1 :=
  ⟨ar.fr, ar.hd, by have := ar.dp; show A.depth + d + 3 * k + 5 < _; omega, by have := ar.un; show A.units + 1 + d + 16 * k + 200 < _; omega⟩
theorem Sz.nil {n : Nat} : Sz cA G0 n [] := fun _ _ _ _ h => by cases h
theorem top_scal {t : T} {v : V} {z : Str} {d : Nat} (r : Rep cA G0 t v) (e : reprSc' t = some z) : RpTop X cA al G0 st sto k d v z := by
  intro u A pins s Q rv hg ar J q
  cases t with
  | non => unfold Rep at r; subst r; cases e; cases rv; exact P.repr_of_none (q _ _ J.tok)
  | bl b => unfold Rep at r; subst r; cases e; cases rv; exact P.repr_of_bool (q _ _ J.tok)
  | int i =>
    unfold Rep at r; subst r
    have e : (if i.natAbs.log2 < 1920 then some (toString i : Str) else none) = some z := e
    split at e
    · rename_i hz; cases e; obtain ⟨tk, rfl⟩ := rv; exact P.repr_of_int hz (q _ _ J.tok)
    · cases e
  | str x =>
    unfold Rep at r; subst r
    obtain ⟨rfl, hz⟩ := fit_some e
    obtain ⟨tk, rfl⟩ := rv
    exact P.repr_of_str (q _ _ J.tok) (by omega)
  | _ => cases e
theorem top_own {a f : Addr} {fd : FuncData} {ps : List Str} {i c d : Nat} {fs : List (Str × T)} {z : Str} (hr : Rep cA G0 (.ins c fs) (.ref a)) (hs : PySem.W.findIn X.K (.ref (cA c)) "__repr__" = some (some (.ref f))) (hf : PySem.W.isFn X.K (.ref f) = true)
    (F : FnG X.prog X.w X.K X.mg X.base false k f fd ps (spF cA cf i 1)) (hb : Binds X.K fd ps []) (hps : ps.length = 1) (e : cf i [.t (.ins c fs)] sto = .ok (.t (.str z)) sto) : RpTop X cA al G0 st sto k d (.ref a) z := by
  intro u A pins s Q rel hg ar J q
  have eu : u = Value.ref a := rel
  subst eu
  obtain ⟨G, H, sb, r, I⟩ := J
  have hr' := Rep.mono sb hr
  have hr2 := hr'
  unfold Rep at hr2
  obtain ⟨a', dx, gs, ea, hG, _⟩ := hr2
  cases ea
  have hH := r.sub _ _ hG
  obtain ⟨mA, O, _, _, _, _⟩ := ins_get I.hok hH
  obtain ⟨od, IA, _⟩ := O.look
  have ar1 : ArOk X k d A.in1 := ArOk.in1 ⟨ar.fr, ar.hd, by have := ar.dp; omega, by have := ar.un; omega⟩
  refine Calls.call_function_entry PySem.F.kind_repr PySem.F.plain_repr PySem.F.entry_repr (PySem.F.args_repr1 _) ?_
  unfold Builtin.«repr»
  refine wpAny_bind (m := oneArg "repr" _) (wpAny_pure ?_)
  refine wpAny_bind (wpAny_cRoomFor (by have := ar.un; show A.units + 1 < _; omega) ?_)
  refine wpAny_bind (wpAny_bind (IA.type.here ((looks_findIn I.kIn hs).here ?_)))
  show wpAny _ _ (if (some (Value.ref f)).isNone = true then _ else _) _ _ _
  rw [if_neg (by simp)]
  have room : Room k A.in1 := ⟨ar1.hd, by have := ar1.dp; omega, by have := ar1.un; omega⟩
  have env0 : Env0 X.prog X.w X.K X.mg X.base A.in1 X.stack s H := by
    have z0 := I.env0
    exact ⟨by rw [ar1.fr]; exact z0.frames, z0.mod, z0.bs, z0.bsz, z0.funs, z0.frf, z0.hok, z0.bare⟩
  have go := F.run A.in1 X.stack s H ⟨[.ref a], []⟩ [.ref a] [.ref a] (fun v H' => v = .str z ∧ ∃ G', Sb G0 G' ∧ Rl cA al G' sto H') (fun _ _ _ => False) room (fun h => by cases h) env0 (hb s [.ref a] I.kIn (by simpa using hps.symm)) (.cons rfl .nil)
    ⟨al, G, [.t (.ins c fs)], sto, r, ⟨.ref a, [], rfl, hr', rfl⟩, rfl, by
      rw [e]
      intro al' G' H' v x r' rv
      refine ⟨by unfold RepV Rep at rv; exact rv, G', sb.trans x.sub, ?_⟩
      obtain ⟨⟨l, el⟩, _⟩ := x
      have h1 := r.len
      have h2 := r'.len
      subst el
      rw [List.length_append] at h2
      have e0 : l = [] := List.length_eq_zero_iff.mp (by omega)
      subst e0
      rw [List.append_nil] at r'
      exact r'⟩
  refine wpAny_bind (m := callSpecialIfBound? (.ref a) (Str.ofString "__repr__") _) (ifBound_K I.kIn IA hs hf (wpAny_mono (Q := StrBack fun x s' => ∃ tk, x = .str z tk ∧ Jr X cA al G0 st sto pins s') (wpAny_call (codeAny_mono go fun res s3 hres => ?_)) (fun r' s' hr => ?_) fun _ _ y => y))
  · match res, hres with
    | .error er, ⟨_, _, _, _, _, _, _, _, _, _, _, _, zz⟩ => exact zz.elim
    | .ok (.ret uu), hres =>
      obtain ⟨v, H2, I2, rv, ev, G2, sb2, r2⟩ := I.after hres
      subst ev
      obtain ⟨t, et⟩ := rv
      subst et
      exact ⟨t, rfl, G2, H2, sb2, r2, I2⟩
    | .ok .next, hres => exact hres.elim
    | .ok .brk, hres => exact hres.elim
    | .ok .cont, hres => exact hres.elim
  · cases r' <;> first | exact hr.elim | skip
    obtain ⟨tk, ez, j⟩ := hr
    rw [ez]
    refine wpAny_bind (wpAny_isInstance (typeIs_str _ _ _) isSubtype_str_str ?_)
    exact wpAny_pure ⟨_, rfl, q _ _ j⟩
theorem top_list {a : Addr} {vs : List V} {ts : List Str} {m d : Nat} {xs : List T} (hr : Rep cA G0 (.lst xs) (.ref a)) (hno : noS (.lst xs) = true) (hm : m < tsz (.lst xs)) (hlen : ts.length = vs.length) (hv : G0 a = some (.lst vs)) (hz : (listText ts).length ≤ sizeLine)
    (hT : ∀ (i : Nat) (v : V), vs[i]? = some v → ∃ t, ts[i]? = some t ∧ RpE X cA al G0 st sto k m d v t) : RpTop X cA al G0 st sto k d (.ref a) (listText ts) := by
  intro u A pins s Q rel hg ar J q
  have eu : u = Value.ref a := rel
  subst eu
  have at_a : ∀ s pins, Jr X cA al G0 st sto pins s → ∃ o its c, s.heap.get? a = some o ∧ o.cls = .type "list" ∧ o.dict = none ∧ o.data = .seq its c ∧ Vals vs its.toList := by
    rintro s pins ⟨G, H, sb, r, I⟩
    obtain ⟨its, c, rv, ho, hz⟩ := I.lst (r.sub _ _ (sb _ _ hv))
    exact ⟨_, its.toArray, _, ho, rfl, rfl, rfl, by simpa using rv⟩
  obtain ⟨o, its, c, ho, hc, hdn, hd, rv⟩ := at_a s pins J
  have ty : s.TypeIs (.ref a) "list" := ⟨o, ho, hc⟩
  refine call_repr_slot (by have := ar.un; omega) ty PySem.F.slot_list_repr.toG ?_
  by_cases hne : vs = []
  · subst hne
    have e : ts = [] := List.length_eq_zero_iff.mp (by simpa using hlen)
    subst e
    have e2 : its = #[] := by
      have := rv.length
      simp at this
      exact Array.eq_empty_of_size_eq_zero this.symm
    subst e2
    exact call_list_repr_empty ty ho hd ⟨_, _, rfl, q _ _ J.tok⟩
  · refine wpAny_call (codeAny_call_builtin PySem.F.slot_list_repr.plain PySem.F.entry_list_repr (PySem.F.slot_list_repr.check _ _ _ _ _ _ _ _ ty (PySem.F.args_list_repr_1 _) ?_))
    refine list_at (g := []) (n := m + 1) (m := m) (base := 0) (A := A.in1) (R := callEnd _ _) hg Sz.nil (by omega) (.inr ⟨_, hr, hno, hm⟩) (fun _ _ _ _ h => by cases h) (d := d) (ArOk.in1 ar) hlen hne (fun e s h => h) (fun s pins j => by
      obtain ⟨o, its, c, h1, _, _, h2, h3⟩ := at_a s pins j
      exact ⟨o, its, c, h1, h2, h3⟩) hT (by omega) J fun s' u j => ⟨_, _, rfl, q s' _ j⟩
theorem top_tup {a : Addr} {vs : List V} {ts : List Str} {m d : Nat} {xs : List T} (hr : Rep cA G0 (.tup xs) (.ref a)) (hno : noS (.tup xs) = true) (hm : m < tsz (.tup xs)) (hlen : ts.length = vs.length) (hv : G0 a = some (.tup vs)) (whole : (tupleText ts).length ≤ sizeLine)
    (hT : ∀ (i : Nat) (v : V), vs[i]? = some v → ∃ t, ts[i]? = some t ∧ RpE X cA al G0 st sto k m d v t) : RpTop X cA al G0 st sto k d (.ref a) (tupleText ts) := by
  intro u A pins s Q rel hg ar J q
  have eu : u = Value.ref a := rel
  subst eu
  obtain ⟨its, c, o, ho, hc, hd, rv⟩ : ∃ its c o, s.heap.get? a = some o ∧ o.cls = .type "tuple" ∧ o.data = .seq its c ∧ Vals vs its.toList := by
    obtain ⟨G, H, sb, r, I⟩ := J
    have hh := r.sub _ _ (sb _ _ hv)
    obtain ⟨its, rv, ⟨o, h1, h2, c, h3⟩, hz⟩ := I.tuple (L2.SqT.of hh)
    exact ⟨its.toArray, c, o, h1, h2, h3, by simpa using rv⟩
  have ty : s.TypeIs (.ref a) "tuple" := ⟨o, ho, hc⟩
  have hits : ts.length = its.size := by have := rv.length; simp at this; omega
  have most := piled_le_tupleText ts
  refine call_repr_slot (by have := ar.un; omega) ty PySem.F.slot_tuple_repr ?_
  refine wpAny_call (codeAny_call_builtin_own (Code.quiet_builtin _ (by decide +kernel)) PySem.F.entry_tuple_repr (PySem.F.slot_tuple_repr.check _ _ _ _ _ _ _ _ ty (PySem.F.args_tuple_repr_1 _) ?_))
  show wpOwn _ _ _ (tupleReprAt 0 ⟨[.ref a], []⟩) _ _ s
  rw [tuple_repr_tree, tupleReprUnderWay_eq]
  refine wpOwn_bind (wpOwn_stackTailAny hg (tupGuardF_off _) (tupGuardF_pos _) ?_)
  refine wpOwn_of_wpAny ?_
  show wpAny _ _ (tupleReprRest 0 (.ref a)) _ _ s
  unfold tupleReprRest Builtin.Tuple.tupleItemsOf
  refine wpAny_bind (wpAny_bind (wpAny_seqItems ho hd (wpAny_pure ?_)))
  rw [← Array.forIn_toList]
  refine wpAny_bind (tup_fold (m := m) (guards_under_guard (A := A.in1) (isGuard_tuple_repr _) (show A.in1.guards = some [] from hg)) (Sz.cons (n := m) Sz.nil (Nat.le_refl _) (.inr ⟨_, hr, hno, hm⟩)) (ArOk.guard ?_ (units_under_tuple_repr A.in1 _) ?_ (ArOk.in1 ar)) its.toList vs ts #[] 0 s _ rv hlen hT (by omega) J fun s' J' => ?_)
  · first | rfl | decide +kernel | simp [Code.weight, isGuard_tuple_repr, Code.frames, Code.isFrame, Code.isCreation, Code.isCaller]
  · first | rfl | simp [Code.envs, Code.isFrame]
  · refine wpAny_bind (wpAny_mkStr (wpAny_pure ?_) (by simpa [tupleText, hits] using whole))
    have z := q _ s'.toks (J'.tok (t := s'.toks + 1))
    have e : ∀ Y : Str, Y = tupleText ts → callEnd (fun r s₁ => ∃ x t, r = Value.str x t ∧ Q r s₁) X.xe (.ok (.ret (.str Y s'.toks))) { s' with toks := s'.toks + 1 } := fun Y h => by
      subst h; exact ⟨_, _, rfl, z⟩
    refine e _ ?_
    simp [tupleText, hits]
theorem top_dct {a : Addr} {d : Nat} {ks : List (Key × T)} {z : Str} (r : Rep cA G0 (.dct ks) (.ref a)) (hno : noS (.dct ks) = true) (e : reprP (d + 1) (.dct ks) = some z) : RpTop X cA al G0 st sto k d (.ref a) z := by
  intro u A pins s Q rel hg ar J q
  have eu : u = Value.ref a := rel
  subst eu
  have J0 := J
  obtain ⟨G, H, sb, rr, I⟩ := J
  unfold reprP at e
  rw [Option.bind_eq_some_iff] at e
  obtain ⟨ts, h1, h2⟩ := e
  obtain ⟨rfl, hz⟩ := fit_some h2
  have r2 := r
  unfold Rep at r2
  obtain ⟨a', kvs, ea, hv, rl⟩ := r2
  cases ea
  obtain ⟨_, hsys, us, hkv, o, es, ep, ho, hx, hd, _, hp, _⟩ : ObjOk X.prog X.w H s.heap a (.dK kvs) := I.hok a _ (rr.sub _ _ (sb _ _ hv))
  obtain ⟨as, hall, hats⟩ := reprPd_ok (P := X.prog) (w := X.w) I.hok (sb.trans rr.sub) d ks kvs us es.toList ts rl hkv hp (by unfold noS at hno; exact hno) h1
  have ty : s.TypeIs (.ref a) "dict" := ⟨o, ho, hx.1⟩
  refine call_repr_slot (by have := ar.un; omega) ty PySem.F.slot_dict_repr ?_
  exact call_dict_reprK ho hx.1 hd hsys (hats.notIn r hno (by unfold tsz; omega)) hall hg (fun b _ => Clear.nil b) (by have := ar.un; show A.units + 1 + (d + 1) < _; omega) (fun _ _ e => e) (fun h' u tk hk => ⟨_, _, rfl, q _ _ ⟨G, H, sb, rr, I.kept (h' := h') (t' := tk) hk⟩⟩) (by omega)
theorem reprT_top (O : OwnRs X cA D cf k) {d : Nat} {t : T} {v : V} {z : Str} (r : Rep cA G0 t v) (hno : noS t = true) (h : reprT D cf sto (d + 1) t = some z) : RpTop X cA al G0 st sto k d v z := by
  cases t with
  | non => exact top_scal r (by unfold reprT at h; exact h)
  | bl b => exact top_scal r (by unfold reprT at h; exact h)
  | int b => exact top_scal r (by unfold reprT at h; exact h)
  | str b => exact top_scal r (by unfold reprT at h; exact h)
  | ty b => unfold reprT at h; cases h
  | scr b => cases hno
  | opq => cases hno
  | lst xs =>
    unfold reprT at h
    rw [Option.bind_eq_some_iff] at h
    obtain ⟨ts, h1, h2⟩ := h
    obtain ⟨rfl, hz⟩ := fit_some h2
    have r2 := r
    unfold Rep at r2
    obtain ⟨a, vs, rfl, hg, rl⟩ := r2
    obtain ⟨hl, hel⟩ := reprTs_ok O d xs vs ts (tszL xs) rl (by unfold noS at hno; exact hno) (Nat.le_refl _) h1
    exact top_list (m := tszL xs) r hno (by unfold tsz; omega) hl hg (by omega) hel
  | tup xs =>
    unfold reprT at h
    rw [Option.bind_eq_some_iff] at h
    obtain ⟨ts, h1, h2⟩ := h
    obtain ⟨rfl, hz⟩ := fit_some h2
    have r2 := r
    unfold Rep at r2
    obtain ⟨a, vs, rfl, hg, rl⟩ := r2
    obtain ⟨hl, hel⟩ := reprTs_ok O d xs vs ts (tszL xs) rl (by unfold noS at hno; exact hno) (Nat.le_refl _) h1
    exact top_tup (m := tszL xs) r hno (by unfold tsz; omega) hl hg (by omega) hel
  | dct ks =>
    have r2 := r
    unfold Rep at r2
    obtain ⟨a, kvs, rfl, _⟩ := r2
    exact top_dct r hno (by unfold reprT at h; exact h)
  | ins c fs =>
    unfold reprT at h
    rw [Option.bind_eq_some_iff] at h
    obtain ⟨i, h1, h2⟩ := h
    rw [Option.bind_eq_some_iff] at h2
    obtain ⟨y, h3, h4⟩ := h2
    obtain ⟨rfl, hz⟩ := fit_some h4
    obtain ⟨f, fd, ps, q1, q2, q3, q4, q5⟩ := O c i h1
    have r2 := r
    unfold Rep at r2
    obtain ⟨a, dx, gs, rfl, _⟩ := r2
    unfold ownR at h3
    split at h3
    · rename_i y s' e
      split at h3
      · rename_i es
        cases h3
        rw [stq_eq es] at e
        exact top_own r q1 q2 q3 q4 q5 e
      · cases h3
    · cases h3
def rpT (D : Defs) (cf : CF) (d : Nat) (s : Store) (t : T) : Out Str := if noS t then ofO s (reprT D cf s (d + 1) t) else .bad
theorem call_repr (O : OwnRs X cA D cf k) {d B : Nat} (hr : Room (B + 1) X.A) (hB : k + d ≤ B) (hg : X.A.guards = some []) : CallR X (.builtin "repr") (rRp cA (rpT D cf d)) := by
  intro pins s st H xs us Q I rv h
  obtain ⟨al, G, sto, t, v, z, s', rfl, rl, rp, e, q⟩ := h
  unfold rpT at e
  split at e
  · rename_i hno
    cases hz : reprT D cf sto (d + 1) t with
    | none => rw [hz] at e; cases e
    | some y =>
      rw [hz] at e
      cases e
      cases rv with
      | cons ru rn =>
        cases rn
        refine reprT_top (al := al) (st := st) O rp hno hz _ X.A pins s _ ru hg ⟨rfl, hr.hd, by have := hr.dp; omega, by have := hr.un; omega⟩ ⟨G, H, Sb.rfl', rl, I⟩ fun s1 tk j => ?_
        obtain ⟨G1, H1, sb, r1, I1⟩ := j
        exact ⟨.str z, H1, I1, ⟨tk, rfl⟩, q G1 H1 sb r1⟩
  · cases e
end
end Tw
set_option maxHeartbeats 4000000
namespace Tw
open PySem PySem.Spec PyProof.Rows L2
def oexB (K : PySem.W.Frag) (C : Addr) : Bool := (match K.lookup C with
  | some ⟨.type "type", _, .cls cd, sl⟩ => (match cd.mro, sl.toList with
    | .ref C' :: bm, [_, _, _, _, some (.builtin n), _] => C' == C && (n == "ValueError.__new__" && (!cd.hasDel && (cd.hasDict && PySem.HandSPX.refsVE bm)))
    | _, _ => false)
  | _ => false) && (decide (PySem.W.findIn K (.ref C) "__setattr__" = some (some (.builtin "object.__setattr__"))) && (decide (PySem.W.subIn K (.ref C) (.type "BaseException") = some true) && (decide (PySem.W.typeIn K (.ref C) = some (.type "type")) && PySem.W.keepIn K (.ref C))))
theorem oexB_ok {K : PySem.W.Frag} {C : Addr} (h : oexB K C = true) : OexC K C := by
  unfold oexB at h
  rw [Bool.and_eq_true, Bool.and_eq_true, Bool.and_eq_true, Bool.and_eq_true] at h
  obtain ⟨q, h1, h2, h3, h4⟩ := h
  refine ⟨?_, of_decide_eq_true h1, of_decide_eq_true h2, of_decide_eq_true h3, h4⟩
  split at q
  · rename_i dd cd sl ho
    split at q
    · rename_i C' bm k0 k1 k2 k3 n k5 hm hs
      simp only [Bool.and_eq_true, beq_iff_eq, Bool.not_eq_true'] at q
      obtain ⟨rfl, rfl, hdel, hd, hr⟩ := q
      obtain ⟨nm, bs, mro, ns, qn, hdc, sn, sub, ab, col, del⟩ := cd
      dsimp only at hm hdel hd
      subst hm hdel hd
      have hsl : sl = #[k0, k1, k2, k3, some (.builtin "ValueError.__new__"), k5] := by
        obtain ⟨l⟩ := sl
        simp only at hs
        rw [hs]
      subst hsl
      exact ⟨_, _, _, _, _, _, _, _, _, _, _, _, _, _, _, ho, hr⟩
    · cases q
  · cases q
section
variable {P : Program} {w : World} {K : PySem.W.Frag} {mg : Str → Option Value} {base : Heap}
theorem exc_init {nm qual : Str} {st : Stmt} {f : Addr} {fd : FuncData} {s x fld : Str} {p1 p2 p3 p4 : Pos} {C : Addr} (F : FunD K nm qual st f fd) (S : FnScope [s, x] [s, x] (defScope st)) (hb : defBody st = [.Assign [.Attribute (.Name s p1) fld p2] (.Name x p3) p4])
    (v1 : visB (defScope st) s = true) (v2 : visB (defScope st) x = true) (T : OexC K C) (hno : PySem.W.findIn K (.ref C) fld = some none) : FnOk P w K mg base (L2.CX P w) 3 f fd [s, x] (spI C fld) := by
  have len : ∀ xs H Q E, spI C fld xs H Q E → xs.length = [s, x].length := fun xs H Q E q => by
    obtain ⟨a, v, rfl, _⟩ := q
    rfl
  have key : FnG P w K mg base false (2 + 1) f fd [s, x] (spI C fld) := fnG_of F S len fun cdv A outer sh H xs Q E room hgd q => by
    obtain ⟨a, v, rfl, ha, hq⟩ := q
    have c : Cok (cxOf (L2.CX P w) P w K mg base [s, x] qual (defScope st) f cdv A outer sh H E) [s, x] (defScope st) (fun cls d _ H => E cls d H) := ⟨rfl, S.nd, rfl, rfl, takes_of rfl rfl rfl rfl⟩
    obtain ⟨a1, a2, a3⟩ := vis_of c v1
    obtain ⟨b1, b2, b3⟩ := vis_of c v2
    rw [hb]
    refine ⟨_, pss_one (ps_ost (pe_var (i := 0) rfl a1 a2 a3) (pe_var (i := 1) rfl b1 b2 b3)), ?_⟩
    refine ⟨v, rfl, .ref a, rfl, a, C, rfl, T, hno, .inl ⟨ha, fun dx n ne => hq dx n ne⟩⟩
  exact ⟨key.len, fun A outer sh H args us xs Q E hr => key.run A outer sh H args us xs Q E hr (by intro z; cases z)⟩
end
end Tw
set_option maxHeartbeats 4000000
namespace Tw
open PySem PySem.Spec PyProof.Rows L2
structure FI where
  id : Nat
  nm : Str
  /-- the class whose method it is -/
  cl : Option Nat
  N : List Str
  np : Nat
  st : Stmt
  body : S
  /-- it calls repr -/
  rp : Bool := false
  dfl : List T := []
structure CI where
  id : Nat
  nm : Str
  flds : List Str := []
  om : List (Str × Nat) := []
  ini : Option Nat := none
  rep : Option Nat := none
  pr : List (Str × Nat) := []
  own : Bool := false
  sup : List Nat := []
  /-- instances are made -/
  ins : Bool := false
  /-- an own error: the one field that its __init__ keeps; that def -/
  exf : Option (Option Str) := none
  exi : Option Nat := none
structure Pg where
  fs : List FI
  cs : List CI
  gi : List (Str × Int)
  gcd : List Blt
  kws : List (Nat × List Str × List Nat)
  bt : List String
def _root_.He.prA (K : PySem.W.Frag) (q : Addr) : Addr := match PySem.W.recIn K q "property" with
  | some (.ref g :: _) => g
  | _ => q
def _root_.He.fAdP (K : PySem.W.Frag) (p : Str × Option Str) : Addr := match p.2 with
  | none => He.ga K p.1
  | some m => He.prA K (He.ma K (He.ga K p.1) m)
def _root_.He.fnWP (K : PySem.W.Frag) (p : Str × Option Str) : He.FnW := match K.lookup (He.fAdP K p) with
  | some ⟨_, _, .func fd, _⟩ => some (fd.name, fd.qualname, fd.params, fd.body, fd.scope, fd.globals, fd.closure, fd.builtins)
  | _ => none
def FI.ps (i : FI) : List Str := i.N.take i.np
namespace Pg
variable (p : Pg)
def fa (f : Nat) : Option FI := p.fs.find? fun i => Nat.beq i.id f
def ca (c : Nat) : Option CI := p.cs.find? fun i => Nat.beq i.id c
def cnmD (c : Nat) : Str := match p.ca c with | some i => i.nm | none => Str.empty
def kitD (c : CR) (t : T) : Bool := (match c with | .ty n => p.bt.contains n && !(n == "object") | .cl d => match p.ca d with | some i => i.exf.isNone | none => false) && (match t with
  | .ty _ => false
  | .scr _ => false
  | .opq => false
  | .ins d _ => (match p.ca d with | some i => i.ins | none => false)
  | _ => true)
def D (b : Bool) : Defs where
  fn f := (p.fa f).map fun i => ⟨i.np, i.N.length, if b || !i.rp then i.body else .junk⟩
  om c m := (p.ca c).bind fun i => i.om.lookup m
  fld c f := match p.ca c with | some i => i.flds.contains f | none => false
  sub a c := match p.ca a with | some i => i.sup.contains c | none => false
  ini c := (p.ca c).bind (·.ini)
  exf c := (p.ca c).bind (·.exf)
  rep c := (p.ca c).bind (·.rep)
  pr c m := (p.ca c).bind fun i => i.pr.lookup m
  dfl f := match p.fa f with | some i => i.dfl | none => []
  kit := p.kitD
  cls c := match p.ca c with | some i => i.ins | none => false
  own c := match p.ca c with | some i => i.own | none => false
def M (b : Bool) : Nms where
  fnm f := (p.fa f).bind fun i => if i.cl.isNone then some i.nm else none
  cnm c := (p.ca c).map (·.nm)
  gint x := p.gi.lookup x
  gcd b := p.gcd.contains b
  gd := b
  kws f ks pm := p.kws.any fun q => decide (q.1 = f) && (decide (q.2.1 = ks) && decide (q.2.2 = pm))
variable (K : PySem.W.Frag)
def cAf (c : Nat) : Addr := He.ga K (p.cnmD c)
def cA : CA := ⟨p.cAf K, fun a ns => ∀ H, SqL K H a (ns.map V.int)⟩
def at_ (i : FI) : Str × Option Str := match i.cl with
  | none => (i.nm, none)
  | some c => (p.cnmD c, some i.nm)
def qual (i : FI) : Str := match i.cl with
  | none => i.nm
  | some c => p.cnmD c ++ "." ++ i.nm
def fA (f : Nat) : Addr := match p.fa f with
  | some i => He.fAdP K (p.at_ i)
  | none => 0
def fdA (f : Nat) : FuncData := match K.lookup (p.fA K f) with
  | some ⟨_, _, .func fd, _⟩ => fd
  | _ => PySem.W.fnOf "" "" ⟨[], [], none, [], [], none, []⟩ [] ⟨.function, [], false, false, []⟩ .none .none .none .none none .none .none
def psA (f : Nat) : List Str := match p.fa f with
  | some i => i.ps
  | none => []
def fval (i : FI) : He.FnW := some (i.nm, p.qual i, defArgs i.st, .stmts (defBody i.st), defScope i.st, mainGlobals, [], builtinsNs)
def cV : T → V
  | .bl b => .bl b
  | .int i => .int i
  | .str x => .str x
  | _ => .non
def isC : T → Bool
  | .bl _ => true | .int _ => true | .str _ => true | .non => true | _ => false
open He in
def fnOkB (i : FI) : Bool := (match K.lookup (fAdP K (p.at_ i)) with
  | some ⟨_, _, .func fd, _⟩ => PySem.W.codeIn K fd.code (p.qual i) && (dflB K fd.defaults (i.dfl.map cV) && i.dfl.all isC)
  | _ => false) && (match i.cl with
  | none => eqO (PySem.W.nsIn K mainGlobals i.nm) (some (some (.ref (ga K i.nm)))) && PySem.W.keepIn K (.ref (ga K i.nm))
  | some _ => true)
open He in
def methB (C : Addr) (m : Str) (f : Addr) : Bool := eqO (PySem.W.findIn K (.ref C) m) (some (some (.ref f))) && (PySem.W.isFn K (.ref f) && PySem.W.keepIn K (.ref f))
open He in
def insB (C : Addr) : Bool := eqO (PySem.W.findIn K (.ref C) "__class__") (some (some (.builtin "object.__class__"))) && (eqO (PySem.W.specialIn K (.builtin "object.__class__") "__get__") (some (some (.builtin "getset_descriptor.__get__"))) &&
  (decide (PySem.W.takesIn K (.builtin "object.__class__") = some true) && decide (PySem.W.mroIn K C (.type "object") = some true)))
open He in
def clOkB (i : CI) : Bool := eqO (PySem.W.nsIn K mainGlobals i.nm) (some (some (.ref (ga K i.nm)))) && (!i.ins || ((Fa.cls i.nm).ok K && ((i.flds.all fun f => (Fa.noat i.nm f).ok K) && ((i.om.all fun q => methB K (ga K i.nm) q.1 (p.fA K q.2)) &&
  ((match i.ini with | none => true | some f => PySem.W.makesIn K (ga K i.nm) && methB K (ga K i.nm) "__init__" (p.fA K f)) && (PySem.W.keepIn K (.ref (ga K i.nm)) && ((match i.rep with | none => true | some f => methB K (ga K i.nm) "__repr__" (p.fA K f)) &&
  insB K (ga K i.nm))))))))
def crs : List CR := (p.bt.filter fun n => !(n == "object")).map .ty ++ (p.cs.filter fun i => i.exf.isNone).map fun i => .cl i.id
def tts : List T := [.non, .bl true, .int 0, .str Str.empty, .lst [], .tup [], .dct []] ++ (p.cs.filter fun i => i.ins).map fun i => .ins i.id []
def kitB (b : Bool) : Bool := p.crs.all fun c => p.tts.all fun t => decide (PySem.W.kitOne K (tyT (p.cA K) t) (crU (p.cA K) c) = some (isiP (p.D b).sub c t))
def refB : Option (Option Value) → Bool
  | some (some (.ref _)) => true
  | _ => false
def noneOrRef : Option (Option Value) → Bool
  | some none => true
  | some (some (.ref _)) => true
  | _ => false
open He in
def ownB (nm : Str) (C : Addr) : Bool := (Fa.cls nm).ok K && (PySem.W.selfFirst K C && ((["add", "sub", "mul"].all fun n => (!refB (PySem.W.findIn K (.ref C) (dunderR n)) || refB (PySem.W.findIn K (.ref C) (PySem.dunder n))) &&
  (noneOrRef (PySem.W.findIn K (.ref C) (dunderR n)) && ((PySem.W.findIn K (.type "int") (PySem.dunder n)).isSome && (PySem.W.findIn K (.type "int") (dunderR n)).isSome))) &&
  ((["int", "list", "tuple", "str", "bool", "NoneType"].all fun T => decide (PySem.W.subIn K (.type T) (.ref C) = some false)) && (decide (PySem.W.mroIn K C (.type "int") = some false) &&
  (eqO (PySem.W.findIn K (.ref C) "__ne__") (some (some (.builtin "object.__ne__"))) && decide (PySem.W.mroIn K C (.type "object") = some true))))))
open He in
def propB (C : Addr) (f : Str) (g : Addr) : Bool := match PySem.W.findIn K (.ref C) f with
  | some (some (.ref q)) => eqO (PySem.W.specialIn K (.ref q) "__get__") (some (some (.builtin "property.__get__"))) && (decide (PySem.W.takesIn K (.ref q) = some true) && (match PySem.W.recIn K q "property" with
    | some (v :: _) => decide (v = .ref g)
    | _ => false))
  | _ => false
open He in
def xfB : Bool := (p.cs.all fun i => i.exf.isNone || p.cs.all fun j => j.exf.isNone || decide (PySem.W.exmOne K (.ref (ga K i.nm)) (.ref (ga K j.nm)) = some (i.sup.contains j.id))) &&
  p.cs.all fun i => match i.exf with
    | some (some v) => (match i.exi with
      | some f => oexB K (ga K i.nm) && (methB K (ga K i.nm) "__init__" (p.fA K f) && decide (PySem.W.findIn K (.ref (ga K i.nm)) v = some none))
      | none => false)
    | _ => true
open He in
def chk : Bool := (bnames.all fun x => eqO (PySem.W.nsIn K mainGlobals x) (some none)) && ((p.gi.all fun q => (Fa.int q.1 q.2).ok K) && ((p.gcd.all fun b => eqO (PySem.W.nsIn K mainGlobals (bltNm b)) (some (some (bltV b)))) &&
  ((p.cs.all fun i => p.clOkB K i) && ((p.fs.all fun i => p.fnOkB K i) && (p.kitB K true && ((p.cs.all fun i => (!i.own || ownB K i.nm (ga K i.nm)) && (i.pr.isEmpty || ((Fa.cls i.nm).ok K && i.pr.all fun q => propB K (ga K i.nm) q.1 (p.fA K q.2)))) && p.xfB K))))))
end Pg
structure FiOk (p : Pg) (fw : Nat) (i : FI) : Prop where
  sc : FnScope i.N i.ps (defScope i.st)
  np : i.ps.length = i.np
  bd : i.dfl = [] → ∀ (kV doc pm : Value) (an : Option Addr) (cdv ct : Value) (us : List Value), us.length = i.np → bindArgs (PySem.W.fnOf i.nm (p.qual i) (defArgs i.st) (defBody i.st) (defScope i.st) .none kV doc pm an cdv ct) ⟨us, []⟩ = pure (i.ps.zip us)
  dd : i.dfl ≠ [] → ∀ n, n ≤ i.dfl.length → n ≤ i.np ∧ ∀ (T : Addr) (kV doc pm : Value) (an : Option Addr) (cdv ct : Value) (us its : List Value), us.length = i.np - n → its.length = i.dfl.length →
    ∃ k, bindArgs (PySem.W.fnOf i.nm (p.qual i) (defArgs i.st) (defBody i.st) (defScope i.st) (.ref T) kV doc pm an cdv ct) ⟨us, []⟩ = seqItems? (.ref T) >>= k ∧ k (some its.toArray) = pure (i.ps.zip (us ++ its.drop (i.dfl.length - n)))
  body : ∀ (b : Bool) (cA : CA) (fA : Nat → Addr) (fdA : Nat → FuncData) (psA : Nat → List Str) (k : Nat) (cf : CF) (rp : Store → T → Out Str), Kb ⟨p.D b, p.M b, cA, fA, fdA, psA, k, cf, rp, fw⟩ i.N (defScope i.st) (defBody i.st) (if b || !i.rp then i.body else .junk)
def KwOk (p : Pg) (q : Nat × List Str × List Nat) : Prop := ∀ i, p.fa q.1 = some i → q.2.2.length = i.np ∧ (i.dfl = [] → ∀ (kV doc pm : Value) (an : Option Addr) (cdv ct : Value) (ws zs : List Value), ws.length = q.2.1.length → pick q.2.2 ws = some zs →
  bindArgs (PySem.W.fnOf i.nm (p.qual i) (defArgs i.st) (defBody i.st) (defScope i.st) .none kV doc pm an cdv ct) ⟨[], q.2.1.zip ws⟩ = pure (i.ps.zip zs)) ∧
  (i.dfl ≠ [] → ∀ (T : Addr) (kV doc pm : Value) (an : Option Addr) (cdv ct : Value) (ws zs its : List Value), ws.length = q.2.1.length → pick q.2.2 ws = some zs → its.length = i.dfl.length →
  ∃ k, bindArgs (PySem.W.fnOf i.nm (p.qual i) (defArgs i.st) (defBody i.st) (defScope i.st) (.ref T) kV doc pm an cdv ct) ⟨[], q.2.1.zip ws⟩ = seqItems? (.ref T) >>= k ∧ k (some its.toArray) = pure (i.ps.zip zs))
theorem Pg.fa_mem {p : Pg} {f : Nat} {i : FI} (e : p.fa f = some i) : i ∈ p.fs := List.mem_of_find?_eq_some e
theorem Pg.ca_mem {p : Pg} {f : Nat} {i : CI} (e : p.ca f = some i) : i ∈ p.cs := List.mem_of_find?_eq_some e
theorem Pg.ca_id {p : Pg} {c : Nat} {i : CI} (e : p.ca c = some i) : i.id = c := by
  have z := List.find?_some (p := fun i : CI => Nat.beq i.id c) e
  exact Nat.eq_of_beq_eq_true z
inductive Each {α : Type} (F : α → Prop) : List α → Prop where
  | nil : Each F []
  | cons {a : α} {l : List α} : F a → Each F l → Each F (a :: l)
theorem Each.get {α : Type} {F : α → Prop} : ∀ {l : List α} {i : Nat} {a : α}, Each F l → l[i]? = some a → F a
  | _, _, _, .nil, e => by simp at e
  | _, 0, _, .cons h _, e => by simp at e; subst e; exact h
  | _, i + 1, _, .cons _ h, e => h.get (i := i) (by simpa using e)
theorem Each.mem {α : Type} {F : α → Prop} {l : List α} {a : α} (h : Each F l) (m : a ∈ l) : F a := by
  obtain ⟨i, hi, e⟩ := List.mem_iff_getElem.mp m
  exact h.get (i := i) (by rw [List.getElem?_eq_getElem hi, e])
def XiOk (p : Pg) (i : CI) : Prop := ∀ v f, i.exf = some (some v) → i.exi = some f → ∃ fi s x p1 p2 p3 p4, p.fa f = some fi ∧ fi.N = [s, x] ∧ fi.np = 2 ∧ defBody fi.st = [.Assign [.Attribute (.Name s p1) v p2] (.Name x p3) p4] ∧ visB (defScope fi.st) s = true ∧ visB (defScope fi.st) x = true ∧ fi.dfl = []
structure Pg.Ok (p : Pg) (fw : Nat) : Prop where
  fs : Each (FiOk p fw) p.fs
  kws : Each (KwOk p) p.kws
  xs : Each (XiOk p) p.cs
section
open He
variable {p : Pg} {fw : Nat} {P : Program} {w : World} {K : PySem.W.Frag} {mg : Str → Option Value} {base h : Heap}
theorem Pg.cls_at (X : K.In h) (G : h.Ns mainGlobals mg) (hc : (p.cs.all fun i => p.clOkB K i) = true) {c : Nat} {i : CI} (e : p.ca c = some i) : mg i.nm = some (.ref (p.cAf K c)) ∧ p.clOkB K i = true := by
  have z := List.all_eq_true.mp hc i (Pg.ca_mem e)
  refine ⟨?_, z⟩
  unfold Pg.clOkB at z
  have y := mg_of' X G (eqO_ok (ba z).1)
  rw [y]
  unfold Pg.cAf Pg.cnmD
  rw [e]
where
  mg_of' (X : K.In h) (G : h.Ns mainGlobals mg) {x : Str} {v : Value} (e : PySem.W.nsIn K mainGlobals x = some (some v)) : mg x = some v := PySem.W.mg_of X G e
theorem Pg.ins_at (hc : (p.cs.all fun i => p.clOkB K i) = true) {c : Nat} {i : CI} (e : p.ca c = some i) (hi : i.ins = true) :
    Cls K (p.cAf K c) ∧ (∀ f, i.flds.contains f = true → NoAttr K (p.cAf K c) f) ∧ (∀ m f, i.om.lookup m = some f → Meth K (p.cAf K c) m (p.fA K f)) ∧ (∀ f, i.ini = some f → Mk K (p.cAf K c) (p.fA K f)) ∧
      (∀ f, i.rep = some f → Meth K (p.cAf K c) "__repr__" (p.fA K f)) ∧ InsTy K (p.cAf K c) := by
  have z := List.all_eq_true.mp hc i (Pg.ca_mem e)
  unfold Pg.clOkB at z
  have eC : ga K i.nm = p.cAf K c := by unfold Pg.cAf Pg.cnmD; rw [e]
  rw [hi] at z
  simp only [Bool.not_true, Bool.false_or] at z
  obtain ⟨_, z⟩ := ba z
  obtain ⟨z1, z⟩ := ba z
  obtain ⟨z2, z⟩ := ba z
  obtain ⟨z3, z⟩ := ba z
  obtain ⟨z4, z⟩ := ba z
  obtain ⟨z5, z⟩ := ba z
  obtain ⟨z6, z7⟩ := ba z
  have me : ∀ {m : Str} {f : Addr}, Pg.methB K (ga K i.nm) m f = true → Meth K (p.cAf K c) m f := fun {m f} q => by
    rw [eC] at q
    obtain ⟨q1, q⟩ := ba q
    obtain ⟨q2, q3⟩ := ba q
    exact ⟨eqO_ok q1, q2, q3⟩
  have cl := cls_ok z1
  rw [eC] at cl
  refine ⟨cl, fun f hf => ?_, fun m f hm => ?_, fun f hf => ?_, fun f hf => ?_, ?_⟩
  · have := noat_ok (List.all_eq_true.mp z2 f (by simpa using hf))
    rw [eC] at this; exact this
  · have hm' : (m, f) ∈ i.om := by
      have : ∀ {l : List (Str × Nat)}, l.lookup m = some f → (m, f) ∈ l := by
        intro l
        induction l with
        | nil => intro h; simp at h
        | cons q r ih =>
          obtain ⟨k, v⟩ := q
          intro h
          rw [List.lookup_cons] at h
          cases hk : (m == k) with
          | true => rw [hk] at h; simp at h; subst h; rw [beq_iff_eq.mp hk]; exact List.mem_cons_self
          | false => rw [hk] at h; exact List.mem_cons_of_mem _ (ih h)
      exact this hm
    exact me (List.all_eq_true.mp z3 _ hm')
  · rw [hf] at z4
    obtain ⟨q1, q2⟩ := ba z4
    have q := me q2
    rw [eC] at q1 z5
    exact ⟨q1, q.at_, q.fn, z5⟩
  · rw [hf] at z6
    exact me z6
  · rw [eC] at z7
    obtain ⟨q1, q⟩ := ba z7
    obtain ⟨q2, q⟩ := ba q
    obtain ⟨q3, q4⟩ := ba q
    exact ⟨cl, eqO_ok q1, eqO_ok q2, of_decide_eq_true q3, of_decide_eq_true q4⟩
theorem Pg.fn_at (hf : (p.fs.all fun i => p.fnOkB K i) = true) (hv : p.fs.map (fun i => fnWP K (p.at_ i)) = p.fs.map p.fval) {f : Nat} {i : FI} (e : p.fa f = some i) :
    ∃ (oc : Value) (od : Option Addr) (dV kV doc pm : Value) (an : Option Addr) (cdv ct : Value) (osl : Array (Option Value)),
      p.fdA K f = PySem.W.fnOf i.nm (p.qual i) (defArgs i.st) (defBody i.st) (defScope i.st) dV kV doc pm an cdv ct ∧ K.lookup (p.fA K f) = some ⟨oc, od, .func (p.fdA K f), osl⟩ ∧ PySem.W.codeIn K cdv (p.qual i) = true ∧ DflV K dV (i.dfl.map Pg.cV) ∧ i.dfl.all Pg.isC = true := by
  have z := List.all_eq_true.mp hf i (Pg.fa_mem e)
  have e2 : fnWP K (p.at_ i) = p.fval i := by
    obtain ⟨j, hj, ej⟩ := List.mem_iff_getElem.mp (Pg.fa_mem e)
    have e2 : (p.fs.map fun i => fnWP K (p.at_ i))[j]? = (p.fs.map p.fval)[j]? := by rw [hv]
    rw [List.getElem?_map, List.getElem?_map, List.getElem?_eq_getElem hj, ej] at e2
    exact Option.some.inj e2
  have eA : p.fA K f = fAdP K (p.at_ i) := by unfold Pg.fA; rw [e]
  unfold Pg.fnOkB at z
  obtain ⟨z, _⟩ := ba z
  unfold fnWP at e2
  unfold Pg.fdA
  rw [eA]
  cases q : K.lookup (fAdP K (p.at_ i)) with
  | none => rw [q] at z; cases z
  | some o =>
    obtain ⟨oc, od, dt, osl⟩ := o
    rw [q] at z e2
    cases dt with
    | func fd =>
      obtain ⟨n1, n2, n3, n4, n5, n6, n7, n8, n9, n10, n11, n12, n13, n14, n15⟩ := fd
      have e3 : (some (n1, n2, n3, n4, n5, n6, n7, n15) : FnW) = some (i.nm, p.qual i, defArgs i.st, .stmts (defBody i.st), defScope i.st, mainGlobals, [], builtinsNs) := e2
      simp only [Option.some.injEq, Prod.mk.injEq] at e3
      obtain ⟨h1, h2, h3, h4, h5, h6, h7, h8⟩ := e3
      subst h1 h2 h3 h4 h5 h6 h7 h8
      have c3 : (PySem.W.codeIn K n13 (p.qual i) && (dflB K n8 (i.dfl.map Pg.cV) && i.dfl.all Pg.isC)) = true := z
      obtain ⟨k1, k2⟩ := ba c3
      obtain ⟨k3, k4⟩ := ba k2
      exact ⟨oc, od, n8, n9, n10, n11, n12, n13, n14, osl, rfl, rfl, k1, dflB_ok k3, k4⟩
    | _ => cases z
theorem cV_rep {cA : CA} {G : Hp} : ∀ {ts : List T}, ts.all Pg.isC = true → RepL cA G ts (ts.map Pg.cV)
  | [], _ => .nil
  | t :: ts, h => by
    rw [List.all_cons, Bool.and_eq_true] at h
    refine .cons ?_ (cV_rep h.2)
    cases t <;> first | (unfold Rep; rfl) | (cases h.1)
theorem kit_all {b : Bool} (hk : p.kitB K true = true) {c : CR} {t : T} (h : p.kitD c t = true) : PySem.W.kitOne K (tyT (p.cA K) t) (crU (p.cA K) c) = some (isiP (p.D b).sub c t) := by
  unfold Pg.kitD at h
  obtain ⟨h1, h2⟩ := ba h
  have hc : c ∈ p.crs := by
    unfold Pg.crs
    cases c with
    | ty n =>
      simp only at h1
      obtain ⟨h3, h4⟩ := ba h1
      exact List.mem_append_left _ (List.mem_map.mpr ⟨n, List.mem_filter.mpr ⟨by simpa using h3, h4⟩, rfl⟩)
    | cl d =>
      cases hi : p.ca d with
      | none => simp only [hi] at h1; cases h1
      | some i =>
        simp only [hi] at h1
        exact List.mem_append_right _ (List.mem_map.mpr ⟨i, List.mem_filter.mpr ⟨Pg.ca_mem hi, h1⟩, by rw [Pg.ca_id hi]⟩)
  have hno : ∀ n, c = .ty n → (n == "object") = false := fun n e => by
    subst e
    simp only at h1
    obtain ⟨h3, h4⟩ := ba h1
    simpa using h4
  have key : ∀ t', t' ∈ p.tts → PySem.W.kitOne K (tyT (p.cA K) t') (crU (p.cA K) c) = some (isiP (p.D true).sub c t') := fun t' ht' => of_decide_eq_true (List.all_eq_true.mp (List.all_eq_true.mp hk c hc) t' ht')
  have pre : ∀ t' ∈ ([.non, .bl true, .int 0, .str Str.empty, .lst [], .tup [], .dct []] : List T), t' ∈ p.tts := fun t' ht' => List.mem_append_left _ ht'
  have sb : (p.D b).sub = (p.D true).sub := rfl
  rw [sb]
  cases t with
  | non => exact key .non (pre _ (by simp))
  | bl _ => have := key (.bl true) (pre _ (by simp)); cases c <;> exact this
  | int _ => have := key (.int 0) (pre _ (by simp)); cases c <;> exact this
  | str _ => have := key (.str Str.empty) (pre _ (by simp)); cases c <;> exact this
  | lst _ => have := key (.lst []) (pre _ (by simp)); cases c <;> exact this
  | tup _ => have := key (.tup []) (pre _ (by simp)); cases c <;> exact this
  | dct _ => have := key (.dct []) (pre _ (by simp)); cases c <;> exact this
  | ty _ => cases h2
  | scr _ => cases h2
  | opq => cases h2
  | ins d fs =>
    have hd : T.ins d [] ∈ p.tts := by
      cases e : p.ca d with
      | none => simp only [e] at h2; cases h2
      | some i =>
        simp only [e] at h2
        exact List.mem_append_right _ (List.mem_map.mpr ⟨i, List.mem_filter.mpr ⟨Pg.ca_mem e, h2⟩, by rw [Pg.ca_id e]⟩)
    have := key (.ins d []) hd
    cases c <;> exact this
theorem refB_ok {o : Option (Option Value)} (h : Pg.refB o = true) : ∃ g : Addr, o = some (some (.ref g)) := by
  unfold Pg.refB at h
  split at h
  · exact ⟨_, rfl⟩
  · cases h
theorem noneOrRef_ok {o : Option (Option Value)} (h : Pg.noneOrRef o = true) : ∃ rc, o = some rc ∧ (rc = none ∨ ∃ g : Addr, rc = some (.ref g)) := by
  unfold Pg.noneOrRef at h
  split at h
  · exact ⟨none, rfl, .inl rfl⟩
  · exact ⟨_, rfl, .inr ⟨_, rfl⟩⟩
  · cases h
theorem ownB_ok {nm : Str} (h : Pg.ownB K nm (ga K nm) = true) : OwnK K (ga K nm) := by
  unfold Pg.ownB at h
  obtain ⟨h1, h⟩ := ba h
  obtain ⟨h2, h⟩ := ba h
  obtain ⟨h3, h⟩ := ba h
  obtain ⟨h4, h⟩ := ba h
  obtain ⟨h5, h⟩ := ba h
  obtain ⟨h6, h7⟩ := ba h
  refine ⟨cls_ok h1, h2, fun n hn g hg => ?_, fun n hn => ?_, fun n hn => ?_, fun T hT => ?_, of_decide_eq_true h5, eqO_ok h6, of_decide_eq_true h7⟩
  · obtain ⟨z, _⟩ := ba (List.all_eq_true.mp h3 n hn)
    rw [hg] at z
    exact refB_ok (by simpa [Pg.refB] using z)
  · obtain ⟨_, z⟩ := ba (List.all_eq_true.mp h3 n hn)
    exact noneOrRef_ok (ba z).1
  · obtain ⟨_, z⟩ := ba (List.all_eq_true.mp h3 n hn)
    obtain ⟨_, z⟩ := ba z
    obtain ⟨z1, z2⟩ := ba z
    obtain ⟨fo, e1⟩ := Option.isSome_iff_exists.mp z1
    obtain ⟨ro, e2⟩ := Option.isSome_iff_exists.mp z2
    exact ⟨fo, ro, e1, e2⟩
  · exact of_decide_eq_true (List.all_eq_true.mp h4 T hT)
theorem propB_ok {C : Addr} {f : Str} {g : Addr} (h : Pg.propB K C f g = true) : PropAt K C f g := by
  unfold Pg.propB at h
  split at h
  · rename_i q hq
    obtain ⟨h1, h⟩ := ba h
    obtain ⟨h2, h3⟩ := ba h
    split at h3
    · rename_i v r hr
      have e := of_decide_eq_true h3
      subst e
      exact ⟨q, hq, eqO_ok h1, of_decide_eq_true h2, _, hr⟩
    · cases h3
  · cases h
theorem tx_of (X : K.In h) (G : h.Ns mainGlobals mg) (c : p.chk K = true) (hv : p.fs.map (fun i => fnWP K (p.at_ i)) = p.fs.map p.fval) (O : p.Ok fw) (b : Bool) (hcl : ∀ i ∈ p.cs, (i.ins = false → i.flds = [] ∧ i.om = [] ∧ i.ini = none ∧ i.rep = none)) (hoe : ∀ i ∈ p.cs, i.om.lookup Str.empty = none) :
    Tx P w K mg base (p.D b) (p.M b) (p.cA K) (p.fA K) (p.fdA K) p.psA fw := by
  unfold Pg.chk at c
  obtain ⟨c1, c⟩ := ba c
  obtain ⟨c2, c⟩ := ba c
  obtain ⟨c3, c⟩ := ba c
  obtain ⟨c4, c⟩ := ba c
  obtain ⟨c5, c⟩ := ba c
  obtain ⟨c6, c⟩ := ba c
  obtain ⟨c7, c8⟩ := ba c
  have fnd : ∀ f d, (p.D b).fn f = some d → ∃ i, p.fa f = some i ∧ d = ⟨i.np, i.N.length, if b || !i.rp then i.body else .junk⟩ := fun f d e => by
    have e : ((p.fa f).map fun i => (⟨i.np, i.N.length, if b || !i.rp then i.body else .junk⟩ : FD)) = some d := e
    rw [Option.map_eq_some_iff] at e
    obtain ⟨i, e1, e2⟩ := e
    exact ⟨i, e1, e2.symm⟩
  have ins_of : ∀ (c : Nat) (i : CI), p.ca c = some i → (i.flds ≠ [] ∨ i.om ≠ [] ∨ i.ini ≠ none ∨ i.rep ≠ none) → i.ins = true := fun c i e h => by
    cases hi : i.ins with
    | true => rfl
    | false =>
      obtain ⟨h1, h2, h3, h4⟩ := hcl i (Pg.ca_mem e) hi
      rcases h with h | h | h | h
      · exact absurd h1 h
      · exact absurd h2 h
      · exact absurd h3 h
      · exact absurd h4 h
  refine ⟨fun x hx => ?_, fun x i e => ?_, fun b hb e => ?_, fun c f e => ?_, fun f d e => ?_, fun f d e => ?_, fun f d n e hn hn2 => ?_, fun f x e => ?_, fun c x f e1 e2 => ?_, fun c x e => ?_, fun c t e => kit_all c6 e, fun c e => ?_, fun c m f e1 => ?_, fun c e => ?_, fun c => ?_, fun c m f e => ?_, fun f d ks pm e1 e2 => ?_, fun a ns h => h, ⟨fun e c h1 h2 => ?_, fun c v e => ?_⟩, fun f d e => ?_⟩
  · exact PySem.W.mg_none_of X G (eqO_ok (List.all_eq_true.mp c1 x hx))
  · have e : p.gi.lookup x = some i := e
    have hm : (x, i) ∈ p.gi := by
      have : ∀ {l : List (Str × Int)}, l.lookup x = some i → (x, i) ∈ l := by
        intro l
        induction l with
        | nil => intro h; simp at h
        | cons q r ih =>
          obtain ⟨k, v⟩ := q
          intro h
          rw [List.lookup_cons] at h
          cases hk : (x == k) with
          | true => rw [hk] at h; simp at h; subst h; rw [beq_iff_eq.mp hk]; exact List.mem_cons_self
          | false => rw [hk] at h; exact List.mem_cons_of_mem _ (ih h)
      exact this e
    exact int_ok X G (List.all_eq_true.mp c2 _ hm)
  · have e : p.gcd.contains b = true := e
    exact PySem.W.mg_of X G (eqO_ok (List.all_eq_true.mp c3 b (by simpa using e)))
  · have e : (match p.ca c with | some i => i.flds.contains f | none => false) = true := e
    cases hi : p.ca c with
    | none => rw [hi] at e; cases e
    | some i =>
      rw [hi] at e
      have e : i.flds.contains f = true := e
      have := Pg.ins_at c4 hi (ins_of c i hi (.inl fun z => by rw [z] at e; cases e))
      exact ⟨this.1, this.2.1 f e⟩
  · obtain ⟨i, hi, rfl⟩ := fnd f d e
    have := (O.fs.mem (Pg.fa_mem hi)).np
    unfold Pg.psA
    rw [hi]; exact this
  · obtain ⟨i, hi, rfl⟩ := fnd f d e
    obtain ⟨oc, od, dV, kV, doc, pm, an, cdv, ct, osl, h1, h2, h3, hD, hc⟩ := Pg.fn_at c5 hv hi
    rw [h1]
    have O1 := O.fs.mem (Pg.fa_mem hi)
    unfold Pg.psA
    rw [hi]
    rcases hD with ⟨e0, rfl⟩ | ⟨hne, T, o, its, m, rfl, lT, oT, rT⟩
    · have e1 : i.dfl = [] := by cases h : i.dfl with | nil => rfl | cons _ _ => rw [h] at e0; cases e0
      exact .all fun us hl => O1.bd e1 _ _ _ _ _ _ us (hl.trans O1.np)
    · have e1 : i.dfl ≠ [] := fun z => hne (by rw [z]; rfl)
      have l1 : its.length = i.dfl.length := by rw [← rT.length, List.length_map]
      refine fun s us X hl => ?_
      rw [List.append_nil] at hl ⊢
      obtain ⟨k, e2, e3⟩ := (O1.dd e1 0 (Nat.zero_le _)).2 T kV doc pm an cdv ct us its (by rw [hl]; exact O1.np) l1
      rw [Nat.sub_zero, ← l1, List.drop_length, List.append_nil] at e3
      refine BindsTo.of_looks fun M => ?_
      rw [e2]
      exact looks_items X lT oT (.of_pure e3)
  · obtain ⟨i, hi, rfl⟩ := fnd f d e
    have hn2 : n ≤ i.dfl.length := by
      have z : (p.D b).dfl f = i.dfl := by show (match p.fa f with | some i => i.dfl | none => []) = _; rw [hi]
      rw [z] at hn2; exact hn2
    have z : (p.D b).dfl f = i.dfl := by show (match p.fa f with | some i => i.dfl | none => []) = _; rw [hi]
    rw [z]
    obtain ⟨oc, od, dV, kV, doc, pm, an, cdv, ct, osl, h1, h2, h3, hD, hc⟩ := Pg.fn_at c5 hv hi
    have O1 := O.fs.mem (Pg.fa_mem hi)
    unfold Pg.psA
    rw [hi]
    have hne : i.dfl ≠ [] := fun z => by rw [z] at hn2; simp at hn2; omega
    obtain ⟨hnp, dd⟩ := O1.dd hne n hn2
    rcases hD with ⟨e0, _⟩ | ⟨_, T, o, its, m, rfl, lT, oT, rT⟩
    · have e1 : i.dfl.length = 0 := by rw [← List.length_map (f := Pg.cV), e0]; rfl
      omega
    · have l1 : its.length = i.dfl.length := by rw [← rT.length, List.length_map]
      refine ⟨its.drop (i.dfl.length - n), (i.dfl.map Pg.cV).drop (i.dfl.length - n), fun s us X hlen => ?_, rT.drop _, fun G => (cV_rep hc).drop _⟩
      have l2 : us.length = i.np - n := by
        have hlen : (us ++ its.drop (i.dfl.length - n)).length = i.ps.length := hlen
        rw [List.length_append, List.length_drop, l1, O1.np] at hlen
        omega
      obtain ⟨k, e1, e2⟩ := dd T kV doc pm an cdv ct us its l2 l1
      refine BindsTo.of_looks fun M => ?_
      rw [h1, e1]
      exact looks_items X lT oT (.of_pure e2)
  · have e : ((p.fa f).bind fun i => if i.cl.isNone then some i.nm else none) = some x := e
    rw [Option.bind_eq_some_iff] at e
    obtain ⟨i, hi, e⟩ := e
    split at e
    · rename_i hcl
      cases e
      have z := List.all_eq_true.mp c5 i (Pg.fa_mem hi)
      unfold Pg.fnOkB at z
      obtain ⟨_, z⟩ := ba z
      cases hc : i.cl with
      | some _ => rw [hc] at hcl; cases hcl
      | none =>
        rw [hc] at z
        obtain ⟨z1, z2⟩ := ba z
        have eA : p.fA K f = ga K i.nm := by
          unfold Pg.fA Pg.at_
          rw [hi]; simp only [hc]; rfl
        rw [eA]
        exact ⟨PySem.W.mg_of X G (eqO_ok z1), z2⟩
    · cases e
  · have e1 : (p.ca c).map (·.nm) = some x := e1
    have e2 : (p.ca c).bind (·.ini) = some f := e2
    rw [Option.map_eq_some_iff] at e1
    obtain ⟨i, hi, rfl⟩ := e1
    rw [hi, Option.bind_some] at e2
    have := Pg.ins_at c4 hi (ins_of c i hi (.inr (.inr (.inl (by rw [e2]; simp)))))
    exact ⟨(Pg.cls_at X G c4 hi).1, this.2.2.2.1 f e2⟩
  · have e1 : (p.ca c).map (·.nm) = some x := e
    rw [Option.map_eq_some_iff] at e1
    obtain ⟨i, hi, rfl⟩ := e1
    exact (Pg.cls_at X G c4 hi).1
  · have e : (match p.ca c with | some i => i.ins | none => false) = true := e
    cases hi : p.ca c with
    | none => rw [hi] at e; cases e
    | some i =>
      rw [hi] at e
      exact (Pg.ins_at c4 hi e).2.2.2.2.2
  · have e1 : ((p.ca c).bind fun i => i.om.lookup m) = some f := e1
    rw [Option.bind_eq_some_iff] at e1
    obtain ⟨i, hi, e1⟩ := e1
    have := Pg.ins_at c4 hi (ins_of c i hi (.inr (.inl fun z => by rw [z] at e1; cases e1)))
    exact ⟨this.1, this.2.2.1 m f e1⟩
  · have e : (match p.ca c with | some i => i.own | none => false) = true := e
    cases hi : p.ca c with
    | none => rw [hi] at e; cases e
    | some i =>
      rw [hi] at e
      have e : i.own = true := e
      obtain ⟨z, _⟩ := ba (List.all_eq_true.mp c7 i (Pg.ca_mem hi))
      rw [e] at z
      have eC : ga K i.nm = p.cAf K c := by unfold Pg.cAf Pg.cnmD; rw [hi]
      have := ownB_ok (by simpa using z)
      rw [eC] at this
      exact this
  · show ((p.ca c).bind fun i => i.om.lookup Str.empty) = none
    cases hi : p.ca c with
    | none => rfl
    | some i => exact hoe i (Pg.ca_mem hi)
  · have e : ((p.ca c).bind fun i => i.pr.lookup m) = some f := e
    rw [Option.bind_eq_some_iff] at e
    obtain ⟨i, hi, e⟩ := e
    have eC : ga K i.nm = p.cAf K c := by unfold Pg.cAf Pg.cnmD; rw [hi]
    obtain ⟨_, z⟩ := ba (List.all_eq_true.mp c7 i (Pg.ca_mem hi))
    have hm' : (m, f) ∈ i.pr := by
      have : ∀ {l : List (Str × Nat)}, l.lookup m = some f → (m, f) ∈ l := by
        intro l
        induction l with
        | nil => intro h; simp at h
        | cons q r ih =>
          obtain ⟨k, v⟩ := q
          intro h
          rw [List.lookup_cons] at h
          cases hk : (m == k) with
          | true => rw [hk] at h; simp at h; subst h; rw [beq_iff_eq.mp hk]; exact List.mem_cons_self
          | false => rw [hk] at h; exact List.mem_cons_of_mem _ (ih h)
      exact this e
    have hne : i.pr.isEmpty = false := by cases h : i.pr with | nil => rw [h] at hm'; cases hm' | cons _ _ => rfl
    rw [hne, Bool.false_or] at z
    obtain ⟨z1, z2⟩ := ba z
    have a1 := cls_ok z1
    have a2 := propB_ok (List.all_eq_true.mp z2 _ hm')
    rw [eC] at a1 a2
    exact ⟨a1, a2⟩
  · obtain ⟨i, hi, rfl⟩ := fnd f d e1
    have e2 : (p.kws.any fun q => decide (q.1 = f) && (decide (q.2.1 = ks) && decide (q.2.2 = pm))) = true := e2
    rw [List.any_eq_true] at e2
    obtain ⟨q, hq, e3⟩ := e2
    obtain ⟨a1, e3⟩ := ba e3
    obtain ⟨a2, a3⟩ := ba e3
    have k := O.kws.mem hq
    obtain ⟨q1, q2, q3⟩ := q
    simp only [decide_eq_true_eq] at a1 a2 a3
    subst a1 a2 a3
    obtain ⟨k1, k2, k3⟩ := k i hi
    refine ⟨k1, fun s ws zs hK hl hp => ?_⟩
    obtain ⟨oc, od, dV, kV, doc, pm, an, cdv, ct, osl, h1, h2, h3, hD, hc⟩ := Pg.fn_at c5 hv hi
    rw [h1]
    unfold Pg.psA
    rw [hi]
    rcases hD with ⟨e0, rfl⟩ | ⟨hne, T, o, its, m, rfl, lT, oT, rT⟩
    · have e1 : i.dfl = [] := by cases h : i.dfl with | nil => rfl | cons _ _ => rw [h] at e0; cases e0
      exact .of_eq (k2 e1 _ _ _ _ _ _ ws zs hl hp)
    · have e1 : i.dfl ≠ [] := fun z => hne (by rw [z]; rfl)
      have l1 : its.length = i.dfl.length := by rw [← rT.length, List.length_map]
      obtain ⟨k, e2, e3⟩ := k3 e1 T kV doc pm an cdv ct ws zs its hl hp l1
      refine BindsTo.of_looks fun M => ?_
      rw [e2]
      exact looks_items hK lT oT (.of_pure e3)
  · have q1 : ((p.ca e).bind (·.exf)).isSome = true := h1
    have q2 : ((p.ca c).bind (·.exf)).isSome = true := h2
    cases hi : p.ca e with
    | none => rw [hi] at q1; cases q1
    | some i =>
      cases hj : p.ca c with
      | none => rw [hj] at q2; cases q2
      | some j =>
        rw [hi, Option.bind_some] at q1
        rw [hj, Option.bind_some] at q2
        unfold Pg.xfB at c8
        obtain ⟨z, _⟩ := ba c8
        have n1 : i.exf.isNone = false := by cases hx : i.exf with | none => rw [hx] at q1; cases q1 | some _ => rfl
        have n2 : j.exf.isNone = false := by cases hx : j.exf with | none => rw [hx] at q2; cases q2 | some _ => rfl
        have z1 := List.all_eq_true.mp z i (Pg.ca_mem hi)
        rw [n1, Bool.false_or] at z1
        have z2 := List.all_eq_true.mp z1 j (Pg.ca_mem hj)
        rw [n2, Bool.false_or] at z2
        have z3 := of_decide_eq_true z2
        have eC : ga K i.nm = p.cAf K e := by unfold Pg.cAf Pg.cnmD; rw [hi]
        have eD : ga K j.nm = p.cAf K c := by unfold Pg.cAf Pg.cnmD; rw [hj]
        rw [eC, eD, Pg.ca_id hj] at z3
        have es : (p.D b).sub e c = i.sup.contains c := by show (match p.ca e with | some i => i.sup.contains c | none => false) = _; rw [hi]
        rw [es]
        exact z3
  · have q1 : (p.ca c).bind (·.exf) = some (some v) := e
    rw [Option.bind_eq_some_iff] at q1
    obtain ⟨i, hi, hx⟩ := q1
    unfold Pg.xfB at c8
    obtain ⟨_, z⟩ := ba c8
    have z1 := List.all_eq_true.mp z i (Pg.ca_mem hi)
    rw [hx] at z1
    have eC : ga K i.nm = p.cAf K c := by unfold Pg.cAf Pg.cnmD; rw [hi]
    cases hf : i.exi with
    | none => rw [hf] at z1; cases z1
    | some f =>
      rw [hf] at z1
      obtain ⟨z2, z1⟩ := ba z1
      obtain ⟨z3, z4⟩ := ba z1
      have oc := oexB_ok z2
      obtain ⟨z5, z3⟩ := ba z3
      obtain ⟨z6, z7⟩ := ba z3
      have hno := of_decide_eq_true z4
      have hin := eqO_ok z5
      rw [eC] at oc hno hin
      obtain ⟨fi, sN, xN, p1, p2, p3, p4, hfa, hN, hnp, hb, v1, v2, hd0⟩ := O.xs.mem (Pg.ca_mem hi) v f hx hf
      obtain ⟨oc', od, dV, kV, doc, pm, an, cdv, ct, osl, g1, g2, g3, hD, hc⟩ := Pg.fn_at c5 hv hfa
      have O1 := O.fs.mem (Pg.fa_mem hfa)
      have hps : fi.ps = [sN, xN] := by unfold FI.ps; rw [hN, hnp]; rfl
      have hsc := O1.sc
      rw [hN, hps] at hsc
      have FD : FunD K fi.nm (p.qual fi) fi.st (p.fA K f) (p.fdA K f) := ⟨oc', od, dV, kV, doc, pm, an, cdv, ct, osl, g1, g2, g3⟩
      refine ⟨p.fA K f, p.fdA K f, [sN, xN], oc, hin, (by simpa [PySem.W.isFn] using z6), exc_init FD hsc hb v1 v2 oc hno, ?_⟩
      rw [g1, ← hps]
      rcases hD with ⟨e0, rfl⟩ | ⟨hne, _⟩
      · exact .all fun us hl => O1.bd hd0 _ _ _ _ _ _ us (hl.trans O1.np)
      · exact absurd (by rw [hd0]; rfl) hne
  · obtain ⟨i, hi, rfl⟩ := fnd f d e
    obtain ⟨oc, od, dV, kV, doc, pm, an, cdv, ct, osl, h1, h2, h3, _, _⟩ := Pg.fn_at c5 hv hi
    have O1 := O.fs.mem (Pg.fa_mem hi)
    refine ⟨i.nm, p.qual i, i.st, i.N, ⟨oc, od, dV, kV, doc, pm, an, cdv, ct, osl, h1, h2, h3⟩, ?_, rfl, fun k cf rp => O1.body b _ _ _ _ k cf rp⟩
    unfold Pg.psA
    rw [hi]; exact O1.sc
end
end Tw
set_option maxHeartbeats 4000000
namespace Tw
open PySem PySem.Spec PyProof.Rows L2
theorem t_junk {C : Cl} {N : List Str} {sc : Scope} {t : Stmt} : Ks C N sc t .junk := fun X W c F => ⟨fun pins s st H D I q => by
  obtain ⟨_, _, _, _, _, _, p⟩ := q
  simp only [evS] at p
  exact p.elim⟩
theorem k_gi {C : Cl} {N : List Str} {sc : Scope} {n : Str} {i : Int} {p : Pos} (hg : glB sc n = true) (h : C.M.gint n = some i) : Ke C N sc (.Name n p) (.int i) := fun X W c F => s_gint F.pf c h hg
def obsP (p : Pg) (K : PySem.W.Frag) : He.AlD := (p.chk K, p.fs.map fun i => He.fnWP K (p.at_ i))
def valP (p : Pg) : He.AlD := (true, p.fs.map p.fval)
def asP (c n : Nat) : List Addr := mainGlobals :: List.range' c (n - c)
def obsPG (c : Nat) (p : Pg) (n : Nat) (g : Addr → Option Obj) : He.AlD := obsP p (He.frG g (asP c n))
def hookP (c : Nat) (p : Pg) : PySem.W.Hook where
  α := He.AlD
  obs := fun s => obsPG c p s.heap.objs.size s.heap.get?
  val := fun _ => valP p
  says := fun _ h => ∃ K : PySem.W.Frag, K.In h ∧ obsP p K = valP p
  of := fun _ _ e => ⟨_, He.frG_in, e⟩
  keeps := fun _ _ _ ⟨K, hK, c⟩ k => ⟨K, PySem.W.Frag.In.keeps hK k, c⟩
theorem obsPG_eq {c : Nat} {p : Pg} {g : Addr → Option Obj} {s : Shared} (h : ∀ a, g a = s.heap.get? a) : obsPG c p s.heap.objs.size g = (hookP c p).obs s := by
  have e : g = s.heap.get? := funext h
  rw [e] <;> rfl
def obP (c : Nat) (p : Pg) (s : PySem.W.SharedT) : He.AlD := obsPG c p s.n (HandSHeadRun.getT s)
theorem obP_eq (c : Nat) (p : Pg) (s : PySem.W.SharedT) : obP c p s = (hookP c p).obs s.abs := by
  have e : s.abs.heap.objs.size = s.n := PySem.W.absHeap_size s.tree s.n s.life
  rw [← obsPG_eq (HandSHeadRun.getT_eq s), e]
  rfl
def Pg.statB (p : Pg) : Bool := (p.cs.all fun i => (i.om.lookup Str.empty).isNone) && p.cs.all fun i => (i.ins || (i.flds.isEmpty && (i.om.isEmpty && (i.ini.isNone && i.rep.isNone)))) && (match i.rep with
  | none => true
  | some r => match p.fa r with
    | some f => decide (f.np = 1)
    | none => false)
theorem Pg.stat1 {p : Pg} (h : p.statB = true) : ∀ i ∈ p.cs, (i.ins = false → i.flds = [] ∧ i.om = [] ∧ i.ini = none ∧ i.rep = none) := fun i hi e => by
  obtain ⟨h1, _⟩ := He.ba (List.all_eq_true.mp (He.ba h).2 i hi)
  rw [e] at h1
  simp only [Bool.false_or, Bool.and_eq_true, List.isEmpty_iff, Option.isNone_iff_eq_none] at h1
  exact ⟨h1.1, h1.2.1, h1.2.2.1, h1.2.2.2⟩
theorem Pg.stat0 {p : Pg} (h : p.statB = true) : ∀ i ∈ p.cs, i.om.lookup Str.empty = none := fun i hi => Option.isNone_iff_eq_none.mp (List.all_eq_true.mp (He.ba h).1 i hi)
def rp0 : CF → Store → T → Out Str := fun _ _ _ => .bad
noncomputable def Pg.rp (p : Pg) (fw n0 d : Nat) : CF → Store → T → Out Str := fun _ => rpT (p.D false) (callN (p.D false) rp0 fw n0) d
section
open He
variable {p : Pg} {fw n0 d : Nat} {P : Program} {w : World} {K : PySem.W.Frag} {mg : Str → Option Value} {base h : Heap}
theorem fn_false (X : K.In h) (G : h.Ns mainGlobals mg) (e : obsP p K = valP p) (O : p.Ok fw) (st : p.statB = true) (n : Nat) (f : Nat) (dd : FD) (hd : (p.D false).fn f = some dd) :
    FnG P w K mg base false (2 * n + 3) (p.fA K f) (p.fdA K f) (p.psA f) (spF (p.cA K) (callN (p.D false) rp0 fw n) f dd.np) := by
  have c : p.chk K = true := congrArg (fun z : AlD => z.1) e
  have hv : p.fs.map (fun i => fnWP K (p.at_ i)) = p.fs.map p.fval := congrArg (fun z : AlD => z.2) e
  exact fn_all (M := p.M false) 3 (Nat.le_refl _) (tx_of X G c hv O false (Pg.stat1 st) (Pg.stat0 st)) (fun _ _ _ _ _ _ _ z => by cases z) n f dd hd
theorem fn_true (X : K.In h) (G : h.Ns mainGlobals mg) (e : obsP p K = valP p) (O : p.Ok fw) (st : p.statB = true) (n : Nat) (f : Nat) (dd : FD) (hd : (p.D true).fn f = some dd) :
    FnG P w K mg base true (2 * n + (2 * n0 + 3 + d)) (p.fA K f) (p.fdA K f) (p.psA f) (spF (p.cA K) (callN (p.D true) (p.rp fw n0 d) fw n) f dd.np) := by
  have c : p.chk K = true := congrArg (fun z : AlD => z.1) e
  have hv : p.fs.map (fun i => fnWP K (p.at_ i)) = p.fs.map p.fval := congrArg (fun z : AlD => z.2) e
  refine fn_all (M := p.M true) (2 * n0 + 3 + d) (by omega) (tx_of X G c hv O true (Pg.stat1 st) (Pg.stat0 st)) (fun Y k cf hk a5 calm F g => ?_) n f dd hd
  obtain ⟨e1, e2, e3, e4, e5⟩ := a5
  have hchk := c
  unfold Pg.chk at c
  obtain ⟨_, c⟩ := ba c
  obtain ⟨_, c⟩ := ba c
  obtain ⟨_, c⟩ := ba c
  obtain ⟨c4, c⟩ := ba c
  obtain ⟨c5, _⟩ := ba c
  have own : OwnRs Y (p.cA K) (p.D false) (callN (p.D false) rp0 fw n0) (2 * n0 + 3) := fun ci r hr => by
    have hr : (p.ca ci).bind (·.rep) = some r := hr
    rw [Option.bind_eq_some_iff] at hr
    obtain ⟨i, hi, hr⟩ := hr
    have hins : i.ins = true := by
      cases q : i.ins with
      | true => rfl
      | false => have := (Pg.stat1 st i (Pg.ca_mem hi) q).2.2.2; rw [hr] at this; cases this
    have m := (Pg.ins_at c4 hi hins).2.2.2.2.1 r hr
    obtain ⟨_, z⟩ := ba (List.all_eq_true.mp (He.ba st).2 i (Pg.ca_mem hi))
    rw [hr] at z
    cases hf : p.fa r with
    | none => simp only [hf] at z; cases z
    | some fi =>
      simp only [hf] at z
      have hnp : fi.np = 1 := of_decide_eq_true z
      have hD : (p.D false).fn r = some ⟨fi.np, fi.N.length, if false || !fi.rp then fi.body else .junk⟩ := by
        show (p.fa r).map _ = _
        rw [hf]; rfl
      have T := tx_of (fw := fw) (P := P) (w := w) (base := base) X G hchk hv O false (Pg.stat1 st) (Pg.stat0 st)
      have ff := fn_false (P := P) (w := w) (base := base) X G e O st n0 r _ hD
      simp only [hnp] at ff
      refine ⟨p.fA K r, p.fdA K r, p.psA r, ?_, ?_, ?_, ?_, ?_⟩
      · rw [e3]; exact m.at_
      · rw [e3]; exact m.fn
      · rw [e1, e2, e3, e4, e5]; exact ff
      · rw [e3]; exact T.bd r _ hD
      · have := T.ps r _ hD
        simp only [hnp] at this
        exact this
  exact call_repr own F.room (by omega) (F.gd g)
end
theorem walkGE {l : PySem.W.OpenLaw} {n k : Nat} {q : Program} {loose : List Str} {XP : (Str → Option Value) → Heap → Prop} {YP : World → Heap → Prop} {d : DefRec} {x : Str}
    (hn : l.most = some n) (hn2 : n ≤ sizeLine) (hdf : d.params.defaults = []) (hr : Room k callerA)
    (F : ∀ (w : World) (mg : Str → Option Value) (fa : Addr) (h : Heap), YP w h → h.Ns mainGlobals mg → mg d.name = some (.ref fa) →
      ∃ (K : PySem.W.Frag) (fd : FuncData) (sp : Sp), K.In h ∧ (∀ (s : Shared) (u : Value), BindsTo s fd ⟨[u], []⟩ [(x, u)]) ∧ (∀ base : Heap, K.In base → base.Ns mainGlobals mg → FnG l.prog w K mg base true k fa fd [x] sp) ∧
        ∀ (H : Hp) (a : Addr) (ns : List Int), ns.length ≤ n → Only H → SqL K H a (ns.map V.int) → sp [.ref a] H (fun v _ => v = .bl true) fun _ _ _ => False) :
    PySem.W.WalkO q loose XP YP l.row.toRowW d [] (fun f vs => PySem.call f vs) := by
  refine Att.attach_call hn hdf fun w s₀ s₁ mg mb fa o pm cd doc a vs ns G Y ho hd hcd hmg hobj hints hlen hg => ?_
  obtain ⟨K, fd, sp, KX, hb, hF, hsp⟩ := F w mg fa _ Y G.T.g hmg
  exact law_callG KX G.T.g G.T.b G.T.builtins G.T.nolimit hg hobj hints (Nat.le_trans hlen hn2) hr hF hb fun H hO hS => hsp H a ns hlen hO hS
theorem walkP {l : PySem.W.OpenLaw} {n : Nat} {q : Program} {loose : List Str} {XP : (Str → Option Value) → Heap → Prop} {d : DefRec} {x : Str} {p : Pg} {fw n0 dp m m0 : Nat} {i0 : FI}
    (hn : l.most = some n) (hn2 : n ≤ sizeLine) (hdf : d.params.defaults = []) (hr : Room (2 * m + (2 * n0 + 3 + dp)) callerA) (hi : p.fa m0 = some i0) (hnm : i0.nm = d.name) (hcl : i0.cl = none) (hps : i0.ps = [x]) (hdfl : i0.dfl = [])
    (O : p.Ok fw) (st : p.statB = true) {hs : Nat} (pure : ∀ ns : List Int, ns.length ≤ n → ∃ s, callN (p.D true) (p.rp fw n0 dp) fw m m0 [.t (.scr ns)] [] = .ok (.t (.bl true)) s) :
    PySem.W.WalkO q loose XP (hookP hs p).says l.row.toRowW d [] (fun f vs => PySem.call f vs) := by
  refine walkGE (k := 2 * m + (2 * n0 + 3 + dp)) (x := x) hn hn2 hdf hr fun w mg fa h Y G hmg => ?_
  obtain ⟨K, KX, e⟩ := Y
  have c : p.chk K = true := congrArg (fun z : He.AlD => z.1) e
  have hv : p.fs.map (fun i => He.fnWP K (p.at_ i)) = p.fs.map p.fval := congrArg (fun z : He.AlD => z.2) e
  have hnp : i0.np = 1 := by
    have := (O.fs.mem (Pg.fa_mem hi)).np
    rw [hps] at this
    exact this.symm
  have hD : (p.D true).fn m0 = some ⟨i0.np, i0.N.length, if true || !i0.rp then i0.body else .junk⟩ := by
    show (p.fa m0).map _ = _
    rw [hi]; rfl
  have T := fun base : Heap => tx_of (fw := fw) (P := l.prog) (w := w) (base := base) KX G c hv O true (Pg.stat1 st) (Pg.stat0 st)
  have efa : fa = p.fA K m0 := by
    have gf := ((T h).gf m0 i0.nm (by show (p.fa m0).bind _ = _; rw [hi]; simp [hcl])).1
    rw [hnm] at gf
    have := hmg.symm.trans gf
    cases this; rfl
  subst efa
  have hpsA : p.psA m0 = [x] := by unfold Pg.psA; rw [hi]; exact hps
  refine ⟨K, p.fdA K m0, spF (p.cA K) (callN (p.D true) (p.rp fw n0 dp) fw m) m0 1, KX, fun s u => ?_, fun base hb hg => ?_, fun H a ns hl only seq => ?_⟩
  · unfold Pg.chk at c
    obtain ⟨_, c⟩ := He.ba c
    obtain ⟨_, c⟩ := He.ba c
    obtain ⟨_, c⟩ := He.ba c
    obtain ⟨_, c⟩ := He.ba c
    obtain ⟨c5, _⟩ := He.ba c
    obtain ⟨oc, od, dV, kV, doc, pm, an, cdv, ct, osl, h1, _, _, hD, _⟩ := Pg.fn_at c5 hv hi
    rw [h1]
    rcases hD with ⟨_, rfl⟩ | ⟨hne, _⟩
    · have := (O.fs.mem (Pg.fa_mem hi)).bd hdfl kV doc pm an cdv ct [u] (by rw [hnp]; rfl)
      rw [hps] at this
      exact .of_eq this
    · exact absurd (by rw [hdfl]; rfl) hne
  · have := fn_true (P := l.prog) (w := w) (base := base) (n0 := n0) (d := dp) KX G e O st m m0 _ hD
    rw [hpsA] at this
    simp only [hnp] at this
    exact this
  · exact sp_law (fun a ns h => h) pure H a ns hl only seq
end Tw
namespace Tw
open PySem L2
def N_basics_is_integer : List Str := ["value"]
def S_basics_is_integer : S := (.ret false (.and (.isi (.var 0) [.ty "int"]) (.not (.isi (.var 0) [.ty "bool"]))))
def F_basics_is_integer : FD := ⟨1, 1, S_basics_is_integer⟩
def N_basics_is_list : List Str := ["value"]
def S_basics_is_list : S := (.ret false (.isi (.var 0) [.ty "list", .ty "tuple"]))
def F_basics_is_list : FD := ⟨1, 1, S_basics_is_list⟩
def N_ratios_digits_of : List Str := ["number", "left", "told", "part", "sign"]
def FB_ratios_digits_of_0 : S := (.seq (.asg (.gn 3) (.bin .Add (.bin .Mod (.blt .int (.cons (.var 1) .nil)) (.int 1000000000000000000000000000000000000000000000000000000000000)) (.int 1000000000000000000000000000000000000000000000000000000000000)))
    (.seq (.asg (.gn 2) (.fst (.cons (.fmt (.sl (.blt .str (.cons (.var 3) .nil)) (.int 1) .omit)) (.cons (.fmt (.var 2)) .nil))))
    (.asg (.gn 1) (.bin .FloorDiv (.var 1) (.int 1000000000000000000000000000000000000000000000000000000000000)))))
def WC_ratios_digits_of_0 : E := (.cmp .GtE (.var 1) (.int 1000000000000000000000000000000000000000000000000000000000000))
def FS_ratios_digits_of_0 : S := .whl WC_ratios_digits_of_0 FB_ratios_digits_of_0
def S_ratios_digits_of : S := (.seq (.par (.cons (.gn 1) (.cons (.gn 2) .nil)) (.cons (.ite (.cmp .GtE (.var 0) (.int 0)) (.var 0) (.bin .Sub (.int 0) (.var 0))) (.cons (.str "") .nil)))
    (.seq FS_ratios_digits_of_0
    (.seq (.asg (.gn 4) (.ite (.cmp .Lt (.var 0) (.int 0)) (.str "-") (.str "")))
    (.ret false (.fst (.cons (.fmt (.var 4)) (.cons (.fmt (.var 1)) (.cons (.fmt (.var 2)) .nil))))))))
def F_ratios_digits_of : FD := ⟨1, 5, S_ratios_digits_of⟩
def N_ratios_divisor_of : List Str := ["one", "other"]
def S_ratios_divisor_of : S := (.ret false (.blt .gcd (.cons (.var 0) (.cons (.var 1) .nil))))
def F_ratios_divisor_of : FD := ⟨2, 2, S_ratios_divisor_of⟩
def N_ratios_Ratio___init__ : List Str := ["self", "top", "bottom", "common"]
def S_ratios_Ratio___init__ : S := (.seq (.ite (.not (.cal 31 (.cons (.var 1) .nil))) .junk .skip)
    (.seq (.ite (.or (.not (.cal 31 (.cons (.var 2) .nil))) (.cmp .Eq (.var 2) (.int 0))) .junk .skip)
    (.seq (.asg (.gn 3) (.cal 333 (.cons (.var 1) (.cons (.var 2) .nil))))
    (.seq (.ite (.cmp .Lt (.var 2) (.int 0)) (.asg (.gn 3) (.bin .Sub (.int 0) (.var 3))) .skip)
    (.seq (.satt (.var 0) "own_top" (.bin .FloorDiv (.var 1) (.var 3)))
    (.satt (.var 0) "own_bottom" (.bin .FloorDiv (.var 2) (.var 3))))))))
def F_ratios_Ratio___init__ : FD := ⟨3, 4, S_ratios_Ratio___init__⟩
def N_ratios_Ratio___add__ : List Str := ["self", "other", "top", "bottom"]
def S_ratios_Ratio___add__ : S := (.seq (.asg (.gt (.cons (.gn 2) (.cons (.gn 3) .nil))) (.cal 354 (.cons (.var 1) .nil)))
    (.ret false (.mk 55 (.cons (.bin .Add (.bin .Mult (.att (.var 0) "own_top") (.var 3)) (.bin .Mult (.var 2) (.att (.var 0) "own_bottom"))) (.cons (.bin .Mult (.att (.var 0) "own_bottom") (.var 3)) .nil)))))
def F_ratios_Ratio___add__ : FD := ⟨2, 4, S_ratios_Ratio___add__⟩
def N_ratios_Ratio___radd__ : List Str := ["self", "other", "top", "bottom"]
def S_ratios_Ratio___radd__ : S := (.seq (.asg (.gt (.cons (.gn 2) (.cons (.gn 3) .nil))) (.cal 354 (.cons (.var 1) .nil)))
    (.ret false (.mk 55 (.cons (.bin .Add (.bin .Mult (.att (.var 0) "own_top") (.var 3)) (.bin .Mult (.var 2) (.att (.var 0) "own_bottom"))) (.cons (.bin .Mult (.att (.var 0) "own_bottom") (.var 3)) .nil)))))
def F_ratios_Ratio___radd__ : FD := ⟨2, 4, S_ratios_Ratio___radd__⟩
def N_ratios_Ratio___sub__ : List Str := ["self", "other", "top", "bottom"]
def S_ratios_Ratio___sub__ : S := (.seq (.asg (.gt (.cons (.gn 2) (.cons (.gn 3) .nil))) (.cal 354 (.cons (.var 1) .nil)))
    (.ret false (.mk 55 (.cons (.bin .Sub (.bin .Mult (.att (.var 0) "own_top") (.var 3)) (.bin .Mult (.var 2) (.att (.var 0) "own_bottom"))) (.cons (.bin .Mult (.att (.var 0) "own_bottom") (.var 3)) .nil)))))
def F_ratios_Ratio___sub__ : FD := ⟨2, 4, S_ratios_Ratio___sub__⟩
def N_ratios_Ratio___rsub__ : List Str := ["self", "other", "top", "bottom"]
def S_ratios_Ratio___rsub__ : S := (.seq (.asg (.gt (.cons (.gn 2) (.cons (.gn 3) .nil))) (.cal 354 (.cons (.var 1) .nil)))
    (.ret false (.mk 55 (.cons (.bin .Sub (.bin .Mult (.var 2) (.att (.var 0) "own_bottom")) (.bin .Mult (.att (.var 0) "own_top") (.var 3))) (.cons (.bin .Mult (.att (.var 0) "own_bottom") (.var 3)) .nil)))))
def F_ratios_Ratio___rsub__ : FD := ⟨2, 4, S_ratios_Ratio___rsub__⟩
def N_ratios_Ratio___mul__ : List Str := ["self", "other", "top", "bottom"]
def S_ratios_Ratio___mul__ : S := (.seq (.asg (.gt (.cons (.gn 2) (.cons (.gn 3) .nil))) (.cal 354 (.cons (.var 1) .nil)))
    (.ret false (.mk 55 (.cons (.bin .Mult (.att (.var 0) "own_top") (.var 2)) (.cons (.bin .Mult (.att (.var 0) "own_bottom") (.var 3)) .nil)))))
def F_ratios_Ratio___mul__ : FD := ⟨2, 4, S_ratios_Ratio___mul__⟩
def N_ratios_Ratio___rmul__ : List Str := ["self", "other", "top", "bottom"]
def S_ratios_Ratio___rmul__ : S := (.seq (.asg (.gt (.cons (.gn 2) (.cons (.gn 3) .nil))) (.cal 354 (.cons (.var 1) .nil)))
    (.ret false (.mk 55 (.cons (.bin .Mult (.att (.var 0) "own_top") (.var 2)) (.cons (.bin .Mult (.att (.var 0) "own_bottom") (.var 3)) .nil)))))
def F_ratios_Ratio___rmul__ : FD := ⟨2, 4, S_ratios_Ratio___rmul__⟩
def N_ratios_Ratio___neg__ : List Str := ["self"]
def S_ratios_Ratio___neg__ : S := (.ret false (.mk 55 (.cons (.bin .Sub (.int 0) (.att (.var 0) "own_top")) (.cons (.att (.var 0) "own_bottom") .nil))))
def F_ratios_Ratio___neg__ : FD := ⟨1, 1, S_ratios_Ratio___neg__⟩
def N_ratios_Ratio___eq__ : List Str := ["self", "other"]
def S_ratios_Ratio___eq__ : S := (.seq (.ite (.not (.isi (.var 1) [.cl 55])) (.ret false (.bl false)) .skip)
    (.ret false (.and (.cmp .Eq (.att (.var 0) "own_top") (.att (.var 1) "own_top")) (.cmp .Eq (.att (.var 0) "own_bottom") (.att (.var 1) "own_bottom")))))
def F_ratios_Ratio___eq__ : FD := ⟨2, 2, S_ratios_Ratio___eq__⟩
def N_ratios_Ratio___repr__ : List Str := ["self"]
def S_ratios_Ratio___repr__ : S := (.ret false (.fst (.cons (.str "Ratio(") (.cons (.fmt (.cal 332 (.cons (.att (.var 0) "own_top") .nil))) (.cons (.str ", ") (.cons (.fmt (.cal 332 (.cons (.att (.var 0) "own_bottom") .nil))) (.cons (.str ")") .nil)))))))
def F_ratios_Ratio___repr__ : FD := ⟨1, 1, S_ratios_Ratio___repr__⟩
def N_ratios_told_pair : List Str := ["value"]
def S_ratios_told_pair : S := (.seq (.ite (.isi (.var 0) [.cl 55]) (.ret false (.tup (.cons (.att (.var 0) "own_top") (.cons (.att (.var 0) "own_bottom") .nil)))) .skip)
    (.seq (.ite (.not (.cal 31 (.cons (.var 0) .nil))) .junk .skip)
    (.ret false (.tup (.cons (.var 0) (.cons (.int 1) .nil))))))
def F_ratios_told_pair : FD := ⟨1, 1, S_ratios_told_pair⟩
def N_ratios_is_number : List Str := ["value"]
def S_ratios_is_number : S := (.ret false (.or (.cal 31 (.cons (.var 0) .nil)) (.isi (.var 0) [.cl 55])))
def F_ratios_is_number : FD := ⟨1, 1, S_ratios_is_number⟩
def N_ratios_ratio_of : List Str := ["number"]
def S_ratios_ratio_of : S := (.ret false (.ite (.isi (.var 0) [.cl 55]) (.var 0) (.mk 55 (.cons (.var 0) .nil))))
def F_ratios_ratio_of : FD := ⟨1, 1, S_ratios_ratio_of⟩
def N_solved_are_numbers : List Str := ["value", "wide", "number"]
def LC_solved_are_numbers_0 : E := .lc false [2] (.gn 2) (.iseq (.var 0)) .omit (.cal 355 (.cons (.var 2) .nil))
def S_solved_are_numbers : S := (.ret false (.and (.cal 33 (.cons (.var 0) .nil)) (.and (.cmp .Eq (.blt .len (.cons (.var 0) .nil)) (.var 1)) (.blt .all (.cons LC_solved_are_numbers_0 .nil)))))
def F_solved_are_numbers : FD := ⟨2, 3, S_solved_are_numbers⟩
def N_tables_table_in : List Str := ["value", "row", "number"]
def LC_tables_table_in_0 : E := .lc false [1] (.gn 1) (.iseq (.var 0)) .omit (.cal 420 (.cons (.var 1) (.cons (.blt .len (.cons (.var 0) .nil)) .nil)))
def LC_tables_table_in_1 : E := .lc false [2] (.gn 2) (.iseq (.var 1)) .omit (.cal 356 (.cons (.var 2) .nil))
def LC_tables_table_in_2 : E := .lc false [1] (.gn 1) (.iseq (.var 0)) .omit LC_tables_table_in_1
def S_tables_table_in : S := (.seq (.ite (.or (.not (.cal 33 (.cons (.var 0) .nil))) (.not (.cmp2 .LtE .LtE (.int 1) (.blt .len (.cons (.var 0) .nil)) (.int 4)))) (.ret false .non) .skip)
    (.seq (.ite (.not (.blt .all (.cons LC_tables_table_in_0 .nil))) (.ret false .non) .skip)
    (.ret false LC_tables_table_in_2)))
def F_tables_table_in : FD := ⟨1, 3, S_tables_table_in⟩
def N_tables_short_of : List Str := ["row", "size", "at"]
def LC_tables_short_of_0 : E := .lc false [2] (.gn 2) (.irng1 (.var 1)) .omit (.sl (.var 0) (.bin .Mult (.var 2) (.var 1)) (.bin .Mult (.bin .Add (.var 2) (.int 1)) (.var 1)))
def S_tables_short_of : S := (.ret false LC_tables_short_of_0)
def F_tables_short_of : FD := ⟨2, 3, S_tables_short_of⟩
def N_tables_is_table : List Str := ["value"]
def S_tables_is_table : S := (.ret false (.cmp .IsNot (.cal 436 (.cons (.var 0) .nil)) .non))
def F_tables_is_table : FD := ⟨1, 1, S_tables_is_table⟩
end Tw
set_option maxHeartbeats 8000000
namespace Tw
open PySem PySem.Spec PyProof.Rows L2
def top (i : Nat) : Stmt := PySem.Challenge.pw_tracewords_k12_any_values_as_tables.main.body.getD i (.Pass ⟨0, 0, 0, 0⟩)
def inner (i j : Nat) : Stmt := match top i with
  | .ClassDef _ _ _ body .. => body.getD j (.Pass ⟨0, 0, 0, 0⟩)
  | s => s
def N_errors_InvalidRow___init__ : List Str := ["self", "value"]
def S_errors_InvalidRow___init__ : S := (.satt (.var 0) "value" (.var 1))
def F_errors_InvalidRow___init__ : FD := ⟨2, 2, S_errors_InvalidRow___init__⟩
def N_tables_from_long_x : List Str := ["row", "size", "number"]
def LC_tables_from_long_x_0 : E := .lc false [2] (.gn 2) (.iseq (.var 0)) .omit (.cal 356 (.cons (.var 2) .nil))
def FB_tables_from_long_x_0 : S := (.ite (.cal 420 (.cons (.var 0) (.cons (.bin .Mult (.var 1) (.var 1)) .nil))) (.ret false (.cal 455 (.cons LC_tables_from_long_x_0 (.cons (.var 1) .nil)))) .skip)
def FS_tables_from_long_x_0 : S := .for (.gn 1) (.irng2 (.int 1) (.bin .Add (.int 4) (.int 1))) FB_tables_from_long_x_0
def S_tables_from_long_x : S := (.seq FS_tables_from_long_x_0
    (.raise 10 (.cons (.var 0) .nil)))
def F_tables_from_long_x : FD := ⟨1, 3, S_tables_from_long_x⟩
def N_L_pot : List Str := ["_law_script", "_law_k", "_law_cell"]
def S_L_pot : S := (.seq (.asg (.gn 2) (.bin .Add (.bin .Mult (.int 131) (.var 1)) (.int 61)))
    (.seq (.ite (.cmp .Lt (.var 1) (.blt .len (.cons (.var 0) .nil))) (.asg (.gn 2) (.blt .abs (.cons (.ix (.var 0) (.var 1)) .nil))) .skip)
    (.ret true (.lst true (.cons (.blt .max (.cons (.int 0) (.cons (.bin .Sub (.var 2) (.bin .Pow (.int 10) (.int 18))) .nil))) (.cons (.bin .Add (.bin .Mod (.bin .Mult (.blt .int (.cons (.bin .Add (.bin .Mod (.blt .int (.cons (.var 2) .nil)) (.int 2147483549)) (.int 61)) .nil)) (.bin .Pow (.bin .Add (.bin .Mult (.int 2) (.var 1)) (.int 3)) (.int 3))) (.int 2147483477)) (.int 1)) .nil))))))
def F_L_pot : FD := ⟨2, 3, S_L_pot⟩
def N_L_draw : List Str := ["_law_pot_here", "_law_room", "_law_digit"]
def S_L_draw : S := (.seq (.ite (.cmp .Gt (.ix (.var 0) (.int 0)) (.int 0)) (.seq (.asg (.gt (.cons (.ix (.var 0) (.int 0)) (.cons (.gn 2) .nil))) (.blt .divmod (.cons (.ix (.var 0) (.int 0)) (.cons (.var 1) .nil))))
    (.ret false (.var 2))) .skip)
    (.seq (.asg (.ix (.var 0) (.int 1)) (.bin .Mod (.blt .int (.cons (.bin .Add (.bin .Mult (.ix (.var 0) (.int 1)) (.int 48271)) (.int 18144)) .nil)) (.int 2147483587)))
    (.ret false (.bin .Mod (.blt .int (.cons (.bin .FloorDiv (.bin .Mod (.blt .int (.cons (.bin .Mult (.ix (.var 0) (.int 1)) (.ix (.var 0) (.int 1))) .nil)) (.int 2147483549)) (.int 43)) .nil)) (.var 1)))))
def F_L_draw : FD := ⟨2, 3, S_L_draw⟩
def N_L_pick : List Str := ["_law_pot_here", "_law_some"]
def S_L_pick : S := (.ret false (.ix (.var 1) (.cal 1002 (.cons (.var 0) (.cons (.blt .len (.cons (.var 1) .nil)) .nil)))))
def F_L_pick : FD := ⟨2, 2, S_L_pick⟩
def N_L_low : List Str := ["_law_top", "_law_bottom", "_law_one", "_law_other"]
def FB_L_low_0 : S := (.par (.cons (.gn 2) (.cons (.gn 3) .nil)) (.cons (.var 3) (.cons (.bin .Mod (.blt .int (.cons (.var 2) .nil)) (.var 3)) .nil)))
def WC_L_low_0 : E := (.cmp .Gt (.var 3) (.int 0))
def FS_L_low_0 : S := .whl WC_L_low_0 FB_L_low_0
def S_L_low : S := (.seq (.par (.cons (.gn 2) (.cons (.gn 3) .nil)) (.cons (.blt .abs (.cons (.var 0) .nil)) (.cons (.blt .abs (.cons (.var 1) .nil)) .nil)))
    (.seq FS_L_low_0
    (.seq (.asg (.gn 2) (.ite (.cmp .Gt (.var 1) (.int 0)) (.var 2) (.bin .Sub (.int 0) (.var 2))))
    (.ret false (.tup (.cons (.bin .FloorDiv (.var 0) (.var 2)) (.cons (.bin .FloorDiv (.var 1) (.var 2)) .nil)))))))
def F_L_low : FD := ⟨2, 4, S_L_low⟩
def N_L_by : List Str := ["_law_one", "_law_other"]
def S_L_by : S := (.ret false (.cal 1004 (.cons (.bin .Mult (.ix (.var 0) (.int 0)) (.ix (.var 1) (.int 0))) (.cons (.bin .Mult (.ix (.var 0) (.int 1)) (.ix (.var 1) (.int 1))) .nil))))
def F_L_by : FD := ⟨2, 2, S_L_by⟩
def N_L_passed : List Str := ["_law_pot_here", "_law_pair", "_law_is_small"]
def S_L_passed : S := (.seq (.asg (.gn 2) (.and (.cmp .Eq (.ix (.var 1) (.int 1)) (.int 1)) (.cmp .Lt (.blt .abs (.cons (.ix (.var 1) (.int 0)) .nil)) (.bin .Pow (.int 10) (.int 6)))))
    (.ret false (.ite (.and (.var 2) (.cmp .Eq (.cal 1002 (.cons (.var 0) (.cons (.int 2) .nil))) (.int 0))) (.ix (.var 1) (.int 0)) (.mk 55 (.cons (.ix (.var 1) (.int 0)) (.cons (.ix (.var 1) (.int 1)) .nil))))))
def F_L_passed : FD := ⟨2, 3, S_L_passed⟩
def N_L_given_row : List Str := ["_law_pot_here", "_law_row_here", "_law_found", "_law_pair"]
def LC_L_given_row_0 : E := .lc false [3] (.gn 3) (.iseq (.var 1)) .omit (.cal 1006 (.cons (.var 0) (.cons (.var 3) .nil)))
def S_L_given_row : S := (.seq (.asg (.gn 2) LC_L_given_row_0)
    (.ret false (.ite (.cmp .Eq (.cal 1002 (.cons (.var 0) (.cons (.int 3) .nil))) (.int 0)) (.blt .tuple (.cons (.var 2) .nil)) (.var 2))))
def F_L_given_row : FD := ⟨2, 4, S_L_given_row⟩
def N_L_given : List Str := ["_law_pot_here", "_law_rows", "_law_found", "_law_row_here"]
def LC_L_given_0 : E := .lc false [3] (.gn 3) (.iseq (.var 1)) .omit (.cal 1007 (.cons (.var 0) (.cons (.var 3) .nil)))
def S_L_given : S := (.seq (.asg (.gn 2) LC_L_given_0)
    (.ret false (.ite (.cmp .Eq (.cal 1002 (.cons (.var 0) (.cons (.int 3) .nil))) (.int 0)) (.blt .tuple (.cons (.var 2) .nil)) (.var 2))))
def F_L_given : FD := ⟨2, 4, S_L_given⟩
def N_L_entry : List Str := ["_law_pot_here"]
def S_L_entry : S := (.ret false (.cal 1003 (.cons (.var 0) (.cons (.lst false (.cons (.tup (.cons (.int 0) (.cons (.int 1) .nil))) (.cons (.tup (.cons (.int 0) (.cons (.int 1) .nil))) (.cons (.tup (.cons (.int 1) (.cons (.int 1) .nil))) (.cons (.tup (.cons (.neg (.int 1)) (.cons (.int 1) .nil))) (.cons (.tup (.cons (.int 2) (.cons (.int 1) .nil))) (.cons (.tup (.cons (.int 3) (.cons (.int 1) .nil))) (.cons (.tup (.cons (.neg (.int 2)) (.cons (.int 1) .nil))) (.cons (.tup (.cons (.int 1) (.cons (.int 2) .nil))) (.cons (.tup (.cons (.neg (.int 5)) (.cons (.int 3) .nil))) (.cons (.tup (.cons (.int 0) (.cons (.int 1) .nil))) .nil))))))))))) .nil))))
def F_L_entry : FD := ⟨1, 1, S_L_entry⟩
def N_L_row : List Str := ["_law_pot_here", "_law_wide", "_law_place"]
def LC_L_row_0 : E := .lc false [2] (.gn 2) (.irng1 (.var 1)) .omit (.cal 1009 (.cons (.var 0) .nil))
def S_L_row : S := (.ret false LC_L_row_0)
def F_L_row : FD := ⟨2, 3, S_L_row⟩
def N_L_list : List Str := ["_law_pot_here", "_law_wide", "_law_many", "_law_found", "_law_turn"]
def FB_L_list_0 : S := (.app 3 (.cal 1010 (.cons (.var 0) (.cons (.var 1) .nil))))
def FS_L_list_0 : S := .for (.gn 4) (.irng1 (.var 2)) FB_L_list_0
def S_L_list : S := (.seq (.asg (.gn 3) (.lst true .nil))
    (.seq FS_L_list_0
    (.ret true (.var 3))))
def F_L_list : FD := ⟨3, 5, S_L_list⟩
def N_L_table : List Str := ["_law_pot_here", "_law_size", "_law_found", "_law_one", "_law_other", "_law_number", "_law_entry_here"]
def LC_L_table_0 : E := .lc false [6] (.gn 6) (.iseq (.ix (.var 2) (.var 4))) .omit (.cal 1005 (.cons (.var 5) (.cons (.var 6) .nil)))
def S_L_table : S := (.seq (.asg (.gn 2) (.cal 1011 (.cons (.var 0) (.cons (.var 1) (.cons (.var 1) .nil)))))
    (.seq (.ite (.and (.cmp .Gt (.var 1) (.int 1)) (.cmp .Eq (.cal 1002 (.cons (.var 0) (.cons (.int 3) .nil))) (.int 0))) (.seq (.par (.cons (.gn 3) (.cons (.gn 4) (.cons (.gn 5) .nil))) (.cons (.cal 1002 (.cons (.var 0) (.cons (.var 1) .nil))) (.cons (.cal 1002 (.cons (.var 0) (.cons (.var 1) .nil))) (.cons (.cal 1009 (.cons (.var 0) .nil)) .nil))))
    (.asg (.ix (.var 2) (.var 3)) (.ite (.cmp .NotEq (.var 3) (.var 4)) LC_L_table_0 (.bin .Mult (.lst false (.cons (.tup (.cons (.int 0) (.cons (.int 1) .nil))) .nil)) (.var 1))))) .skip)
    (.ret false (.var 2))))
def F_L_table : FD := ⟨2, 7, S_L_table⟩
def N_L_is_number : List Str := ["_law_value"]
def S_L_is_number : S := (.ret false (.or (.isi (.var 0) [.cl 55]) (.and (.isi (.var 0) [.ty "int"]) (.not (.isi (.var 0) [.ty "bool"])))))
def F_L_is_number : FD := ⟨1, 1, S_L_is_number⟩
def N_L_is_row : List Str := ["_law_value", "_law_wide", "_law_one"]
def LC_L_is_row_0 : E := .lc false [2] (.gn 2) (.iseq (.var 0)) .omit (.cal 1013 (.cons (.var 2) .nil))
def S_L_is_row : S := (.ret false (.and (.isi (.var 0) [.ty "list", .ty "tuple"]) (.and (.cmp .Eq (.blt .len (.cons (.var 0) .nil)) (.var 1)) (.blt .all (.cons LC_L_is_row_0 .nil)))))
def F_L_is_row : FD := ⟨2, 3, S_L_is_row⟩
def N_L_is_table : List Str := ["_law_value", "_law_row_here"]
def LC_L_is_table_0 : E := .lc false [1] (.gn 1) (.iseq (.var 0)) .omit (.cal 1014 (.cons (.var 1) (.cons (.blt .len (.cons (.var 0) .nil)) .nil)))
def S_L_is_table : S := (.seq (.ite (.or (.not (.isi (.var 0) [.ty "list", .ty "tuple"])) (.not (.cmp2 .LtE .LtE (.int 1) (.blt .len (.cons (.var 0) .nil)) (.int 4)))) (.ret false (.bl false)) .skip)
    (.ret false (.blt .all (.cons LC_L_is_table_0 .nil))))
def F_L_is_table : FD := ⟨1, 2, S_L_is_table⟩
def N_L_is_long : List Str := ["_law_value", "_law_one"]
def LC_L_is_long_0 : E := .lc false [1] (.gn 1) (.iseq (.var 0)) .omit (.cal 1013 (.cons (.var 1) .nil))
def S_L_is_long : S := (.ret false (.and (.isi (.var 0) [.ty "list", .ty "tuple"]) (.and (.cmp .In (.blt .len (.cons (.var 0) .nil)) (.lst false (.cons (.int 1) (.cons (.int 4) (.cons (.int 9) (.cons (.int 16) .nil)))))) (.blt .all (.cons LC_L_is_long_0 .nil)))))
def F_L_is_long : FD := ⟨1, 2, S_L_is_long⟩
def N_L_lets : List Str := ["_law_value", "_law_found"]
def S_L_lets : S := (.seq (.asg (.gn 1) (.bl true))
    (.seq (.try1 (.exp (.cal 469 (.cons (.var 0) .nil))) 10 (.asg (.gn 1) (.bl false)))
    (.ret false (.var 1))))
def F_L_lets : FD := ⟨1, 2, S_L_lets⟩
def N_L_bent : List Str := ["_law_pot_here", "_law_rows", "_law_at", "_law_row_here", "_law_odd", "_law_place", "_law_found", "_law_one"]
def FB_L_bent_0 : S := (.app 6 (.bin .Add (.bin .Add (.sl (.var 1) .omit (.var 2)) (.lst false (.cons (.var 7) .nil))) (.sl (.var 1) (.bin .Add (.var 2) (.int 1)) .omit)))
def FS_L_bent_0 : S := .for (.gn 7) (.iseq (.lst false (.cons (.bin .Add (.var 3) (.lst false (.cons (.int 0) .nil))) (.cons (.sl (.var 3) .omit (.neg (.int 1))) (.cons (.var 4) (.cons (.blt .tuple (.cons (.var 3) .nil)) (.cons (.bin .Add (.bin .Add (.sl (.var 3) .omit (.var 5)) (.lst false (.cons (.var 4) .nil))) (.sl (.var 3) (.bin .Add (.var 5) (.int 1)) .omit)) (.cons (.bin .Add (.bin .Add (.sl (.var 3) .omit (.var 5)) (.lst false (.cons (.int 7) .nil))) (.sl (.var 3) (.bin .Add (.var 5) (.int 1)) .omit)) .nil)))))))) FB_L_bent_0
def LC_L_bent_0 : E := .lc false [7] (.gn 7) (.iseq (.var 1)) .omit (.bin .Add (.blt .list (.cons (.var 7) .nil)) (.lst false (.cons (.int 0) .nil)))
def S_L_bent : S := (.seq (.asg (.gn 2) (.cal 1002 (.cons (.var 0) (.cons (.blt .len (.cons (.var 1) .nil)) .nil))))
    (.seq (.par (.cons (.gn 3) (.cons (.gn 4) .nil)) (.cons (.blt .list (.cons (.ix (.var 1) (.var 2)) .nil)) (.cons (.cal 1003 (.cons (.var 0) (.cons (.lst false (.cons .non (.cons (.bl true) (.cons (.bl false) (.cons (.str "1") (.cons (.lst false (.cons (.int 1) .nil)) (.cons (.tup .nil) (.cons (.dct [] .nil) .nil)))))))) .nil))) .nil)))
    (.seq (.asg (.gn 5) (.cal 1002 (.cons (.var 0) (.cons (.blt .len (.cons (.var 3) .nil)) .nil))))
    (.seq (.asg (.gn 6) (.lst true .nil))
    (.seq FS_L_bent_0
    (.ret false (.bin .Add (.var 6) (.lst false (.cons (.bin .Add (.var 1) (.lst false (.cons (.var 3) .nil))) (.cons (.sl (.var 1) (.int 1) .omit) (.cons (.lst false (.cons (.var 1) .nil)) (.cons LC_L_bent_0 (.cons (.bin .Add (.var 1) (.lst false (.cons (.bin .Mult (.lst false (.cons (.int 0) .nil)) (.blt .len (.cons (.var 1) .nil))) .nil))) (.cons (.blt .tuple (.cons (.var 1) .nil)) .nil))))))))))))))
def F_L_bent : FD := ⟨2, 8, S_L_bent⟩
def N_L_right : List Str := ["_law_pot_here", "_law_size", "_law_rows", "_law_values", "_law_value", "_law_shown", "_law_due"]
def FB_L_right_0 : S := (.seq (.par (.cons (.gn 5) (.cons (.gn 6) .nil)) (.cons (.blt .repr (.cons (.var 4) .nil)) (.cons (.cal 1015 (.cons (.var 4) .nil)) .nil)))
    (.seq (.ite (.or (.cmp .NotEq (.blt .repr (.cons (.lst false (.cons (.cal 458 (.cons (.var 4) .nil)) (.cons (.calk 458 (.cons (.var 4) .nil) [0]) .nil))) .nil)) (.blt .repr (.cons (.lst false (.cons (.var 6) (.cons (.var 6) .nil))) .nil))) (.cmp .NotEq (.cal 1017 (.cons (.var 4) .nil)) (.cal 1016 (.cons (.var 4) .nil)))) (.ret false (.bl false)) .skip)
    (.ite (.cmp .NotEq (.blt .repr (.cons (.var 4) .nil)) (.var 5)) (.ret false (.bl false)) .skip)))
def FS_L_right_0 : S := .for (.gn 4) (.iseq (.var 3)) FB_L_right_0
def S_L_right : S := (.seq (.asg (.gn 1) (.bin .Add (.int 1) (.cal 1002 (.cons (.var 0) (.cons (.int 4) .nil)))))
    (.seq (.asg (.gn 2) (.blt .list (.cons (.cal 1008 (.cons (.var 0) (.cons (.cal 1012 (.cons (.var 0) (.cons (.var 1) .nil))) .nil))) .nil)))
    (.seq (.asg (.gn 3) (.bin .Add (.bin .Add (.lst false (.cons (.var 2) (.cons (.blt .tuple (.cons (.var 2) .nil)) .nil))) (.cal 1018 (.cons (.var 0) (.cons (.var 2) .nil)))) (.lst false (.cons (.bin .Mult (.lst false (.cons (.bin .Mult (.lst false (.cons (.int 0) .nil)) (.int 5)) .nil)) (.int 5)) (.cons (.bin .Mult (.lst false (.cons (.bin .Mult (.lst false (.cons (.int 0) .nil)) (.int 4)) .nil)) (.int 4)) (.cons (.lst false (.cons (.lst false (.cons (.int 5) .nil)) .nil)) (.cons (.tup (.cons (.tup (.cons (.mk 55 (.cons (.int 1) (.cons (.int 2) .nil))) .nil)) .nil)) (.cons (.lst false (.cons (.lst false (.cons (.bl true) .nil)) .nil)) (.cons (.lst false (.cons (.int 1) .nil)) (.cons (.lst false (.cons (.lst false (.cons (.int 1) (.cons (.int 2) .nil))) .nil)) .nil))))))))))
    (.seq (.asg (.gn 3) (.bin .Add (.var 3) (.lst false (.cons .non (.cons (.int 0) (.cons (.str "") (.cons (.str "ab") (.cons (.dct [] .nil) (.cons (.lst false .nil) (.cons (.tup .nil) (.cons (.lst false (.cons (.lst false .nil) .nil)) (.cons (.dct [.inl 0] (.cons (.lst false (.cons (.int 1) .nil)) .nil)) (.cons (.bl true) (.cons (.mk 55 (.cons (.int 1) .nil)) (.cons (.lst false (.cons (.lst false (.cons (.int 1) .nil)) (.cons (.lst false (.cons (.int 2) .nil)) .nil))) (.cons (.bin .Mult (.lst false (.cons (.int 0) .nil)) (.int 4)) (.cons (.tup (.cons (.int 1) (.cons (.int 2) (.cons (.int 3) (.cons (.int 4) .nil))))) (.cons (.bin .Mult (.lst false (.cons (.int 0) .nil)) (.int 9)) (.cons (.bin .Mult (.lst false (.cons (.int 0) .nil)) (.int 16)) (.cons (.bin .Mult (.lst false (.cons (.int 0) .nil)) (.int 25)) (.cons (.lst false (.cons .non .nil)) .nil)))))))))))))))))))))
    (.seq FS_L_right_0
    (.ret false (.bl true)))))))
def F_L_right : FD := ⟨1, 7, S_L_right⟩
def N_L_law : List Str := ["_law_script"]
def S_L_law : S := (.ret false (.cal 1019 (.cons (.cal 1001 (.cons (.var 0) (.cons (.int 0) .nil))) .nil)))
def F_L_law : FD := ⟨1, 1, S_L_law⟩
abbrev st31 : Stmt := top 7
def fi31 : FI := { id := 31, nm := "is_integer", cl := none, N := N_basics_is_integer, np := 1, st := st31, body := S_basics_is_integer, rp := false, dfl := [] }
abbrev st33 : Stmt := top 8
def fi33 : FI := { id := 33, nm := "is_list", cl := none, N := N_basics_is_list, np := 1, st := st33, body := S_basics_is_list, rp := false, dfl := [] }
abbrev st159 : Stmt := inner 5 0
def fi159 : FI := { id := 159, nm := "__init__", cl := some 10, N := N_errors_InvalidRow___init__, np := 2, st := st159, body := S_errors_InvalidRow___init__, rp := false, dfl := [] }
abbrev st332 : Stmt := top 11
def fi332 : FI := { id := 332, nm := "digits_of", cl := none, N := N_ratios_digits_of, np := 1, st := st332, body := S_ratios_digits_of, rp := false, dfl := [] }
abbrev st333 : Stmt := top 12
def fi333 : FI := { id := 333, nm := "divisor_of", cl := none, N := N_ratios_divisor_of, np := 2, st := st333, body := S_ratios_divisor_of, rp := false, dfl := [] }
abbrev st334 : Stmt := inner 13 0
def fi334 : FI := { id := 334, nm := "__init__", cl := some 55, N := N_ratios_Ratio___init__, np := 3, st := st334, body := S_ratios_Ratio___init__, rp := false, dfl := [.int 1] }
abbrev st340 : Stmt := inner 13 6
def fi340 : FI := { id := 340, nm := "__add__", cl := some 55, N := N_ratios_Ratio___add__, np := 2, st := st340, body := S_ratios_Ratio___add__, rp := false, dfl := [] }
abbrev st341 : Stmt := inner 13 7
def fi341 : FI := { id := 341, nm := "__radd__", cl := some 55, N := N_ratios_Ratio___radd__, np := 2, st := st341, body := S_ratios_Ratio___radd__, rp := false, dfl := [] }
abbrev st342 : Stmt := inner 13 8
def fi342 : FI := { id := 342, nm := "__sub__", cl := some 55, N := N_ratios_Ratio___sub__, np := 2, st := st342, body := S_ratios_Ratio___sub__, rp := false, dfl := [] }
abbrev st343 : Stmt := inner 13 9
def fi343 : FI := { id := 343, nm := "__rsub__", cl := some 55, N := N_ratios_Ratio___rsub__, np := 2, st := st343, body := S_ratios_Ratio___rsub__, rp := false, dfl := [] }
abbrev st344 : Stmt := inner 13 10
def fi344 : FI := { id := 344, nm := "__mul__", cl := some 55, N := N_ratios_Ratio___mul__, np := 2, st := st344, body := S_ratios_Ratio___mul__, rp := false, dfl := [] }
abbrev st345 : Stmt := inner 13 11
def fi345 : FI := { id := 345, nm := "__rmul__", cl := some 55, N := N_ratios_Ratio___rmul__, np := 2, st := st345, body := S_ratios_Ratio___rmul__, rp := false, dfl := [] }
abbrev st346 : Stmt := inner 13 12
def fi346 : FI := { id := 346, nm := "__neg__", cl := some 55, N := N_ratios_Ratio___neg__, np := 1, st := st346, body := S_ratios_Ratio___neg__, rp := false, dfl := [] }
abbrev st351 : Stmt := inner 13 17
def fi351 : FI := { id := 351, nm := "__eq__", cl := some 55, N := N_ratios_Ratio___eq__, np := 2, st := st351, body := S_ratios_Ratio___eq__, rp := false, dfl := [] }
abbrev st353 : Stmt := inner 13 19
def fi353 : FI := { id := 353, nm := "__repr__", cl := some 55, N := N_ratios_Ratio___repr__, np := 1, st := st353, body := S_ratios_Ratio___repr__, rp := false, dfl := [] }
abbrev st354 : Stmt := top 14
def fi354 : FI := { id := 354, nm := "told_pair", cl := none, N := N_ratios_told_pair, np := 1, st := st354, body := S_ratios_told_pair, rp := false, dfl := [] }
abbrev st355 : Stmt := top 15
def fi355 : FI := { id := 355, nm := "is_number", cl := none, N := N_ratios_is_number, np := 1, st := st355, body := S_ratios_is_number, rp := false, dfl := [] }
abbrev st356 : Stmt := top 16
def fi356 : FI := { id := 356, nm := "ratio_of", cl := none, N := N_ratios_ratio_of, np := 1, st := st356, body := S_ratios_ratio_of, rp := false, dfl := [] }
abbrev st420 : Stmt := top 18
def fi420 : FI := { id := 420, nm := "are_numbers", cl := none, N := N_solved_are_numbers, np := 2, st := st420, body := S_solved_are_numbers, rp := false, dfl := [] }
abbrev st436 : Stmt := top 21
def fi436 : FI := { id := 436, nm := "table_in", cl := none, N := N_tables_table_in, np := 1, st := st436, body := S_tables_table_in, rp := false, dfl := [] }
abbrev st455 : Stmt := top 22
def fi455 : FI := { id := 455, nm := "short_of", cl := none, N := N_tables_short_of, np := 2, st := st455, body := S_tables_short_of, rp := false, dfl := [] }
abbrev st458 : Stmt := top 23
def fi458 : FI := { id := 458, nm := "is_table", cl := none, N := N_tables_is_table, np := 1, st := st458, body := S_tables_is_table, rp := false, dfl := [] }
abbrev st469 : Stmt := top 24
def fi469 : FI := { id := 469, nm := "from_long", cl := none, N := N_tables_from_long_x, np := 1, st := st469, body := S_tables_from_long_x, rp := false, dfl := [] }
abbrev st1001 : Stmt := top 26
def fi1001 : FI := { id := 1001, nm := "_law_pot", cl := none, N := N_L_pot, np := 2, st := st1001, body := S_L_pot, rp := false, dfl := [] }
abbrev st1002 : Stmt := top 27
def fi1002 : FI := { id := 1002, nm := "_law_draw", cl := none, N := N_L_draw, np := 2, st := st1002, body := S_L_draw, rp := false, dfl := [] }
abbrev st1003 : Stmt := top 28
def fi1003 : FI := { id := 1003, nm := "_law_pick", cl := none, N := N_L_pick, np := 2, st := st1003, body := S_L_pick, rp := false, dfl := [] }
abbrev st1004 : Stmt := top 29
def fi1004 : FI := { id := 1004, nm := "_law_low", cl := none, N := N_L_low, np := 2, st := st1004, body := S_L_low, rp := false, dfl := [] }
abbrev st1005 : Stmt := top 30
def fi1005 : FI := { id := 1005, nm := "_law_by", cl := none, N := N_L_by, np := 2, st := st1005, body := S_L_by, rp := false, dfl := [] }
abbrev st1006 : Stmt := top 31
def fi1006 : FI := { id := 1006, nm := "_law_passed", cl := none, N := N_L_passed, np := 2, st := st1006, body := S_L_passed, rp := false, dfl := [] }
abbrev st1007 : Stmt := top 32
def fi1007 : FI := { id := 1007, nm := "_law_given_row", cl := none, N := N_L_given_row, np := 2, st := st1007, body := S_L_given_row, rp := false, dfl := [] }
abbrev st1008 : Stmt := top 33
def fi1008 : FI := { id := 1008, nm := "_law_given", cl := none, N := N_L_given, np := 2, st := st1008, body := S_L_given, rp := false, dfl := [] }
abbrev st1009 : Stmt := top 34
def fi1009 : FI := { id := 1009, nm := "_law_entry", cl := none, N := N_L_entry, np := 1, st := st1009, body := S_L_entry, rp := false, dfl := [] }
abbrev st1010 : Stmt := top 35
def fi1010 : FI := { id := 1010, nm := "_law_row", cl := none, N := N_L_row, np := 2, st := st1010, body := S_L_row, rp := false, dfl := [] }
abbrev st1011 : Stmt := top 36
def fi1011 : FI := { id := 1011, nm := "_law_list", cl := none, N := N_L_list, np := 3, st := st1011, body := S_L_list, rp := false, dfl := [] }
abbrev st1012 : Stmt := top 37
def fi1012 : FI := { id := 1012, nm := "_law_table", cl := none, N := N_L_table, np := 2, st := st1012, body := S_L_table, rp := false, dfl := [] }
abbrev st1013 : Stmt := top 38
def fi1013 : FI := { id := 1013, nm := "_law_is_number", cl := none, N := N_L_is_number, np := 1, st := st1013, body := S_L_is_number, rp := false, dfl := [] }
abbrev st1014 : Stmt := top 39
def fi1014 : FI := { id := 1014, nm := "_law_is_row", cl := none, N := N_L_is_row, np := 2, st := st1014, body := S_L_is_row, rp := false, dfl := [] }
abbrev st1015 : Stmt := top 40
def fi1015 : FI := { id := 1015, nm := "_law_is_table", cl := none, N := N_L_is_table, np := 1, st := st1015, body := S_L_is_table, rp := false, dfl := [] }
abbrev st1016 : Stmt := top 41
def fi1016 : FI := { id := 1016, nm := "_law_is_long", cl := none, N := N_L_is_long, np := 1, st := st1016, body := S_L_is_long, rp := false, dfl := [] }
abbrev st1017 : Stmt := top 42
def fi1017 : FI := { id := 1017, nm := "_law_lets", cl := none, N := N_L_lets, np := 1, st := st1017, body := S_L_lets, rp := false, dfl := [] }
abbrev st1018 : Stmt := top 43
def fi1018 : FI := { id := 1018, nm := "_law_bent", cl := none, N := N_L_bent, np := 2, st := st1018, body := S_L_bent, rp := false, dfl := [] }
abbrev st1019 : Stmt := top 44
def fi1019 : FI := { id := 1019, nm := "_law_right", cl := none, N := N_L_right, np := 1, st := st1019, body := S_L_right, rp := true, dfl := [] }
abbrev st1020 : Stmt := top 45
def fi1020 : FI := { id := 1020, nm := "law", cl := none, N := N_L_law, np := 1, st := st1020, body := S_L_law, rp := false, dfl := [] }
def PT : Pg where
  fs := [fi31, fi33, fi159, fi332, fi333, fi334, fi340, fi341, fi342, fi343, fi344, fi345, fi346, fi351, fi353, fi354, fi355, fi356, fi420, fi436, fi455, fi458, fi469, fi1001, fi1002, fi1003, fi1004, fi1005, fi1006, fi1007, fi1008, fi1009, fi1010, fi1011, fi1012, fi1013, fi1014, fi1015, fi1016, fi1017, fi1018, fi1019, fi1020]
  cs := [{ id := 10, nm := "InvalidRow", flds := [], om := [], ini := none, rep := none, pr := [], own := false, sup := [10], ins := false, exf := some (some "value"), exi := some 159 },
    { id := 55, nm := "Ratio", flds := ["own_top", "own_bottom"], om := [("__add__", 340), ("__radd__", 341), ("__sub__", 342), ("__rsub__", 343), ("__mul__", 344), ("__rmul__", 345), ("__neg__", 346), ("__eq__", 351)], ini := some 334, rep := some 353, pr := [], own := true, sup := [55], ins := true }]
  gi := [("PART", 1000000000000000000000000000000000000000000000000000000000000), ("MOST_SIZE", 4)]
  gcd := [.gcd]
  kws := [(458, ["value"], [0])]
  bt := ["bool", "int", "list", "tuple"]
def looseL : List Str := (["gcd", "_wall", "__name__", "TableError", "InvalidNumber", "InvalidRow", "is_integer", "is_list", "PART", "digits_of", "divisor_of", "Ratio", "told_pair", "is_number", "ratio_of", "are_numbers", "MOST_SIZE", "table_in", "short_of", "is_table", "from_long", "_law_pot", "_law_draw", "_law_pick", "_law_low", "_law_by", "_law_passed", "_law_given_row", "_law_given", "_law_entry"] : List Str) ++ (["_law_row", "_law_list", "_law_table", "_law_is_number", "_law_is_row", "_law_is_table", "_law_is_long", "_law_lets", "_law_bent", "_law_right"] : List Str)
end Tw
set_option maxHeartbeats 0
namespace Tw
open PySem PySem.Spec PyProof.Rows L2
abbrev RR : PySem.W.OpenRow := PySem.W.OpenLaw.row PySem.Challenge.rw_tracewords_k12_any_values_as_tables
abbrev VW : Program := PySem.W.view RR.prog [0, 45]
open HandSHeadRun in
theorem runA (w : World) : (wholeF (fun p => stepQ (denQ tabQ) p w) fenceQ 60000 RR.prog).map (fun x => looksF RR.prog x.1.heap x.2.abs) = some true := by
  kernel_rfl
open HandSHeadRun in
theorem runB (w : World) : (wholeF (fun p => stepQ (denQ tabQ) p w) fenceQ 60000 RR.prog).map (fun x => seenQ VW looseL (importedModules RR.prog.main.body) (fun s => PySem.W.xlAt VW [] s && PySem.W.recOk RR.toRowW.records s) x.2.abs) = some (PySem.W.openGood VW looseL) := by
  kernel_rfl
def chkA (p : Pg) (K : PySem.W.Frag) : Bool := (bnames.all fun x => He.eqO (PySem.W.nsIn K mainGlobals x) (some none)) && ((p.gi.all fun q => (He.Fa.int q.1 q.2).ok K) && ((p.gcd.all fun b => He.eqO (PySem.W.nsIn K mainGlobals (bltNm b)) (some (some (bltV b)))) &&
  ((p.cs.all fun i => p.clOkB K i) && (p.cs.all fun i => (!i.own || Pg.ownB K i.nm (He.ga K i.nm)) && (i.pr.isEmpty || ((He.Fa.cls i.nm).ok K && i.pr.all fun q => Pg.propB K (He.ga K i.nm) q.1 (p.fA K q.2)))))))
def chkB (p : Pg) (K : PySem.W.Frag) : Bool := p.fs.all fun i => p.fnOkB K i
def chkB1 (p : Pg) (K : PySem.W.Frag) : Bool := (p.fs.take (p.fs.length / 2)).all fun i => p.fnOkB K i
def chkB2 (p : Pg) (K : PySem.W.Frag) : Bool := (p.fs.drop (p.fs.length / 2)).all fun i => p.fnOkB K i
theorem chkB_of {p : Pg} {K : PySem.W.Frag} (a : chkB1 p K = true) (b : chkB2 p K = true) : chkB p K = true := by
  unfold chkB1 at a
  unfold chkB2 at b
  unfold chkB
  rw [← List.take_append_drop (p.fs.length / 2) p.fs, List.all_append, a, b]; rfl
def chkC (p : Pg) (K : PySem.W.Frag) : Bool := p.kitB K true && p.xfB K
def obX (c : Pg → PySem.W.Frag → Bool) (n : Nat) (p : Pg) (s : PySem.W.SharedT) : Bool := c p (He.frG (HandSHeadRun.getT s) (asP n s.n))
theorem chk_of {p : Pg} {K : PySem.W.Frag} (a : chkA p K = true) (b : chkB p K = true) (c : chkC p K = true) : p.chk K = true := by
  obtain ⟨a1, a⟩ := He.ba a
  obtain ⟨a2, a⟩ := He.ba a
  obtain ⟨a3, a⟩ := He.ba a
  obtain ⟨a4, a5⟩ := He.ba a
  have b' : (p.fs.all fun i => p.fnOkB K i) = true := b
  obtain ⟨c', d'⟩ := He.ba (show (p.kitB K true && p.xfB K) = true from c)
  unfold Pg.chk
  rw [a1, a2, a3, a4, a5, b', c', d'] <;> rfl
theorem onC {α : Type} {o : Option α} {n : Nat} {p : Pg} {s : α → PySem.W.SharedT} (a : o.map (fun x => obX chkA n p (s x)) = some true) (b1 : o.map (fun x => obX chkB1 n p (s x)) = some true) (b2 : o.map (fun x => obX chkB2 n p (s x)) = some true) (c : o.map (fun x => obX chkC n p (s x)) = some true) : o.map (fun x => (obP n p (s x)).1) = some true := by
  cases o with
  | none => cases a
  | some x =>
    simp only [Option.map_some, Option.some.injEq] at a b1 b2 c ⊢
    exact chk_of a (chkB_of b1 b2) c
open HandSHeadRun in
theorem runC0 (w : World) : (wholeF (fun p => stepQ (denQ tabQ) p w) fenceQ 60000 RR.prog).map (fun x => obX chkA 0 PT x.2) = some true := by
  kernel_rfl
open HandSHeadRun in
theorem runC1 (w : World) : (wholeF (fun p => stepQ (denQ tabQ) p w) fenceQ 60000 RR.prog).map (fun x => obX chkB1 0 PT x.2) = some true := by
  kernel_rfl
open HandSHeadRun in
theorem runC2 (w : World) : (wholeF (fun p => stepQ (denQ tabQ) p w) fenceQ 60000 RR.prog).map (fun x => obX chkB2 0 PT x.2) = some true := by
  kernel_rfl
open HandSHeadRun in
theorem runC3 (w : World) : (wholeF (fun p => stepQ (denQ tabQ) p w) fenceQ 60000 RR.prog).map (fun x => obX chkC 0 PT x.2) = some true := by
  kernel_rfl
open HandSHeadRun in
theorem runD (w : World) : (wholeF (fun p => stepQ (denQ tabQ) p w) fenceQ 60000 RR.prog).map (fun x => (obP 0 PT x.2).2) = some (PT.fs.map PT.fval) := by
  kernel_rfl
theorem four {α β γ : Type} {o : Option α} {f : α → Bool} {g : α → β} {h : α → He.AlD} {b : β} {c : He.AlD} (a1 : o.map f = some true) (a2 : o.map g = some b) (a3 : o.map (fun x => (h x).1) = some c.1) (a4 : o.map (fun x => (h x).2) = some c.2) : o.map (fun x => (f x, g x, h x)) = some (true, b, c) := by
  cases o with
  | none => cases a1
  | some x =>
    simp only [Option.map_some, Option.some.injEq] at *
    rw [a1, a2, Prod.ext a3 a4]
theorem run (w : World) : HandSHeadRun.RunEqI RR VW (hookP 0 PT) (obP 0 PT) 60000 looseL w := four (γ := Unit) (runA w) (runB w) (c := Tw.valP PT) (onC (runC0 w) (runC1 w) (runC2 w) (runC3 w)) (runD w)
end Tw
namespace Tw
open PySem L2
theorem nrfl {α : Sort _} {a b : α} (h : a = b) : a = b := h
class Is (p : Prop) : Prop where
  h : p
def endC (s : Store) (x : Fl) : Out VV := match x with
  | .nx _ s1 => fin s.length (.t .non) s1
  | .rt y s1 => fin s.length y s1
  | .ex e _ s1 => .ex e (s1.take s.length)
  | _ => .bad
section
variable {D : Defs} {rp : CF → Store → T → Out Str} {fw n f : Nat} {args : List VV} {s : Store} {d : FD}
theorem callN_go (h : D.fn f = some d) (hl : args.length = d.np) :
    callN D rp fw (n + 1) f args s = endC s (evS D (callN D rp fw n) (rp (callN D rp fw n)) fw d.body (args.map some ++ List.replicate (d.nl - d.np) none) s) := by
  conv => lhs; unfold callN
  rw [h]
  simp only [hl, if_true]
  rfl
theorem endC_rt {x : T} : endC s (.rt (.t x) s) = .ok (.t x) s := by simp [endC, fin]
theorem endC_nx {l : Loc} : endC s (.nx l s) = .ok (.t .non) s := by simp [endC, fin]
theorem endC_rt' {x : T} {s1 s2 : Store} (h : s1.take s.length = s2) : endC s (.rt (.t x) s1) = .ok (.t x) s2 := by simp [endC, fin, h]
end
section
variable {α β : Type} {a : α} {s : Store} {f : α → Store → Out β} {loc : Loc} {g : α → Store → Fl}
theorem bind_ok : (Out.ok a s).bind f = f a s := nrfl rfl
theorem toFl_ok : (Out.ok a s).toFl loc g = g a s := nrfl rfl
theorem seq_nx {k : Loc → Store → Fl} : (Fl.nx loc s).seq k = k loc s := nrfl rfl
theorem seq_rt {y : VV} {k : Loc → Store → Fl} : (Fl.rt y s).seq k = .rt y s := nrfl rfl
theorem rd_t {x : T} : rd s (.t x) = some x := nrfl rfl
theorem rd_c {k : Nat} : rd s (.c k) = (s[k]?).map Cell.tree := nrfl rfl
theorem rd_c' {k : Nat} {c : Cell} (h : s[k]? = some c) : rd s (.c k) = some c.tree := by rw [rd_c, h]; rfl
theorem emb_t {x : T} : emb s (.t x) = some (x, s) := nrfl rfl
theorem ofO_some {a : α} : ofO s (some a) = .ok a s := nrfl rfl
theorem ofT_some {x : T} : ofT s (some x) = .ok (.t x) s := nrfl rfl
theorem noex_ok {a : α} : noex (Out.ok a s) = .ok a s := nrfl rfl
theorem putFl_ok {l : Loc} : putFl (.ok l s) = .nx l s := nrfl rfl
end
theorem at_lst {s : Store} {y : VV} {xs : List T} (h : rd s y = some (.lst xs)) (i : Nat) : Src.at s (.lst y) i = some xs[i]? := by simp [Src.at, lstAt, h]
theorem at_enu {s : Store} {y : VV} {xs : List T} (h : rd s y = some (.lst xs)) (i : Nat) : Src.at s (.enu y) i = some ((xs[i]?).map fun a => .tup [.int i, a]) := by simp [Src.at, lstAt, h]
theorem most_lst {s : Store} {y : VV} {xs : List T} (h : rd s y = some (.lst xs)) : Src.most s (.lst y) = xs.length + 1 := by simp [Src.most, lstAt, h]
theorem most_enu {s : Store} {y : VV} {xs : List T} (h : rd s y = some (.lst xs)) : Src.most s (.enu y) = xs.length + 1 := by simp [Src.most, lstAt, h]
theorem most_tup {s : Store} {xs : List T} : Src.most s (.tup xs) = xs.length + 1 := rfl
def rngL (lo hi : Int) : List T := (List.range (hi - lo).toNat).map fun i => .int (lo + (i : Nat))
theorem at_rng {s : Store} {lo hi : Int} (i : Nat) : Src.at s (.rng lo hi) i = some (rngL lo hi)[i]? := by
  simp only [Src.at, rngL, List.getElem?_map, List.getElem?_range]
  by_cases h : i < (hi - lo).toNat
  · rw [if_pos h]; simp [h]
  · rw [if_neg h]; simp [h]
theorem most_rng {s : Store} {lo hi : Int} : Src.most s (.rng lo hi) = (rngL lo hi).length + 1 := by simp [Src.most, rngL]
theorem loopF_inv {src : Src} {g : E} {body : Loc → Store → Fl} {xs : List T} (Inv : Nat → Loc → Store → Prop)
    (hat : ∀ i loc s, Inv i loc s → src.at s i = some xs[i]?)
    (step : ∀ i x loc s, xs[i]? = some x → Inv i loc s → ∃ l1, bindG g x loc = some l1 ∧ ∃ l2 s2, (body l1 s = .nx l2 s2 ∨ body l1 s = .ct l2 s2) ∧ Inv (i + 1) l2 s2) :
    ∀ m i loc s, xs.length - i < m → i ≤ xs.length → Inv i loc s → ∃ l2 s2, loopF src g body m i loc s = .nx l2 s2 ∧ Inv xs.length l2 s2
  | 0, i, loc, s, hm, _, _ => by omega
  | m + 1, i, loc, s, hm, hi, I => by
    unfold loopF
    rw [hat i loc s I]
    cases hx : xs[i]? with
    | none =>
      have : i = xs.length := by have := List.getElem?_eq_none_iff.mp hx; omega
      subst this
      exact ⟨loc, s, rfl, I⟩
    | some x =>
      have hlt := (List.getElem?_eq_some_iff.mp hx).1
      obtain ⟨l1, hb, l2, s2, hbody, I2⟩ := step i x loc s hx I
      simp only [hb]
      obtain ⟨l3, s3, h3, I3⟩ := loopF_inv Inv hat step m (i + 1) l2 s2 (by omega) (by omega) I2
      rcases hbody with h | h <;> simp only [h] <;> exact ⟨l3, s3, h3, I3⟩
theorem loopF_ret {src : Src} {g : E} {body : Loc → Store → Fl} {xs : List T} (Inv : Nat → Loc → Store → Prop) (R : Fl → Prop)
    (hat : ∀ i loc s, Inv i loc s → src.at s i = some xs[i]?)
    (step : ∀ i x loc s, xs[i]? = some x → Inv i loc s → ∃ l1, bindG g x loc = some l1 ∧ ((∃ l2 s2, (body l1 s = .nx l2 s2 ∨ body l1 s = .ct l2 s2) ∧ Inv (i + 1) l2 s2) ∨ ((∃ y s2, body l1 s = .rt y s2) ∧ R (body l1 s))))
    (done : ∀ loc s, Inv xs.length loc s → R (.nx loc s)) :
    ∀ m i loc s, xs.length - i < m → i ≤ xs.length → Inv i loc s → R (loopF src g body m i loc s)
  | 0, i, loc, s, hm, _, _ => by omega
  | m + 1, i, loc, s, hm, hi, I => by
    unfold loopF
    rw [hat i loc s I]
    cases hx : xs[i]? with
    | none =>
      have : i = xs.length := by have := List.getElem?_eq_none_iff.mp hx; omega
      subst this
      exact done loc s I
    | some x =>
      have hlt := (List.getElem?_eq_some_iff.mp hx).1
      obtain ⟨l1, hb, hh⟩ := step i x loc s hx I
      simp only [hb]
      rcases hh with ⟨l2, s2, h | h, I2⟩ | ⟨⟨y, s2, h⟩, hr⟩
      · simp only [h]
        exact loopF_ret Inv R hat step done m (i + 1) l2 s2 (by omega) (by omega) I2
      · simp only [h]
        exact loopF_ret Inv R hat step done m (i + 1) l2 s2 (by omega) (by omega) I2
      · rw [h] at hr ⊢
        exact hr
theorem loopC_inv {src : Src} {g : E} {cond : Loc → Store → Out Bool} {elt : Loc → Store → Out VV} {lw : Loc} {n0 : Nat} {xs : List T} (Inv : Nat → List T → Store → Prop)
    (hn : ∀ i acc s, Inv i acc s → s.length = n0) (hz : xs.length ≤ sizeLine) (hacc : ∀ i acc s, Inv i acc s → acc.length ≤ i)
    (hat : ∀ i acc s, Inv i acc s → src.at (s ++ [.lst acc]) i = some xs[i]?)
    (step : ∀ i x acc s, xs[i]? = some x → Inv i acc s → ∃ l1, bindG g x lw = some l1 ∧ ((∃ s1, cond l1 (s ++ [.lst acc]) = .ok false (s1 ++ [.lst acc]) ∧ Inv (i + 1) acc s1) ∨
      ∃ s1 y s2 t s3, cond l1 (s ++ [.lst acc]) = .ok true s1 ∧ elt l1 s1 = .ok y s2 ∧ emb s2 y = some (t, s3 ++ [.lst acc]) ∧ Inv (i + 1) (acc ++ [t]) s3)) :
    ∀ m i acc s, xs.length - i < m → i ≤ xs.length → Inv i acc s → ∃ acc' s', loopC src g cond elt lw n0 m i (s ++ [.lst acc]) = .ok () (s' ++ [.lst acc']) ∧ Inv xs.length acc' s'
  | 0, i, acc, s, hm, _, _ => by omega
  | m + 1, i, acc, s, hm, hi, I => by
    unfold loopC
    rw [hat i acc s I]
    cases hx : xs[i]? with
    | none =>
      have : i = xs.length := by have := List.getElem?_eq_none_iff.mp hx; omega
      subst this
      exact ⟨acc, s, rfl, I⟩
    | some x =>
      have hlt := (List.getElem?_eq_some_iff.mp hx).1
      obtain ⟨l1, hb, hh⟩ := step i x acc s hx I
      simp only [hb]
      rcases hh with ⟨s1, h1, I1⟩ | ⟨s1, y, s2, t, s3, h1, h2, h3, I3⟩
      · simp only [h1]
        exact loopC_inv Inv hn hz hacc hat step m (i + 1) acc s1 (by omega) (by omega) I1
      · simp only [h1, h2, h3]
        have e3 := hn _ _ _ I3
        have el : (s3 ++ [Cell.lst acc])[n0]? = some (.lst acc) := by rw [← e3]; simp
        simp only [el]
        have : acc.length < sizeLine := by have := hacc _ _ _ I; omega
        rw [if_pos this]
        have es : (s3 ++ [Cell.lst acc]).set n0 (.lst (acc ++ [t])) = s3 ++ [.lst (acc ++ [t])] := by rw [← e3]; simp
        rw [es]
        exact loopC_inv Inv hn hz hacc hat step m (i + 1) (acc ++ [t]) s3 (by omega) (by omega) I3
section
variable {D : Defs} {cf : CF} {rp : Store → T → Out Str} {loc : Loc} {s : Store}
theorem ev_lc {own : List Nat} {g it c e : E} {src : Src} {s1 s2 : Store} {ys : List T} (h1 : evI D cf rp it loc s = .ok src s1)
    (h2 : loopC src g (fun l s => if c.isOmit then .ok true s else (ev D cf rp c l s).bind fun y s1 => ofO s1 ((rd s1 y).bind tru)) (ev D cf rp e) (wipeL loc own) s1.length (src.most s1) 0 (s1 ++ [.lst []]) = .ok () (s2 ++ [.lst ys])) (hl : s2.length = s1.length) :
    ev D cf rp (.lc false own g it c e) loc s = .ok (.t (.lst ys)) s2 := by
  unfold ev
  rw [h1, bind_ok, h2, bind_ok]
  unfold lcEnd
  rw [← hl]
  simp [Cell.tree]
structure Walks (s : Store) (src : Src) (xs : List T) : Prop where
  at_ : ∀ acc i, src.at (s ++ [.lst acc]) i = some xs[i]?
  most : src.most s = xs.length + 1
theorem Walks.tree {xs : List T} : Walks s (.lst (.t (.lst xs))) xs := ⟨fun acc i => at_lst rfl i, most_lst rfl⟩
theorem Walks.tup {xs : List T} : Walks s (.tup xs) xs := ⟨fun acc i => rfl, rfl⟩
theorem Walks.rng {lo hi : Int} : Walks s (.rng lo hi) (rngL lo hi) := ⟨fun acc i => at_rng i, most_rng⟩
theorem Walks.cell {k : Nat} {c : Cell} {xs : List T} (h : s[k]? = some c) (e : c.tree = .lst xs) : Walks s (.lst (.c k)) xs := by
  refine ⟨fun acc i => at_lst ?_ i, most_lst ?_⟩
  · rw [rd_c, List.getElem?_append_left (List.getElem?_eq_some_iff.mp h).1, h]; simp [e]
  · rw [rd_c, h]; simp [e]
theorem ev_lc_map {own : List Nat} {g it e : E} {src : Src} {xs : List T} (f : T → T) (h1 : evI D cf rp it loc s = .ok src s) (hw : Walks s src xs) (hz : xs.length ≤ sizeLine)
    (h : ∀ x ∈ xs, ∃ l1, bindG g x (wipeL loc own) = some l1 ∧ ∀ acc, ev D cf rp e l1 (s ++ [.lst acc]) = .ok (.t (f x)) (s ++ [.lst acc])) :
    ev D cf rp (.lc false own g it .omit e) loc s = .ok (.t (.lst (xs.map f))) s := by
  obtain ⟨acc, s2, h2, rfl, rfl⟩ := loopC_inv (src := src) (g := g) (cond := fun l s => if E.omit.isOmit then .ok true s else (ev D cf rp E.omit l s).bind fun y s1 => ofO s1 ((rd s1 y).bind tru)) (elt := ev D cf rp e) (lw := wipeL loc own) (n0 := s.length) (xs := xs)
    (fun i acc s' => s' = s ∧ acc = (xs.take i).map f) (fun i acc s' h => by rw [h.1]) hz (fun i acc s' h => by rw [h.2]; simp; omega) (fun i acc s' h => by rw [h.1]; exact hw.at_ acc i)
    (fun i x acc s' hx hI => by
      obtain ⟨rfl, rfl⟩ := hI
      obtain ⟨l1, hb, he⟩ := h x (List.mem_of_getElem? hx)
      refine ⟨l1, hb, .inr ⟨_, _, _, f x, s', rfl, he _, rfl, rfl, ?_⟩⟩
      rw [List.take_add_one, hx]; simp)
    (xs.length + 1) 0 [] s (by omega) (Nat.zero_le _) ⟨rfl, by simp⟩
  rw [hw.most.symm] at h2
  rw [List.take_length] at h2
  exact ev_lc h1 h2 rfl
end
theorem allB_eq (bs : List Bool) : bltP.allB (bs.map T.bl) = some (.bl (bs.all id)) := by
  induction bs with
  | nil => rfl
  | cons b r ih => simp [bltP.allB, ih]
theorem anyB_eq (bs : List Bool) : bltP.anyB (bs.map T.bl) = some (.bl (bs.any id)) := by
  induction bs with
  | nil => rfl
  | cons b r ih => simp [bltP.anyB, ih]
theorem sumI_eq (bs : List Int) : bltP.sumI (bs.map T.int) = some (.int bs.sum) := by
  induction bs with
  | nil => rfl
  | cons b r ih => simp [bltP.sumI, ih]
theorem all_map {α : Type} (f : α → Bool) (xs : List α) : bltP.allB (xs.map fun x => T.bl (f x)) = some (.bl (xs.all f)) := by
  have := allB_eq (xs.map f)
  rw [List.map_map] at this
  rw [show (fun x => T.bl (f x)) = T.bl ∘ f from rfl, this]
  simp [List.all_map]
theorem any_map {α : Type} (f : α → Bool) (xs : List α) : bltP.anyB (xs.map fun x => T.bl (f x)) = some (.bl (xs.any f)) := by
  have := anyB_eq (xs.map f)
  rw [List.map_map] at this
  rw [show (fun x => T.bl (f x)) = T.bl ∘ f from rfl, this]
  simp [List.any_map]
section
variable {D : Defs} {cf : CF} {s : Store} {a b : T} {i j : Int} {p q : Bool} {x y : Str} {xs ys : List T}
theorem bin_add : binV D cf .Add (.t (.int i)) (.t (.int j)) s = .ok (.t (.int (i + j))) s := nrfl rfl
theorem bin_sub : binV D cf .Sub (.t (.int i)) (.t (.int j)) s = .ok (.t (.int (i - j))) s := nrfl rfl
theorem bin_mul (h : mulOk i j = true) : binV D cf .Mult (.t (.int i)) (.t (.int j)) s = .ok (.t (.int (i * j))) s := by simp [binV, rd, binP, h]
theorem bin_fdiv (h : j ≠ 0) (h2 : j.natAbs.log2 < 9000) : binV D cf .FloorDiv (.t (.int i)) (.t (.int j)) s = .ok (.t (.int (i.fdiv j))) s := by simp [binV, rd, binP, h, h2]
theorem bin_mod (h : j ≠ 0) : binV D cf .Mod (.t (.int i)) (.t (.int j)) s = .ok (.t (.int (i.fmod j))) s := by simp [binV, rd, binP, h]
theorem bin_addl (h : xs.length + ys.length ≤ sizeLine) : binV D cf .Add (.t (.lst xs)) (.t (.lst ys)) s = .ok (.t (.lst (xs ++ ys))) s := by simp [binV, rd, binP, h]
theorem mthOk_ins {c : Nat} {m : Str} {fs : List (Str × T)} : mthOk D c m (.t (.ins c fs)) s = (D.om c m).bind fun g => if fs.lookup m = none then some g else none := by
  unfold mthOk
  rw [show rd s (.t (.ins c fs)) = some (.ins c fs) from rfl]
  cases D.om c m with
  | none => rfl
  | some g =>
    by_cases h : fs.lookup m = none
    · simp only [Option.bind_some, true_and]
    · simp only [Option.bind_some, true_and]
theorem attV_ins {c : Nat} {f : Str} {fs : List (Str × T)} : attV D f (.t (.ins c fs)) s = if D.fld c f then ofT s (fs.lookup f) else .bad := nrfl rfl
theorem cmpP_lt : cmpP .Lt (.int i) (.int j) = some (decide (i < j)) := nrfl rfl
theorem cmpP_le : cmpP .LtE (.int i) (.int j) = some (decide (i ≤ j)) := nrfl rfl
theorem cmpP_gt : cmpP .Gt (.int i) (.int j) = some (decide (j < i)) := nrfl rfl
theorem cmpP_ge : cmpP .GtE (.int i) (.int j) = some (decide (j ≤ i)) := nrfl rfl
theorem cmp_lt : cmpV D cf .Lt (.t (.int i)) (.t (.int j)) s = some (decide (i < j)) := nrfl rfl
theorem cmp_le : cmpV D cf .LtE (.t (.int i)) (.t (.int j)) s = some (decide (i ≤ j)) := nrfl rfl
theorem cmp_gt : cmpV D cf .Gt (.t (.int i)) (.t (.int j)) s = some (decide (j < i)) := nrfl rfl
theorem cmp_ge : cmpV D cf .GtE (.t (.int i)) (.t (.int j)) s = some (decide (j ≤ i)) := nrfl rfl
theorem cmp_eqi : cmpV D cf .Eq (.t (.int i)) (.t (.int j)) s = some (decide (i = j)) := nrfl rfl
theorem cmp_eqs : cmpV D cf .Eq (.t (.str x)) (.t (.str y)) s = some (decide (x = y)) := nrfl rfl
theorem cmp_eqb : cmpV D cf .Eq (.t (.bl p)) (.t (.bl q)) s = some (decide (p = q)) := nrfl rfl
theorem cmp_nei : cmpV D cf .NotEq (.t (.int i)) (.t (.int j)) s = some (!decide (i = j)) := nrfl rfl
theorem cmp_nes : cmpV D cf .NotEq (.t (.str x)) (.t (.str y)) s = some (!decide (x = y)) := nrfl rfl
theorem cmp_neb : cmpV D cf .NotEq (.t (.bl p)) (.t (.bl q)) s = some (!decide (p = q)) := nrfl rfl
def isNon : T → Bool
  | .non => true
  | _ => false
theorem cmp_isn : cmpV D cf .Is (.t (a)) (.t (.non)) s = some (isNon a) := by cases a <;> rfl
theorem cmp_nin : cmpV D cf .IsNot (.t (a)) (.t (.non)) s = some (!isNon a) := by cases a <;> rfl
theorem cmp_isb : cmpV D cf .Is (.t (.bl p)) (.t (.bl q)) s = some (decide (p = q)) := nrfl rfl
theorem cmp_nib : cmpV D cf .IsNot (.t (.bl p)) (.t (.bl q)) s = some (!decide (p = q)) := nrfl rfl
theorem tru_bl : tru (.bl p) = some p := nrfl rfl
theorem tru_int : tru (.int i) = some (i != 0) := nrfl rfl
theorem isNon_lst : isNon (.lst xs) = false := rfl
theorem isNon_non : isNon .non = true := rfl
theorem item_l : itemP (.lst xs) (.int i) = atI xs i := nrfl rfl
theorem item_t : itemP (.tup xs) (.int i) = atI xs i := nrfl rfl
theorem blt_lenl : bltP .len [.lst xs] = some (.int xs.length) := nrfl rfl
theorem blt_lent : bltP .len [.tup xs] = some (.int xs.length) := nrfl rfl
theorem blt_lend {ks : List (Key × T)} : bltP .len [.dct ks] = some (.int ks.length) := nrfl rfl
theorem mapM_nil : List.mapM (rd s) [] = some [] := nrfl rfl
theorem mapM_cons {v : VV} {vs : List VV} {x : T} {xs : List T} (h : rd s v = some x) (h2 : vs.mapM (rd s) = some xs) : (v :: vs).mapM (rd s) = some (x :: xs) := by simp [List.mapM_cons, h, h2]
theorem mapM_t1 {x : T} : List.mapM (rd s) [.t x] = some [x] := nrfl rfl
theorem mapM_t2 {x y : T} : List.mapM (rd s) [.t x, .t y] = some [x, y] := nrfl rfl
theorem embLM_t0 : embLM s [] = .ok [] s := nrfl rfl
theorem embLM_t1 {x : T} : embLM s [.t x] = .ok [x] s := nrfl rfl
theorem embLM_t2 {x y : T} : embLM s [.t x, .t y] = .ok [x, y] s := nrfl rfl
theorem embLM_t3 {x y z : T} : embLM s [.t x, .t y, .t z] = .ok [x, y, z] s := nrfl rfl
end
theorem blt_all {α : Type} {f : α → Bool} {xs : List α} : bltP .all [.lst (xs.map fun x => T.bl (f x))] = some (.bl (xs.all f)) := all_map f xs
theorem blt_any {α : Type} {f : α → Bool} {xs : List α} : bltP .any [.lst (xs.map fun x => T.bl (f x))] = some (.bl (xs.any f)) := any_map f xs
theorem atI_nat {α : Type} {xs : List α} {i : Nat} {x : α} (h : xs[i]? = some x) : atI xs (i : Int) = some x := by
  have hl := (List.getElem?_eq_some_iff.mp h).1
  unfold atI ixN
  have h0 : (0 : Int) ≤ (i : Int) := by omega
  have h1 : (i : Int) < (xs.length : Int) := by omega
  rw [if_pos h0, if_pos h1, Option.bind_some, Int.toNat_natCast, h]
theorem atI_0 {α : Type} {x : α} {xs : List α} : atI (x :: xs) 0 = some x := atI_nat (i := 0) rfl
theorem atI_1 {α : Type} {x y : α} {xs : List α} : atI (x :: y :: xs) 1 = some y := atI_nat (i := 1) rfl
end Tw
namespace Tw
open PySem L2
section
variable {D : Defs} {rp : CF → Store → T → Out Str} {fw n : Nat}
theorem ini_55 [h : Is (D.ini 55 = some 334)] : D.ini 55 = some 334 := h.h
theorem fld_55_own_top [h : Is (D.fld 55 "own_top" = true)] : D.fld 55 "own_top" = true := h.h
theorem fld_55_own_bottom [h : Is (D.fld 55 "own_bottom" = true)] : D.fld 55 "own_bottom" = true := h.h
theorem sub_55 [h : Is (∀ d, D.sub d 55 = decide (d = 55))] (d : Nat) : D.sub d 55 = decide (d = 55) := h.h d
theorem go_basics_is_integer [hf : Is (D.fn 31 = some F_basics_is_integer)] (a0 : VV) (s : Store) : callN D rp fw (n + 1) 31 [a0] s = endC s (evS D (callN D rp fw n) (rp (callN D rp fw n)) fw S_basics_is_integer [some a0] s) := callN_go hf.h rfl
theorem fl_basics_is_integer [hf : Is (D.fn 31 = some F_basics_is_integer)] (a0 : VV) : fill D 31 [a0] = [a0] := by unfold fill; rw [hf.h]; rfl
theorem go_basics_is_list [hf : Is (D.fn 33 = some F_basics_is_list)] (a0 : VV) (s : Store) : callN D rp fw (n + 1) 33 [a0] s = endC s (evS D (callN D rp fw n) (rp (callN D rp fw n)) fw S_basics_is_list [some a0] s) := callN_go hf.h rfl
theorem fl_basics_is_list [hf : Is (D.fn 33 = some F_basics_is_list)] (a0 : VV) : fill D 33 [a0] = [a0] := by unfold fill; rw [hf.h]; rfl
theorem go_ratios_digits_of [hf : Is (D.fn 332 = some F_ratios_digits_of)] (a0 : VV) (s : Store) : callN D rp fw (n + 1) 332 [a0] s = endC s (evS D (callN D rp fw n) (rp (callN D rp fw n)) fw S_ratios_digits_of [some a0, none, none, none, none] s) := callN_go hf.h rfl
theorem fl_ratios_digits_of [hf : Is (D.fn 332 = some F_ratios_digits_of)] (a0 : VV) : fill D 332 [a0] = [a0] := by unfold fill; rw [hf.h]; rfl
theorem go_ratios_divisor_of [hf : Is (D.fn 333 = some F_ratios_divisor_of)] (a0 a1 : VV) (s : Store) : callN D rp fw (n + 1) 333 [a0, a1] s = endC s (evS D (callN D rp fw n) (rp (callN D rp fw n)) fw S_ratios_divisor_of [some a0, some a1] s) := callN_go hf.h rfl
theorem fl_ratios_divisor_of [hf : Is (D.fn 333 = some F_ratios_divisor_of)] (a0 a1 : VV) : fill D 333 [a0, a1] = [a0, a1] := by unfold fill; rw [hf.h]; rfl
theorem go_ratios_Ratio___init__ [hf : Is (D.fn 334 = some F_ratios_Ratio___init__)] (a0 a1 a2 : VV) (s : Store) : callN D rp fw (n + 1) 334 [a0, a1, a2] s = endC s (evS D (callN D rp fw n) (rp (callN D rp fw n)) fw S_ratios_Ratio___init__ [some a0, some a1, some a2, none] s) := callN_go hf.h rfl
theorem fl_ratios_Ratio___init__ [hf : Is (D.fn 334 = some F_ratios_Ratio___init__)] (a0 a1 a2 : VV) : fill D 334 [a0, a1, a2] = [a0, a1, a2] := by unfold fill; rw [hf.h]; rfl
theorem fl1_ratios_Ratio___init__ [hf : Is (D.fn 334 = some F_ratios_Ratio___init__)] [hd : Is (D.dfl 334 = [.int 1])] (a0 a1 : VV) : fill D 334 [a0, a1] = [a0, a1, .t (.int 1)] := by unfold fill; rw [hf.h, hd.h]; rfl
theorem go_ratios_Ratio___eq__ [hf : Is (D.fn 351 = some F_ratios_Ratio___eq__)] (a0 a1 : VV) (s : Store) : callN D rp fw (n + 1) 351 [a0, a1] s = endC s (evS D (callN D rp fw n) (rp (callN D rp fw n)) fw S_ratios_Ratio___eq__ [some a0, some a1] s) := callN_go hf.h rfl
theorem go_ratios_Ratio___repr__ [hf : Is (D.fn 353 = some F_ratios_Ratio___repr__)] (a0 : VV) (s : Store) : callN D rp fw (n + 1) 353 [a0] s = endC s (evS D (callN D rp fw n) (rp (callN D rp fw n)) fw S_ratios_Ratio___repr__ [some a0] s) := callN_go hf.h rfl
theorem go_ratios_is_number [hf : Is (D.fn 355 = some F_ratios_is_number)] (a0 : VV) (s : Store) : callN D rp fw (n + 1) 355 [a0] s = endC s (evS D (callN D rp fw n) (rp (callN D rp fw n)) fw S_ratios_is_number [some a0] s) := callN_go hf.h rfl
theorem fl_ratios_is_number [hf : Is (D.fn 355 = some F_ratios_is_number)] (a0 : VV) : fill D 355 [a0] = [a0] := by unfold fill; rw [hf.h]; rfl
theorem go_ratios_ratio_of [hf : Is (D.fn 356 = some F_ratios_ratio_of)] (a0 : VV) (s : Store) : callN D rp fw (n + 1) 356 [a0] s = endC s (evS D (callN D rp fw n) (rp (callN D rp fw n)) fw S_ratios_ratio_of [some a0] s) := callN_go hf.h rfl
theorem fl_ratios_ratio_of [hf : Is (D.fn 356 = some F_ratios_ratio_of)] (a0 : VV) : fill D 356 [a0] = [a0] := by unfold fill; rw [hf.h]; rfl
theorem go_solved_are_numbers [hf : Is (D.fn 420 = some F_solved_are_numbers)] (a0 a1 : VV) (s : Store) : callN D rp fw (n + 1) 420 [a0, a1] s = endC s (evS D (callN D rp fw n) (rp (callN D rp fw n)) fw S_solved_are_numbers [some a0, some a1, none] s) := callN_go hf.h rfl
theorem fl_solved_are_numbers [hf : Is (D.fn 420 = some F_solved_are_numbers)] (a0 a1 : VV) : fill D 420 [a0, a1] = [a0, a1] := by unfold fill; rw [hf.h]; rfl
theorem go_tables_table_in [hf : Is (D.fn 436 = some F_tables_table_in)] (a0 : VV) (s : Store) : callN D rp fw (n + 1) 436 [a0] s = endC s (evS D (callN D rp fw n) (rp (callN D rp fw n)) fw S_tables_table_in [some a0, none, none] s) := callN_go hf.h rfl
theorem fl_tables_table_in [hf : Is (D.fn 436 = some F_tables_table_in)] (a0 : VV) : fill D 436 [a0] = [a0] := by unfold fill; rw [hf.h]; rfl
theorem go_tables_short_of [hf : Is (D.fn 455 = some F_tables_short_of)] (a0 a1 : VV) (s : Store) : callN D rp fw (n + 1) 455 [a0, a1] s = endC s (evS D (callN D rp fw n) (rp (callN D rp fw n)) fw S_tables_short_of [some a0, some a1, none] s) := callN_go hf.h rfl
theorem fl_tables_short_of [hf : Is (D.fn 455 = some F_tables_short_of)] (a0 a1 : VV) : fill D 455 [a0, a1] = [a0, a1] := by unfold fill; rw [hf.h]; rfl
theorem go_tables_is_table [hf : Is (D.fn 458 = some F_tables_is_table)] (a0 : VV) (s : Store) : callN D rp fw (n + 1) 458 [a0] s = endC s (evS D (callN D rp fw n) (rp (callN D rp fw n)) fw S_tables_is_table [some a0] s) := callN_go hf.h rfl
theorem fl_tables_is_table [hf : Is (D.fn 458 = some F_tables_is_table)] (a0 : VV) : fill D 458 [a0] = [a0] := by unfold fill; rw [hf.h]; rfl
end
end Tw
namespace Tw
open PySem L2
def okT (D : Defs) (t : T) : Bool := match t with
  | .ty _ => false
  | .scr _ => false
  | .opq => false
  | .ins c _ => D.cls c
  | _ => true
theorem isiOk_of {D : Defs} {cs : List CR} {x : T} (h : okT D x = true) (hk : ∀ c ∈ cs, D.kit c x = true) : isiOk D.kit D.cls cs x = true := by
  unfold isiOk
  rw [Bool.and_eq_true]
  refine ⟨List.all_eq_true.mpr hk, ?_⟩
  unfold okT at h
  cases x <;> first | rfl | exact h
def isInt : T → Bool
  | .int _ => true
  | _ => false
def isSeq : T → Bool
  | .lst _ => true
  | .tup _ => true
  | _ => false
def isRat : T → Bool
  | .ins c _ => decide (c = 55)
  | _ => false
def isNum (x : T) : Bool := isInt x || isRat x
section
variable {D : Defs} {rp : CF → Store → T → Out Str} {fw n : Nat} {s : Store}
theorem is_integer_ok [Is (D.fn 31 = some F_basics_is_integer)] [Is (∀ t, okT D t = true → D.kit (.ty "int") t = true)] [Is (∀ t, okT D t = true → D.kit (.ty "bool") t = true)] {x : T} (hx : okT D x = true) : callN D rp fw (n + 1) 31 [.t x] s = .ok (.t (.bl (isInt x))) s := by
  rw [go_basics_is_integer]
  have h1 : isiOk D.kit D.cls [.ty "int"] x = true := isiOk_of hx (by simp only [List.mem_singleton, forall_eq]; exact (Is.h (p := ∀ t, okT D t = true → D.kit (.ty "int") t = true) _ hx))
  have h2 : isiOk D.kit D.cls [.ty "bool"] x = true := isiOk_of hx (by simp only [List.mem_singleton, forall_eq]; exact (Is.h (p := ∀ t, okT D t = true → D.kit (.ty "bool") t = true) _ hx))
  simp only [S_basics_is_integer, evS, ev, evs, evF, evI, put, putL, bindV, bind_ok, toFl_ok, seq_nx, seq_rt, putFl_ok, rd_t, emb_t, ofO_some, ofT_some, noex_ok, E.isOmit, List.map_cons, List.map_nil, List.replicate, List.cons_append, List.nil_append, List.length_cons, List.length_nil, List.set_cons_zero, List.set_cons_succ, List.getElem?_cons_zero, List.getElem?_cons_succ, Bool.false_eq_true, if_true, if_false, reduceIte, Nat.reduceAdd, Nat.reduceSub, Nat.reduceLT, Nat.reduceLeDiff, Nat.lt_irrefl, evT, bin_add, bin_sub, mthOk_ins, attV_ins, cmpP_lt, cmpP_le, cmpP_gt, cmpP_ge, cmp_lt, cmp_le, cmp_gt, cmp_ge, cmp_eqi, cmp_eqs, cmp_eqb, cmp_nei, cmp_nes, cmp_neb, cmp_isn, cmp_nin, cmp_isb, cmp_nib, tru_bl, tru_int, isNon_lst, isNon_non, item_l, item_t, blt_lenl, blt_lent, blt_lend, blt_all, blt_any, mapM_t1, mapM_t2, embLM_t0, embLM_t1, embLM_t2, embLM_t3, Option.bind_some, Option.map_some, Bool.not_true, Bool.not_false, endC_rt, endC_nx, decide_eq_true_eq, List.mapM_nil, h1, h2]
  cases x <;> simp [isiP, isInt, toFl_ok, bind_ok, emb_t, rd_t, ofO_some, ofT_some, endC, fin, seq_nx, seq_rt, tru, ofT, ofO]
theorem is_list_ok [Is (D.fn 33 = some F_basics_is_list)] [Is (∀ t, okT D t = true → D.kit (.ty "list") t = true)] [Is (∀ t, okT D t = true → D.kit (.ty "tuple") t = true)] {x : T} (hx : okT D x = true) : callN D rp fw (n + 1) 33 [.t x] s = .ok (.t (.bl (isSeq x))) s := by
  rw [go_basics_is_list]
  have h1 : isiOk D.kit D.cls [.ty "list", .ty "tuple"] x = true := isiOk_of hx (by
    intro c hc
    simp only [List.mem_cons, List.not_mem_nil, or_false] at hc
    rcases hc with rfl | rfl
    · exact (Is.h (p := ∀ t, okT D t = true → D.kit (.ty "list") t = true) _ hx)
    · exact (Is.h (p := ∀ t, okT D t = true → D.kit (.ty "tuple") t = true) _ hx))
  simp only [S_basics_is_list, evS, ev, evs, evF, evI, put, putL, bindV, bind_ok, toFl_ok, seq_nx, seq_rt, putFl_ok, rd_t, emb_t, ofO_some, ofT_some, noex_ok, E.isOmit, List.map_cons, List.map_nil, List.replicate, List.cons_append, List.nil_append, List.length_cons, List.length_nil, List.set_cons_zero, List.set_cons_succ, List.getElem?_cons_zero, List.getElem?_cons_succ, Bool.false_eq_true, if_true, if_false, reduceIte, Nat.reduceAdd, Nat.reduceSub, Nat.reduceLT, Nat.reduceLeDiff, Nat.lt_irrefl, evT, bin_add, bin_sub, mthOk_ins, attV_ins, cmpP_lt, cmpP_le, cmpP_gt, cmpP_ge, cmp_lt, cmp_le, cmp_gt, cmp_ge, cmp_eqi, cmp_eqs, cmp_eqb, cmp_nei, cmp_nes, cmp_neb, cmp_isn, cmp_nin, cmp_isb, cmp_nib, tru_bl, tru_int, isNon_lst, isNon_non, item_l, item_t, blt_lenl, blt_lent, blt_lend, blt_all, blt_any, mapM_t1, mapM_t2, embLM_t0, embLM_t1, embLM_t2, embLM_t3, Option.bind_some, Option.map_some, Bool.not_true, Bool.not_false, endC_rt, endC_nx, decide_eq_true_eq, List.mapM_nil, h1]
  cases x <;> simp [isiP, isSeq, toFl_ok, bind_ok, emb_t, rd_t, ofO_some, ofT_some, endC, fin, seq_nx, seq_rt, tru, ofT, ofO]
end
end Tw
namespace Tw
open PySem L2
def ratF (a b : Int) : List (Str × T) := [("own_top", .int a), ("own_bottom", .int b)]
def ratT (a b : Int) : T := .ins 55 (ratF a b)
def cmn (a b : Int) : Int := if b < 0 then 0 - (Nat.gcd a.natAbs b.natAbs : Int) else (Nat.gcd a.natAbs b.natAbs : Int)
def mkR (a b : Int) : T := ratT (a.fdiv (cmn a b)) (b.fdiv (cmn a b))
theorem app_get {s : Store} {c : Cell} : (s ++ [c])[s.length]? = some c := by simp
theorem app_set {s : Store} {c c' : Cell} : (s ++ [c]).set s.length c' = s ++ [c'] := by simp
theorem app_take {s : Store} {c : Cell} : (s ++ [c]).take s.length = s := by simp
theorem app_take1 {s : Store} {c : Cell} : (s ++ [c]).take (s.length + 1) = s ++ [c] := List.take_of_length_le (by simp)
theorem mkEnd_app {s : Store} {c : Cell} : mkEnd s.length (.t .non) (s ++ [c]) = .ok (.t c.tree) s := by
  unfold mkEnd finT
  rw [app_get, app_take]
theorem tb_ne : ¬ ((Str.ofString "own_top") = Str.ofString "own_bottom") := by decide
theorem cmn_ne {a b : Int} (h : b ≠ 0) : cmn a b ≠ 0 := by
  have : Nat.gcd a.natAbs b.natAbs ≠ 0 := fun z => by have := Nat.eq_zero_of_gcd_eq_zero_right z; omega
  unfold cmn
  split <;> omega
theorem cmn_abs {a b : Int} : (cmn a b).natAbs = Nat.gcd a.natAbs b.natAbs := by
  unfold cmn
  split <;> omega
theorem log2_mono {a b : Nat} (h : a ≤ b) : a.log2 ≤ b.log2 := by
  by_cases ha : a = 0
  · subst ha; simp
  · have hb : b ≠ 0 := by omega
    exact (Nat.le_log2 hb).mpr (Nat.le_trans (Nat.log2_self_le ha) h)
theorem cmn_log {a b : Int} (h : b ≠ 0) (h2 : b.natAbs.log2 < 9000) : (cmn a b).natAbs.log2 < 9000 := by
  rw [cmn_abs]
  exact Nat.lt_of_le_of_lt (log2_mono (Nat.le_of_dvd (by omega) (Nat.gcd_dvd_right _ _))) h2
section
variable {D : Defs} {rp : CF → Store → T → Out Str} {fw n : Nat} {s : Store}
theorem divisor_of_ok [Is (D.fn 333 = some F_ratios_divisor_of)] {a b : Int} : callN D rp fw (n + 1) 333 [.t (.int a), .t (.int b)] s = .ok (.t (.int ((Nat.gcd a.natAbs b.natAbs : Nat) : Int))) s := by
  rw [go_ratios_divisor_of]
  simp only [S_ratios_divisor_of, evS, ev, evs, evF, evI, put, putL, bindV, bind_ok, toFl_ok, seq_nx, seq_rt, putFl_ok, rd_t, emb_t, ofO_some, ofT_some, noex_ok, E.isOmit, List.map_cons, List.map_nil, List.replicate, List.cons_append, List.nil_append, List.length_cons, List.length_nil, List.set_cons_zero, List.set_cons_succ, List.getElem?_cons_zero, List.getElem?_cons_succ, Bool.false_eq_true, if_true, if_false, reduceIte, Nat.reduceAdd, Nat.reduceSub, Nat.reduceLT, Nat.reduceLeDiff, Nat.lt_irrefl, evT, bin_add, bin_sub, mthOk_ins, attV_ins, cmpP_lt, cmpP_le, cmpP_gt, cmpP_ge, cmp_lt, cmp_le, cmp_gt, cmp_ge, cmp_eqi, cmp_eqs, cmp_eqb, cmp_nei, cmp_nes, cmp_neb, cmp_isn, cmp_nin, cmp_isb, cmp_nib, tru_bl, tru_int, isNon_lst, isNon_non, item_l, item_t, blt_lenl, blt_lent, blt_lend, blt_all, blt_any, mapM_t1, mapM_t2, embLM_t0, embLM_t1, embLM_t2, embLM_t3, Option.bind_some, Option.map_some, Bool.not_true, Bool.not_false, endC_rt, endC_nx, decide_eq_true_eq, List.mapM_nil]
  simp [bltP, toFl_ok, bind_ok, emb_t, rd_t, ofO_some, ofT_some, endC, fin, seq_nx, seq_rt, tru, ofT, ofO]
theorem okI {i : Int} : okT D (.int i) = true := rfl
theorem ratio_init_ok [Is (D.fn 334 = some F_ratios_Ratio___init__)] [Is (D.fld 55 "own_top" = true)] [Is (D.fld 55 "own_bottom" = true)] [Is (D.dfl 334 = [.int 1])] [Is (D.fn 31 = some F_basics_is_integer)] [Is (∀ t, okT D t = true → D.kit (.ty "int") t = true)] [Is (∀ t, okT D t = true → D.kit (.ty "bool") t = true)] [Is (D.fn 333 = some F_ratios_divisor_of)] {a b : Int} (hb : b ≠ 0) (hl : b.natAbs.log2 < 9000) :
    callN D rp fw (n + 2) 334 [.c s.length, .t (.int a), .t (.int b)] (s ++ [.ins 55 []]) = .ok (.t .non) (s ++ [.ins 55 (ratF (a.fdiv (cmn a b)) (b.fdiv (cmn a b)))]) := by
  have h1 := cmn_ne (a := a) hb
  have h2 := cmn_log (a := a) hb hl
  rw [go_ratios_Ratio___init__]
  have hbf : (b = 0) = False := by simp [hb]
  by_cases hneg : b < 0
  · have e : (0 - (Nat.gcd a.natAbs b.natAbs : Int)) = cmn a b := by unfold cmn; rw [if_pos hneg]
    simp only [S_ratios_Ratio___init__, fl_basics_is_integer, fl_ratios_divisor_of, evS, ev, evs, evF, evI, put, putL, bindV, bind_ok, toFl_ok, seq_nx, seq_rt, putFl_ok, rd_t, emb_t, ofO_some, ofT_some, noex_ok, E.isOmit, List.map_cons, List.map_nil, List.replicate, List.cons_append, List.nil_append, List.length_cons, List.length_nil, List.set_cons_zero, List.set_cons_succ, List.getElem?_cons_zero, List.getElem?_cons_succ, Bool.false_eq_true, if_true, if_false, reduceIte, Nat.reduceAdd, Nat.reduceSub, Nat.reduceLT, Nat.reduceLeDiff, Nat.lt_irrefl, evT, bin_add, bin_sub, mthOk_ins, attV_ins, cmpP_lt, cmpP_le, cmpP_gt, cmpP_ge, cmp_lt, cmp_le, cmp_gt, cmp_ge, cmp_eqi, cmp_eqs, cmp_eqb, cmp_nei, cmp_nes, cmp_neb, cmp_isn, cmp_nin, cmp_isb, cmp_nib, tru_bl, tru_int, isNon_lst, isNon_non, item_l, item_t, blt_lenl, blt_lent, blt_lend, blt_all, blt_any, mapM_t1, mapM_t2, embLM_t0, embLM_t1, embLM_t2, embLM_t3, Option.bind_some, Option.map_some, Bool.not_true, Bool.not_false, endC_rt, endC_nx, decide_eq_true_eq, List.mapM_nil, is_integer_ok okI, divisor_of_ok, isInt, hbf, decide_false, hneg, e, bin_fdiv h1 h2, attTo, app_get, app_set, fld_55_own_top, fld_55_own_bottom, decide_true, Bool.and_self]
    simp [endC, fin, putT, ratF, tb_ne, app_take1]
  · have e : (Nat.gcd a.natAbs b.natAbs : Int) = cmn a b := by unfold cmn; rw [if_neg hneg]
    simp only [S_ratios_Ratio___init__, fl_basics_is_integer, fl_ratios_divisor_of, evS, ev, evs, evF, evI, put, putL, bindV, bind_ok, toFl_ok, seq_nx, seq_rt, putFl_ok, rd_t, emb_t, ofO_some, ofT_some, noex_ok, E.isOmit, List.map_cons, List.map_nil, List.replicate, List.cons_append, List.nil_append, List.length_cons, List.length_nil, List.set_cons_zero, List.set_cons_succ, List.getElem?_cons_zero, List.getElem?_cons_succ, Bool.false_eq_true, if_true, if_false, reduceIte, Nat.reduceAdd, Nat.reduceSub, Nat.reduceLT, Nat.reduceLeDiff, Nat.lt_irrefl, evT, bin_add, bin_sub, mthOk_ins, attV_ins, cmpP_lt, cmpP_le, cmpP_gt, cmpP_ge, cmp_lt, cmp_le, cmp_gt, cmp_ge, cmp_eqi, cmp_eqs, cmp_eqb, cmp_nei, cmp_nes, cmp_neb, cmp_isn, cmp_nin, cmp_isb, cmp_nib, tru_bl, tru_int, isNon_lst, isNon_non, item_l, item_t, blt_lenl, blt_lent, blt_lend, blt_all, blt_any, mapM_t1, mapM_t2, embLM_t0, embLM_t1, embLM_t2, embLM_t3, Option.bind_some, Option.map_some, Bool.not_true, Bool.not_false, endC_rt, endC_nx, decide_eq_true_eq, List.mapM_nil, is_integer_ok okI, divisor_of_ok, isInt, hbf, decide_false, hneg, e, bin_fdiv h1 h2, attTo, app_get, app_set, fld_55_own_top, fld_55_own_bottom, decide_true, Bool.and_self]
    simp [endC, fin, putT, ratF, tb_ne, app_take1]
theorem fdiv_one (a : Int) : a.fdiv 1 = a := by simp
theorem mkR_int (a : Int) : mkR a 1 = ratT a 1 := by
  unfold mkR cmn
  simp
theorem is_number_ok [Is (D.fn 355 = some F_ratios_is_number)] [Is (∀ t, okT D t = true → D.kit (.cl 55) t = true)] [Is (∀ d, D.sub d 55 = decide (d = 55))] [Is (D.cls 55 = true)] [Is (D.fn 31 = some F_basics_is_integer)] [Is (∀ t, okT D t = true → D.kit (.ty "int") t = true)] [Is (∀ t, okT D t = true → D.kit (.ty "bool") t = true)] {x : T} (hx : okT D x = true) : callN D rp fw (n + 2) 355 [.t x] s = .ok (.t (.bl (isNum x))) s := by
  have h1 : isiOk D.kit D.cls [.cl 55] x = true := isiOk_of hx (by simp only [List.mem_singleton, forall_eq]; exact (Is.h (p := ∀ t, okT D t = true → D.kit (.cl 55) t = true) _ hx))
  rw [go_ratios_is_number]
  simp only [S_ratios_is_number, fl_basics_is_integer, evS, ev, evs, evF, evI, put, putL, bindV, bind_ok, toFl_ok, seq_nx, seq_rt, putFl_ok, rd_t, emb_t, ofO_some, ofT_some, noex_ok, E.isOmit, List.map_cons, List.map_nil, List.replicate, List.cons_append, List.nil_append, List.length_cons, List.length_nil, List.set_cons_zero, List.set_cons_succ, List.getElem?_cons_zero, List.getElem?_cons_succ, Bool.false_eq_true, if_true, if_false, reduceIte, Nat.reduceAdd, Nat.reduceSub, Nat.reduceLT, Nat.reduceLeDiff, Nat.lt_irrefl, evT, bin_add, bin_sub, mthOk_ins, attV_ins, cmpP_lt, cmpP_le, cmpP_gt, cmpP_ge, cmp_lt, cmp_le, cmp_gt, cmp_ge, cmp_eqi, cmp_eqs, cmp_eqb, cmp_nei, cmp_nes, cmp_neb, cmp_isn, cmp_nin, cmp_isb, cmp_nib, tru_bl, tru_int, isNon_lst, isNon_non, item_l, item_t, blt_lenl, blt_lent, blt_lend, blt_all, blt_any, mapM_t1, mapM_t2, embLM_t0, embLM_t1, embLM_t2, embLM_t3, Option.bind_some, Option.map_some, Bool.not_true, Bool.not_false, endC_rt, endC_nx, decide_eq_true_eq, List.mapM_nil, is_integer_ok hx, h1]
  cases x <;> simp [isNum, isInt, isRat, isiP, sub_55, toFl_ok, bind_ok, emb_t, rd_t, ofO_some, ofT_some, endC, fin, seq_nx, seq_rt, tru, ofT, ofO]
def ratOf : T → T
  | .int i => ratT i 1
  | x => x
theorem ratio_of_ok [Is (D.fn 356 = some F_ratios_ratio_of)] [Is (∀ t, okT D t = true → D.kit (.cl 55) t = true)] [Is (∀ d, D.sub d 55 = decide (d = 55))] [Is (D.cls 55 = true)] [Is (D.ini 55 = some 334)] [Is (D.fn 334 = some F_ratios_Ratio___init__)] [Is (D.fld 55 "own_top" = true)] [Is (D.fld 55 "own_bottom" = true)] [Is (D.dfl 334 = [.int 1])] [Is (D.fn 31 = some F_basics_is_integer)] [Is (∀ t, okT D t = true → D.kit (.ty "int") t = true)] [Is (∀ t, okT D t = true → D.kit (.ty "bool") t = true)] [Is (D.fn 333 = some F_ratios_divisor_of)] {x : T} (hx : okT D x = true) (hn : isNum x = true) : callN D rp fw (n + 3) 356 [.t x] s = .ok (.t (ratOf x)) s := by
  have h1 : isiOk D.kit D.cls [.cl 55] x = true := isiOk_of hx (by simp only [List.mem_singleton, forall_eq]; exact (Is.h (p := ∀ t, okT D t = true → D.kit (.cl 55) t = true) _ hx))
  rw [go_ratios_ratio_of]
  cases x with
  | int i =>
    have h2 := ratio_init_ok (D := D) (rp := rp) (fw := fw) (n := n) (s := s) (a := i) (b := 1) (by omega) (by decide)
    simp only [S_ratios_ratio_of, fl_ratios_Ratio___init__, fl1_ratios_Ratio___init__, evS, ev, evs, evF, evI, put, putL, bindV, bind_ok, toFl_ok, seq_nx, seq_rt, putFl_ok, rd_t, emb_t, ofO_some, ofT_some, noex_ok, E.isOmit, List.map_cons, List.map_nil, List.replicate, List.cons_append, List.nil_append, List.length_cons, List.length_nil, List.set_cons_zero, List.set_cons_succ, List.getElem?_cons_zero, List.getElem?_cons_succ, Bool.false_eq_true, if_true, if_false, reduceIte, Nat.reduceAdd, Nat.reduceSub, Nat.reduceLT, Nat.reduceLeDiff, Nat.lt_irrefl, evT, bin_add, bin_sub, mthOk_ins, attV_ins, cmpP_lt, cmpP_le, cmpP_gt, cmpP_ge, cmp_lt, cmp_le, cmp_gt, cmp_ge, cmp_eqi, cmp_eqs, cmp_eqb, cmp_nei, cmp_nes, cmp_neb, cmp_isn, cmp_nin, cmp_isb, cmp_nib, tru_bl, tru_int, isNon_lst, isNon_non, item_l, item_t, blt_lenl, blt_lent, blt_lend, blt_all, blt_any, mapM_t1, mapM_t2, embLM_t0, embLM_t1, embLM_t2, embLM_t3, Option.bind_some, Option.map_some, Bool.not_true, Bool.not_false, endC_rt, endC_nx, decide_eq_true_eq, List.mapM_nil, h1, ini_55, h2, mkEnd_app, Cell.tree]
    have : mkR i 1 = ratT i 1 := mkR_int i
    unfold mkR ratT at this
    simp [ratOf, isiP, sub_55, toFl_ok, bind_ok, emb_t, rd_t, ofO_some, ofT_some, endC, fin, seq_nx, seq_rt, tru, ofT, ofO, h2, mkEnd_app, Cell.tree, ini_55, ratT, fl1_ratios_Ratio___init__, ev, evs]
    simpa using this
  | ins c fs =>
    have hc : c = 55 := by simpa [isNum, isInt, isRat] using hn
    subst hc
    simp only [S_ratios_ratio_of, fl_ratios_Ratio___init__, fl1_ratios_Ratio___init__, evS, ev, evs, evF, evI, put, putL, bindV, bind_ok, toFl_ok, seq_nx, seq_rt, putFl_ok, rd_t, emb_t, ofO_some, ofT_some, noex_ok, E.isOmit, List.map_cons, List.map_nil, List.replicate, List.cons_append, List.nil_append, List.length_cons, List.length_nil, List.set_cons_zero, List.set_cons_succ, List.getElem?_cons_zero, List.getElem?_cons_succ, Bool.false_eq_true, if_true, if_false, reduceIte, Nat.reduceAdd, Nat.reduceSub, Nat.reduceLT, Nat.reduceLeDiff, Nat.lt_irrefl, evT, bin_add, bin_sub, mthOk_ins, attV_ins, cmpP_lt, cmpP_le, cmpP_gt, cmpP_ge, cmp_lt, cmp_le, cmp_gt, cmp_ge, cmp_eqi, cmp_eqs, cmp_eqb, cmp_nei, cmp_nes, cmp_neb, cmp_isn, cmp_nin, cmp_isb, cmp_nib, tru_bl, tru_int, isNon_lst, isNon_non, item_l, item_t, blt_lenl, blt_lent, blt_lend, blt_all, blt_any, mapM_t1, mapM_t2, embLM_t0, embLM_t1, embLM_t2, embLM_t3, Option.bind_some, Option.map_some, Bool.not_true, Bool.not_false, endC_rt, endC_nx, decide_eq_true_eq, List.mapM_nil, h1]
    simp [ratOf, isiP, sub_55, toFl_ok, bind_ok, emb_t, rd_t, ofO_some, ofT_some, endC, fin, seq_nx, seq_rt, tru, ofT, ofO]
  | _ => cases hn
end
end Tw
namespace Tw
open PySem L2
def itms : T → List T
  | .lst xs => xs
  | .tup xs => xs
  | _ => []
def okN (D : Defs) : Nat → T → Prop
  | 0, x => okT D x = true
  | n + 1, x => okT D x = true ∧ (itms x).length ≤ sizeLine ∧ ∀ y ∈ itms x, okN D n y
theorem okN.t {D : Defs} : ∀ {n : Nat} {x : T}, okN D n x → okT D x = true
  | 0, _, h => h
  | _ + 1, _, h => h.1
theorem okN.down {D : Defs} : ∀ {n : Nat} {x : T}, okN D (n + 1) x → okN D n x
  | 0, _, h => h.1
  | n + 1, x, h => ⟨h.1, h.2.1, fun y hy => (h.2.2 y hy).down⟩
def isRow (x : T) (w : Int) : Bool := isSeq x && (decide (((itms x).length : Int) = w) && (itms x).all isNum)
def tblOk (x : T) : Bool := isSeq x && (decide (1 ≤ ((itms x).length : Int)) && decide (((itms x).length : Int) ≤ 4)) && (itms x).all fun r => isRow r (itms x).length
def toldT (x : T) : T := .lst ((itms x).map fun r => .lst ((itms r).map ratOf))
def tblIn (x : T) : T := if tblOk x then toldT x else .non
section
variable {D : Defs} {rp : CF → Store → T → Out Str} {fw n : Nat} {s : Store}
theorem seq_cases {x : T} (h : isSeq x = true) : ∃ xs, x = .lst xs ∨ x = .tup xs := by
  cases x <;> first | (cases h; done) | exact ⟨_, .inl rfl⟩ | exact ⟨_, .inr rfl⟩
theorem evI_seq {cf : CF} {rp : Store → T → Out Str} {e : E} {loc : Loc} {x : T} (hs : isSeq x = true) (h : ev D cf rp e loc s = .ok (.t x) s) : ∃ src, evI D cf rp (.iseq e) loc s = .ok src s ∧ Walks s src (itms x) := by
  obtain ⟨xs, rfl | rfl⟩ := seq_cases hs
  · exact ⟨.lst (.t (.lst xs)), by simp only [evI, h, bind_ok, rd_t], .tree⟩
  · exact ⟨.tup xs, by simp only [evI, h, bind_ok, rd_t], .tup⟩
theorem blt_len_seq {x : T} (hs : isSeq x = true) : bltP .len [x] = some (.int (itms x).length) := by
  obtain ⟨xs, rfl | rfl⟩ := seq_cases hs <;> rfl
theorem are_numbers_ok [Is (D.fn 420 = some F_solved_are_numbers)] [Is (D.fn 33 = some F_basics_is_list)] [Is (∀ t, okT D t = true → D.kit (.ty "list") t = true)] [Is (∀ t, okT D t = true → D.kit (.ty "tuple") t = true)] [Is (D.fn 355 = some F_ratios_is_number)] [Is (∀ t, okT D t = true → D.kit (.cl 55) t = true)] [Is (∀ d, D.sub d 55 = decide (d = 55))] [Is (D.cls 55 = true)] [Is (D.fn 31 = some F_basics_is_integer)] [Is (∀ t, okT D t = true → D.kit (.ty "int") t = true)] [Is (∀ t, okT D t = true → D.kit (.ty "bool") t = true)] {x : T} {w : Int} (hx : okN D 1 x) : callN D rp fw (n + 3) 420 [.t x, .t (.int w)] s = .ok (.t (.bl (isRow x w))) s := by
  rw [go_solved_are_numbers]
  cases hs : isSeq x with
  | false =>
    simp only [S_solved_are_numbers, fl_basics_is_list, fl_ratios_is_number, evS, ev, evs, evF, evI, put, putL, bindV, bind_ok, toFl_ok, seq_nx, seq_rt, putFl_ok, rd_t, emb_t, ofO_some, ofT_some, noex_ok, E.isOmit, List.map_cons, List.map_nil, List.replicate, List.cons_append, List.nil_append, List.length_cons, List.length_nil, List.set_cons_zero, List.set_cons_succ, List.getElem?_cons_zero, List.getElem?_cons_succ, Bool.false_eq_true, if_true, if_false, reduceIte, Nat.reduceAdd, Nat.reduceSub, Nat.reduceLT, Nat.reduceLeDiff, Nat.lt_irrefl, evT, bin_add, bin_sub, mthOk_ins, attV_ins, cmpP_lt, cmpP_le, cmpP_gt, cmpP_ge, cmp_lt, cmp_le, cmp_gt, cmp_ge, cmp_eqi, cmp_eqs, cmp_eqb, cmp_nei, cmp_nes, cmp_neb, cmp_isn, cmp_nin, cmp_isb, cmp_nib, tru_bl, tru_int, isNon_lst, isNon_non, item_l, item_t, blt_lenl, blt_lent, blt_lend, blt_all, blt_any, mapM_t1, mapM_t2, embLM_t0, embLM_t1, embLM_t2, embLM_t3, Option.bind_some, Option.map_some, Bool.not_true, Bool.not_false, endC_rt, endC_nx, decide_eq_true_eq, List.mapM_nil, is_list_ok hx.t, hs]
    simp [isRow, hs, toFl_ok, bind_ok, emb_t, rd_t, ofO_some, ofT_some, endC, fin, seq_nx, seq_rt, tru, ofT, ofO]
  | true =>
    by_cases hw : ((itms x).length : Int) = w
    · obtain ⟨src, h1, h2⟩ := evI_seq (s := s) (D := D) (cf := callN D rp fw (n + 2)) (rp := rp (callN D rp fw (n + 2))) (e := .var 0) (loc := [some (.t x), some (.t (.int w)), none]) hs (by simp only [evS, ev, evs, evF, evI, put, putL, bindV, bind_ok, toFl_ok, seq_nx, seq_rt, putFl_ok, rd_t, emb_t, ofO_some, ofT_some, noex_ok, E.isOmit, List.map_cons, List.map_nil, List.replicate, List.cons_append, List.nil_append, List.length_cons, List.length_nil, List.set_cons_zero, List.set_cons_succ, List.getElem?_cons_zero, List.getElem?_cons_succ, Bool.false_eq_true, if_true, if_false, reduceIte, Nat.reduceAdd, Nat.reduceSub, Nat.reduceLT, Nat.reduceLeDiff, Nat.lt_irrefl, evT, bin_add, bin_sub, mthOk_ins, attV_ins, cmpP_lt, cmpP_le, cmpP_gt, cmpP_ge, cmp_lt, cmp_le, cmp_gt, cmp_ge, cmp_eqi, cmp_eqs, cmp_eqb, cmp_nei, cmp_nes, cmp_neb, cmp_isn, cmp_nin, cmp_isb, cmp_nib, tru_bl, tru_int, isNon_lst, isNon_non, item_l, item_t, blt_lenl, blt_lent, blt_lend, blt_all, blt_any, mapM_t1, mapM_t2, embLM_t0, embLM_t1, embLM_t2, embLM_t3, Option.bind_some, Option.map_some, Bool.not_true, Bool.not_false, endC_rt, endC_nx, decide_eq_true_eq, List.mapM_nil])
      have hlc : ev D (callN D rp fw (n + 2)) (rp (callN D rp fw (n + 2))) LC_solved_are_numbers_0 [some (.t x), some (.t (.int w)), none] s = _ := ev_lc_map (fun y => .bl (isNum y)) h1 h2 hx.2.1 (fun y hy => ⟨[some (.t x), some (.t (.int w)), some (.t y)], by simp [bindG, wipeL], fun acc => by
        simp only [evS, ev, evs, evF, evI, put, putL, bindV, bind_ok, toFl_ok, seq_nx, seq_rt, putFl_ok, rd_t, emb_t, ofO_some, ofT_some, noex_ok, E.isOmit, List.map_cons, List.map_nil, List.replicate, List.cons_append, List.nil_append, List.length_cons, List.length_nil, List.set_cons_zero, List.set_cons_succ, List.getElem?_cons_zero, List.getElem?_cons_succ, Bool.false_eq_true, if_true, if_false, reduceIte, Nat.reduceAdd, Nat.reduceSub, Nat.reduceLT, Nat.reduceLeDiff, Nat.lt_irrefl, evT, bin_add, bin_sub, mthOk_ins, attV_ins, cmpP_lt, cmpP_le, cmpP_gt, cmpP_ge, cmp_lt, cmp_le, cmp_gt, cmp_ge, cmp_eqi, cmp_eqs, cmp_eqb, cmp_nei, cmp_nes, cmp_neb, cmp_isn, cmp_nin, cmp_isb, cmp_nib, tru_bl, tru_int, isNon_lst, isNon_non, item_l, item_t, blt_lenl, blt_lent, blt_lend, blt_all, blt_any, mapM_t1, mapM_t2, embLM_t0, embLM_t1, embLM_t2, embLM_t3, Option.bind_some, Option.map_some, Bool.not_true, Bool.not_false, endC_rt, endC_nx, decide_eq_true_eq, List.mapM_nil, fl_ratios_is_number, is_number_ok (hx.2.2 y hy)]⟩)
      simp only [S_solved_are_numbers, fl_basics_is_list, fl_ratios_is_number, evS, ev, evs, evF, evI, put, putL, bindV, bind_ok, toFl_ok, seq_nx, seq_rt, putFl_ok, rd_t, emb_t, ofO_some, ofT_some, noex_ok, E.isOmit, List.map_cons, List.map_nil, List.replicate, List.cons_append, List.nil_append, List.length_cons, List.length_nil, List.set_cons_zero, List.set_cons_succ, List.getElem?_cons_zero, List.getElem?_cons_succ, Bool.false_eq_true, if_true, if_false, reduceIte, Nat.reduceAdd, Nat.reduceSub, Nat.reduceLT, Nat.reduceLeDiff, Nat.lt_irrefl, evT, bin_add, bin_sub, mthOk_ins, attV_ins, cmpP_lt, cmpP_le, cmpP_gt, cmpP_ge, cmp_lt, cmp_le, cmp_gt, cmp_ge, cmp_eqi, cmp_eqs, cmp_eqb, cmp_nei, cmp_nes, cmp_neb, cmp_isn, cmp_nin, cmp_isb, cmp_nib, tru_bl, tru_int, isNon_lst, isNon_non, item_l, item_t, blt_lenl, blt_lent, blt_lend, blt_all, blt_any, mapM_t1, mapM_t2, embLM_t0, embLM_t1, embLM_t2, embLM_t3, Option.bind_some, Option.map_some, Bool.not_true, Bool.not_false, endC_rt, endC_nx, decide_eq_true_eq, List.mapM_nil, is_list_ok hx.t, hs, blt_len_seq hs, hw, decide_true, hlc]
      simp [bltP, all_map, isRow, hs, hw, toFl_ok, bind_ok, emb_t, rd_t, ofO_some, ofT_some, endC, fin, seq_nx, seq_rt, tru, ofT, ofO]
    · simp only [S_solved_are_numbers, fl_basics_is_list, fl_ratios_is_number, evS, ev, evs, evF, evI, put, putL, bindV, bind_ok, toFl_ok, seq_nx, seq_rt, putFl_ok, rd_t, emb_t, ofO_some, ofT_some, noex_ok, E.isOmit, List.map_cons, List.map_nil, List.replicate, List.cons_append, List.nil_append, List.length_cons, List.length_nil, List.set_cons_zero, List.set_cons_succ, List.getElem?_cons_zero, List.getElem?_cons_succ, Bool.false_eq_true, if_true, if_false, reduceIte, Nat.reduceAdd, Nat.reduceSub, Nat.reduceLT, Nat.reduceLeDiff, Nat.lt_irrefl, evT, bin_add, bin_sub, mthOk_ins, attV_ins, cmpP_lt, cmpP_le, cmpP_gt, cmpP_ge, cmp_lt, cmp_le, cmp_gt, cmp_ge, cmp_eqi, cmp_eqs, cmp_eqb, cmp_nei, cmp_nes, cmp_neb, cmp_isn, cmp_nin, cmp_isb, cmp_nib, tru_bl, tru_int, isNon_lst, isNon_non, item_l, item_t, blt_lenl, blt_lent, blt_lend, blt_all, blt_any, mapM_t1, mapM_t2, embLM_t0, embLM_t1, embLM_t2, embLM_t3, Option.bind_some, Option.map_some, Bool.not_true, Bool.not_false, endC_rt, endC_nx, decide_eq_true_eq, List.mapM_nil, is_list_ok hx.t, hs, blt_len_seq hs, hw, decide_false]
      simp [isRow, hs, hw, toFl_ok, bind_ok, emb_t, rd_t, ofO_some, ofT_some, endC, fin, seq_nx, seq_rt, tru, ofT, ofO]
theorem table_in_ok [Is (D.fn 436 = some F_tables_table_in)] [Is (D.fn 33 = some F_basics_is_list)] [Is (∀ t, okT D t = true → D.kit (.ty "list") t = true)] [Is (∀ t, okT D t = true → D.kit (.ty "tuple") t = true)] [Is (D.fn 420 = some F_solved_are_numbers)] [Is (D.fn 356 = some F_ratios_ratio_of)] [Is (∀ t, okT D t = true → D.kit (.cl 55) t = true)] [Is (∀ d, D.sub d 55 = decide (d = 55))] [Is (D.cls 55 = true)] [Is (D.ini 55 = some 334)] [Is (D.fn 355 = some F_ratios_is_number)] [Is (D.fn 334 = some F_ratios_Ratio___init__)] [Is (D.fld 55 "own_top" = true)] [Is (D.fld 55 "own_bottom" = true)] [Is (D.dfl 334 = [.int 1])] [Is (D.fn 31 = some F_basics_is_integer)] [Is (∀ t, okT D t = true → D.kit (.ty "int") t = true)] [Is (∀ t, okT D t = true → D.kit (.ty "bool") t = true)] [Is (D.fn 333 = some F_ratios_divisor_of)] {x : T} (hx : okN D 2 x) : callN D rp fw (n + 4) 436 [.t x] s = .ok (.t (tblIn x)) s := by
  rw [go_tables_table_in]
  cases hs : isSeq x with
  | false =>
    simp only [S_tables_table_in, fl_basics_is_list, fl_solved_are_numbers, fl_ratios_ratio_of, evS, ev, evs, evF, evI, put, putL, bindV, bind_ok, toFl_ok, seq_nx, seq_rt, putFl_ok, rd_t, emb_t, ofO_some, ofT_some, noex_ok, E.isOmit, List.map_cons, List.map_nil, List.replicate, List.cons_append, List.nil_append, List.length_cons, List.length_nil, List.set_cons_zero, List.set_cons_succ, List.getElem?_cons_zero, List.getElem?_cons_succ, Bool.false_eq_true, if_true, if_false, reduceIte, Nat.reduceAdd, Nat.reduceSub, Nat.reduceLT, Nat.reduceLeDiff, Nat.lt_irrefl, evT, bin_add, bin_sub, mthOk_ins, attV_ins, cmpP_lt, cmpP_le, cmpP_gt, cmpP_ge, cmp_lt, cmp_le, cmp_gt, cmp_ge, cmp_eqi, cmp_eqs, cmp_eqb, cmp_nei, cmp_nes, cmp_neb, cmp_isn, cmp_nin, cmp_isb, cmp_nib, tru_bl, tru_int, isNon_lst, isNon_non, item_l, item_t, blt_lenl, blt_lent, blt_lend, blt_all, blt_any, mapM_t1, mapM_t2, embLM_t0, embLM_t1, embLM_t2, embLM_t3, Option.bind_some, Option.map_some, Bool.not_true, Bool.not_false, endC_rt, endC_nx, decide_eq_true_eq, List.mapM_nil, is_list_ok hx.t, hs]
    simp [tblIn, tblOk, hs, toFl_ok, bind_ok, emb_t, rd_t, ofO_some, ofT_some, endC, fin, seq_nx, seq_rt, tru, ofT, ofO]
  | true =>
    by_cases h1 : 1 ≤ ((itms x).length : Int)
    · by_cases h4 : ((itms x).length : Int) ≤ 4
      · obtain ⟨src, e1, e2⟩ := evI_seq (s := s) (D := D) (cf := callN D rp fw (n + 3)) (rp := rp (callN D rp fw (n + 3))) (e := .var 0) (loc := [some (.t x), none, none]) hs (by simp only [evS, ev, evs, evF, evI, put, putL, bindV, bind_ok, toFl_ok, seq_nx, seq_rt, putFl_ok, rd_t, emb_t, ofO_some, ofT_some, noex_ok, E.isOmit, List.map_cons, List.map_nil, List.replicate, List.cons_append, List.nil_append, List.length_cons, List.length_nil, List.set_cons_zero, List.set_cons_succ, List.getElem?_cons_zero, List.getElem?_cons_succ, Bool.false_eq_true, if_true, if_false, reduceIte, Nat.reduceAdd, Nat.reduceSub, Nat.reduceLT, Nat.reduceLeDiff, Nat.lt_irrefl, evT, bin_add, bin_sub, mthOk_ins, attV_ins, cmpP_lt, cmpP_le, cmpP_gt, cmpP_ge, cmp_lt, cmp_le, cmp_gt, cmp_ge, cmp_eqi, cmp_eqs, cmp_eqb, cmp_nei, cmp_nes, cmp_neb, cmp_isn, cmp_nin, cmp_isb, cmp_nib, tru_bl, tru_int, isNon_lst, isNon_non, item_l, item_t, blt_lenl, blt_lent, blt_lend, blt_all, blt_any, mapM_t1, mapM_t2, embLM_t0, embLM_t1, embLM_t2, embLM_t3, Option.bind_some, Option.map_some, Bool.not_true, Bool.not_false, endC_rt, endC_nx, decide_eq_true_eq, List.mapM_nil])
        have l0 : ev D (callN D rp fw (n + 3)) (rp (callN D rp fw (n + 3))) LC_tables_table_in_0 [some (.t x), none, none] s = _ := ev_lc_map (fun y => .bl (isRow y (itms x).length)) e1 e2 hx.2.1 (fun y hy => ⟨[some (.t x), some (.t y), none], by simp [bindG, wipeL], fun acc => by
          simp only [evS, ev, evs, evF, evI, put, putL, bindV, bind_ok, toFl_ok, seq_nx, seq_rt, putFl_ok, rd_t, emb_t, ofO_some, ofT_some, noex_ok, E.isOmit, List.map_cons, List.map_nil, List.replicate, List.cons_append, List.nil_append, List.length_cons, List.length_nil, List.set_cons_zero, List.set_cons_succ, List.getElem?_cons_zero, List.getElem?_cons_succ, Bool.false_eq_true, if_true, if_false, reduceIte, Nat.reduceAdd, Nat.reduceSub, Nat.reduceLT, Nat.reduceLeDiff, Nat.lt_irrefl, evT, bin_add, bin_sub, mthOk_ins, attV_ins, cmpP_lt, cmpP_le, cmpP_gt, cmpP_ge, cmp_lt, cmp_le, cmp_gt, cmp_ge, cmp_eqi, cmp_eqs, cmp_eqb, cmp_nei, cmp_nes, cmp_neb, cmp_isn, cmp_nin, cmp_isb, cmp_nib, tru_bl, tru_int, isNon_lst, isNon_non, item_l, item_t, blt_lenl, blt_lent, blt_lend, blt_all, blt_any, mapM_t1, mapM_t2, embLM_t0, embLM_t1, embLM_t2, embLM_t3, Option.bind_some, Option.map_some, Bool.not_true, Bool.not_false, endC_rt, endC_nx, decide_eq_true_eq, List.mapM_nil, fl_solved_are_numbers, blt_len_seq hs, are_numbers_ok (hx.2.2 y hy)]⟩)
        cases ha : ((itms x).all fun r => isRow r (itms x).length) with
        | false =>
          simp only [S_tables_table_in, fl_basics_is_list, fl_solved_are_numbers, fl_ratios_ratio_of, evS, ev, evs, evF, evI, put, putL, bindV, bind_ok, toFl_ok, seq_nx, seq_rt, putFl_ok, rd_t, emb_t, ofO_some, ofT_some, noex_ok, E.isOmit, List.map_cons, List.map_nil, List.replicate, List.cons_append, List.nil_append, List.length_cons, List.length_nil, List.set_cons_zero, List.set_cons_succ, List.getElem?_cons_zero, List.getElem?_cons_succ, Bool.false_eq_true, if_true, if_false, reduceIte, Nat.reduceAdd, Nat.reduceSub, Nat.reduceLT, Nat.reduceLeDiff, Nat.lt_irrefl, evT, bin_add, bin_sub, mthOk_ins, attV_ins, cmpP_lt, cmpP_le, cmpP_gt, cmpP_ge, cmp_lt, cmp_le, cmp_gt, cmp_ge, cmp_eqi, cmp_eqs, cmp_eqb, cmp_nei, cmp_nes, cmp_neb, cmp_isn, cmp_nin, cmp_isb, cmp_nib, tru_bl, tru_int, isNon_lst, isNon_non, item_l, item_t, blt_lenl, blt_lent, blt_lend, blt_all, blt_any, mapM_t1, mapM_t2, embLM_t0, embLM_t1, embLM_t2, embLM_t3, Option.bind_some, Option.map_some, Bool.not_true, Bool.not_false, endC_rt, endC_nx, decide_eq_true_eq, List.mapM_nil, is_list_ok hx.t, hs, blt_len_seq hs, h1, h4, decide_true, l0, ha]
          simp [ tblIn, tblOk, hs, h1, h4, ha, toFl_ok, bind_ok, emb_t, rd_t, ofO_some, ofT_some, endC, fin, seq_nx, seq_rt, tru, ofT, ofO]
        | true =>
          have l2 : ev D (callN D rp fw (n + 3)) (rp (callN D rp fw (n + 3))) LC_tables_table_in_2 [some (.t x), none, none] s = _ := ev_lc_map (fun y => .lst ((itms y).map ratOf)) e1 e2 hx.2.1 (fun y hy => ⟨[some (.t x), some (.t y), none], by simp [bindG, wipeL], fun acc => by
            have hr := List.all_eq_true.mp ha y hy
            have hy1 := hx.2.2 y hy
            unfold isRow at hr
            simp only [Bool.and_eq_true] at hr
            obtain ⟨src, i1, i2⟩ := evI_seq (s := s ++ [.lst acc]) (D := D) (cf := callN D rp fw (n + 3)) (rp := rp (callN D rp fw (n + 3))) (e := .var 1) (loc := [some (.t x), some (.t y), none]) hr.1 (by simp only [evS, ev, evs, evF, evI, put, putL, bindV, bind_ok, toFl_ok, seq_nx, seq_rt, putFl_ok, rd_t, emb_t, ofO_some, ofT_some, noex_ok, E.isOmit, List.map_cons, List.map_nil, List.replicate, List.cons_append, List.nil_append, List.length_cons, List.length_nil, List.set_cons_zero, List.set_cons_succ, List.getElem?_cons_zero, List.getElem?_cons_succ, Bool.false_eq_true, if_true, if_false, reduceIte, Nat.reduceAdd, Nat.reduceSub, Nat.reduceLT, Nat.reduceLeDiff, Nat.lt_irrefl, evT, bin_add, bin_sub, mthOk_ins, attV_ins, cmpP_lt, cmpP_le, cmpP_gt, cmpP_ge, cmp_lt, cmp_le, cmp_gt, cmp_ge, cmp_eqi, cmp_eqs, cmp_eqb, cmp_nei, cmp_nes, cmp_neb, cmp_isn, cmp_nin, cmp_isb, cmp_nib, tru_bl, tru_int, isNon_lst, isNon_non, item_l, item_t, blt_lenl, blt_lent, blt_lend, blt_all, blt_any, mapM_t1, mapM_t2, embLM_t0, embLM_t1, embLM_t2, embLM_t3, Option.bind_some, Option.map_some, Bool.not_true, Bool.not_false, endC_rt, endC_nx, decide_eq_true_eq, List.mapM_nil])
            exact ev_lc_map (g := .gn 2) (own := [2]) ratOf i1 i2 hy1.2.1 (fun z hz => ⟨[some (.t x), some (.t y), some (.t z)], by simp [bindG, wipeL], fun acc => by
              simp only [evS, ev, evs, evF, evI, put, putL, bindV, bind_ok, toFl_ok, seq_nx, seq_rt, putFl_ok, rd_t, emb_t, ofO_some, ofT_some, noex_ok, E.isOmit, List.map_cons, List.map_nil, List.replicate, List.cons_append, List.nil_append, List.length_cons, List.length_nil, List.set_cons_zero, List.set_cons_succ, List.getElem?_cons_zero, List.getElem?_cons_succ, Bool.false_eq_true, if_true, if_false, reduceIte, Nat.reduceAdd, Nat.reduceSub, Nat.reduceLT, Nat.reduceLeDiff, Nat.lt_irrefl, evT, bin_add, bin_sub, mthOk_ins, attV_ins, cmpP_lt, cmpP_le, cmpP_gt, cmpP_ge, cmp_lt, cmp_le, cmp_gt, cmp_ge, cmp_eqi, cmp_eqs, cmp_eqb, cmp_nei, cmp_nes, cmp_neb, cmp_isn, cmp_nin, cmp_isb, cmp_nib, tru_bl, tru_int, isNon_lst, isNon_non, item_l, item_t, blt_lenl, blt_lent, blt_lend, blt_all, blt_any, mapM_t1, mapM_t2, embLM_t0, embLM_t1, embLM_t2, embLM_t3, Option.bind_some, Option.map_some, Bool.not_true, Bool.not_false, endC_rt, endC_nx, decide_eq_true_eq, List.mapM_nil, fl_ratios_ratio_of, ratio_of_ok (hy1.2.2 z hz) (List.all_eq_true.mp hr.2.2 z hz)]⟩)⟩)
          simp only [S_tables_table_in, fl_basics_is_list, fl_solved_are_numbers, fl_ratios_ratio_of, evS, ev, evs, evF, evI, put, putL, bindV, bind_ok, toFl_ok, seq_nx, seq_rt, putFl_ok, rd_t, emb_t, ofO_some, ofT_some, noex_ok, E.isOmit, List.map_cons, List.map_nil, List.replicate, List.cons_append, List.nil_append, List.length_cons, List.length_nil, List.set_cons_zero, List.set_cons_succ, List.getElem?_cons_zero, List.getElem?_cons_succ, Bool.false_eq_true, if_true, if_false, reduceIte, Nat.reduceAdd, Nat.reduceSub, Nat.reduceLT, Nat.reduceLeDiff, Nat.lt_irrefl, evT, bin_add, bin_sub, mthOk_ins, attV_ins, cmpP_lt, cmpP_le, cmpP_gt, cmpP_ge, cmp_lt, cmp_le, cmp_gt, cmp_ge, cmp_eqi, cmp_eqs, cmp_eqb, cmp_nei, cmp_nes, cmp_neb, cmp_isn, cmp_nin, cmp_isb, cmp_nib, tru_bl, tru_int, isNon_lst, isNon_non, item_l, item_t, blt_lenl, blt_lent, blt_lend, blt_all, blt_any, mapM_t1, mapM_t2, embLM_t0, embLM_t1, embLM_t2, embLM_t3, Option.bind_some, Option.map_some, Bool.not_true, Bool.not_false, endC_rt, endC_nx, decide_eq_true_eq, List.mapM_nil, is_list_ok hx.t, hs, blt_len_seq hs, h1, h4, decide_true, l0, l2, ha]
          simp [ tblIn, tblOk, toldT, hs, h1, h4, ha, toFl_ok, bind_ok, emb_t, rd_t, ofO_some, ofT_some, endC, fin, seq_nx, seq_rt, tru, ofT, ofO]
      · simp only [S_tables_table_in, fl_basics_is_list, fl_solved_are_numbers, fl_ratios_ratio_of, evS, ev, evs, evF, evI, put, putL, bindV, bind_ok, toFl_ok, seq_nx, seq_rt, putFl_ok, rd_t, emb_t, ofO_some, ofT_some, noex_ok, E.isOmit, List.map_cons, List.map_nil, List.replicate, List.cons_append, List.nil_append, List.length_cons, List.length_nil, List.set_cons_zero, List.set_cons_succ, List.getElem?_cons_zero, List.getElem?_cons_succ, Bool.false_eq_true, if_true, if_false, reduceIte, Nat.reduceAdd, Nat.reduceSub, Nat.reduceLT, Nat.reduceLeDiff, Nat.lt_irrefl, evT, bin_add, bin_sub, mthOk_ins, attV_ins, cmpP_lt, cmpP_le, cmpP_gt, cmpP_ge, cmp_lt, cmp_le, cmp_gt, cmp_ge, cmp_eqi, cmp_eqs, cmp_eqb, cmp_nei, cmp_nes, cmp_neb, cmp_isn, cmp_nin, cmp_isb, cmp_nib, tru_bl, tru_int, isNon_lst, isNon_non, item_l, item_t, blt_lenl, blt_lent, blt_lend, blt_all, blt_any, mapM_t1, mapM_t2, embLM_t0, embLM_t1, embLM_t2, embLM_t3, Option.bind_some, Option.map_some, Bool.not_true, Bool.not_false, endC_rt, endC_nx, decide_eq_true_eq, List.mapM_nil, is_list_ok hx.t, hs, blt_len_seq hs, h1, h4, decide_true, decide_false]
        simp [tblIn, tblOk, hs, h1, h4, toFl_ok, bind_ok, emb_t, rd_t, ofO_some, ofT_some, endC, fin, seq_nx, seq_rt, tru, ofT, ofO]
    · simp only [S_tables_table_in, fl_basics_is_list, fl_solved_are_numbers, fl_ratios_ratio_of, evS, ev, evs, evF, evI, put, putL, bindV, bind_ok, toFl_ok, seq_nx, seq_rt, putFl_ok, rd_t, emb_t, ofO_some, ofT_some, noex_ok, E.isOmit, List.map_cons, List.map_nil, List.replicate, List.cons_append, List.nil_append, List.length_cons, List.length_nil, List.set_cons_zero, List.set_cons_succ, List.getElem?_cons_zero, List.getElem?_cons_succ, Bool.false_eq_true, if_true, if_false, reduceIte, Nat.reduceAdd, Nat.reduceSub, Nat.reduceLT, Nat.reduceLeDiff, Nat.lt_irrefl, evT, bin_add, bin_sub, mthOk_ins, attV_ins, cmpP_lt, cmpP_le, cmpP_gt, cmpP_ge, cmp_lt, cmp_le, cmp_gt, cmp_ge, cmp_eqi, cmp_eqs, cmp_eqb, cmp_nei, cmp_nes, cmp_neb, cmp_isn, cmp_nin, cmp_isb, cmp_nib, tru_bl, tru_int, isNon_lst, isNon_non, item_l, item_t, blt_lenl, blt_lent, blt_lend, blt_all, blt_any, mapM_t1, mapM_t2, embLM_t0, embLM_t1, embLM_t2, embLM_t3, Option.bind_some, Option.map_some, Bool.not_true, Bool.not_false, endC_rt, endC_nx, decide_eq_true_eq, List.mapM_nil, is_list_ok hx.t, hs, blt_len_seq hs, h1, decide_false]
      simp [tblIn, tblOk, hs, h1, toFl_ok, bind_ok, emb_t, rd_t, ofO_some, ofT_some, endC, fin, seq_nx, seq_rt, tru, ofT, ofO]
theorem isNon_tblIn {x : T} : isNon (tblIn x) = !tblOk x := by
  unfold tblIn
  cases tblOk x <;> rfl
end
end Tw
namespace Tw
open PySem L2
section
variable {D : Defs} {rp : CF → Store → T → Out Str} {fw n : Nat} {s : Store}
end
end Tw
namespace Tw
open PySem L2
theorem sizeL : sizeLine = 16777216 := by decide
theorem sOf_len (x : String) : (Str.ofString x).length = x.length := PySem.ofString_length x
theorem sApp_len (x y : Str) : (x ++ y).length = x.length + y.length := PySem.strLen_append x y
def absI (i : Int) : Int := if 0 ≤ i then i else 0 - i
def sgnS (i : Int) : Str := if i < 0 then "-" else ""
def digS (i : Int) : Str := Str.empty ++ sgnS i ++ Str.ofString (toString (absI i)) ++ Str.ofString ""
def small (i : Int) : Prop := i.natAbs < 10 ^ 60
theorem absI_nat {i : Int} : (absI i).natAbs = i.natAbs := by unfold absI; split <;> omega
theorem small_log {i : Int} (h : small i) : i.natAbs.log2 < 1920 := by
  unfold small at h
  have : i.natAbs < 2 ^ 1920 := Nat.lt_of_lt_of_le h (by decide +kernel)
  by_cases h0 : i.natAbs = 0
  · rw [h0]; decide
  · exact (Nat.log2_lt h0).mpr this
theorem abs_len {i : Int} (h : small i) : (Str.ofString (toString (absI i))).length ≤ 61 := by
  rw [sOf_len]
  exact PySem.int_text_length_le10 (k := 60) (by decide) (by rw [absI_nat]; exact h)
theorem sgn_len {i : Int} : (sgnS i).length ≤ 1 := by unfold sgnS; split <;> decide
theorem digS_len {i : Int} (h : small i) : (digS i).length ≤ 62 := by
  have h1 := abs_len h
  have h2 := sgn_len (i := i)
  unfold digS
  rw [sApp_len, sApp_len, sApp_len]
  have e1 : (Str.empty).length = 0 := rfl
  have e2 : (Str.ofString "").length = 0 := by decide
  omega
theorem fmt_s {cf : CF} {D : Defs} {rp : Store → T → Out Str} {e : E} {loc : Loc} {s : Store} {x : Str} (h : ev D cf rp e loc s = .ok (.t (.str x)) s) (hl : x.length ≤ sizeLine) : ev D cf rp (.fmt e) loc s = .ok (.t (.str x)) s := by
  simp only [ev, h, bind_ok, rd_t, hl, if_true]
theorem fmt_i {cf : CF} {D : Defs} {rp : Store → T → Out Str} {e : E} {loc : Loc} {s : Store} {i : Int} (h : ev D cf rp e loc s = .ok (.t (.int i)) s) (hl : i.natAbs.log2 < 1920) : ev D cf rp (.fmt e) loc s = .ok (.t (.str (toString i))) s := by
  simp only [ev, h, bind_ok, rd_t, hl, if_true]
theorem evF_cons {cf : CF} {D : Defs} {rp : Store → T → Out Str} {e es : E} {loc : Loc} {s : Store} {x acc : Str} (h : ev D cf rp e loc s = .ok (.t (.str x)) s) (hl : (acc ++ x).length ≤ sizeLine) : evF D cf rp (.cons e es) loc s acc = evF D cf rp es loc s (acc ++ x) := by
  simp only [evF, h, bind_ok, rd_t, hl, if_true]
theorem loopW_done {cond : Loc → Store → Out Bool} {body : Loc → Store → Fl} {fw : Nat} {loc : Loc} {s : Store} (h : cond loc s = .ok false s) : loopW cond body (fw + 1) loc s = .nx loc s := by
  unfold loopW; rw [h]
section
variable {D : Defs} {rp : CF → Store → T → Out Str} {fw n : Nat} {s : Store}
theorem digits_of_ok [Is (D.fn 332 = some F_ratios_digits_of)] {i : Int} (h : small i) : callN D rp (fw + 1) (n + 1) 332 [.t (.int i)] s = .ok (.t (.str (digS i))) s := by
  rw [go_ratios_digits_of]
  have hl := sizeL
  have h1 := abs_len h
  have h2 := sgn_len (i := i)
  have h3 := small_log h
  have h4 : (absI i).natAbs.log2 < 1920 := by rw [absI_nat]; exact h3
  have hP : ¬ (1000000000000000000000000000000000000000000000000000000000000 : Int) ≤ absI i := by
    unfold small at h
    unfold absI
    split <;> omega
  have e1 : (Str.empty).length = 0 := rfl
  have e2 : (Str.ofString "").length = 0 := by decide
  have lw : ∀ loc : Loc, loc[1]? = some (some (.t (.int (absI i)))) → evS D (callN D rp (fw + 1) n) (rp (callN D rp (fw + 1) n)) (fw + 1) FS_ratios_digits_of_0 loc s = .nx loc s := fun loc hloc => by
    unfold FS_ratios_digits_of_0
    simp only [evS]
    refine loopW_done ?_
    unfold WC_ratios_digits_of_0
    simp only [evS, ev, evs, evF, evI, put, putL, bindV, bind_ok, toFl_ok, seq_nx, seq_rt, putFl_ok, rd_t, emb_t, ofO_some, ofT_some, noex_ok, E.isOmit, List.map_cons, List.map_nil, List.replicate, List.cons_append, List.nil_append, List.length_cons, List.length_nil, List.set_cons_zero, List.set_cons_succ, List.getElem?_cons_zero, List.getElem?_cons_succ, Bool.false_eq_true, if_true, if_false, reduceIte, Nat.reduceAdd, Nat.reduceSub, Nat.reduceLT, Nat.reduceLeDiff, Nat.lt_irrefl, evT, bin_add, bin_sub, mthOk_ins, attV_ins, cmpP_lt, cmpP_le, cmpP_gt, cmpP_ge, cmp_lt, cmp_le, cmp_gt, cmp_ge, cmp_eqi, cmp_eqs, cmp_eqb, cmp_nei, cmp_nes, cmp_neb, cmp_isn, cmp_nin, cmp_isb, cmp_nib, tru_bl, tru_int, isNon_lst, isNon_non, item_l, item_t, blt_lenl, blt_lent, blt_lend, blt_all, blt_any, mapM_t1, mapM_t2, embLM_t0, embLM_t1, embLM_t2, embLM_t3, Option.bind_some, Option.map_some, Bool.not_true, Bool.not_false, endC_rt, endC_nx, decide_eq_true_eq, List.mapM_nil, hloc, hP, decide_false]
  have fin : ∀ loc : Loc, loc[1]? = some (some (.t (.int (absI i)))) → loc[2]? = some (some (.t (.str (Str.ofString "")))) → loc[4]? = some (some (.t (.str (sgnS i)))) →
      evF D (callN D rp (fw + 1) n) (rp (callN D rp (fw + 1) n)) (.cons (.fmt (.var 4)) (.cons (.fmt (.var 1)) (.cons (.fmt (.var 2)) .nil))) loc s Str.empty = .ok (digS i) s := fun loc l1 l2 l4 => by
    rw [evF_cons (fmt_s (x := sgnS i) (by simp only [ev, l4]) (by omega)) (by rw [sApp_len]; omega)]
    rw [evF_cons (fmt_i (i := absI i) (by simp only [ev, l1]) h4) (by rw [sApp_len, sApp_len]; omega)]
    rw [evF_cons (fmt_s (x := Str.ofString "") (by simp only [ev, l2]) (by omega)) (by rw [sApp_len, sApp_len, sApp_len]; omega)]
    rfl
  by_cases h0 : (0 : Int) ≤ i
  · have hn : ¬ i < 0 := by omega
    have ea : absI i = i := by unfold absI; rw [if_pos h0]
    have es : sgnS i = Str.ofString "" := by unfold sgnS; rw [if_neg hn]
    rw [ea] at lw fin
    rw [es] at fin
    simp only [S_ratios_digits_of, evS, ev, evs, bindV, bind_ok, toFl_ok, seq_nx, seq_rt, rd_t, cmp_ge, cmp_lt, ofT_some, Option.map_some, tru_bl, Option.bind_some, h0, hn, decide_true, decide_false, List.getElem?_cons_zero, List.getElem?_cons_succ, List.length_cons, List.length_nil, List.set_cons_zero, List.set_cons_succ, Nat.reduceAdd, Nat.reduceLT, if_true, reduceIte, lw, put, putFl_ok, fin, emb_t, endC_rt, Bool.false_eq_true, if_false]
  · have hn : i < 0 := by omega
    have ea : absI i = 0 - i := by unfold absI; rw [if_neg h0]
    have es : sgnS i = Str.ofString "-" := by unfold sgnS; rw [if_pos hn]
    rw [ea] at lw fin
    rw [es] at fin
    simp only [S_ratios_digits_of, evS, ev, evs, bindV, bind_ok, toFl_ok, seq_nx, seq_rt, rd_t, cmp_ge, cmp_lt, ofT_some, Option.map_some, tru_bl, Option.bind_some, h0, hn, decide_true, decide_false, bin_sub, List.getElem?_cons_zero, List.getElem?_cons_succ, List.length_cons, List.length_nil, List.set_cons_zero, List.set_cons_succ, Nat.reduceAdd, Nat.reduceLT, if_true, reduceIte, lw, put, putFl_ok, fin, emb_t, endC_rt, Bool.false_eq_true, if_false]
def ratS (a b : Int) : Str := Str.empty ++ Str.ofString "Ratio(" ++ digS a ++ Str.ofString ", " ++ digS b ++ Str.ofString ")"
theorem ratS_len {a b : Int} (ha : small a) (hb : small b) : (ratS a b).length ≤ 140 := by
  have h1 := digS_len ha
  have h2 := digS_len hb
  unfold ratS
  rw [sApp_len, sApp_len, sApp_len, sApp_len, sApp_len]
  have e1 : (Str.empty).length = 0 := rfl
  have e2 : (Str.ofString "Ratio(").length = 6 := by decide
  have e3 : (Str.ofString ", ").length = 2 := by decide
  have e4 : (Str.ofString ")").length = 1 := by decide
  omega
theorem ratio_repr_ok [Is (D.fn 353 = some F_ratios_Ratio___repr__)] [Is (D.fld 55 "own_top" = true)] [Is (D.fld 55 "own_bottom" = true)] [Is (D.fn 332 = some F_ratios_digits_of)] {a b : Int} (ha : small a) (hb : small b) : callN D rp (fw + 1) (n + 2) 353 [.t (ratT a b)] s = .ok (.t (.str (ratS a b))) s := by
  rw [go_ratios_Ratio___repr__]
  have hl := sizeL
  have h1 := digS_len ha
  have h2 := digS_len hb
  have e1 : (Str.empty).length = 0 := rfl
  have e2 : (Str.ofString "Ratio(").length = 6 := by decide
  have e3 : (Str.ofString ", ").length = 2 := by decide
  have e4 : (Str.ofString ")").length = 1 := by decide
  have l1 : List.lookup (Str.ofString "own_top") (ratF a b) = some (.int a) := rfl
  have l2 : List.lookup (Str.ofString "own_bottom") (ratF a b) = some (.int b) := rfl
  simp only [S_ratios_Ratio___repr__, fl_ratios_digits_of, evS, ev]
  rw [evF_cons (x := Str.ofString "Ratio(") (by simp only [ev]) (by rw [sApp_len]; omega)]
  rw [evF_cons (x := digS a) (fmt_s (by simp only [ev, evs, bind_ok, rd_t, ratT, attV_ins, fld_55_own_top, l1, ofT_some, if_true, List.getElem?_cons_zero, fl_ratios_digits_of, digits_of_ok ha]) (by omega)) (by rw [sApp_len, sApp_len]; omega)]
  rw [evF_cons (x := Str.ofString ", ") (by simp only [ev]) (by rw [sApp_len, sApp_len, sApp_len]; omega)]
  rw [evF_cons (x := digS b) (fmt_s (by simp only [ev, evs, bind_ok, rd_t, ratT, attV_ins, fld_55_own_bottom, l2, ofT_some, if_true, List.getElem?_cons_zero, fl_ratios_digits_of, digits_of_ok hb]) (by omega)) (by rw [sApp_len, sApp_len, sApp_len, sApp_len]; omega)]
  rw [evF_cons (x := Str.ofString ")") (by simp only [ev]) (by rw [sApp_len, sApp_len, sApp_len, sApp_len, sApp_len]; omega)]
  simp only [evF, bind_ok, toFl_ok, emb_t, Bool.false_eq_true, if_false, endC_rt]
  rfl
end
theorem fit_of {z : Str} (h : z.length + 8 ≤ sizeLine) : fit z = some z := by unfold fit; rw [if_pos h]
def Rpr (D : Defs) (cf : CF) (s : Store) (d : Nat) (t : T) (m : Nat) : Prop := ∃ z : Str, reprT D cf s d t = some z ∧ z.length ≤ m
def RprL (D : Defs) (cf : CF) (s : Store) (d : Nat) (ts : List T) (m : Nat) : Prop := ∃ zs : List Str, reprTs D cf s d ts = some zs ∧ piled zs ≤ m
section
variable {D : Defs} {cf : CF} {s : Store} {d m : Nat}
theorem Rpr.mono {t : T} {m' : Nat} (h : Rpr D cf s d t m) (hm : m ≤ m') : Rpr D cf s d t m' := let ⟨z, h1, h2⟩ := h; ⟨z, h1, by omega⟩
theorem reprT_non : reprT D cf s d .non = some "None" := by cases d <;> (unfold reprT; rfl)
theorem reprT_bl {b : Bool} : reprT D cf s d (.bl b) = some (if b then Str.ofString "True" else Str.ofString "False") := by cases d <;> (unfold reprT; rfl)
theorem reprT_int {i : Int} : reprT D cf s d (.int i) = if i.natAbs.log2 < 1920 then some (Str.ofString (toString i)) else none := by cases d <;> (unfold reprT; rfl)
theorem reprT_str {x : Str} : reprT D cf s d (.str x) = fit (reprText x) := by cases d <;> (unfold reprT; rfl)
theorem rpr_non : Rpr D cf s d .non 5 := ⟨"None", reprT_non, by decide⟩
theorem rpr_bl {b : Bool} : Rpr D cf s d (.bl b) 5 := ⟨_, reprT_bl, by cases b <;> decide⟩
theorem rpr_str {x : Str} (h : (reprText x).length ≤ m) (hm : m + 8 ≤ sizeLine) : Rpr D cf s d (.str x) m := ⟨_, reprT_str.trans (fit_of (by omega)), h⟩
theorem rpr_int {i : Int} (h : small i) : Rpr D cf s d (.int i) 62 := by
  refine ⟨Str.ofString (toString i), ?_, ?_⟩
  · rw [reprT_int, if_pos (small_log h)]
  · rw [sOf_len]; have := PySem.int_text_length_le10 (a := i) (k := 60) (by decide) h; omega
theorem rpr_rat {a b : Int} (hr : D.rep 55 = some 353) (ha : small a) (hb : small b) (h : cf 353 [.t (ratT a b)] s = .ok (.t (.str (ratS a b))) s) : Rpr D cf s (d + 1) (ratT a b) 140 := by
  refine ⟨ratS a b, ?_, ratS_len ha hb⟩
  unfold ratT reprT
  rw [hr, Option.bind_some]
  unfold ownR
  unfold ratT at h
  rw [h]
  simp only [stq_rfl, if_true, Option.bind_some]
  exact fit_of (by have := ratS_len ha hb; have := sizeL; omega)
theorem rprL_cons {t : T} {ts : List T} {m' : Nat} (h : Rpr D cf s d t m) (h' : RprL D cf s d ts m') : RprL D cf s d (t :: ts) (m + 2 + m') := by
  obtain ⟨z, h1, h2⟩ := h
  obtain ⟨zs, h3, h4⟩ := h'
  refine ⟨z :: zs, ?_, ?_⟩
  · unfold reprTs; rw [h1, Option.bind_some, h3]; rfl
  · rw [piled_cons]; omega
theorem rprL_all {ts : List T} (h : ∀ t ∈ ts, Rpr D cf s d t m) : RprL D cf s d ts ((m + 2) * ts.length) := by
  induction ts with
  | nil => exact ⟨[], by unfold reprTs; rfl, by simp [piled]⟩
  | cons t ts ih =>
    have := rprL_cons (h t List.mem_cons_self) (ih fun x hx => h x (List.mem_cons_of_mem _ hx))
    obtain ⟨z, h1, h2⟩ := this
    exact ⟨z, h1, by rw [List.length_cons, Nat.mul_succ]; omega⟩
theorem listText_len : ∀ (zs : List Str), (listText zs).length ≤ piled zs + 2 := by
  intro zs
  have hX : (listText zs).length = (textFrom 0 "[" zs).length + 1 := by
    show (textFrom 0 "[" zs ++ "]").length = _
    rw [sApp_len]; rfl
  have key : ∀ (zs : List Str) (i : Nat) (acc : Str), (textFrom i acc zs).length ≤ acc.length + piled zs := by
    intro zs
    induction zs with
    | nil => intro i acc; simp [textFrom, piled]
    | cons z zs ih =>
      intro i acc
      rw [piled_cons]
      unfold textFrom
      refine Nat.le_trans (ih _ _) ?_
      have e1 : (Str.ofString ", ").length = 2 := by decide
      have e0 : (Str.ofString "").length = 0 := by decide
      split <;> (simp only [sApp_len]; omega)
  rw [hX]
  have := key zs 0 "["
  have e1 : (Str.ofString "[").length = 1 := by decide
  omega
theorem rpr_lst {ts : List T} (h : RprL D cf s d ts m) (hm : m + 10 ≤ sizeLine) : Rpr D cf s (d + 1) (.lst ts) (m + 2) := by
  obtain ⟨zs, h1, h2⟩ := h
  have := listText_len zs
  refine ⟨listText zs, ?_, by omega⟩
  unfold reprT
  rw [h1, Option.bind_some]
  exact fit_of (by omega)
theorem rpr_tup {ts : List T} (h : RprL D cf s d ts m) (hm : m + 20 ≤ sizeLine) : Rpr D cf s (d + 1) (.tup ts) (m + 4) := by
  obtain ⟨zs, h1, h2⟩ := h
  have key : (tupleText zs).length ≤ piled zs + 4 := by
    unfold tupleText
    have hj : (Str.join ", " zs).length ≤ piled zs := by
      by_cases hz : zs = []
      · subst hz; decide
      · have := join_length_add zs hz; omega
    rw [sApp_len, sApp_len]
    have e1 : (Str.ofString "(").length = 1 := by decide
    have e2 : ∀ b : Bool, (Str.ofString (if b = true then ",)" else ")")).length ≤ 2 := by intro b; cases b <;> decide
    have := e2 (zs.length == 1)
    omega
  refine ⟨tupleText zs, ?_, by omega⟩
  unfold reprT
  rw [h1, Option.bind_some]
  exact fit_of (by omega)
end
theorem kit_ty {p : Pg} {b : Bool} {n : String} (h : (p.bt.contains n && !(n == "object")) = true) : ∀ t, okT (p.D b) t = true → (p.D b).kit (.ty n) t = true := fun t ht => by
  show p.kitD (.ty n) t = true
  unfold Pg.kitD
  simp only [h, Bool.true_and]
  unfold okT at ht
  cases t <;> first | rfl | exact ht
theorem kit_cl {p : Pg} {b : Bool} {c : Nat} (h : (match p.ca c with | some i => i.exf.isNone | none => false) = true) : ∀ t, okT (p.D b) t = true → (p.D b).kit (.cl c) t = true := fun t ht => by
  show p.kitD (.cl c) t = true
  unfold Pg.kitD
  rw [Bool.and_eq_true]
  refine ⟨h, ?_⟩
  unfold okT at ht
  cases t <;> first | rfl | exact ht
theorem sub_of {p : Pg} {b : Bool} {c : Nat} (h : (p.cs.all fun i => (i.sup.contains c) == Nat.beq i.id c) = true) (h2 : (p.ca c).isSome = true) : ∀ d, (p.D b).sub d c = decide (d = c) := fun d => by
  show (match p.ca d with | some i => i.sup.contains c | none => false) = decide (d = c)
  cases e : p.ca d with
  | none =>
    have : d ≠ c := fun z => by subst z; rw [e] at h2; cases h2
    simp [this]
  | some i =>
    have z := List.all_eq_true.mp h i (Pg.ca_mem e)
    have e2 := Pg.ca_id e
    simp only
    rw [eq_of_beq z, e2]
    by_cases hd : d = c
    · subst hd; simp
    · rw [decide_eq_false hd]
      cases q : Nat.beq d c with
      | false => rfl
      | true => exact absurd (Nat.eq_of_beq_eq_true q) hd
end Tw
namespace Tw
open PySem L2
instance : Is ((PT.D true).fn 31 = some F_basics_is_integer) := ⟨rfl⟩
instance : Is ((PT.D true).fn 33 = some F_basics_is_list) := ⟨rfl⟩
instance : Is ((PT.D true).fn 159 = some F_errors_InvalidRow___init__) := ⟨rfl⟩
instance : Is ((PT.D true).fn 332 = some F_ratios_digits_of) := ⟨rfl⟩
instance : Is ((PT.D true).fn 333 = some F_ratios_divisor_of) := ⟨rfl⟩
instance : Is ((PT.D true).fn 334 = some F_ratios_Ratio___init__) := ⟨rfl⟩
instance : Is ((PT.D true).dfl 334 = [.int 1]) := ⟨rfl⟩
instance : Is ((PT.D true).fn 340 = some F_ratios_Ratio___add__) := ⟨rfl⟩
instance : Is ((PT.D true).fn 341 = some F_ratios_Ratio___radd__) := ⟨rfl⟩
instance : Is ((PT.D true).fn 342 = some F_ratios_Ratio___sub__) := ⟨rfl⟩
instance : Is ((PT.D true).fn 343 = some F_ratios_Ratio___rsub__) := ⟨rfl⟩
instance : Is ((PT.D true).fn 344 = some F_ratios_Ratio___mul__) := ⟨rfl⟩
instance : Is ((PT.D true).fn 345 = some F_ratios_Ratio___rmul__) := ⟨rfl⟩
instance : Is ((PT.D true).fn 346 = some F_ratios_Ratio___neg__) := ⟨rfl⟩
instance : Is ((PT.D true).fn 351 = some F_ratios_Ratio___eq__) := ⟨rfl⟩
instance : Is ((PT.D true).fn 353 = some F_ratios_Ratio___repr__) := ⟨rfl⟩
instance : Is ((PT.D true).fn 354 = some F_ratios_told_pair) := ⟨rfl⟩
instance : Is ((PT.D true).fn 355 = some F_ratios_is_number) := ⟨rfl⟩
instance : Is ((PT.D true).fn 356 = some F_ratios_ratio_of) := ⟨rfl⟩
instance : Is ((PT.D true).fn 420 = some F_solved_are_numbers) := ⟨rfl⟩
instance : Is ((PT.D true).fn 436 = some F_tables_table_in) := ⟨rfl⟩
instance : Is ((PT.D true).fn 455 = some F_tables_short_of) := ⟨rfl⟩
instance : Is ((PT.D true).fn 458 = some F_tables_is_table) := ⟨rfl⟩
instance : Is ((PT.D true).fn 469 = some F_tables_from_long_x) := ⟨rfl⟩
instance : Is ((PT.D true).fn 1001 = some F_L_pot) := ⟨rfl⟩
instance : Is ((PT.D true).fn 1002 = some F_L_draw) := ⟨rfl⟩
instance : Is ((PT.D true).fn 1003 = some F_L_pick) := ⟨rfl⟩
instance : Is ((PT.D true).fn 1004 = some F_L_low) := ⟨rfl⟩
instance : Is ((PT.D true).fn 1005 = some F_L_by) := ⟨rfl⟩
instance : Is ((PT.D true).fn 1006 = some F_L_passed) := ⟨rfl⟩
instance : Is ((PT.D true).fn 1007 = some F_L_given_row) := ⟨rfl⟩
instance : Is ((PT.D true).fn 1008 = some F_L_given) := ⟨rfl⟩
instance : Is ((PT.D true).fn 1009 = some F_L_entry) := ⟨rfl⟩
instance : Is ((PT.D true).fn 1010 = some F_L_row) := ⟨rfl⟩
instance : Is ((PT.D true).fn 1011 = some F_L_list) := ⟨rfl⟩
instance : Is ((PT.D true).fn 1012 = some F_L_table) := ⟨rfl⟩
instance : Is ((PT.D true).fn 1013 = some F_L_is_number) := ⟨rfl⟩
instance : Is ((PT.D true).fn 1014 = some F_L_is_row) := ⟨rfl⟩
instance : Is ((PT.D true).fn 1015 = some F_L_is_table) := ⟨rfl⟩
instance : Is ((PT.D true).fn 1016 = some F_L_is_long) := ⟨rfl⟩
instance : Is ((PT.D true).fn 1017 = some F_L_lets) := ⟨rfl⟩
instance : Is ((PT.D true).fn 1018 = some F_L_bent) := ⟨rfl⟩
instance : Is ((PT.D true).fn 1019 = some F_L_right) := ⟨rfl⟩
instance : Is ((PT.D true).fn 1020 = some F_L_law) := ⟨rfl⟩
instance : Is (∀ t, okT (PT.D true) t = true → (PT.D true).kit (.ty "bool") t = true) := ⟨kit_ty (by decide)⟩
instance : Is (∀ t, okT (PT.D true) t = true → (PT.D true).kit (.ty "int") t = true) := ⟨kit_ty (by decide)⟩
instance : Is (∀ t, okT (PT.D true) t = true → (PT.D true).kit (.ty "list") t = true) := ⟨kit_ty (by decide)⟩
instance : Is (∀ t, okT (PT.D true) t = true → (PT.D true).kit (.ty "tuple") t = true) := ⟨kit_ty (by decide)⟩
instance : Is (∀ t, okT (PT.D true) t = true → (PT.D true).kit (.cl 55) t = true) := ⟨kit_cl rfl⟩
instance : Is (∀ d, (PT.D true).sub d 55 = decide (d = 55)) := ⟨sub_of (by decide) rfl⟩
instance : Is ((PT.D true).cls 55 = true) := ⟨rfl⟩
instance : Is ((PT.D true).ini 55 = some 334) := ⟨rfl⟩
instance : Is ((PT.D true).rep 55 = some 353) := ⟨rfl⟩
instance : Is ((PT.D true).fld 55 "own_top" = true) := ⟨rfl⟩
instance : Is ((PT.D true).fld 55 "own_bottom" = true) := ⟨rfl⟩
instance : Is ((PT.D true).own 55 = true) := ⟨rfl⟩
instance : Is ((PT.D true).om 55 "__add__" = some 340) := ⟨rfl⟩
instance : Is ((PT.D true).om 55 "__radd__" = some 341) := ⟨rfl⟩
instance : Is ((PT.D true).om 55 "__sub__" = some 342) := ⟨rfl⟩
instance : Is ((PT.D true).om 55 "__rsub__" = some 343) := ⟨rfl⟩
instance : Is ((PT.D true).om 55 "__mul__" = some 344) := ⟨rfl⟩
instance : Is ((PT.D true).om 55 "__rmul__" = some 345) := ⟨rfl⟩
instance : Is ((PT.D true).om 55 "__neg__" = some 346) := ⟨rfl⟩
instance : Is ((PT.D true).om 55 "__eq__" = some 351) := ⟨rfl⟩
instance : Is ((PT.D false).fn 31 = some F_basics_is_integer) := ⟨rfl⟩
instance : Is ((PT.D false).fn 33 = some F_basics_is_list) := ⟨rfl⟩
instance : Is ((PT.D false).fn 159 = some F_errors_InvalidRow___init__) := ⟨rfl⟩
instance : Is ((PT.D false).fn 332 = some F_ratios_digits_of) := ⟨rfl⟩
instance : Is ((PT.D false).fn 333 = some F_ratios_divisor_of) := ⟨rfl⟩
instance : Is ((PT.D false).fn 334 = some F_ratios_Ratio___init__) := ⟨rfl⟩
instance : Is ((PT.D false).dfl 334 = [.int 1]) := ⟨rfl⟩
instance : Is ((PT.D false).fn 340 = some F_ratios_Ratio___add__) := ⟨rfl⟩
instance : Is ((PT.D false).fn 341 = some F_ratios_Ratio___radd__) := ⟨rfl⟩
instance : Is ((PT.D false).fn 342 = some F_ratios_Ratio___sub__) := ⟨rfl⟩
instance : Is ((PT.D false).fn 343 = some F_ratios_Ratio___rsub__) := ⟨rfl⟩
instance : Is ((PT.D false).fn 344 = some F_ratios_Ratio___mul__) := ⟨rfl⟩
instance : Is ((PT.D false).fn 345 = some F_ratios_Ratio___rmul__) := ⟨rfl⟩
instance : Is ((PT.D false).fn 346 = some F_ratios_Ratio___neg__) := ⟨rfl⟩
instance : Is ((PT.D false).fn 351 = some F_ratios_Ratio___eq__) := ⟨rfl⟩
instance : Is ((PT.D false).fn 353 = some F_ratios_Ratio___repr__) := ⟨rfl⟩
instance : Is ((PT.D false).fn 354 = some F_ratios_told_pair) := ⟨rfl⟩
instance : Is ((PT.D false).fn 355 = some F_ratios_is_number) := ⟨rfl⟩
instance : Is ((PT.D false).fn 356 = some F_ratios_ratio_of) := ⟨rfl⟩
instance : Is ((PT.D false).fn 420 = some F_solved_are_numbers) := ⟨rfl⟩
instance : Is ((PT.D false).fn 436 = some F_tables_table_in) := ⟨rfl⟩
instance : Is ((PT.D false).fn 455 = some F_tables_short_of) := ⟨rfl⟩
instance : Is ((PT.D false).fn 458 = some F_tables_is_table) := ⟨rfl⟩
instance : Is ((PT.D false).fn 469 = some F_tables_from_long_x) := ⟨rfl⟩
instance : Is ((PT.D false).fn 1001 = some F_L_pot) := ⟨rfl⟩
instance : Is ((PT.D false).fn 1002 = some F_L_draw) := ⟨rfl⟩
instance : Is ((PT.D false).fn 1003 = some F_L_pick) := ⟨rfl⟩
instance : Is ((PT.D false).fn 1004 = some F_L_low) := ⟨rfl⟩
instance : Is ((PT.D false).fn 1005 = some F_L_by) := ⟨rfl⟩
instance : Is ((PT.D false).fn 1006 = some F_L_passed) := ⟨rfl⟩
instance : Is ((PT.D false).fn 1007 = some F_L_given_row) := ⟨rfl⟩
instance : Is ((PT.D false).fn 1008 = some F_L_given) := ⟨rfl⟩
instance : Is ((PT.D false).fn 1009 = some F_L_entry) := ⟨rfl⟩
instance : Is ((PT.D false).fn 1010 = some F_L_row) := ⟨rfl⟩
instance : Is ((PT.D false).fn 1011 = some F_L_list) := ⟨rfl⟩
instance : Is ((PT.D false).fn 1012 = some F_L_table) := ⟨rfl⟩
instance : Is ((PT.D false).fn 1013 = some F_L_is_number) := ⟨rfl⟩
instance : Is ((PT.D false).fn 1014 = some F_L_is_row) := ⟨rfl⟩
instance : Is ((PT.D false).fn 1015 = some F_L_is_table) := ⟨rfl⟩
instance : Is ((PT.D false).fn 1016 = some F_L_is_long) := ⟨rfl⟩
instance : Is ((PT.D false).fn 1017 = some F_L_lets) := ⟨rfl⟩
instance : Is ((PT.D false).fn 1018 = some F_L_bent) := ⟨rfl⟩
instance : Is ((PT.D false).fn 1020 = some F_L_law) := ⟨rfl⟩
instance : Is (∀ t, okT (PT.D false) t = true → (PT.D false).kit (.ty "bool") t = true) := ⟨kit_ty (by decide)⟩
instance : Is (∀ t, okT (PT.D false) t = true → (PT.D false).kit (.ty "int") t = true) := ⟨kit_ty (by decide)⟩
instance : Is (∀ t, okT (PT.D false) t = true → (PT.D false).kit (.ty "list") t = true) := ⟨kit_ty (by decide)⟩
instance : Is (∀ t, okT (PT.D false) t = true → (PT.D false).kit (.ty "tuple") t = true) := ⟨kit_ty (by decide)⟩
instance : Is (∀ t, okT (PT.D false) t = true → (PT.D false).kit (.cl 55) t = true) := ⟨kit_cl rfl⟩
instance : Is (∀ d, (PT.D false).sub d 55 = decide (d = 55)) := ⟨sub_of (by decide) rfl⟩
instance : Is ((PT.D false).cls 55 = true) := ⟨rfl⟩
instance : Is ((PT.D false).ini 55 = some 334) := ⟨rfl⟩
instance : Is ((PT.D false).rep 55 = some 353) := ⟨rfl⟩
instance : Is ((PT.D false).fld 55 "own_top" = true) := ⟨rfl⟩
instance : Is ((PT.D false).fld 55 "own_bottom" = true) := ⟨rfl⟩
instance : Is ((PT.D false).own 55 = true) := ⟨rfl⟩
instance : Is ((PT.D false).om 55 "__add__" = some 340) := ⟨rfl⟩
instance : Is ((PT.D false).om 55 "__radd__" = some 341) := ⟨rfl⟩
instance : Is ((PT.D false).om 55 "__sub__" = some 342) := ⟨rfl⟩
instance : Is ((PT.D false).om 55 "__rsub__" = some 343) := ⟨rfl⟩
instance : Is ((PT.D false).om 55 "__mul__" = some 344) := ⟨rfl⟩
instance : Is ((PT.D false).om 55 "__rmul__" = some 345) := ⟨rfl⟩
instance : Is ((PT.D false).om 55 "__neg__" = some 346) := ⟨rfl⟩
instance : Is ((PT.D false).om 55 "__eq__" = some 351) := ⟨rfl⟩
section
variable {D : Defs} {rp : CF → Store → T → Out Str} {fw n : Nat}
theorem go_tables_from_long_x [hf : Is (D.fn 469 = some F_tables_from_long_x)] (a0 : VV) (s : Store) : callN D rp fw (n + 1) 469 [a0] s = endC s (evS D (callN D rp fw n) (rp (callN D rp fw n)) fw S_tables_from_long_x [some a0, none, none] s) := callN_go hf.h rfl
theorem fl_tables_from_long_x [hf : Is (D.fn 469 = some F_tables_from_long_x)] (a0 : VV) : fill D 469 [a0] = [a0] := by unfold fill; rw [hf.h]; rfl
theorem go_L_pot [hf : Is (D.fn 1001 = some F_L_pot)] (a0 a1 : VV) (s : Store) : callN D rp fw (n + 1) 1001 [a0, a1] s = endC s (evS D (callN D rp fw n) (rp (callN D rp fw n)) fw S_L_pot [some a0, some a1, none] s) := callN_go hf.h rfl
theorem fl_L_pot [hf : Is (D.fn 1001 = some F_L_pot)] (a0 a1 : VV) : fill D 1001 [a0, a1] = [a0, a1] := by unfold fill; rw [hf.h]; rfl
theorem go_L_draw [hf : Is (D.fn 1002 = some F_L_draw)] (a0 a1 : VV) (s : Store) : callN D rp fw (n + 1) 1002 [a0, a1] s = endC s (evS D (callN D rp fw n) (rp (callN D rp fw n)) fw S_L_draw [some a0, some a1, none] s) := callN_go hf.h rfl
theorem fl_L_draw [hf : Is (D.fn 1002 = some F_L_draw)] (a0 a1 : VV) : fill D 1002 [a0, a1] = [a0, a1] := by unfold fill; rw [hf.h]; rfl
theorem go_L_pick [hf : Is (D.fn 1003 = some F_L_pick)] (a0 a1 : VV) (s : Store) : callN D rp fw (n + 1) 1003 [a0, a1] s = endC s (evS D (callN D rp fw n) (rp (callN D rp fw n)) fw S_L_pick [some a0, some a1] s) := callN_go hf.h rfl
theorem fl_L_pick [hf : Is (D.fn 1003 = some F_L_pick)] (a0 a1 : VV) : fill D 1003 [a0, a1] = [a0, a1] := by unfold fill; rw [hf.h]; rfl
theorem go_L_low [hf : Is (D.fn 1004 = some F_L_low)] (a0 a1 : VV) (s : Store) : callN D rp fw (n + 1) 1004 [a0, a1] s = endC s (evS D (callN D rp fw n) (rp (callN D rp fw n)) fw S_L_low [some a0, some a1, none, none] s) := callN_go hf.h rfl
theorem fl_L_low [hf : Is (D.fn 1004 = some F_L_low)] (a0 a1 : VV) : fill D 1004 [a0, a1] = [a0, a1] := by unfold fill; rw [hf.h]; rfl
theorem go_L_by [hf : Is (D.fn 1005 = some F_L_by)] (a0 a1 : VV) (s : Store) : callN D rp fw (n + 1) 1005 [a0, a1] s = endC s (evS D (callN D rp fw n) (rp (callN D rp fw n)) fw S_L_by [some a0, some a1] s) := callN_go hf.h rfl
theorem fl_L_by [hf : Is (D.fn 1005 = some F_L_by)] (a0 a1 : VV) : fill D 1005 [a0, a1] = [a0, a1] := by unfold fill; rw [hf.h]; rfl
theorem go_L_passed [hf : Is (D.fn 1006 = some F_L_passed)] (a0 a1 : VV) (s : Store) : callN D rp fw (n + 1) 1006 [a0, a1] s = endC s (evS D (callN D rp fw n) (rp (callN D rp fw n)) fw S_L_passed [some a0, some a1, none] s) := callN_go hf.h rfl
theorem fl_L_passed [hf : Is (D.fn 1006 = some F_L_passed)] (a0 a1 : VV) : fill D 1006 [a0, a1] = [a0, a1] := by unfold fill; rw [hf.h]; rfl
theorem go_L_given_row [hf : Is (D.fn 1007 = some F_L_given_row)] (a0 a1 : VV) (s : Store) : callN D rp fw (n + 1) 1007 [a0, a1] s = endC s (evS D (callN D rp fw n) (rp (callN D rp fw n)) fw S_L_given_row [some a0, some a1, none, none] s) := callN_go hf.h rfl
theorem fl_L_given_row [hf : Is (D.fn 1007 = some F_L_given_row)] (a0 a1 : VV) : fill D 1007 [a0, a1] = [a0, a1] := by unfold fill; rw [hf.h]; rfl
theorem go_L_given [hf : Is (D.fn 1008 = some F_L_given)] (a0 a1 : VV) (s : Store) : callN D rp fw (n + 1) 1008 [a0, a1] s = endC s (evS D (callN D rp fw n) (rp (callN D rp fw n)) fw S_L_given [some a0, some a1, none, none] s) := callN_go hf.h rfl
theorem fl_L_given [hf : Is (D.fn 1008 = some F_L_given)] (a0 a1 : VV) : fill D 1008 [a0, a1] = [a0, a1] := by unfold fill; rw [hf.h]; rfl
theorem go_L_entry [hf : Is (D.fn 1009 = some F_L_entry)] (a0 : VV) (s : Store) : callN D rp fw (n + 1) 1009 [a0] s = endC s (evS D (callN D rp fw n) (rp (callN D rp fw n)) fw S_L_entry [some a0] s) := callN_go hf.h rfl
theorem fl_L_entry [hf : Is (D.fn 1009 = some F_L_entry)] (a0 : VV) : fill D 1009 [a0] = [a0] := by unfold fill; rw [hf.h]; rfl
theorem go_L_row [hf : Is (D.fn 1010 = some F_L_row)] (a0 a1 : VV) (s : Store) : callN D rp fw (n + 1) 1010 [a0, a1] s = endC s (evS D (callN D rp fw n) (rp (callN D rp fw n)) fw S_L_row [some a0, some a1, none] s) := callN_go hf.h rfl
theorem fl_L_row [hf : Is (D.fn 1010 = some F_L_row)] (a0 a1 : VV) : fill D 1010 [a0, a1] = [a0, a1] := by unfold fill; rw [hf.h]; rfl
theorem go_L_list [hf : Is (D.fn 1011 = some F_L_list)] (a0 a1 a2 : VV) (s : Store) : callN D rp fw (n + 1) 1011 [a0, a1, a2] s = endC s (evS D (callN D rp fw n) (rp (callN D rp fw n)) fw S_L_list [some a0, some a1, some a2, none, none] s) := callN_go hf.h rfl
theorem fl_L_list [hf : Is (D.fn 1011 = some F_L_list)] (a0 a1 a2 : VV) : fill D 1011 [a0, a1, a2] = [a0, a1, a2] := by unfold fill; rw [hf.h]; rfl
theorem go_L_table [hf : Is (D.fn 1012 = some F_L_table)] (a0 a1 : VV) (s : Store) : callN D rp fw (n + 1) 1012 [a0, a1] s = endC s (evS D (callN D rp fw n) (rp (callN D rp fw n)) fw S_L_table [some a0, some a1, none, none, none, none, none] s) := callN_go hf.h rfl
theorem fl_L_table [hf : Is (D.fn 1012 = some F_L_table)] (a0 a1 : VV) : fill D 1012 [a0, a1] = [a0, a1] := by unfold fill; rw [hf.h]; rfl
theorem go_L_is_number [hf : Is (D.fn 1013 = some F_L_is_number)] (a0 : VV) (s : Store) : callN D rp fw (n + 1) 1013 [a0] s = endC s (evS D (callN D rp fw n) (rp (callN D rp fw n)) fw S_L_is_number [some a0] s) := callN_go hf.h rfl
theorem fl_L_is_number [hf : Is (D.fn 1013 = some F_L_is_number)] (a0 : VV) : fill D 1013 [a0] = [a0] := by unfold fill; rw [hf.h]; rfl
theorem go_L_is_row [hf : Is (D.fn 1014 = some F_L_is_row)] (a0 a1 : VV) (s : Store) : callN D rp fw (n + 1) 1014 [a0, a1] s = endC s (evS D (callN D rp fw n) (rp (callN D rp fw n)) fw S_L_is_row [some a0, some a1, none] s) := callN_go hf.h rfl
theorem fl_L_is_row [hf : Is (D.fn 1014 = some F_L_is_row)] (a0 a1 : VV) : fill D 1014 [a0, a1] = [a0, a1] := by unfold fill; rw [hf.h]; rfl
theorem go_L_is_table [hf : Is (D.fn 1015 = some F_L_is_table)] (a0 : VV) (s : Store) : callN D rp fw (n + 1) 1015 [a0] s = endC s (evS D (callN D rp fw n) (rp (callN D rp fw n)) fw S_L_is_table [some a0, none] s) := callN_go hf.h rfl
theorem fl_L_is_table [hf : Is (D.fn 1015 = some F_L_is_table)] (a0 : VV) : fill D 1015 [a0] = [a0] := by unfold fill; rw [hf.h]; rfl
theorem go_L_is_long [hf : Is (D.fn 1016 = some F_L_is_long)] (a0 : VV) (s : Store) : callN D rp fw (n + 1) 1016 [a0] s = endC s (evS D (callN D rp fw n) (rp (callN D rp fw n)) fw S_L_is_long [some a0, none] s) := callN_go hf.h rfl
theorem fl_L_is_long [hf : Is (D.fn 1016 = some F_L_is_long)] (a0 : VV) : fill D 1016 [a0] = [a0] := by unfold fill; rw [hf.h]; rfl
theorem go_L_lets [hf : Is (D.fn 1017 = some F_L_lets)] (a0 : VV) (s : Store) : callN D rp fw (n + 1) 1017 [a0] s = endC s (evS D (callN D rp fw n) (rp (callN D rp fw n)) fw S_L_lets [some a0, none] s) := callN_go hf.h rfl
theorem fl_L_lets [hf : Is (D.fn 1017 = some F_L_lets)] (a0 : VV) : fill D 1017 [a0] = [a0] := by unfold fill; rw [hf.h]; rfl
theorem go_L_bent [hf : Is (D.fn 1018 = some F_L_bent)] (a0 a1 : VV) (s : Store) : callN D rp fw (n + 1) 1018 [a0, a1] s = endC s (evS D (callN D rp fw n) (rp (callN D rp fw n)) fw S_L_bent [some a0, some a1, none, none, none, none, none, none] s) := callN_go hf.h rfl
theorem fl_L_bent [hf : Is (D.fn 1018 = some F_L_bent)] (a0 a1 : VV) : fill D 1018 [a0, a1] = [a0, a1] := by unfold fill; rw [hf.h]; rfl
theorem go_L_right [hf : Is (D.fn 1019 = some F_L_right)] (a0 : VV) (s : Store) : callN D rp fw (n + 1) 1019 [a0] s = endC s (evS D (callN D rp fw n) (rp (callN D rp fw n)) fw S_L_right [some a0, none, none, none, none, none, none] s) := callN_go hf.h rfl
theorem fl_L_right [hf : Is (D.fn 1019 = some F_L_right)] (a0 : VV) : fill D 1019 [a0] = [a0] := by unfold fill; rw [hf.h]; rfl
theorem go_L_law [hf : Is (D.fn 1020 = some F_L_law)] (a0 : VV) (s : Store) : callN D rp fw (n + 1) 1020 [a0] s = endC s (evS D (callN D rp fw n) (rp (callN D rp fw n)) fw S_L_law [some a0] s) := callN_go hf.h rfl
end
end Tw
namespace Tw
open PySem L2
abbrev potC (a b : Int) : Cell := .lst [.int a, .int b]
def PotAt (s : Store) (k : Nat) : Prop := ∃ a b, s[k]? = some (potC a b)
theorem PotAt.lt {s : Store} {k : Nat} (h : PotAt s k) : k < s.length := by
  obtain ⟨a, b, h⟩ := h
  exact (List.getElem?_eq_some_iff.mp h).1
theorem PotAt.set {s : Store} {k : Nat} {a b : Int} (h : k < s.length) : PotAt (s.set k (potC a b)) k := ⟨a, b, by rw [List.getElem?_set_self h]⟩
theorem PotAt.app {s j : Store} {k : Nat} (h : PotAt s k) : PotAt (s ++ j) k := by
  have hl := h.lt
  obtain ⟨a, b, h⟩ := h
  exact ⟨a, b, by rw [List.getElem?_append_left hl]; exact h⟩
theorem PotAt.put {s : Store} {k i : Nat} {c : Cell} (h : PotAt s k) (hi : i ≠ k) : PotAt (s.set i c) k := by
  obtain ⟨a, b, h⟩ := h
  exact ⟨a, b, by rw [List.getElem?_set_ne hi]; exact h⟩
theorem set_take {s : Store} {k : Nat} {c : Cell} : (s.set k c).take s.length = s.set k c := List.take_of_length_le (by simp)
theorem app_set1 {X j : Store} {k : Nat} {c : Cell} (h : k < X.length) : (X ++ j).set k c = X.set k c ++ j := List.set_append_left _ _ h
theorem app_get1 {X j : Store} {k : Nat} (h : k < X.length) : (X ++ j)[k]? = X[k]? := List.getElem?_append_left h
theorem mulOk_r {i j : Int} (h : j.natAbs.log2 < 60) : mulOk i j = true := by unfold mulOk; simp [h]
theorem log_lt {i : Int} (h0 : 0 ≤ i) (h : i < 2 ^ 59) : i.natAbs.log2 < 60 := by
  by_cases hz : i.natAbs = 0
  · rw [hz]; decide
  · exact (Nat.log2_lt hz).mpr (by omega)
theorem fmod_nn {i m : Int} (h : 0 < m) : 0 ≤ i.fmod m := Int.fmod_nonneg_of_pos _ h
theorem fmod_lt {i m : Int} (h : 0 < m) : i.fmod m < m := Int.fmod_lt_of_pos _ h
theorem ixN_0 {n : Nat} (h : 0 < n) : ixN n 0 = some 0 := by unfold ixN; simp; omega
theorem ixN_1 {n : Nat} (h : 1 < n) : ixN n 1 = some 1 := by unfold ixN; simp; omega
theorem blt_int {i : Int} : bltP .int [.int i] = some (.int i) := rfl
theorem blt_dm {i j : Int} (h : 0 < j) (h2 : j < 1073741824) : bltP .divmod [.int i, .int j] = some (.tup [.int (i / j), .int (i % j)]) := by simp [bltP, h, h2]
def Draws (cf : CF) (f : Nat) : Prop := ∀ (s : Store) (k : Nat) (m : Int), PotAt s k → 0 < m → m < 1073741824 → ∃ d a b, 0 ≤ d ∧ d < m ∧ cf f [.c k, .t (.int m)] s = .ok (.t (.int d)) (s.set k (potC a b))
def Picks (cf : CF) (f : Nat) : Prop := ∀ (s : Store) (k : Nat) (xs : List T), PotAt s k → 0 < xs.length → xs.length < 1073741824 → ∃ x a b, x ∈ xs ∧ cf f [.c k, .t (.lst xs)] s = .ok (.t x) (s.set k (potC a b))
theorem mem_at {xs : List T} {d : Int} (h0 : 0 ≤ d) (h : d < xs.length) : ∃ x, x ∈ xs ∧ atI xs d = some x := by
  obtain ⟨j, rfl⟩ : ∃ j : Nat, d = (j : Int) := ⟨d.toNat, by omega⟩
  have hl : j < xs.length := by omega
  exact ⟨xs[j], List.getElem_mem hl, atI_nat (List.getElem?_eq_getElem hl)⟩
theorem loopC_gen {src : Src} {g : E} {cond : Loc → Store → Out Bool} {elt : Loc → Store → Out VV} {lw : Loc} {n0 : Nat} {xs : List T} (Inv : Nat → List T → Store → Prop)
    (hz : xs.length ≤ sizeLine) (hacc : ∀ i acc s, Inv i acc s → acc.length ≤ i)
    (hat : ∀ i acc s, Inv i acc s → src.at s i = some xs[i]?)
    (step : ∀ i x acc s, xs[i]? = some x → Inv i acc s → ∃ l1, bindG g x lw = some l1 ∧ ((∃ s1, cond l1 s = .ok false s1 ∧ Inv (i + 1) acc s1) ∨
      ∃ s1 y s2 t s3, cond l1 s = .ok true s1 ∧ elt l1 s1 = .ok y s2 ∧ emb s2 y = some (t, s3) ∧ s3[n0]? = some (.lst acc) ∧ Inv (i + 1) (acc ++ [t]) (s3.set n0 (.lst (acc ++ [t]))))) :
    ∀ m i acc s, xs.length - i < m → i ≤ xs.length → Inv i acc s → ∃ acc' s', loopC src g cond elt lw n0 m i s = .ok () s' ∧ Inv xs.length acc' s'
  | 0, i, acc, s, hm, _, _ => by omega
  | m + 1, i, acc, s, hm, hi, I => by
    unfold loopC
    rw [hat i acc s I]
    cases hx : xs[i]? with
    | none =>
      have : i = xs.length := by have := List.getElem?_eq_none_iff.mp hx; omega
      subst this
      exact ⟨acc, s, rfl, I⟩
    | some x =>
      have hlt := (List.getElem?_eq_some_iff.mp hx).1
      obtain ⟨l1, hb, hh⟩ := step i x acc s hx I
      simp only [hb]
      rcases hh with ⟨s1, h1, I1⟩ | ⟨s1, y, s2, t, s3, h1, h2, h3, h4, I3⟩
      · simp only [h1]
        exact loopC_gen Inv hz hacc hat step m (i + 1) acc s1 (by omega) (by omega) I1
      · simp only [h1, h2, h3, h4]
        have : acc.length < sizeLine := by have := hacc _ _ _ I; omega
        rw [if_pos this]
        exact loopC_gen Inv hz hacc hat step m (i + 1) (acc ++ [t]) _ (by omega) (by omega) I3
theorem ev_lc_gen {D : Defs} {cf : CF} {rp : Store → T → Out Str} {loc : Loc} {s : Store} {own : List Nat} {g it c e : E} {src : Src} {s1 s2 : Store} {ys : List T} (h1 : evI D cf rp it loc s = .ok src s1)
    (h2 : loopC src g (fun l s => if c.isOmit then .ok true s else (ev D cf rp c l s).bind fun y s1 => ofO s1 ((rd s1 y).bind tru)) (ev D cf rp e) (wipeL loc own) s1.length (src.most s1) 0 (s1 ++ [.lst []]) = .ok () s2) (hl : s2[s1.length]? = some (.lst ys)) :
    ev D cf rp (.lc false own g it c e) loc s = .ok (.t (.lst ys)) (s2.take s1.length) := by
  unfold ev
  rw [h1, bind_ok, h2, bind_ok]
  unfold lcEnd
  simp [hl, Cell.tree]
theorem mulOk_l {i j : Int} (h : i.natAbs.log2 < 60) : mulOk i j = true := by unfold mulOk; simp [h]
theorem bin_pow {D : Defs} {cf : CF} {s : Store} {i j : Int} (h1 : 0 ≤ j) (h2 : j ≤ 1000000) (h3 : i.natAbs < 2 ^ 64) : binV D cf .Pow (.t (.int i)) (.t (.int j)) s = .ok (.t (.int (i ^ j.toNat))) s := by simp [binV, rd, binP, h1, h2, h3]
theorem blt_max {i j : Int} : bltP .max [.int i, .int j] = some (.int (if j > i then j else i)) := rfl
theorem blt_abs {i : Int} : bltP .abs [.int i] = some (.int (if i < 0 then -i else i)) := rfl
theorem blt_lens {ns : List Int} : bltP .len [.scr ns] = some (.int ns.length) := rfl
theorem item_s {ns : List Int} {i : Int} : itemP (.scr ns) (.int i) = (atI ns i).map T.int := rfl
theorem endC_rtc {s : Store} {c : Cell} (h : ∀ x, c ≠ .frz x) : endC s (.rt (.c s.length) (s ++ [c])) = .ok (.c s.length) (s ++ [c]) := by
  unfold endC fin
  simp only [Nat.lt_irrefl, if_false]
  rw [app_get]
  cases c <;> first | (exact absurd rfl (h _)) | simp [app_take]
def Vw (B : Store) (k r : Nat) (st : Store) (acc : List T) : Prop := ∃ a b j, st = (B.set k (potC a b)).set r (.lst acc) ++ j
section
variable {B st : Store} {k r : Nat} {acc acc' : List T}
theorem set_same {X : Store} {i : Nat} {c : Cell} (h : X[i]? = some c) : X.set i c = X := by
  apply List.ext_getElem?
  intro j
  by_cases hj : j = i
  · subst hj; rw [List.getElem?_set_self (List.getElem?_eq_some_iff.mp h).1, h]
  · rw [List.getElem?_set_ne (Ne.symm hj)]
theorem Vw.start (hp : PotAt B k) (hr : B[r]? = some (.lst acc)) : Vw B k r B acc := by
  obtain ⟨a, b, hp⟩ := hp
  exact ⟨a, b, [], by rw [set_same hp, set_same hr, List.append_nil]⟩
theorem Vw.le (v : Vw B k r st acc) : B.length ≤ st.length := by
  obtain ⟨a, b, j, rfl⟩ := v
  simp
theorem Vw.pot (v : Vw B k r st acc) (hk : k < B.length) (hn : r ≠ k) : PotAt st k := by
  obtain ⟨a, b, j, rfl⟩ := v
  refine ⟨a, b, ?_⟩
  rw [app_get1 (by simpa using hk), List.getElem?_set_ne hn, List.getElem?_set_self hk]
theorem Vw.get (v : Vw B k r st acc) (hr : r < B.length) : st[r]? = some (.lst acc) := by
  obtain ⟨a, b, j, rfl⟩ := v
  rw [app_get1 (by simpa using hr), List.getElem?_set_self (by simpa using hr)]
theorem Vw.setk {a b : Int} (v : Vw B k r st acc) (hk : k < B.length) (hn : r ≠ k) : Vw B k r (st.set k (potC a b)) acc := by
  obtain ⟨a', b', j, rfl⟩ := v
  exact ⟨a, b, j, by rw [app_set1 (by simpa using hk), List.set_comm _ _ hn, List.set_set]⟩
theorem Vw.app {j : Store} (v : Vw B k r st acc) : Vw B k r (st ++ j) acc := by
  obtain ⟨a, b, i, rfl⟩ := v
  exact ⟨a, b, i ++ j, by rw [List.append_assoc]⟩
theorem Vw.other {i : Nat} {c : Cell} (v : Vw B k r st acc) (hi : B.length ≤ i) : Vw B k r (st.set i c) acc := by
  obtain ⟨a, b, j, rfl⟩ := v
  exact ⟨a, b, j.set (i - B.length) c, by rw [List.set_append_right _ _ (by simpa using hi)]; simp⟩
theorem Vw.outer {c : Cell} {st2 : Store} {accT : List T} (v : Vw B k r st acc) (w : Vw (st ++ [c]) k st.length st2 accT) (hk : k < B.length) (hn : r ≠ k) : Vw B k r st2 acc := by
  obtain ⟨a, b, j, rfl⟩ := w
  have hk' : k < st.length := Nat.lt_of_lt_of_le hk v.le
  have e : ((st ++ [c]).set k (potC a b)).set st.length (.lst accT) = st.set k (potC a b) ++ [.lst accT] := by
    rw [app_set1 hk']
    have : st.length = (st.set k (potC a b)).length := by simp
    rw [this]; exact app_set
  rw [e]
  exact ((v.setk hk hn).app).app
theorem Vw.inner {c : Cell} {st2 : Store} {accT : List T} (w : Vw (st ++ [c]) k st.length st2 accT) : emb st2 (.c st.length) = some (.lst accT, st2.set st.length (.frz (.lst accT))) := by
  have := w.get (by simp)
  simp only [emb, this, Cell.tree]
end
theorem cell_at {o k : Nat} {loc : Loc} {s : Store} {xs : List T} (h1 : loc[o]? = some (some (.c k))) (h2 : s[k]? = some (.lst xs)) : cellAt o loc s = some k := by
  unfold cellAt; rw [h1]; simp only; rw [h2]
theorem app_to {k : Nat} {y : VV} {loc : Loc} {s s2 : Store} {t : T} {xs : List T} (h1 : emb s y = some (t, s2)) (h2 : s2[k]? = some (.lst xs)) (h3 : xs.length < sizeLine) : appTo k y loc s = .nx loc (s2.set k (.lst (xs ++ [t]))) := by
  unfold appTo; rw [h1]; simp only; rw [h2]; simp only [h3, if_true]
section
variable {D : Defs} {cf : CF} {rp : Store → T → Out Str} {a b c : E} {loc : Loc} {s : Store} {p q : Bool} {y : VV}
theorem ev_and_t (h1 : ev D cf rp a loc s = .ok (.t (.bl p)) s) (h2 : p = true → ev D cf rp b loc s = .ok (.t (.bl q)) s) : ev D cf rp (.and a b) loc s = .ok (.t (.bl (p && q))) s := by
  simp only [ev, h1, bind_ok, rd_t, Option.bind_some, tru_bl]
  cases p with
  | true => simp [h2 rfl]
  | false => rfl
theorem ev_or_t (h1 : ev D cf rp a loc s = .ok (.t (.bl p)) s) (h2 : p = false → ev D cf rp b loc s = .ok (.t (.bl q)) s) : ev D cf rp (.or a b) loc s = .ok (.t (.bl (p || q))) s := by
  simp only [ev, h1, bind_ok, rd_t, Option.bind_some, tru_bl]
  cases p with
  | true => rfl
  | false => simp [h2 rfl]
theorem ev_not_t (h1 : ev D cf rp a loc s = .ok (.t (.bl p)) s) : ev D cf rp (.not a) loc s = .ok (.t (.bl (!p))) s := by
  simp only [ev, h1, bind_ok, rd_t, Option.bind_some, tru_bl]
end
theorem rng_len {m : Nat} : (rngL 0 m).length = m := by simp [rngL]
theorem pow62 : (2 : Int) ^ 62 = 4611686018427387904 := by decide
theorem rng_a {m : Nat} (hm : m < 1000) : (-(2 ^ 62) : Int) ≤ (m : Int) := by rw [pow62]; omega
theorem rng_b {m : Nat} (hm : m < 1000) : (m : Int) < 2 ^ 62 := by rw [pow62]; omega
theorem evI_rng {D : Defs} {cf : CF} {rp : Store → T → Out Str} {e : E} {loc : Loc} {s s1 : Store} {m : Nat} (h : ev D cf rp e loc s = .ok (.t (.int m)) s1) (hm : m < 1000) : evI D cf rp (.irng1 e) loc s = .ok (.rng 0 m) s1 := by
  unfold evI
  rw [h, bind_ok]
  show (if (decide (-(2 ^ 62) ≤ (m : Int)) && decide ((m : Int) < 2 ^ 62)) = true then Out.ok (Src.rng 0 m) s1 else .bad) = _
  rw [decide_eq_true (rng_a hm), decide_eq_true (rng_b hm)]
  rfl
end Tw
namespace Tw
open PySem L2
def leaf (x : T) : Prop := x = .non ∨ (∃ b, x = .bl b) ∨ (∃ i, x = .int i ∧ small i) ∨ (∃ z, x = .str z ∧ (reprText z).length ≤ 140) ∨ (∃ a b, x = ratT a b ∧ small a ∧ small b) ∨ x = .dct [] ∨ x = .dct [(.inl 0, .int 0)]
def tame : Nat → T → Prop
  | 0, x => leaf x
  | d + 1, x => leaf x ∨ (∃ xs, (x = .lst xs ∨ x = .tup xs) ∧ xs.length ≤ 40 ∧ ∀ y ∈ xs, tame d y)
theorem tame.leaf {d : Nat} {x : T} (h : leaf x) : tame d x := by cases d <;> first | exact h | exact .inl h
theorem tame.up : ∀ {d : Nat} {x : T}, tame d x → tame (d + 1) x
  | 0, x, h => .inl h
  | d + 1, x, .inl h => .inl h
  | d + 1, x, .inr ⟨xs, h1, h2, h3⟩ => .inr ⟨xs, h1, h2, fun y hy => (h3 y hy).up⟩
theorem tame.lst {d : Nat} {xs : List T} (hl : xs.length ≤ 40) (h : ∀ y ∈ xs, tame d y) : tame (d + 1) (.lst xs) := .inr ⟨xs, .inl rfl, hl, h⟩
theorem tame.tup {d : Nat} {xs : List T} (hl : xs.length ≤ 40) (h : ∀ y ∈ xs, tame d y) : tame (d + 1) (.tup xs) := .inr ⟨xs, .inr rfl, hl, h⟩
theorem tame_non {d : Nat} : tame d .non := .leaf (.inl rfl)
theorem tame_bl {d : Nat} {b : Bool} : tame d (.bl b) := .leaf (.inr (.inl ⟨b, rfl⟩))
theorem tame_int {d : Nat} {i : Int} (h : small i) : tame d (.int i) := .leaf (.inr (.inr (.inl ⟨i, rfl, h⟩)))
theorem tame_str {d : Nat} {z : Str} (h : (reprText z).length ≤ 140) : tame d (.str z) := .leaf (.inr (.inr (.inr (.inl ⟨z, rfl, h⟩))))
theorem tame_rat {d : Nat} {a b : Int} (h : small a) (h2 : small b) : tame d (ratT a b) := .leaf (.inr (.inr (.inr (.inr (.inl ⟨a, b, rfl, h, h2⟩)))))
theorem tame_d0 {d : Nat} : tame d (.dct []) := .leaf (.inr (.inr (.inr (.inr (.inr (.inl rfl))))))
theorem noSL_all : ∀ {xs : List T}, (∀ y ∈ xs, noS y = true) → noSL xs = true
  | [], _ => by unfold noSL; rfl
  | x :: xs, h => by
    unfold noSL
    rw [h x List.mem_cons_self, noSL_all fun y hy => h y (List.mem_cons_of_mem _ hy)]
    rfl
theorem leaf_noS {x : T} (h : leaf x) : noS x = true := by
  rcases h with rfl | ⟨b, rfl⟩ | ⟨i, rfl, _⟩ | ⟨z, rfl, _⟩ | ⟨a, b, rfl, _, _⟩ | rfl | rfl <;> simp [noS, ratT, ratF, noSF, noSD]
theorem tame_noS : ∀ {d : Nat} {x : T}, tame d x → noS x = true
  | 0, x, h => leaf_noS h
  | d + 1, x, .inl h => leaf_noS h
  | d + 1, x, .inr ⟨xs, h1, _, h3⟩ => by
    have := noSL_all fun y hy => tame_noS (h3 y hy)
    rcases h1 with rfl | rfl <;> (unfold noS; exact this)
theorem leaf_okT {D : Defs} (hc : D.cls 55 = true) {x : T} (h : leaf x) : okT D x = true ∧ itms x = [] := by
  rcases h with rfl | ⟨b, rfl⟩ | ⟨i, rfl, _⟩ | ⟨z, rfl, _⟩ | ⟨a, b, rfl, _, _⟩ | rfl | rfl <;> first | exact ⟨rfl, rfl⟩ | exact ⟨hc, rfl⟩
theorem tame_okT {D : Defs} (hc : D.cls 55 = true) : ∀ {d : Nat} {x : T}, tame d x → okT D x = true
  | 0, x, h => (leaf_okT hc h).1
  | d + 1, x, .inl h => (leaf_okT hc h).1
  | d + 1, x, .inr ⟨xs, h1, _, _⟩ => by rcases h1 with rfl | rfl <;> rfl
theorem leaf_okN {D : Defs} (hc : D.cls 55 = true) {x : T} (h : leaf x) : ∀ n, okN D n x
  | 0 => (leaf_okT hc h).1
  | n + 1 => ⟨(leaf_okT hc h).1, by rw [(leaf_okT hc h).2]; exact Nat.zero_le _, by rw [(leaf_okT hc h).2]; intro y hy; cases hy⟩
theorem tame_okN {D : Defs} (hc : D.cls 55 = true) : ∀ {d : Nat} {x : T} (n : Nat), tame d x → okN D n x
  | 0, x, n, h => leaf_okN hc h n
  | d + 1, x, n, .inl h => leaf_okN hc h n
  | d + 1, x, 0, h => tame_okT hc h
  | d + 1, x, n + 1, .inr ⟨xs, h1, h2, h3⟩ => by
    have hi : itms x = xs := by rcases h1 with rfl | rfl <;> rfl
    refine ⟨by rcases h1 with rfl | rfl <;> rfl, ?_, ?_⟩
    · rw [hi]; exact Nat.le_trans h2 (by decide)
    · rw [hi]; exact fun y hy => tame_okN hc n (h3 y hy)
section
variable {D : Defs} {cf : CF}
def tsize : Nat → Nat
  | 0 => 140
  | d + 1 => (tsize d + 2) * 40 + 4
theorem tsize_ge : ∀ n, 140 ≤ tsize n
  | 0 => Nat.le_refl _
  | n + 1 => by have := tsize_ge n; unfold tsize; omega
theorem leaf_rpr (hr : D.rep 55 = some 353) (hcf : ∀ s a b, small a → small b → cf 353 [.t (ratT a b)] s = .ok (.t (.str (ratS a b))) s) {x : T} (h : leaf x) (s : Store) (d : Nat) : Rpr D cf s (d + 1) x 140 := by
  rcases h with rfl | ⟨b, rfl⟩ | ⟨i, rfl, hi⟩ | ⟨z, rfl, hz⟩ | ⟨a, b, rfl, ha, hb⟩ | rfl | rfl
  · exact rpr_non.mono (by decide)
  · exact rpr_bl.mono (by decide)
  · exact (rpr_int hi).mono (by decide)
  · exact rpr_str hz (by decide)
  · exact rpr_rat hr ha hb (hcf s a b ha hb)
  · exact ⟨dictText [], by unfold reprT reprP reprPd; exact fit_of (by decide +kernel), by decide +kernel⟩
  · refine ⟨dictText [Str.ofString "0: 0"], ?_, by decide +kernel⟩
    unfold reprT reprP
    have e1 : reprPd d [(Sum.inl 0, T.int 0)] = some [Str.ofString "0: 0"] := by
      have e0 : reprP d (.int 0) = some (Str.ofString "0") := by cases d <;> (unfold reprP; decide +kernel)
      have e2 : reprSc' (keyT (.inl 0)) = some (Str.ofString "0") := by decide +kernel
      unfold reprPd
      rw [e2, Option.bind_some, e0, Option.bind_some]
      unfold reprPd
      decide +kernel
    rw [e1, Option.bind_some]
    exact fit_of (by decide +kernel)
theorem tame_rpr (hr : D.rep 55 = some 353) (hcf : ∀ s a b, small a → small b → cf 353 [.t (ratT a b)] s = .ok (.t (.str (ratS a b))) s) (s : Store) :
    ∀ (d : Nat), d ≤ 3 → ∀ (x : T), tame d x → ∀ e, Rpr D cf s (d + e + 1) x (tsize d)
  | 0, _, x, h, e => (leaf_rpr hr hcf h s _).mono (by decide)
  | d + 1, hd, x, .inl h, e => (leaf_rpr hr hcf h s _).mono (tsize_ge (d + 1))
  | d + 1, hd, x, .inr ⟨xs, h1, h2, h3⟩, e => by
    have l := rprL_all (ts := xs) (fun y hy => tame_rpr hr hcf s d (by omega) y (h3 y hy) e)
    have hm : (tsize d + 2) * xs.length ≤ (tsize d + 2) * 40 := Nat.mul_le_mul_left _ h2
    have hs : (tsize d + 2) * 40 + 20 ≤ sizeLine := by
      have : d = 0 ∨ d = 1 ∨ d = 2 := by omega
      rcases this with rfl | rfl | rfl <;> decide
    have e1 : d + 1 + e + 1 = (d + e + 1) + 1 := by omega
    rw [e1]
    rcases h1 with rfl | rfl
    · exact (rpr_lst l (by omega)).mono (show _ ≤ (tsize d + 2) * 40 + 4 by omega)
    · exact (rpr_tup l (by omega)).mono (show _ ≤ (tsize d + 2) * 40 + 4 by omega)
end
end Tw
namespace Tw
open PySem L2
section
variable {D : Defs} {cf : CF} {s : Store} {i j : Int}
theorem bin_mulr (h : j.natAbs.log2 < 60) : binV D cf .Mult (.t (.int i)) (.t (.int j)) s = .ok (.t (.int (i * j))) s := bin_mul (mulOk_r h)
theorem bin_mull (h : i.natAbs.log2 < 60) : binV D cf .Mult (.t (.int i)) (.t (.int j)) s = .ok (.t (.int (i * j))) s := bin_mul (mulOk_l h)
theorem sum_ints : ∀ ns : List Int, bltP .sum [.lst (ns.map T.int)] = some (.int ns.sum) := fun ns => sumI_eq ns
theorem cut_map (ns : List Int) (lo hi : Option Int) : ∃ ms : List Int, cutT (ns.map T.int) lo hi = ms.map T.int := by
  unfold cutT
  rw [← List.map_drop, ← List.map_take]
  exact ⟨_, rfl⟩
theorem sum_cut (ns : List Int) (lo hi : Option Int) : ∃ z : Int, bltP .sum [.lst (cutT (ns.map T.int) lo hi)] = some (.int z) := by
  obtain ⟨ms, h⟩ := cut_map ns lo hi
  exact ⟨_, by rw [h]; exact sum_ints ms⟩
theorem endC_rtp {x y : Int} : endC s (.rt (.c s.length) (s ++ [.lst [.int x, .int y]])) = .ok (.c s.length) (s ++ [potC x y]) := endC_rtc (by intro x h; cases h)
theorem cube_log {y : Int} (h : y.natAbs < 4000) : (y ^ (3 : Int).toNat).natAbs.log2 < 60 := by
  show (y ^ 3).natAbs.log2 < 60
  rw [Int.natAbs_pow]
  have h1 : y.natAbs ^ 3 ≤ 4000 ^ 3 := Nat.pow_le_pow_left (by omega) 3
  by_cases hz : y.natAbs ^ 3 = 0
  · rw [hz]; decide
  · exact (Nat.log2_lt hz).mpr (Nat.lt_of_le_of_lt h1 (by decide))
theorem bin_cube {y : Int} (h : y.natAbs < 4000) : binV D cf .Mult (.t (.int i)) (.t (.int (y ^ (3 : Int).toNat))) s = .ok (.t (.int (i * y ^ (3 : Int).toNat))) s := bin_mulr (cube_log h)
theorem p18 : (10 : Int) ^ (18 : Int).toNat = 10 ^ 18 := rfl
theorem slV_scr {ns : List Int} {a b : Option Int} : slV (.t (.scr ns)) a b s = .ok (.t (.lst (cutT (ns.map T.int) a b))) s := rfl
theorem slV_lt {xs : List T} {a b : Option Int} : slV (.t (.lst xs)) a b s = .ok (.t (.lst (cutT xs a b))) s := rfl
theorem optI_i : optI s (.t (.int i)) = .ok (some i) s := rfl
end
theorem evS_seq {D : Defs} {cf : CF} {rq : Store → T → Out Str} {fw : Nat} {a b : S} {loc : Loc} {s : Store} : evS D cf rq fw (.seq a b) loc s = (evS D cf rq fw a loc s).seq fun l1 s1 => evS D cf rq fw b l1 s1 := by rw [evS]
theorem cut_drop {xs : List T} {j : Nat} (h : j ≤ xs.length) : cutT xs (some (j : Int)) none = xs.drop j := by
  unfold cutT
  rw [HT.sIx_nat, HT.sIx_none, Nat.min_eq_left h, List.take_of_length_le (by rw [List.length_drop]; omega)]
theorem cut_take {xs : List T} {j : Nat} (h : j ≤ xs.length) : cutT xs none (some (j : Int)) = xs.take j := by
  unfold cutT
  rw [HT.sIx_nat, HT.sIx_none, Nat.min_eq_left h, List.drop_zero, Nat.sub_zero]
structure Sat (S : Store) (ks : List Nat) (A : List (Nat × List T)) (s : Store) : Prop where
  le : S.length ≤ s.length
  old : ∀ i, i < S.length → i ∉ ks → s[i]? = S[i]?
  pot : ∀ k ∈ ks, k < S.length ∧ PotAt s k
  own : ∀ p ∈ A, S.length ≤ p.1 ∧ s[p.1]? = some (.lst p.2)
  nd : (A.map Prod.fst).Nodup
structure Same (ks : List Nat) (S s : Store) : Prop where
  len : s.length = S.length
  old : ∀ i, i ∉ ks → s[i]? = S[i]?
  pot : ∀ k ∈ ks, PotAt s k
abbrev Ext (ks : List Nat) (S s : Store) : Prop := Sat S ks [] s
section
variable {S s s' : Store} {ks : List Nat} {A A' : List (Nat × List T)} {k r : Nat} {xs ys : List T} {c : Cell}
theorem Sat.start (h : ∀ k ∈ ks, PotAt s k) : Ext ks s s := ⟨Nat.le_refl _, fun _ _ _ => rfl, fun k hk => ⟨(h k hk).lt, h k hk⟩, by simp, by simp⟩
theorem Sat.start1 (h : PotAt s k) : Ext [k] s s := Sat.start (by simpa using h)
theorem Sat.start0 : Ext [] s s := Sat.start (by simp)
theorem Sat.ltA (h : Sat S ks A s) {p : Nat × List T} (hp : p ∈ A) : p.1 < s.length := (List.getElem?_eq_some_iff.mp (h.own p hp).2).1
theorem Sat.ext (h : Sat S ks A s) : Ext ks S s := ⟨h.le, h.old, h.pot, by simp, by simp⟩
theorem Sat.get (h : Sat S ks ((r, xs) :: A) s) : s[r]? = some (.lst xs) := (h.own _ List.mem_cons_self).2
theorem Sat.new (h : Sat S ks A s) : Sat S ks ((s.length, xs) :: A) (s ++ [.lst xs]) := by
  refine ⟨by have := h.le; simp; omega, fun i hi hk => ?_, fun k hk => ⟨(h.pot k hk).1, (h.pot k hk).2.app⟩, fun p hp => ?_, ?_⟩
  · rw [app_get1 (by have := h.le; omega)]; exact h.old i hi hk
  · rcases List.mem_cons.mp hp with rfl | q
    · exact ⟨h.le, app_get⟩
    · have := h.own p q
      exact ⟨this.1, by rw [app_get1 (h.ltA q)]; exact this.2⟩
  · rw [List.map_cons, List.nodup_cons]
    refine ⟨fun hm => ?_, h.nd⟩
    obtain ⟨p, hp, e⟩ := List.mem_map.mp hm
    have := h.ltA hp
    omega
theorem Sat.sub (h : Sat S ks A s) (hs : List.Sublist A' A) : Sat S ks A' s := ⟨h.le, h.old, h.pot, fun p hp => h.own p (hs.subset hp), (hs.map _).nodup h.nd⟩
theorem Sat.drop (h : Sat S ks ((r, xs) :: A) s) : Sat S ks A s := h.sub (List.sublist_cons_self _ _)
theorem Sat.other (h : Sat S ks A s) (hi : S.length ≤ k) (hn : k ∉ A.map Prod.fst) : Sat S ks A (s.set k c) := by
  refine ⟨by simpa using h.le, fun i hi' hk => ?_, fun j hj => ⟨(h.pot j hj).1, (h.pot j hj).2.put (by have := (h.pot j hj).1; omega)⟩, fun p hp => ⟨(h.own p hp).1, ?_⟩, h.nd⟩
  · rw [List.getElem?_set_ne (by omega)]; exact h.old i hi' hk
  · rw [List.getElem?_set_ne (show k ≠ p.1 from fun e => hn (by rw [e]; exact List.mem_map_of_mem hp))]; exact (h.own p hp).2
theorem Sat.putr (h : Sat S ks ((r, xs) :: A) s) : Sat S ks ((r, ys) :: A) (s.set r (.lst ys)) := by
  have h0 := h.own _ List.mem_cons_self
  have hn : r ∉ A.map Prod.fst := by have := h.nd; rw [List.map_cons, List.nodup_cons] at this; exact this.1
  have hd := h.drop.other (c := .lst ys) h0.1 hn
  refine ⟨hd.le, hd.old, hd.pot, fun p hp => ?_, ?_⟩
  · rcases List.mem_cons.mp hp with rfl | q
    · exact ⟨h0.1, List.getElem?_set_self (h.ltA List.mem_cons_self)⟩
    · exact hd.own p q
  · rw [List.map_cons, List.nodup_cons]; exact ⟨hn, hd.nd⟩
theorem Sat.frz (h : Sat S ks ((r, xs) :: A) s) : emb s (.c r) = some (.lst xs, s.set r (.frz (.lst xs))) ∧ Sat S ks A (s.set r (.frz (.lst xs))) := by
  have h0 := h.own _ List.mem_cons_self
  have hn : r ∉ A.map Prod.fst := by have := h.nd; rw [List.map_cons, List.nodup_cons] at this; exact this.1
  refine ⟨?_, h.drop.other h0.1 hn⟩
  simp only [emb, h0.2, Cell.tree]
theorem Sat.rd (h : Sat S ks ((r, xs) :: A) s) : rd s (.c r) = some (.lst xs) := by rw [rd_c' h.get]; rfl
theorem Sat.take (h : Sat S ks A s) : Same ks S (s.take S.length) := by
  refine ⟨by have := h.le; simp; omega, fun i hk => ?_, fun k hk => ?_⟩
  · by_cases hi : i < S.length
    · rw [List.getElem?_take_of_lt hi]; exact h.old i hi hk
    · rw [List.getElem?_eq_none (by simp; omega), List.getElem?_eq_none (by omega)]
  · obtain ⟨hl, a, b, e⟩ := h.pot k hk
    exact ⟨a, b, by rw [List.getElem?_take_of_lt hl]; exact e⟩
theorem Same.ext (h : Same ks S s) (hk : ∀ k ∈ ks, k < S.length) : Ext ks S s := ⟨by have := h.len; omega, fun i _ hi => h.old i hi, fun k q => ⟨hk k q, h.pot k q⟩, by simp, by simp⟩
theorem Same.eq (h : Same [] S s) : s = S := List.ext_getElem? fun i => h.old i (by simp)
theorem Same.of_set {a b : Int} (h : PotAt S k) : Same [k] S (S.set k (potC a b)) := ⟨by simp, fun i hi => List.getElem?_set_ne (by simp at hi; omega), fun j hj => by simp at hj; subst hj; exact PotAt.set h.lt⟩
theorem Sat.trans (h : Sat S ks A s) (h2 : Ext ks s s') : Sat S ks A s' := by
  refine ⟨by have := h.le; have := h2.le; omega, fun i hi hk => ?_, fun k hk => ⟨(h.pot k hk).1, (h2.pot k hk).2⟩, fun p hp => ⟨(h.own p hp).1, ?_⟩, h.nd⟩
  · rw [h2.old i (by have := h.le; omega) hk]; exact h.old i hi hk
  · rw [h2.old p.1 (h.ltA hp) (fun q => by have := (h.pot _ q).1; have := (h.own p hp).1; omega)]; exact (h.own p hp).2
theorem Sat.same (h : Sat S ks A s) (h2 : Same ks s s') : Sat S ks A s' := h.trans (h2.ext fun k hk => by have := (h.pot k hk).1; have := h.le; omega)
theorem Sat.pots (h : Sat S ks A s) : ∀ k ∈ ks, PotAt s k := fun k hk => (h.pot k hk).2
theorem Sat.pot1 (h : Sat S [k] A s) : PotAt s k := h.pots k List.mem_cons_self
theorem Sat.takeN {n : Nat} (h : Sat S ks A s) (h1 : S.length ≤ n) (h2 : n ≤ s.length) (h3 : ∀ p ∈ A, p.1 < n) : Sat S ks A (s.take n) := by
  refine ⟨by simp; omega, fun i hi hk => ?_, fun k hk => ⟨(h.pot k hk).1, ?_⟩, fun p hp => ⟨(h.own p hp).1, ?_⟩, h.nd⟩
  · rw [List.getElem?_take_of_lt (by omega)]; exact h.old i hi hk
  · obtain ⟨hl, a, b, e⟩ := h.pot k hk
    exact ⟨a, b, by rw [List.getElem?_take_of_lt (by omega)]; exact e⟩
  · rw [List.getElem?_take_of_lt (h3 p hp)]; exact (h.own p hp).2
theorem Sat.ret {x : T} (h : Sat S ks A s) : ∃ s', endC S (.rt (.t x) s) = .ok (.t x) s' ∧ Same ks S s' := ⟨_, endC_rt' rfl, h.take⟩
theorem Sat.retc (h : Sat S ks ((r, xs) :: A) s) : ∃ s', (match emb s (.c r) with | some (t, s2) => endC S (.rt (.t t) s2) | none => .bad) = .ok (.t (.lst xs)) s' ∧ Same ks S s' := by
  obtain ⟨e, h2⟩ := h.frz
  rw [e]
  exact h2.ret
end
def PotFn (cf : CF) (f : Nat) (args : List T) (P : T → Prop) : Prop := ∀ (s : Store) (k : Nat), PotAt s k → ∃ t s', cf f (.c k :: args.map VV.t) s = .ok (.t t) s' ∧ Same [k] s s' ∧ P t
theorem Draws.fn {cf : CF} {f : Nat} (h : Draws cf f) {m : Int} (h0 : 0 < m) (h1 : m < 1073741824) : PotFn cf f [.int m] (fun t => ∃ d : Nat, t = .int d ∧ (d : Int) < m) := fun s k hp => by
  obtain ⟨d, a, b, d0, d1, e⟩ := h s k m hp h0 h1
  obtain ⟨j, rfl⟩ : ∃ j : Nat, d = (j : Int) := ⟨d.toNat, by omega⟩
  exact ⟨_, _, e, Same.of_set hp, j, rfl, d1⟩
theorem Picks.fn {cf : CF} {f : Nat} (h : Picks cf f) {xs : List T} (h0 : 0 < xs.length) (h1 : xs.length < 1073741824) : PotFn cf f [.lst xs] (fun t => t ∈ xs) := fun s k hp => by
  obtain ⟨t, a, b, d0, e⟩ := h s k xs hp h0 h1
  exact ⟨_, _, e, Same.of_set hp, d0⟩
inductive All2 {α β : Type} (R : α → β → Prop) : List α → List β → Prop where
  | nil : All2 R [] []
  | cons {a : α} {b : β} {as : List α} {bs : List β} : R a b → All2 R as bs → All2 R (a :: as) (b :: bs)
theorem All2.length_eq {α β : Type} {R : α → β → Prop} : ∀ {xs : List α} {ys : List β}, All2 R xs ys → xs.length = ys.length
  | _, _, .nil => rfl
  | _, _, .cons _ h => by simp [h.length_eq]
theorem forall2_append {α β : Type} {R : α → β → Prop} : ∀ {xs : List α} {ys : List β} {xs' ys'}, All2 R xs ys → All2 R xs' ys' → All2 R (xs ++ xs') (ys ++ ys')
  | _, _, _, _, .nil, h => h
  | _, _, _, _, .cons a b, h => .cons a (forall2_append b h)
section
variable {D : Defs} {cf : CF} {rp : Store → T → Out Str} {loc : Loc} {s s1 : Store} {ks : List Nat}
end
theorem forall2_mem {α β : Type} {R : α → β → Prop} : ∀ {xs : List α} {ys : List β}, All2 R xs ys → ∀ y ∈ ys, ∃ x ∈ xs, R x y
  | _, _, .nil, y, h => by cases h
  | _, _, .cons a b, y, h => by
    rcases List.mem_cons.mp h with rfl | q
    · exact ⟨_, List.mem_cons_self, a⟩
    · obtain ⟨x, hx, r⟩ := forall2_mem b y q
      exact ⟨x, List.mem_cons_of_mem _ hx, r⟩
theorem mem_map_of {α : Type} {f : α → T} : ∀ {ys : List T}, (∀ y ∈ ys, ∃ a, y = f a) → ∃ as : List α, ys = as.map f
  | [], _ => ⟨[], rfl⟩
  | y :: ys, h => by
    obtain ⟨a, rfl⟩ := h y List.mem_cons_self
    obtain ⟨as, rfl⟩ := mem_map_of (ys := ys) fun z hz => h z (List.mem_cons_of_mem _ hz)
    exact ⟨a :: as, rfl⟩
end Tw
set_option maxHeartbeats 4000000
namespace Tw
open PySem L2
section
variable {rp : CF → Store → T → Out Str} {fw n : Nat} {s : Store}
theorem pot_ok {ns : List Int} {k : Int} (h0 : 0 ≤ k) (hk9 : k < 1000) : ∃ a b, callN (PT.D true) rp fw (n + 1) 1001 [.t (.scr ns), .t (.int k)] s = .ok (.c s.length) (s ++ [potC a b]) := by
  rw [go_L_pot]
  have w3 : ∀ c : Int, 0 ≤ c → c < 1000 → (2 * k + c).natAbs < 2 ^ 64 := fun c h h' => by
    have : (2 * k + c).natAbs < 4000 := by omega
    exact Nat.lt_trans this (by decide)
  have p5 := fun (st : Store) (cf : CF) => bin_pow (D := (PT.D true)) (cf := cf) (s := st) (i := 2 * k + 3) (j := 3) (by decide) (by decide) (w3 3 (by decide) (by decide))
  have m5 := fun (st : Store) (cf : CF) (i : Int) => bin_cube (D := (PT.D true)) (cf := cf) (s := st) (i := i) (y := 2 * k + 3) (by omega)
  have lk : k.natAbs.log2 < 60 := log_lt h0 (by omega)
  have p1 := fun (st : Store) (cf : CF) => bin_pow (D := (PT.D true)) (cf := cf) (s := st) (i := 10) (j := 18) (by decide) (by decide) (by decide)
  obtain ⟨z, hz⟩ := sum_cut ns none (some 1)
  by_cases hk : k < (ns.length : Int)
  · obtain ⟨j, rfl⟩ : ∃ j : Nat, k = (j : Int) := ⟨k.toNat, by omega⟩
    have hj : j < ns.length := by omega
    have ha : atI ns (j : Int) = some ns[j] := atI_nat (List.getElem?_eq_getElem hj)
    refine ⟨?a, ?b, ?c⟩; case c =>
    unfold S_L_pot
    simp (decide := true) only [evS, ev, evs, evF, evI, put, putL, bindV, bind_ok, toFl_ok, seq_nx, seq_rt, putFl_ok, rd_t, emb_t, ofO_some, ofT_some, noex_ok, E.isOmit, List.map_cons, List.map_nil, List.replicate, List.cons_append, List.nil_append, List.length_cons, List.length_nil, List.set_cons_zero, List.set_cons_succ, List.getElem?_cons_zero, List.getElem?_cons_succ, Bool.false_eq_true, if_true, if_false, reduceIte, Nat.reduceAdd, Nat.reduceSub, Nat.reduceLT, Nat.reduceLeDiff, Nat.lt_irrefl, evT, bin_add, bin_sub, mthOk_ins, attV_ins, cmpP_lt, cmpP_le, cmpP_gt, cmpP_ge, cmp_lt, cmp_le, cmp_gt, cmp_ge, cmp_eqi, cmp_eqs, cmp_eqb, cmp_nei, cmp_nes, cmp_neb, cmp_isn, cmp_nin, cmp_isb, cmp_nib, tru_bl, tru_int, isNon_lst, isNon_non, item_l, item_t, blt_lenl, blt_lent, blt_lend, blt_all, blt_any, mapM_t1, mapM_t2, embLM_t0, embLM_t1, embLM_t2, embLM_t3, Option.bind_some, Option.map_some, Bool.not_true, Bool.not_false, endC_rt, endC_nx, decide_eq_true_eq, List.mapM_nil, slV_scr, optI_i, hz, blt_lens, hk, decide_true, item_s, ha, blt_abs, p1, p18, p5, m5, blt_max, blt_int, bin_mod, bin_mulr, bin_mull, sizeL]
    exact endC_rtp
  · refine ⟨?a2, ?b2, ?c2⟩; case c2 =>
    unfold S_L_pot
    simp (decide := true) only [evS, ev, evs, evF, evI, put, putL, bindV, bind_ok, toFl_ok, seq_nx, seq_rt, putFl_ok, rd_t, emb_t, ofO_some, ofT_some, noex_ok, E.isOmit, List.map_cons, List.map_nil, List.replicate, List.cons_append, List.nil_append, List.length_cons, List.length_nil, List.set_cons_zero, List.set_cons_succ, List.getElem?_cons_zero, List.getElem?_cons_succ, Bool.false_eq_true, if_true, if_false, reduceIte, Nat.reduceAdd, Nat.reduceSub, Nat.reduceLT, Nat.reduceLeDiff, Nat.lt_irrefl, evT, bin_add, bin_sub, mthOk_ins, attV_ins, cmpP_lt, cmpP_le, cmpP_gt, cmpP_ge, cmp_lt, cmp_le, cmp_gt, cmp_ge, cmp_eqi, cmp_eqs, cmp_eqb, cmp_nei, cmp_nes, cmp_neb, cmp_isn, cmp_nin, cmp_isb, cmp_nib, tru_bl, tru_int, isNon_lst, isNon_non, item_l, item_t, blt_lenl, blt_lent, blt_lend, blt_all, blt_any, mapM_t1, mapM_t2, embLM_t0, embLM_t1, embLM_t2, embLM_t3, Option.bind_some, Option.map_some, Bool.not_true, Bool.not_false, endC_rt, endC_nx, decide_eq_true_eq, List.mapM_nil, slV_scr, optI_i, hz, blt_lens, hk, decide_false, blt_abs, p1, p18, p5, m5, blt_max, blt_int, bin_mod, bin_mulr, bin_mull, sizeL]
    exact endC_rtp
theorem draw_ok : Draws (callN (PT.D true) rp fw (n + 1)) 1002 := by
  intro s k m hp hm hm2
  have hk := hp.lt
  obtain ⟨a, b, hp⟩ := hp
  have r0 : rd s (.c k) = some (.lst [.int a, .int b]) := by rw [rd_c' hp]; rfl
  have i0 : itemP (.lst [.int a, .int b]) (.int 0) = some (.int a) := by rw [item_l]; exact atI_0
  have i1 : itemP (.lst [.int a, .int b]) (.int 1) = some (.int b) := by rw [item_l]; exact atI_1
  rw [go_L_draw]
  by_cases ha : 0 < a
  · refine ⟨a % m, a / m, b, Int.emod_nonneg _ (by omega), Int.emod_lt_of_pos _ hm, ?_⟩
    simp only [S_L_draw, evS, ev, evs, evF, evI, put, putL, bindV, bind_ok, toFl_ok, seq_nx, seq_rt, putFl_ok, rd_t, emb_t, ofO_some, ofT_some, noex_ok, E.isOmit, List.map_cons, List.map_nil, List.replicate, List.cons_append, List.nil_append, List.length_cons, List.length_nil, List.set_cons_zero, List.set_cons_succ, List.getElem?_cons_zero, List.getElem?_cons_succ, Bool.false_eq_true, if_true, if_false, reduceIte, Nat.reduceAdd, Nat.reduceSub, Nat.reduceLT, Nat.reduceLeDiff, Nat.lt_irrefl, evT, bin_add, bin_sub, mthOk_ins, attV_ins, cmpP_lt, cmpP_le, cmpP_gt, cmpP_ge, cmp_lt, cmp_le, cmp_gt, cmp_ge, cmp_eqi, cmp_eqs, cmp_eqb, cmp_nei, cmp_nes, cmp_neb, cmp_isn, cmp_nin, cmp_isb, cmp_nib, tru_bl, tru_int, isNon_lst, isNon_non, item_l, item_t, blt_lenl, blt_lent, blt_lend, blt_all, blt_any, mapM_t1, mapM_t2, embLM_t0, embLM_t1, embLM_t2, embLM_t3, Option.bind_some, Option.map_some, Bool.not_true, Bool.not_false, endC_rt, endC_nx, decide_eq_true_eq, List.mapM_nil, r0, i0, ha, decide_true, blt_dm hm hm2, items, alen, setIx, hp, ixN_0]
    simp [setIx, hp, ixN_0, endC, fin, set_take, rd, put, putL, putFl, bind_ok, toFl_ok, emb, seq_rt, seq_nx, evS, ev]
  · have n5 : m ≠ 0 := by omega
    refine ⟨((((b * 48271 + 18144).fmod 2147483587 * (b * 48271 + 18144).fmod 2147483587).fmod 2147483549).fdiv 43).fmod m, a, (b * 48271 + 18144).fmod 2147483587, fmod_nn hm, fmod_lt hm, ?_⟩
    generalize hc : (b * 48271 + 18144).fmod 2147483587 = c
    have c0 : 0 ≤ c := by rw [← hc]; exact fmod_nn (by decide)
    have c1 : c < 2147483587 := by rw [← hc]; exact fmod_lt (by decide)
    have m2 : mulOk c c = true := mulOk_r (log_lt c0 (by omega))
    have r1 : rd (s.set k (potC a c)) (.c k) = some (.lst [.int a, .int c]) := by rw [rd_c' (List.getElem?_set_self hk)]; rfl
    have j1 : itemP (.lst [.int a, .int c]) (.int 1) = some (.int c) := by rw [item_l]; exact atI_1
    simp (decide := true) only [S_L_draw, evS, ev, evs, evF, evI, put, putL, bindV, bind_ok, toFl_ok, seq_nx, seq_rt, putFl_ok, rd_t, emb_t, ofO_some, ofT_some, noex_ok, E.isOmit, List.map_cons, List.map_nil, List.replicate, List.cons_append, List.nil_append, List.length_cons, List.length_nil, List.set_cons_zero, List.set_cons_succ, List.getElem?_cons_zero, List.getElem?_cons_succ, Bool.false_eq_true, if_true, if_false, reduceIte, Nat.reduceAdd, Nat.reduceSub, Nat.reduceLT, Nat.reduceLeDiff, Nat.lt_irrefl, evT, bin_add, bin_sub, mthOk_ins, attV_ins, cmpP_lt, cmpP_le, cmpP_gt, cmpP_ge, cmp_lt, cmp_le, cmp_gt, cmp_ge, cmp_eqi, cmp_eqs, cmp_eqb, cmp_nei, cmp_nes, cmp_neb, cmp_isn, cmp_nin, cmp_isb, cmp_nib, tru_bl, tru_int, isNon_lst, isNon_non, item_l, item_t, blt_lenl, blt_lent, blt_lend, blt_all, blt_any, mapM_t1, mapM_t2, embLM_t0, embLM_t1, embLM_t2, embLM_t3, Option.bind_some, Option.map_some, Bool.not_true, Bool.not_false, endC_rt, endC_nx, decide_eq_true_eq, List.mapM_nil, r0, i0, i1, ha, decide_false, bin_mulr, blt_int, bin_mod, hc, setIx, hp, ixN_1]
    simp (decide := true) only [evS, ev, evs, evF, evI, put, putL, bindV, bind_ok, toFl_ok, seq_nx, seq_rt, putFl_ok, rd_t, emb_t, ofO_some, ofT_some, noex_ok, E.isOmit, List.map_cons, List.map_nil, List.replicate, List.cons_append, List.nil_append, List.length_cons, List.length_nil, List.set_cons_zero, List.set_cons_succ, List.getElem?_cons_zero, List.getElem?_cons_succ, Bool.false_eq_true, if_true, if_false, reduceIte, Nat.reduceAdd, Nat.reduceSub, Nat.reduceLT, Nat.reduceLeDiff, Nat.lt_irrefl, evT, bin_add, bin_sub, mthOk_ins, attV_ins, cmpP_lt, cmpP_le, cmpP_gt, cmpP_ge, cmp_lt, cmp_le, cmp_gt, cmp_ge, cmp_eqi, cmp_eqs, cmp_eqb, cmp_nei, cmp_nes, cmp_neb, cmp_isn, cmp_nin, cmp_isb, cmp_nib, tru_bl, tru_int, isNon_lst, isNon_non, item_l, item_t, blt_lenl, blt_lent, blt_lend, blt_all, blt_any, mapM_t1, mapM_t2, embLM_t0, embLM_t1, embLM_t2, embLM_t3, Option.bind_some, Option.map_some, Bool.not_true, Bool.not_false, endC_rt, endC_nx, decide_eq_true_eq, List.mapM_nil, hp, r0, i1, List.set_cons_succ, List.set_cons_zero, ixN_1 (show 1 < 2 by decide), r1, j1, bin_mul m2, blt_int, bin_mod, bin_fdiv, bin_mod n5]
    simp [endC, fin, set_take]
theorem pick_ok : Picks (callN (PT.D true) rp fw (n + 2)) 1003 := by
  intro s k xs hp h0 h1
  rw [go_L_pick]
  obtain ⟨d, a, b, d0, d1, e⟩ := draw_ok (rp := rp) (fw := fw) (n := n) s k xs.length hp (by omega) (by omega)
  obtain ⟨x, hx, ex⟩ := mem_at d0 d1
  refine ⟨x, a, b, hx, ?_⟩
  simp only [S_L_pick, evS, ev, evs, evF, evI, put, putL, bindV, bind_ok, toFl_ok, seq_nx, seq_rt, putFl_ok, rd_t, emb_t, ofO_some, ofT_some, noex_ok, E.isOmit, List.map_cons, List.map_nil, List.replicate, List.cons_append, List.nil_append, List.length_cons, List.length_nil, List.set_cons_zero, List.set_cons_succ, List.getElem?_cons_zero, List.getElem?_cons_succ, Bool.false_eq_true, if_true, if_false, reduceIte, Nat.reduceAdd, Nat.reduceSub, Nat.reduceLT, Nat.reduceLeDiff, Nat.lt_irrefl, evT, bin_add, bin_sub, mthOk_ins, attV_ins, cmpP_lt, cmpP_le, cmpP_gt, cmpP_ge, cmp_lt, cmp_le, cmp_gt, cmp_ge, cmp_eqi, cmp_eqs, cmp_eqb, cmp_nei, cmp_nes, cmp_neb, cmp_isn, cmp_nin, cmp_isb, cmp_nib, tru_bl, tru_int, isNon_lst, isNon_non, item_l, item_t, blt_lenl, blt_lent, blt_lend, blt_all, blt_any, mapM_t1, mapM_t2, embLM_t0, embLM_t1, embLM_t2, embLM_t3, Option.bind_some, Option.map_some, Bool.not_true, Bool.not_false, endC_rt, endC_nx, decide_eq_true_eq, List.mapM_nil, fl_L_draw, e, ex]
  simp [endC, fin, set_take]
end
end Tw
set_option maxHeartbeats 4000000
namespace Tw
open PySem L2
def Dy (k m : Nat) (x : Rat) : Prop := ∃ z : Int, x * (2 ^ k : Nat) = z ∧ z.natAbs ≤ 2 ^ m
theorem Dy.add {k m : Nat} {x y : Rat} : Dy k m x → Dy k m y → Dy k (m + 1) (x + y) := fun ⟨z, h, b⟩ ⟨w, h', b'⟩ => ⟨z + w, by rw [Rat.add_mul, h, h', Rat.intCast_add], by rw [Nat.pow_succ]; omega⟩
theorem Dy.neg {k m : Nat} {x : Rat} : Dy k m x → Dy k m (-x) := fun ⟨z, h, b⟩ => ⟨-z, by rw [Rat.neg_mul, h, Rat.intCast_neg], by omega⟩
theorem Dy.sub {k m : Nat} {x y : Rat} (h : Dy k m x) (h' : Dy k m y) : Dy k (m + 1) (x - y) := by rw [Rat.sub_eq_add_neg]; exact h.add h'.neg
theorem Dy.mul {k m k' m' : Nat} {x y : Rat} : Dy k m x → Dy k' m' y → Dy (k + k') (m + m') (x * y) := fun ⟨z, h, b⟩ ⟨w, h', b'⟩ => ⟨z * w, by
  rw [Rat.intCast_mul, ← h, ← h', Nat.pow_add, Rat.natCast_mul]; grind, by rw [Int.natAbs_mul, Nat.pow_add]; exact Nat.mul_le_mul b b'⟩
theorem Dy.mono {k m k' m' : Nat} {x : Rat} (hk : k ≤ k') (hm : m + (k' - k) ≤ m') : Dy k m x → Dy k' m' x := fun ⟨z, h, b⟩ => ⟨z * (2 ^ (k' - k) : Nat), by
  have e : k' = k + (k' - k) := by omega
  rw [Rat.intCast_mul, ← h]
  conv => lhs; rw [e, Nat.pow_add, Rat.natCast_mul]
  rw [Rat.intCast_natCast]; grind, by
  rw [Int.natAbs_mul, Int.natAbs_natCast]
  exact Nat.le_trans (Nat.mul_le_mul_right _ b) (by rw [← Nat.pow_add]; exact Nat.pow_le_pow_right (by decide) hm)⟩
theorem Dy.int (z : Int) {m : Nat} (h : z.natAbs ≤ 2 ^ m) : Dy 0 m (z : Rat) := ⟨z, by simp, h⟩
theorem Dy.bd {k m : Nat} {x : Rat} : Dy k m x → x.den ≤ 2 ^ k ∧ x.num.natAbs ≤ 2 ^ m := fun ⟨z, h, b⟩ => by
  have hp : 0 < 2 ^ k := Nat.pow_pos (by decide)
  have e : x = Rat.divInt z (2 ^ k : Nat) := by
    rw [Rat.divInt_eq_div, ← h, Rat.intCast_natCast]
    have : ((2 ^ k : Nat) : Rat) ≠ 0 := by
      intro z; have := Rat.natCast_eq_zero_iff.mp z; omega
    grind
  constructor
  · rw [e, Rat.den_divInt, if_neg (by omega)]
    exact Nat.le_trans (Nat.div_le_self _ _) (by simp)
  · rw [e, Rat.num_divInt]
    refine Nat.le_trans (Nat.le_trans (Int.natAbs_ediv_le_natAbs _ _) ?_) b
    rw [Int.natAbs_mul, Int.sign_natCast_of_ne_zero (by omega)]
    simp
def ratQ (x : Rat) : T := ratT x.num (x.den : Int)
structure Szq (x : Rat) : Prop where
  den : x.den ≤ 2 ^ 1000
  num : x.num.natAbs ≤ 2 ^ 1000
theorem Dy.sz {k m : Nat} {x : Rat} (h : Dy k m x) (hk : k ≤ 1000) (hm : m ≤ 1000) : Szq x :=
  ⟨Nat.le_trans h.bd.1 (Nat.pow_le_pow_right (by decide) hk), Nat.le_trans h.bd.2 (Nat.pow_le_pow_right (by decide) hm)⟩
theorem log2_le {n k : Nat} (h : n ≤ 2 ^ k) : n.log2 ≤ k := by
  by_cases z : n = 0
  · rw [z]; exact Nat.zero_le _
  · have := Nat.log2_self_le z
    exact (Nat.pow_le_pow_iff_right (by decide)).mp (Nat.le_trans this h)
inductive Num : T → Rat → Prop where
  | q (x : Rat) : Num (ratQ x) x
  | i (z : Int) : Num (.int z) (z : Rat)
section
variable {D : Defs} {rp : CF → Store → T → Out Str} {fw n : Nat} {s : Store}
theorem okQ (x : Rat) [h : Is (D.cls 55 = true)] : okT D (ratQ x) = true := h.h
theorem look_t {a b : Int} : (ratF a b).lookup (Str.ofString "own_top") = some (.int a) := rfl
theorem look_b {a b : Int} : (ratF a b).lookup (Str.ofString "own_bottom") = some (.int b) := rfl
theorem isi_q (x : Rat) [Is (∀ d, D.sub d 55 = decide (d = 55))] : ([CR.cl 55].any fun c => isiP D.sub c (ratQ x)) = true := by
  simp [ratQ, ratT, isiP, Is.h (p := ∀ d, D.sub d 55 = decide (d = 55)) 55]
theorem rat_ins (x : Rat) : ratQ x = .ins 55 (ratF x.num (x.den : Int)) := rfl
theorem eq_ok [Is (D.fn 351 = some F_ratios_Ratio___eq__)] [Is (∀ t, okT D t = true → D.kit (.cl 55) t = true)] [Is (∀ d, D.sub d 55 = decide (d = 55))] [Is (D.cls 55 = true)] [Is (D.fld 55 "own_top" = true)] [Is (D.fld 55 "own_bottom" = true)] {x y : Rat} : callN D rp fw (n + 1) 351 [.t (ratQ x), .t (ratQ y)] s = .ok (.t (.bl (decide (x = y)))) s := by
  rw [go_ratios_Ratio___eq__]
  have h1 : isiOk D.kit D.cls [.cl 55] (ratQ y) = true := isiOk_of (okQ y) (by simp only [List.mem_singleton, forall_eq]; exact (Is.h (p := ∀ t, okT D t = true → D.kit (.cl 55) t = true) _ (okQ y)))
  have h2 := isi_q (D := D) y
  have e : (x = y) ↔ (x.num = y.num ∧ (x.den : Int) = y.den) := by
    constructor
    · intro h; subst h; exact ⟨rfl, rfl⟩
    · rintro ⟨a, b⟩; exact Rat.ext a (by omega)
  rw [rat_ins] at h1 h2
  simp only [rat_ins, S_ratios_Ratio___eq__, evS, ev, evs, evF, evI, put, putL, bindV, bind_ok, toFl_ok, seq_nx, seq_rt, putFl_ok, rd_t, emb_t, ofO_some, ofT_some, noex_ok, E.isOmit, List.map_cons, List.map_nil, List.replicate, List.cons_append, List.nil_append, List.length_cons, List.length_nil, List.set_cons_zero, List.set_cons_succ, List.getElem?_cons_zero, List.getElem?_cons_succ, Bool.false_eq_true, if_true, if_false, reduceIte, Nat.reduceAdd, Nat.reduceSub, Nat.reduceLT, Nat.reduceLeDiff, Nat.lt_irrefl, evT, bin_add, bin_sub, mthOk_ins, attV_ins, cmpP_lt, cmpP_le, cmpP_gt, cmpP_ge, cmp_lt, cmp_le, cmp_gt, cmp_ge, cmp_eqi, cmp_eqs, cmp_eqb, cmp_nei, cmp_nes, cmp_neb, cmp_isn, cmp_nin, cmp_isb, cmp_nib, tru_bl, tru_int, isNon_lst, isNon_non, item_l, item_t, blt_lenl, blt_lent, blt_lend, blt_all, blt_any, mapM_t1, mapM_t2, embLM_t0, embLM_t1, embLM_t2, embLM_t3, Option.bind_some, Option.map_some, Bool.not_true, Bool.not_false, endC_rt, endC_nx, decide_eq_true_eq, List.mapM_nil, h1, h2, look_t, look_b, fld_55_own_top, fld_55_own_bottom]
  by_cases e1 : x.num = y.num
  · by_cases e2 : (x.den : Int) = y.den
    · simp [e, e1, e2, toFl_ok, bind_ok, emb_t, rd_t, ofO_some, ofT_some, endC, fin, seq_nx, seq_rt, tru, ofT, ofO]
    · simp [e, e1, e2, toFl_ok, bind_ok, emb_t, rd_t, ofO_some, ofT_some, endC, fin, seq_nx, seq_rt, tru, ofT, ofO]
  · simp [e, e1, toFl_ok, bind_ok, emb_t, rd_t, ofO_some, ofT_some, endC, fin, seq_nx, seq_rt, tru, ofT, ofO]
theorem omN_of' {c n g : Nat} {m : Str} {d : FD} (h1 : D.own c = true) (h2 : D.om c m = some g) (h3 : D.fn g = some d) (h4 : d.np = n) : omN D c m n = some g := by
  unfold omN
  rw [if_pos h1, h2]
  simp only [h3, h4, if_true]
theorem ownEq_q [a1 : Is (D.own 55 = true)] [a2 : Is (D.om 55 "__eq__" = some 351)] [Is (D.fn 351 = some F_ratios_Ratio___eq__)] [Is (∀ t, okT D t = true → D.kit (.cl 55) t = true)] [Is (∀ d, D.sub d 55 = decide (d = 55))] [Is (D.cls 55 = true)] [Is (D.fld 55 "own_top" = true)] [Is (D.fld 55 "own_bottom" = true)] {x y : Rat} : ownEq D (callN D rp fw (n + 1)) s 55 (.t (ratQ x)) (.t (ratQ y)) = some (decide (x = y)) := by
  unfold ownEq
  rw [omN_of' (n := 2) a1.h a2.h (Is.h (p := D.fn 351 = some F_ratios_Ratio___eq__)) rfl]
  simp only [eq_ok, if_true]
theorem dif_q {x y : Rat} (h : x ≠ y) : dif (ratQ x) (ratQ y) = true := by
  have : ¬ (x.num = y.num ∧ x.den = y.den) := fun ⟨a, b⟩ => h (Rat.ext a b)
  simp only [rat_ins, ratF, dif, difF, eqFlat]
  by_cases e1 : x.num = y.num
  · have e2 : x.den ≠ y.den := fun e2 => this ⟨e1, e2⟩
    simp [e1]; omega
  · simp [e1]
theorem eqB_q [a1 : Is (D.own 55 = true)] [a2 : Is (D.om 55 "__eq__" = some 351)] [Is (D.fn 351 = some F_ratios_Ratio___eq__)] [Is (∀ t, okT D t = true → D.kit (.cl 55) t = true)] [Is (∀ d, D.sub d 55 = decide (d = 55))] [Is (D.cls 55 = true)] [Is (D.fld 55 "own_top" = true)] [Is (D.fld 55 "own_bottom" = true)] {f : T → T → Option Bool} {x y : Rat} : eqB D (callN D rp fw (n + 1)) s f (.t (ratQ x)) (.t (ratQ y)) (ratQ x) (ratQ y) = some (decide (x = y)) := by
  rw [← ownEq_q (D := D) (rp := rp) (fw := fw) (n := n) (s := s)]
  unfold eqB
  simp only [rat_ins, if_true]
theorem eqI_q [a1 : Is (D.own 55 = true)] [a2 : Is (D.om 55 "__eq__" = some 351)] [Is (D.fn 351 = some F_ratios_Ratio___eq__)] [Is (∀ t, okT D t = true → D.kit (.cl 55) t = true)] [Is (∀ d, D.sub d 55 = decide (d = 55))] [Is (D.cls 55 = true)] [Is (D.fld 55 "own_top" = true)] [Is (D.fld 55 "own_bottom" = true)] {m : Nat} {x y : Rat} : eqI (eqD D (callN D rp fw (n + 1)) s (m + 1)) (ratQ x) (ratQ y) = some (decide (x = y)) := by
  have e : eqD D (callN D rp fw (n + 1)) s (m + 1) (ratQ x) (ratQ y) = some (decide (x = y)) := by
    unfold eqD
    exact eqB_q
  have e0 : eqFlat (ratQ x) (ratQ y) = none := rfl
  unfold eqI
  rw [e0]
  simp only
  rw [e]
  by_cases h : x = y
  · simp [h]
  · simp [h, dif_q h]
end
end Tw
namespace Tw
open PySem L2
structure Wk (s : Store) (src : Src) (xs : List T) : Prop where
  at_ : ∀ acc i, src.at (s ++ [.lst acc]) i = some xs[i]?
  here : ∀ i, src.at s i = some xs[i]?
  most : xs.length < src.most s
theorem Wk.lst {s : Store} {xs : List T} : Wk s (.lst (.t (.lst xs))) xs := ⟨fun acc i => at_lst rfl i, fun i => at_lst rfl i, by rw [most_lst rfl]; omega⟩
theorem Wk.tup {s : Store} {xs : List T} : Wk s (.tup xs) xs := ⟨fun acc i => rfl, fun i => rfl, by rw [most_tup]; omega⟩
theorem rngL_map (m : Nat) : rngL 0 m = (List.range m).map fun i => .int i := by
  unfold rngL; simp
theorem Wk.rng {s : Store} {lo hi : Int} : Wk s (.rng lo hi) (rngL lo hi) := ⟨fun acc i => at_rng i, fun i => at_rng i, by rw [most_rng]; omega⟩
theorem Wk.rng0 {s : Store} {m : Nat} : Wk s (.rng 0 m) ((List.range m).map fun i : Nat => T.int i) := by rw [← rngL_map]; exact .rng
theorem zip_at {st : Store} {xs ys : List T} (i : Nat) : Src.at st (.zip (.t (.lst xs)) (.t (.lst ys))) i = some (List.zipWith (fun a b => T.tup [a, b]) xs ys)[i]? := by
  simp only [Src.at, lstAt, rd_t, List.getElem?_zipWith]
  cases hx : xs[i]? <;> cases hy : ys[i]? <;> rfl
theorem Wk.zip {s : Store} {xs ys : List T} : Wk s (.zip (.t (.lst xs)) (.t (.lst ys))) (List.zipWith (fun a b => .tup [a, b]) xs ys) :=
  ⟨fun acc i => zip_at i, fun i => zip_at i, by simp [Src.most, lstAt, rd, List.length_zipWith]; omega⟩
theorem enT_at {st : Store} {xs : List T} (i : Nat) : Src.at st (.enT xs) i = some (xs.mapIdx fun i a => T.tup [.int i, a])[i]? := by
  simp only [Src.at, List.getElem?_mapIdx]
theorem Wk.enT {s : Store} {xs : List T} : Wk s (.enT xs) (xs.mapIdx fun i a => .tup [.int i, a]) :=
  ⟨fun acc i => enT_at i, fun i => enT_at i, by rw [List.length_mapIdx]; show _ < xs.length + 1; omega⟩
theorem enu_at {st : Store} {xs : List T} (i : Nat) : Src.at st (.enu (.t (.lst xs))) i = some (xs.mapIdx fun i a => T.tup [.int i, a])[i]? := by
  rw [at_enu rfl i, List.getElem?_mapIdx]
theorem Wk.enu {s : Store} {xs : List T} : Wk s (.enu (.t (.lst xs))) (xs.mapIdx fun i a => .tup [.int i, a]) :=
  ⟨fun acc i => enu_at i, fun i => enu_at i, by rw [most_enu rfl, List.length_mapIdx]; omega⟩
section
variable {D : Defs} {cf : CF} {rp : Store → T → Out Str} {e a b : E} {loc : Loc} {s s1 s2 : Store} {xs ys : List T}
theorem it_lst (h : ev D cf rp e loc s = .ok (.t (.lst xs)) s1) : evI D cf rp (.iseq e) loc s = .ok (.lst (.t (.lst xs))) s1 := by simp only [evI, h, bind_ok, rd_t]
theorem it_rng2 {m k : Nat} (h : ev D cf rp a loc s = .ok (.t (.int m)) s1) (h2 : ev D cf rp b loc s1 = .ok (.t (.int k)) s2) (hm : m < 1000) (hk : k < 1000) : evI D cf rp (.irng2 a b) loc s = .ok (.rng m k) s2 := by
  simp only [evI, h, h2, bind_ok, rd_t]
  rw [decide_eq_true (rng_a hm), decide_eq_true (rng_b hm), decide_eq_true (rng_a hk), decide_eq_true (rng_b hk)]
  rfl
end
section
variable {D : Defs} {cf : CF} {rp : Store → T → Out Str} {loc : Loc} {s s1 : Store}
theorem ev_lc_mapA {α : Type} {own : List Nat} {g it e : E} {src : Src} (as : List α) (v f : α → T) (h1 : evI D cf rp it loc s = .ok src s) (hw : Wk s src (as.map v)) (hz : as.length ≤ sizeLine)
    (h : ∀ x ∈ as, ∃ l1, bindG g (v x) (wipeL loc own) = some l1 ∧ ∀ acc, ev D cf rp e l1 (s ++ [.lst acc]) = .ok (.t (f x)) (s ++ [.lst acc])) :
    ev D cf rp (.lc false own g it .omit e) loc s = .ok (.t (.lst (as.map f))) s := by
  obtain ⟨acc, s2, h2, rfl, rfl⟩ := loopC_inv (src := src) (g := g) (cond := fun l s => if E.omit.isOmit then .ok true s else (ev D cf rp E.omit l s).bind fun y s1 => ofO s1 ((rd s1 y).bind tru)) (elt := ev D cf rp e) (lw := wipeL loc own) (n0 := s.length) (xs := as.map v)
    (fun i acc s' => s' = s ∧ acc = (as.take i).map f) (fun i acc s' h => by rw [h.1]) (by rw [List.length_map]; exact hz) (fun i acc s' h => by rw [h.2]; simp; omega) (fun i acc s' h => by rw [h.1]; exact hw.at_ acc i)
    (fun i x acc s' hx hI => by
      obtain ⟨rfl, rfl⟩ := hI
      rw [List.getElem?_map, Option.map_eq_some_iff] at hx
      obtain ⟨a, ha, rfl⟩ := hx
      obtain ⟨l1, hb, he⟩ := h a (List.mem_of_getElem? ha)
      refine ⟨l1, hb, .inr ⟨_, _, _, f a, s', rfl, he _, rfl, rfl, ?_⟩⟩
      rw [List.take_add_one, ha]; simp)
    (src.most s) 0 [] s (by have := hw.most; omega) (Nat.zero_le _) ⟨rfl, by simp⟩
  rw [List.length_map, List.take_length] at h2
  exact ev_lc h1 h2 rfl
theorem loopF_invA {α : Type} {src : Src} {g : E} {body : Loc → Store → Fl} (as : List α) (v : α → T) (Inv : Nat → Loc → Store → Prop)
    (hat : ∀ i loc s, Inv i loc s → src.at s i = some (as.map v)[i]?)
    (step : ∀ i x loc s, as[i]? = some x → Inv i loc s → ∃ l1, bindG g (v x) loc = some l1 ∧ ∃ l2 s2, (body l1 s = .nx l2 s2 ∨ body l1 s = .ct l2 s2) ∧ Inv (i + 1) l2 s2)
    {m : Nat} {loc : Loc} {s : Store} (hm : as.length < m) (I : Inv 0 loc s) : ∃ l2 s2, loopF src g body m 0 loc s = .nx l2 s2 ∧ Inv as.length l2 s2 := by
  obtain ⟨l2, s2, h, h2⟩ := loopF_inv (src := src) (g := g) (body := body) (xs := as.map v) Inv hat (fun i x loc s hx hI => by
    rw [List.getElem?_map, Option.map_eq_some_iff] at hx
    obtain ⟨a, ha, rfl⟩ := hx
    exact step i a loc s ha hI) m 0 loc s (by rw [List.length_map]; omega) (Nat.zero_le _) I
  rw [List.length_map] at h2
  exact ⟨l2, s2, h, h2⟩
end
section
variable {D : Defs} {cf : CF} {rp : Store → T → Out Str} {loc : Loc} {s s1 : Store} {ks : List Nat}
theorem lc_drawA {α : Type} {own : List Nat} {g it e : E} {src : Src} (as : List α) (v : α → T) (R : α → T → Prop) (h1 : evI D cf rp it loc s = .ok src s1) (hs : Ext ks s s1)
    (hat : ∀ s', Ext ks s1 s' → ∀ i, src.at s' i = some (as.map v)[i]?) (hm : as.length < src.most s1) (hz : as.length ≤ sizeLine)
    (h : ∀ x ∈ as, ∀ s', Ext ks s1 s' → ∃ l1, bindG g (v x) (wipeL loc own) = some l1 ∧ ∃ t s2, ev D cf rp e l1 s' = .ok (.t t) s2 ∧ Ext ks s' s2 ∧ R x t) :
    ∃ ys s2, ev D cf rp (.lc false own g it .omit e) loc s = .ok (.t (.lst ys)) s2 ∧ Ext ks s s2 ∧ All2 R as ys := by
  have h0 : Ext ks s1 s1 := Sat.start hs.pots
  obtain ⟨acc, s2, h2, hS, hF⟩ := loopC_gen (src := src) (g := g) (cond := fun l s => if E.omit.isOmit then .ok true s else (ev D cf rp E.omit l s).bind fun y s1 => ofO s1 ((rd s1 y).bind tru)) (elt := ev D cf rp e) (lw := wipeL loc own) (n0 := s1.length) (xs := as.map v)
    (fun i acc st => Sat s1 ks [(s1.length, acc)] st ∧ All2 R (as.take i) acc) (by rw [List.length_map]; exact hz) (fun i acc st hI => by have := hI.2.length_eq; simp at this; omega)
    (fun i acc st hI => hat st hI.1.ext i)
    (fun i x acc st hx hI => by
      obtain ⟨hS, hF⟩ := hI
      rw [List.getElem?_map, Option.map_eq_some_iff] at hx
      obtain ⟨a, ha, rfl⟩ := hx
      obtain ⟨l1, hb, t, s2, e1, e2, e3⟩ := h a (List.mem_of_getElem? ha) st hS.ext
      have hS2 := hS.trans e2
      refine ⟨l1, hb, .inr ⟨st, .t t, s2, t, s2, rfl, e1, rfl, hS2.get, hS2.putr, ?_⟩⟩
      rw [List.take_add_one, ha]
      exact forall2_append hF (.cons e3 .nil))
    (src.most s1) 0 [] (s1 ++ [.lst []]) (by rw [List.length_map]; omega) (Nat.zero_le _) ⟨h0.new, .nil⟩
  rw [List.length_map, List.take_length] at hF
  refine ⟨acc, s2.take s1.length, ev_lc_gen h1 h2 hS.get, hs.trans ?_, hF⟩
  exact hS.ext.takeN (Nat.le_refl _) hS.le (by simp)
end
end Tw
set_option maxHeartbeats 4000000
namespace Tw
def Qb (d m : Nat) (x : Rat) : Prop := ∃ z : Int, x * (d : Rat) = z ∧ z.natAbs ≤ m
theorem natRat_ne {d : Nat} (h : 0 < d) : (d : Rat) ≠ 0 := by
  intro z; have := Rat.natCast_eq_zero_iff.mp z; omega
theorem Qb.add {d m m' : Nat} {x y : Rat} : Qb d m x → Qb d m' y → Qb d (m + m') (x + y) := fun ⟨z, h, b⟩ ⟨w, h', b'⟩ => ⟨z + w, by rw [Rat.add_mul, h, h', Rat.intCast_add], by omega⟩
theorem Qb.neg {d m : Nat} {x : Rat} : Qb d m x → Qb d m (-x) := fun ⟨z, h, b⟩ => ⟨-z, by rw [Rat.neg_mul, h, Rat.intCast_neg], by omega⟩
theorem Qb.sub {d m m' : Nat} {x y : Rat} (h : Qb d m x) (h' : Qb d m' y) : Qb d (m + m') (x - y) := by rw [Rat.sub_eq_add_neg]; exact h.add h'.neg
theorem Qb.mul {d m d' m' : Nat} {x y : Rat} : Qb d m x → Qb d' m' y → Qb (d * d') (m * m') (x * y) := fun ⟨z, h, b⟩ ⟨w, h', b'⟩ => ⟨z * w, by
  rw [Rat.intCast_mul, ← h, ← h', Rat.natCast_mul]; grind, by rw [Int.natAbs_mul]; exact Nat.mul_le_mul b b'⟩
theorem Qb.mono {d m m' : Nat} {x : Rat} (hm : m ≤ m') : Qb d m x → Qb d m' x := fun ⟨z, h, b⟩ => ⟨z, h, Nat.le_trans b hm⟩
theorem Qb.up {d m : Nat} (k : Nat) {x : Rat} : Qb d m x → Qb (d * k) (m * k) x := fun ⟨z, h, b⟩ => ⟨z * k, by
  rw [Rat.intCast_mul, ← h, Rat.natCast_mul, Rat.intCast_natCast]; grind, by rw [Int.natAbs_mul, Int.natAbs_natCast]; exact Nat.mul_le_mul_right _ b⟩
theorem Qb.int (z : Int) {m : Nat} (h : z.natAbs ≤ m) : Qb 1 m (z : Rat) := ⟨z, by simp, h⟩
theorem Qb.zero {d m : Nat} : Qb d m 0 := ⟨0, by simp, by simp⟩
theorem Qb.dvd {d m : Nat} (hd : 0 < d) {x : Rat} : Qb d m x → x.den ∣ d ∧ x.num.natAbs ≤ m := fun ⟨z, h, b⟩ => by
  have hd' := natRat_ne hd
  have e : x = Rat.divInt z (d : Int) := by
    rw [Rat.divInt_eq_div, ← h, Rat.intCast_natCast]
    grind
  constructor
  · rw [e, Rat.den_divInt, if_neg (by omega)]
    have hg : Int.gcd (d : Int) z ∣ d := by
      have := Int.gcd_dvd_left (a := (d : Int)) (b := z)
      exact Int.ofNat_dvd.mp this
    simpa using Nat.div_dvd_of_dvd hg
  · rw [e, Rat.num_divInt]
    refine Nat.le_trans (Nat.le_trans (Int.natAbs_ediv_le_natAbs _ _) ?_) b
    rw [Int.natAbs_mul, Int.sign_natCast_of_ne_zero (by omega)]
    simp
def lcms (xs : List Rat) : Nat := xs.foldl (fun b x => Nat.lcm b x.den) 1
def whole (L : Nat) (x : Rat) : Int := x.num * ((L / x.den : Nat) : Int)
theorem whole_eq {L : Nat} {x : Rat} (h : x.den ∣ L) : ((whole L x : Int) : Rat) = x * L := by
  obtain ⟨k, rfl⟩ := h
  unfold whole
  have hd : 0 < x.den := x.den_pos
  rw [Nat.mul_div_cancel_left _ hd, Rat.intCast_mul, Rat.intCast_natCast, Rat.natCast_mul]
  have h1 := Rat.num_divInt_den x
  rw [Rat.divInt_eq_div, Rat.intCast_natCast] at h1
  have h2 : (x.den : Rat) ≠ 0 := natRat_ne hd
  have h3 := Rat.div_mul_cancel (a := (x.num : Rat)) h2
  rw [h1] at h3
  grind
theorem Qb.whole {d m L : Nat} {x : Rat} (hd : 0 < d) (h : Qb d m x) (h1 : x.den ∣ L) (h2 : L ∣ d) : (whole L x).natAbs ≤ m := by
  obtain ⟨z, e, b⟩ := h
  obtain ⟨k, rfl⟩ := h2
  have hk : 0 < k := Nat.pos_of_mul_pos_left hd
  have e2 : (Tw.whole L x * k : Int) = z := by
    apply Rat.intCast_inj.mp
    rw [Rat.intCast_mul, whole_eq h1, ← e, Rat.natCast_mul, Rat.intCast_natCast]; grind
  have : (Tw.whole L x).natAbs * k = z.natAbs := by rw [← e2, Int.natAbs_mul, Int.natAbs_natCast]
  exact Nat.le_trans (Nat.le_mul_of_pos_right _ hk) (this ▸ b)
abbrev Row := List Rat
abbrev Mat := List (List Rat)
def Sh (p w : Nat) (A : Mat) : Prop := A.length = p ∧ ∀ r ∈ A, r.length = w
def RB (d m : Nat) (r : Row) : Prop := ∀ x ∈ r, Qb d m x
def TB (d m : Nat) (A : Mat) : Prop := ∀ r ∈ A, RB d m r
def dotI (xs ys : List Int) : Int := (List.zipWith (· * ·) xs ys).sum
def dotQ (xs ys : List Rat) : Rat := (List.zipWith (· * ·) xs ys).sum
def colI (B : List (List Int)) (j : Nat) : List Int := B.map fun l => l.getD j 0
def colQ (B : Mat) (j : Nat) : Row := B.map fun l => l.getD j 0
def mulI (w : Nat) (A B : List (List Int)) : List (List Int) := A.map fun r => (List.range w).map fun j => dotI r (colI B j)
def mulQ (w : Nat) (A B : Mat) : Mat := A.map fun r => (List.range w).map fun j => dotQ r (colQ B j)
theorem Qb.dot {d m d' m' : Nat} : ∀ (xs ys : List Rat), RB d m xs → RB d' m' ys → Qb (d * d') (xs.length * (m * m')) (dotQ xs ys)
  | [], ys, _, _ => by simp [dotQ]; exact Qb.zero
  | x :: xs, [], _, _ => by simp [dotQ]; exact Qb.zero
  | x :: xs, y :: ys, h1, h2 => by
    have ih := Qb.dot xs ys (fun z hz => h1 z (List.mem_cons_of_mem _ hz)) fun z hz => h2 z (List.mem_cons_of_mem _ hz)
    unfold dotQ at ih ⊢
    simp only [List.zipWith_cons_cons, List.sum_cons, List.length_cons]
    exact (((h1 x List.mem_cons_self).mul (h2 y List.mem_cons_self)).add ih).mono (by rw [Nat.add_mul, Nat.one_mul]; omega)
theorem RB.getD {d m : Nat} {r : Row} (h : RB d m r) (j : Nat) : Qb d m (r.getD j 0) := by
  rw [List.getD_eq_getElem?_getD]
  cases e : r[j]? with
  | none => exact Qb.zero
  | some x => exact h x (List.mem_of_getElem? e)
theorem TB.col {d m : Nat} {B : Mat} (h : TB d m B) (j : Nat) : RB d m (colQ B j) := fun x hx => by
  obtain ⟨l, hl, rfl⟩ := List.mem_map.mp hx
  exact (h l hl).getD j
theorem TB.mul {d m d' m' w p q : Nat} {A B : Mat} (hA : TB d m A) (hB : TB d' m' B) (sA : Sh p q A) : TB (d * d') (q * (m * m')) (mulQ w A B) := fun r hr x hx => by
  obtain ⟨a, ha, rfl⟩ := List.mem_map.mp hr
  obtain ⟨j, _, rfl⟩ := List.mem_map.mp hx
  have := Qb.dot a (colQ B j) (hA a ha) (hB.col j)
  rwa [sA.2 a ha] at this
theorem Sh.mul {w p q : Nat} {A B : Mat} (sA : Sh p q A) : Sh p w (mulQ w A B) := ⟨by simp [mulQ, sA.1], fun r hr => by
  obtain ⟨a, ha, rfl⟩ := List.mem_map.mp hr
  simp⟩
def idQ (n : Nat) : Mat := (List.range n).map fun i => (List.range n).map fun j => if i = j then 1 else 0
theorem Qb.sum {d m : Nat} : ∀ {xs : List Rat}, RB d m xs → Qb d (xs.length * m) xs.sum
  | [], _ => by simp; exact Qb.zero
  | x :: xs, h => by
    have ih := Qb.sum (xs := xs) fun z hz => h z (List.mem_cons_of_mem _ hz)
    simp only [List.sum_cons, List.length_cons]
    exact ((h x List.mem_cons_self).add ih).mono (by rw [Nat.add_mul, Nat.one_mul]; omega)
def wordQ (n : Nat) (ls : List Mat) (w : List Nat) : Mat := w.foldl (fun A l => mulQ n A (ls.getD l [])) (idQ n)
def toQ (A : List (List Int)) : Mat := A.map fun r => r.map fun z : Int => (z : Rat)
def idI (n : Nat) : List (List Int) := (List.range n).map fun i => (List.range n).map fun j => if i = j then 1 else 0
def IB (m : Nat) (A : List (List Int)) : Prop := ∀ r ∈ A, ∀ z ∈ r, z.natAbs ≤ m
def ShI (p w : Nat) (A : List (List Int)) : Prop := A.length = p ∧ ∀ r ∈ A, r.length = w
theorem IB.tb {m : Nat} {A : List (List Int)} (h : IB m A) : TB 1 m (toQ A) := fun r hr x hx => by
  obtain ⟨a, ha, rfl⟩ := List.mem_map.mp hr
  obtain ⟨z, hz, rfl⟩ := List.mem_map.mp hx
  exact Qb.int z (h a ha z hz)
theorem ShI.q {p w : Nat} {A : List (List Int)} (h : ShI p w A) : Sh p w (toQ A) := ⟨by simp [toQ, h.1], fun r hr => by
  obtain ⟨a, ha, rfl⟩ := List.mem_map.mp hr
  rw [List.length_map]; exact h.2 a ha⟩
theorem ShI.mul {w p q : Nat} {A B : List (List Int)} (sA : ShI p q A) : ShI p w (mulI w A B) := ⟨by simp [mulI, sA.1], fun r hr => by
  obtain ⟨a, ha, rfl⟩ := List.mem_map.mp hr
  simp⟩
theorem ShI.id (n : Nat) : ShI n n (idI n) := ⟨by simp [idI], fun r hr => by
  obtain ⟨a, ha, rfl⟩ := List.mem_map.mp hr
  simp⟩
theorem IB.mono {m m' : Nat} {A : List (List Int)} (h : IB m A) (hm : m ≤ m') : IB m' A := fun r hr z hz => Nat.le_trans (h r hr z hz) hm
theorem IB.id (n : Nat) : IB 1 (idI n) := fun r hr z hz => by
  obtain ⟨a, ha, rfl⟩ := List.mem_map.mp hr
  obtain ⟨b, hb, rfl⟩ := List.mem_map.mp hz
  split <;> simp
theorem dotI_le {m m' : Nat} : ∀ (xs ys : List Int), (∀ x ∈ xs, x.natAbs ≤ m) → (∀ y ∈ ys, y.natAbs ≤ m') → (dotI xs ys).natAbs ≤ xs.length * (m * m')
  | [], ys, _, _ => by simp [dotI]
  | x :: xs, [], _, _ => by simp [dotI]
  | x :: xs, y :: ys, h1, h2 => by
    have ih := dotI_le xs ys (fun z hz => h1 z (List.mem_cons_of_mem _ hz)) fun z hz => h2 z (List.mem_cons_of_mem _ hz)
    unfold dotI at ih ⊢
    simp only [List.zipWith_cons_cons, List.sum_cons, List.length_cons]
    have : (x * y).natAbs ≤ m * m' := by rw [Int.natAbs_mul]; exact Nat.mul_le_mul (h1 x List.mem_cons_self) (h2 y List.mem_cons_self)
    rw [Nat.add_mul, Nat.one_mul]
    omega
theorem IB.mul {m m' w p q : Nat} {A B : List (List Int)} (hA : IB m A) (hB : IB m' B) (sA : ShI p q A) : IB (q * (m * m')) (mulI w A B) := fun r hr z hz => by
  obtain ⟨a, ha, rfl⟩ := List.mem_map.mp hr
  obtain ⟨j, _, rfl⟩ := List.mem_map.mp hz
  have := dotI_le a (colI B j) (hA a ha) (fun y hy => by
    obtain ⟨l, hl, rfl⟩ := List.mem_map.mp hy
    rw [List.getD_eq_getElem?_getD]
    cases e : l[j]? with
    | none => simp
    | some x => exact hB l hl x (List.mem_of_getElem? e))
  rwa [sA.2 a ha] at this
end Tw
set_option maxHeartbeats 4000000
namespace Tw
open PySem L2
def rowT (r : Row) : T := .lst (r.map ratQ)
def matT (A : Mat) : T := .lst (A.map rowT)
def RdL (s : Store) (y : VV) (xs : List T) : Prop := y = .t (.lst xs) ∨ ∃ k, y = .c k ∧ s[k]? = some (.lst xs)
theorem RdL.t {s : Store} {xs : List T} : RdL s (.t (.lst xs)) xs := .inl rfl
theorem RdL.rd {s : Store} {y : VV} {xs : List T} (h : RdL s y xs) : rd s y = some (.lst xs) := by
  rcases h with rfl | ⟨k, rfl, h⟩
  · rfl
  · rw [rd_c' h]; rfl
theorem RdL.app {s j : Store} {y : VV} {xs : List T} (h : RdL s y xs) : RdL (s ++ j) y xs := by
  rcases h with rfl | ⟨k, rfl, h⟩
  · exact .inl rfl
  · exact .inr ⟨k, rfl, by rw [app_get1 (List.getElem?_eq_some_iff.mp h).1]; exact h⟩
def Lg (n : Nat) : Prop := n.log2 < 9000
theorem Lg.le {n d : Nat} (h : Lg d) (hn : n ≤ d) : Lg n := Nat.lt_of_le_of_lt (log2_mono hn) h
theorem Lg.mulOk {i j : Int} (h1 : Lg i.natAbs) (h2 : Lg j.natAbs) : mulOk i j = true := by
  unfold Tw.mulOk
  have a : i.natAbs.log2 < 9000 := h1
  have b : j.natAbs.log2 < 9000 := h2
  simp only [Bool.or_eq_true, decide_eq_true_eq]
  omega
section
variable {D : Defs} {rp : CF → Store → T → Out Str} {fw n : Nat} {s : Store}
end
end Tw
set_option maxHeartbeats 4000000
namespace Tw
open PySem L2
section
variable {D : Defs} {rp : CF → Store → T → Out Str} {fw n : Nat} {s : Store}
end
end Tw
set_option maxHeartbeats 4000000
namespace Tw
open PySem L2
theorem Qb.sz {d m : Nat} {x : Rat} (hd : 0 < d) (h : Qb d m x) (h1 : d ≤ 2 ^ 1000) (h2 : m ≤ 2 ^ 1000) : Szq x :=
  ⟨Nat.le_trans (Nat.le_of_dvd hd (h.dvd hd).1) h1, Nat.le_trans (h.dvd hd).2 h2⟩
theorem Lg.of {n k : Nat} (h : n ≤ 2 ^ k) (hk : k < 9000) : Lg n := Nat.lt_of_le_of_lt (log2_le h) hk
theorem atI_map {α : Type} {f : α → T} {xs : List α} {i : Nat} {x : α} (h : xs[i]? = some x) : atI (xs.map f) (i : Int) = some (f x) := atI_nat (by rw [List.getElem?_map, h]; rfl)
section
variable {D : Defs} {rp : CF → Store → T → Out Str} {fw n : Nat} {s : Store}
end
end Tw
set_option maxHeartbeats 4000000
namespace Tw
open PySem L2
theorem Num.ratOf {t : T} {x : Rat} (h : Num t x) : ratOf t = ratQ x := by cases h <;> rfl
theorem Num.isNum {t : T} {x : Rat} (h : Num t x) : isNum t = true := by cases h <;> rfl
theorem Num.okT {D : Defs} [h : Is (D.cls 55 = true)] {t : T} {x : Rat} (hx : Num t x) : okT D t = true := by
  cases hx with
  | q => exact h.h
  | i => rfl
theorem All2.imp {α β : Type} {R R' : α → β → Prop} : ∀ {xs : List α} {ys : List β}, All2 R xs ys → (∀ x y, R x y → R' x y) → All2 R' xs ys
  | _, _, .nil, _ => .nil
  | _, _, .cons a b, h => .cons (h _ _ a) (b.imp h)
theorem All2.left {α β : Type} {R : α → β → Prop} : ∀ {xs : List α} {ys : List β}, All2 R xs ys → ∀ x ∈ xs, ∃ y ∈ ys, R x y
  | _, _, .nil, x, h => by cases h
  | _, _, .cons a b, x, h => by
    rcases List.mem_cons.mp h with rfl | q
    · exact ⟨_, List.mem_cons_self, a⟩
    · obtain ⟨y, hy, r⟩ := b.left x q
      exact ⟨y, List.mem_cons_of_mem _ hy, r⟩
theorem All2.map_eq {α β γ : Type} {R : α → β → Prop} {f : α → γ} {g : β → γ} : ∀ {xs : List α} {ys : List β}, All2 R xs ys → (∀ x y, R x y → f x = g y) → xs.map f = ys.map g
  | _, _, .nil, _ => rfl
  | _, _, .cons a b, h => by rw [List.map_cons, List.map_cons, h _ _ a, b.map_eq h]
structure StR (t : T) (r : Row) : Prop where
  sq : isSeq t = true
  all : All2 Num (itms t) r
structure StM (t : T) (A : Mat) : Prop where
  sq : isSeq t = true
  all : All2 StR (itms t) A
theorem StR.len {t : T} {r : Row} (h : StR t r) : (itms t).length = r.length := h.all.length_eq
theorem StM.len {t : T} {A : Mat} (h : StM t A) : (itms t).length = A.length := h.all.length_eq
theorem StR.isRow {t : T} {r : Row} (h : StR t r) {w : Int} (hw : (r.length : Int) = w) : isRow t w = true := by
  unfold Tw.isRow
  rw [h.sq, h.len, hw, decide_eq_true rfl, Bool.true_and, Bool.true_and, List.all_eq_true]
  intro x hx
  obtain ⟨y, _, q⟩ := h.all.left x hx
  exact q.isNum
theorem StR.told {t : T} {r : Row} (h : StR t r) : T.lst ((itms t).map ratOf) = rowT r := by
  unfold rowT
  rw [h.all.map_eq (g := ratQ) fun x y q => q.ratOf]
theorem StM.told {t : T} {A : Mat} (h : StM t A) : toldT t = matT A := by
  unfold toldT matT
  rw [h.all.map_eq (g := rowT) fun x y q => q.told]
theorem StR.okN {D : Defs} [Is (D.cls 55 = true)] {t : T} {r : Row} (h : StR t r) (hr : r.length ≤ 1000) : okN D 1 t := by
  refine ⟨?_, by rw [h.len, sizeL]; omega, fun y hy => ?_⟩
  · obtain ⟨xs, rfl | rfl⟩ := seq_cases h.sq <;> rfl
  · obtain ⟨x, _, q⟩ := h.all.left y hy
    exact q.okT
theorem StM.okN {D : Defs} [Is (D.cls 55 = true)] {t : T} {A : Mat} {p w : Nat} (h : StM t A) (hs : Sh p w A) (hp : p ≤ 1000) (hw : w ≤ 1000) : okN D 2 t := by
  refine ⟨?_, by rw [h.len, hs.1, sizeL]; omega, fun y hy => ?_⟩
  · obtain ⟨xs, rfl | rfl⟩ := seq_cases h.sq <;> rfl
  · obtain ⟨x, hx, q⟩ := h.all.left y hy
    exact q.okN (by rw [hs.2 x hx]; exact hw)
section
variable {D : Defs} {rp : CF → Store → T → Out Str} {fw n : Nat} {s : Store}
end
end Tw
set_option maxHeartbeats 4000000
namespace Tw
abbrev Vec := Nat → Rat
inductive Sp (G : Vec → Prop) : Vec → Prop where
  | zero : Sp G (fun _ => 0)
  | add {u v : Vec} (c : Rat) : Sp G u → G v → Sp G (fun j => u j + c * v j)
section
variable {G G' : Vec → Prop} {u v : Vec}
theorem Sp.gen (h : G v) : Sp G v := by
  have := Sp.add 1 .zero h
  have e : (fun j => (fun _ => (0 : Rat)) j + 1 * v j) = v := by funext j; simp only [Rat.one_mul, Rat.zero_add]
  rwa [e] at this
theorem Sp.lin (a b : Rat) (hu : Sp G u) (hv : Sp G v) : Sp G (fun j => a * u j + b * v j) := by
  have smul : ∀ {x : Vec} (c : Rat), Sp G x → Sp G (fun j => c * x j) := by
    intro x c h
    induction h with
    | zero => have : (fun _ : Nat => c * (0 : Rat)) = fun _ => 0 := by funext j; exact Rat.mul_zero c
              rw [this]; exact .zero
    | add d h g ih =>
      rename_i y z
      have : (fun j => c * (y j + d * z j)) = fun j => c * y j + (c * d) * z j := by funext j; grind
      rw [this]; exact .add _ ih g
  have h1 := smul a hu
  induction hv with
  | zero => have : (fun j => a * u j + b * (0 : Rat)) = fun j => a * u j := by funext j; rw [Rat.mul_zero, Rat.add_zero]
            rw [this]; exact h1
  | add d h g ih =>
    rename_i y z
    have : (fun j => a * u j + b * (y j + d * z j)) = fun j => (a * u j + b * y j) + (b * d) * z j := by funext j; grind
    rw [this]; exact .add _ ih g
theorem Sp.mono (h : ∀ v, G v → Sp G' v) (hu : Sp G u) : Sp G' u := by
  induction hu with
  | zero => exact .zero
  | add c h0 g ih =>
    rename_i y z
    have := Sp.lin 1 c ih (h _ g)
    have e : (fun j => 1 * y j + c * z j) = fun j => y j + c * z j := by funext j; rw [Rat.one_mul]
    rwa [e] at this
end
def comb : List Nat → List Vec → Vec → Vec
  | h :: hs, r :: rs, v => fun j => v h * r j + comb hs rs v j
  | _, _, _ => fun _ => 0
theorem comb_lin (u v : Vec) (c : Rat) : ∀ (hs : List Nat) (rs : List Vec), comb hs rs (fun j => u j + c * v j) = fun j => comb hs rs u j + c * comb hs rs v j
  | [], _ => by funext j; simp [comb, Rat.mul_zero, Rat.add_zero]
  | _ :: _, [] => by funext j; simp [comb, Rat.mul_zero, Rat.add_zero]
  | h :: hs, r :: rs => by
    funext j
    simp only [comb, comb_lin u v c hs rs]
    grind
theorem comb_at (v : Vec) (p : Nat) : ∀ (hs : List Nat) (rs : List Vec), (∀ (i h : Nat) (r : Vec), hs[i]? = some h → rs[i]? = some r → v h = 0 ∨ r p = 0) → comb hs rs v p = 0
  | [], _, _ => rfl
  | _ :: _, [], _ => rfl
  | h :: hs, r :: rs, H => by
    have ih := comb_at v p hs rs fun i h' r' e1 e2 => H (i + 1) h' r' (by simpa using e1) (by simpa using e2)
    simp only [comb, ih]
    rcases H 0 h r rfl rfl with e | e <;> rw [e] <;> simp [Rat.zero_mul, Rat.mul_zero, Rat.add_zero]
theorem comb_one (u : Vec) : ∀ (hs : List Nat) (rs : List Vec) (k h : Nat) (v : Vec), hs[k]? = some h → rs[k]? = some v → u h = 1 → (∀ (i h' : Nat), i ≠ k → hs[i]? = some h' → u h' = 0) → comb hs rs u = v
  | h0 :: hs, r :: rs, 0, h, v, e1, e2, e3, H => by
    simp only [List.getElem?_cons_zero, Option.some.injEq] at e1 e2
    subst e1 e2
    funext j
    have z := comb_at u j hs rs fun i h' r' q1 _ => .inl (H (i + 1) h' (by omega) (by simpa using q1))
    simp only [comb, z, e3, Rat.one_mul, Rat.add_zero]
  | h0 :: hs, r :: rs, k + 1, h, v, e1, e2, e3, H => by
    have ih := comb_one u hs rs k h v (by simpa using e1) (by simpa using e2) e3 fun i h' q e => H (i + 1) h' (by omega) (by simpa using e)
    have z := H 0 h0 (by omega) rfl
    funext j
    simp only [comb, ih, z, Rat.zero_mul, Rat.zero_add]
  | [], _, k, h, v, e1, _, _, _ => by simp at e1
  | _ :: _, [], k, h, v, _, e2, _, _ => by simp at e2
structure Ech (hs : List Nat) (vs : List Vec) : Prop where
  len : hs.length = vs.length
  inc : hs.Pairwise (· < ·)
  one : ∀ (i h : Nat) (v : Vec), hs[i]? = some h → vs[i]? = some v → v h = 1
  low : ∀ (i h : Nat) (v : Vec), hs[i]? = some h → vs[i]? = some v → ∀ j, j < h → v j = 0
  off : ∀ (i k h : Nat) (v : Vec), hs[i]? = some h → vs[k]? = some v → i ≠ k → v h = 0
section
variable {hs hs' : List Nat} {vs vs' : List Vec} {v : Vec}
theorem at_both (h : hs.length = vs.length) {i : Nat} (hi : i < hs.length) : ∃ a b, hs[i]? = some a ∧ vs[i]? = some b := ⟨_, _, List.getElem?_eq_getElem hi, List.getElem?_eq_getElem (h ▸ hi)⟩
theorem Ech.coef (E : Ech hs vs) (h : Sp (· ∈ vs) v) : comb hs vs v = v := by
  induction h with
  | zero =>
    funext j
    exact comb_at _ j hs vs fun i h r _ _ => .inl rfl
  | add c h g ih =>
    rename_i y z
    rw [comb_lin, ih]
    obtain ⟨k, hk⟩ := List.getElem?_of_mem g
    have hl := (List.getElem?_eq_some_iff.mp hk).1
    obtain ⟨a, b, e1, e2⟩ := at_both E.len (E.len ▸ hl)
    rw [hk] at e2
    cases e2
    have := comb_one z hs vs k a z e1 hk (E.one _ _ _ e1 hk) fun i h' q e => E.off i k h' z e hk q
    rw [this]
theorem Ech.lead (E : Ech hs vs) (h : Sp (· ∈ vs) v) {p : Nat} (h0 : ∀ j, j < p → v j = 0) (hp : v p ≠ 0) : p ∈ hs := by
  refine Classical.byContradiction fun hn => hp ?_
  rw [← E.coef h]
  refine comb_at v p hs vs fun i a r e1 e2 => ?_
  have : a ≠ p := fun q => hn (q ▸ List.mem_of_getElem? e1)
  rcases Nat.lt_or_gt_of_ne this with q | q
  · exact .inl (h0 a q)
  · exact .inr (E.low i a r e1 e2 p q)
theorem Ech.heads (E : Ech hs vs) (E' : Ech hs' vs') (h : ∀ v, v ∈ vs → Sp (· ∈ vs') v) {p : Nat} (hp : p ∈ hs) : p ∈ hs' := by
  obtain ⟨i, hi⟩ := List.getElem?_of_mem hp
  have hl := (List.getElem?_eq_some_iff.mp hi).1
  obtain ⟨a, b, e1, e2⟩ := at_both E.len hl
  rw [hi] at e1
  cases e1
  refine E'.lead (h b (List.mem_of_getElem? e2)) (E.low i p b hi e2) ?_
  rw [E.one i p b hi e2]
  decide
theorem Ech.made (E : Ech hs vs) : Sp (· ∈ vs) v ↔ comb hs vs v = v := by
  refine ⟨E.coef, fun h => ?_⟩
  rw [← h]
  have : ∀ (hs : List Nat) (rs : List Vec), (∀ r ∈ rs, Sp (· ∈ vs) r) → Sp (· ∈ vs) (comb hs rs v) := by
    intro hs rs
    induction hs generalizing rs with
    | nil => intro _; exact .zero
    | cons h hs ih =>
      intro hr
      cases rs with
      | nil => exact .zero
      | cons r rs =>
        have := Sp.lin (v h) 1 (hr r List.mem_cons_self) (ih rs fun x hx => hr x (List.mem_cons_of_mem _ hx))
        have e : (fun j => v h * r j + 1 * comb hs rs v j) = comb (h :: hs) (r :: rs) v := by funext j; simp only [comb, Rat.one_mul]
        rwa [e] at this
  exact this hs vs fun r hr => .gen hr
theorem Ech.few (E : Ech hs vs) {w : Nat} (hw : ∀ h ∈ hs, h < w) : vs.length ≤ w := by
  rw [← E.len]
  have : ∀ (hs : List Nat) (a : Nat), hs.Pairwise (· < ·) → (∀ h ∈ hs, a ≤ h ∧ h < w) → hs.length + a ≤ w ∨ hs = [] := by
    intro hs
    induction hs with
    | nil => intro a _ _; exact .inr rfl
    | cons h hs ih =>
      intro a hp hb
      rw [List.pairwise_cons] at hp
      have hh := hb h List.mem_cons_self
      rcases ih (h + 1) hp.2 fun x hx => ⟨hp.1 x hx, (hb x (List.mem_cons_of_mem _ hx)).2⟩ with q | q
      · left; simp only [List.length_cons]; omega
      · left; subst q; simp; omega
  rcases this hs 0 E.inc fun h hh => ⟨Nat.zero_le _, hw h hh⟩ with q | q
  · omega
  · rw [q]; simp
end
def vec (r : List Rat) : Vec := fun j => r.getD j 0
def Stp (w : Nat) (R : List (List Rat)) : Prop := (∀ r ∈ R, r.length = w) ∧ ∃ hs, Ech hs (R.map vec) ∧ ∀ h ∈ hs, h < w
theorem Stp.few {w : Nat} {R : List (List Rat)} (h : Stp w R) : R.length ≤ w := by
  obtain ⟨_, hs, E, hw⟩ := h
  have := E.few hw
  rwa [List.length_map] at this
end Tw
set_option maxHeartbeats 4000000
namespace Tw
def gcdL (r : List Int) : Nat := r.foldl (fun g x => if x = 0 then g else Nat.gcd g x.natAbs) 0
def bareI (r : List Int) : List Int := if 1 < gcdL r then r.map fun x => x.fdiv (gcdL r) else r
def clearI (row head : List Int) (p : Nat) : List Int := if row.getD p 0 = 0 then row else bareI (List.zipWith (fun near far => head.getD p 0 * near - row.getD p 0 * far) row head)
def headI (row : List Int) (p : Nat) : List Int := if 0 < (bareI row).getD p 0 then bareI row else (bareI row).map fun x => 0 - x
def firstI (rows : List (List Int)) (p : Nat) : Option Nat := rows.findIdx? fun r => decide (r.getD p 0 ≠ 0)
def stepI (p : Nat) (s : List (List Int) × List (List Int)) : List (List Int) × List (List Int) := match firstI s.1 p with
  | none => s
  | some at_ => (((s.1.take at_ ++ s.1.drop (at_ + 1)).map fun r => clearI r (headI (s.1.getD at_ []) p) p), (s.2.map fun r => clearI r (headI (s.1.getD at_ []) p) p) ++ [headI (s.1.getD at_ []) p])
theorem getD_map0 {f : Int → Int} (h : f 0 = 0) (r : List Int) (j : Nat) : (r.map f).getD j 0 = f (r.getD j 0) := by
  rw [List.getD_eq_getElem?_getD, List.getD_eq_getElem?_getD, List.getElem?_map]
  cases r[j]? <;> simp [h]
theorem getD_zip0 {f : Int → Int → Int} (h : f 0 0 = 0) {r s : List Int} (hl : r.length = s.length) (j : Nat) : (List.zipWith f r s).getD j 0 = f (r.getD j 0) (s.getD j 0) := by
  rw [List.getD_eq_getElem?_getD, List.getD_eq_getElem?_getD, List.getD_eq_getElem?_getD, List.getElem?_zipWith]
  by_cases hj : j < r.length
  · rw [List.getElem?_eq_getElem hj, List.getElem?_eq_getElem (hl ▸ hj)]; rfl
  · rw [List.getElem?_eq_none (by omega), List.getElem?_eq_none (by omega)]; simp [h]
theorem gcd_fold (d : Nat) : ∀ (r : List Int) (g : Nat), r.foldl (fun g x => if x = 0 then g else Nat.gcd g x.natAbs) g ∣ g ∧ ∀ x ∈ r, ((r.foldl (fun g x => if x = 0 then g else Nat.gcd g x.natAbs) g : Nat) : Int) ∣ x
  | [], g => ⟨Nat.dvd_refl _, by simp⟩
  | x :: r, g => by
    rw [List.foldl_cons]
    obtain ⟨h1, h2⟩ := gcd_fold d r (if x = 0 then g else Nat.gcd g x.natAbs)
    by_cases hx : x = 0
    · simp only [hx, if_true] at h1 h2 ⊢
      refine ⟨h1, fun y hy => ?_⟩
      rcases List.mem_cons.mp hy with rfl | q
      · exact Int.dvd_zero _
      · exact h2 y q
    · simp only [hx, if_false] at h1 h2 ⊢
      refine ⟨Nat.dvd_trans h1 (Nat.gcd_dvd_left _ _), fun y hy => ?_⟩
      rcases List.mem_cons.mp hy with rfl | q
      · exact Int.ofNat_dvd_left.mpr (Nat.dvd_trans h1 (Nat.gcd_dvd_right _ _))
      · exact h2 y q
theorem gcdL_dvd {r : List Int} {x : Int} (h : x ∈ r) : ((gcdL r : Nat) : Int) ∣ x := (gcd_fold 0 r 0).2 x h
theorem bare_len (r : List Int) : (bareI r).length = r.length := by unfold bareI; split <;> simp
theorem bare_g (r : List Int) : ∃ g : Int, 0 < g ∧ ∀ j, r.getD j 0 = g * (bareI r).getD j 0 := by
  unfold bareI
  split
  · rename_i h
    refine ⟨(gcdL r : Nat), by omega, fun j => ?_⟩
    rw [getD_map0 (by simp)]
    rw [List.getD_eq_getElem?_getD]
    cases e : r[j]? with
    | none => simp
    | some x =>
      have d := gcdL_dvd (List.mem_of_getElem? e)
      simp only [Option.getD_some]
      rw [Int.fdiv_eq_ediv_of_dvd d, Int.mul_ediv_cancel' d]
  · exact ⟨1, by omega, fun j => by rw [Int.one_mul]⟩
def BdI (m : Nat) (r : List Int) : Prop := ∀ j, (r.getD j 0).natAbs ≤ m
theorem BdI.of {m : Nat} {r : List Int} (h : ∀ x ∈ r, x.natAbs ≤ m) : BdI m r := fun j => by
  rw [List.getD_eq_getElem?_getD]
  cases e : r[j]? with
  | none => simp
  | some x => exact h x (List.mem_of_getElem? e)
theorem BdI.mem {m : Nat} {r : List Int} (h : BdI m r) : ∀ x ∈ r, x.natAbs ≤ m := fun x hx => by
  obtain ⟨j, hj⟩ := List.getElem?_of_mem hx
  have := h j
  rwa [List.getD_eq_getElem?_getD, hj] at this
theorem BdI.mono {m m' : Nat} {r : List Int} (h : BdI m r) (hm : m ≤ m') : BdI m' r := fun j => Nat.le_trans (h j) hm
theorem BdI.bare {m : Nat} {r : List Int} (h : BdI m r) : BdI m (bareI r) := fun j => by
  obtain ⟨g, hg, e⟩ := bare_g r
  have := h j
  rw [e j, Int.natAbs_mul] at this
  exact Nat.le_trans (Nat.le_mul_of_pos_left _ (by omega)) this
theorem clear_len {row head : List Int} {p : Nat} (hl : row.length = head.length) : (clearI row head p).length = row.length := by
  unfold clearI
  split
  · rfl
  · rw [bare_len, List.length_zipWith, hl, Nat.min_self]
theorem clear_eq {row head : List Int} {p : Nat} (hl : row.length = head.length) (hp : 0 < head.getD p 0) : ∃ g a b : Int, 0 < g ∧ 0 < a ∧ (∀ j, g * (clearI row head p).getD j 0 = a * row.getD j 0 - b * head.getD j 0) ∧ (clearI row head p).getD p 0 = 0 := by
  unfold clearI
  split
  · rename_i h
    exact ⟨1, 1, 0, by omega, by omega, fun j => by omega, h⟩
  · obtain ⟨g, hg, e⟩ := bare_g (List.zipWith (fun near far => head.getD p 0 * near - row.getD p 0 * far) row head)
    refine ⟨g, head.getD p 0, row.getD p 0, hg, hp, fun j => ?_, ?_⟩
    · rw [← e j, getD_zip0 (by simp) hl]
    · have := e p
      rw [getD_zip0 (by simp) hl, Int.mul_comm, Int.sub_self] at this
      rcases Int.mul_eq_zero.mp this.symm with q | q
      · omega
      · exact q
theorem BdI.clear {m m' : Nat} {row head : List Int} {p : Nat} (hl : row.length = head.length) (h : BdI m row) (h' : BdI m' head) (hp : 0 < head.getD p 0) : BdI (2 * (m * m')) (clearI row head p) := by
  have m1 : 1 ≤ m' := by have := h' p; omega
  unfold clearI
  split
  · exact h.mono (Nat.le_trans (Nat.le_mul_of_pos_right m m1) (by omega))
  · refine BdI.bare fun j => ?_
    rw [getD_zip0 (by simp) hl]
    have a := Nat.mul_le_mul (h' p) (h j)
    have b := Nat.mul_le_mul (h p) (h' j)
    rw [← Int.natAbs_mul] at a b
    rw [Nat.mul_comm m' m] at a
    omega
theorem head_len (row : List Int) (p : Nat) : (headI row p).length = row.length := by unfold headI; split <;> simp [bare_len]
theorem head_eq {row : List Int} {p : Nat} (hp : row.getD p 0 ≠ 0) : ∃ g : Int, g ≠ 0 ∧ (∀ j, row.getD j 0 = g * (headI row p).getD j 0) ∧ 0 < (headI row p).getD p 0 := by
  obtain ⟨g, hg, e⟩ := bare_g row
  unfold headI
  split
  · rename_i h
    exact ⟨g, by omega, e, h⟩
  · rename_i h
    refine ⟨-g, by omega, fun j => ?_, ?_⟩
    · rw [getD_map0 (by simp), e j, Int.zero_sub, Int.neg_mul_neg]
    · rw [getD_map0 (by simp)]
      have : (bareI row).getD p 0 ≠ 0 := fun z => hp (by rw [e p, z, Int.mul_zero])
      omega
theorem BdI.head {m : Nat} {row : List Int} {p : Nat} (h : BdI m row) : BdI m (headI row p) := by
  unfold headI
  split
  · exact h.bare
  · intro j
    rw [getD_map0 (by simp)]
    have := h.bare j
    omega
def vecI (r : List Int) : Vec := fun j => ((r.getD j 0 : Int) : Rat)
def GsI (left found : List (List Int)) : Vec → Prop := fun v => ∃ r, (r ∈ left ∨ r ∈ found) ∧ v = vecI r
structure StI (w p e : Nat) (hs : List Nat) (left found : List (List Int)) (G0 : Vec → Prop) : Prop where
  lw : ∀ r ∈ left, r.length = w
  fw : ∀ r ∈ found, r.length = w
  sp1 : ∀ r, r ∈ left ∨ r ∈ found → Sp G0 (vecI r)
  sp2 : ∀ v, G0 v → Sp (GsI left found) v
  zero : ∀ r ∈ left, ∀ j, j < p → r.getD j 0 = 0
  len : hs.length = found.length
  inc : hs.Pairwise (· < ·)
  lt : ∀ h ∈ hs, h < p
  pos : ∀ (i h : Nat) (r : List Int), hs[i]? = some h → found[i]? = some r → 0 < r.getD h 0
  low : ∀ (i h : Nat) (r : List Int), hs[i]? = some h → found[i]? = some r → ∀ j, j < h → r.getD j 0 = 0
  off : ∀ (i k h : Nat) (r : List Int), hs[i]? = some h → found[k]? = some r → i ≠ k → r.getD h 0 = 0
  bd : ∀ r, r ∈ left ∨ r ∈ found → BdI (2 ^ (2 ^ found.length * (e + 1) - 1)) r
theorem first_none {rows : List (List Int)} {p : Nat} (h : firstI rows p = none) : ∀ r ∈ rows, r.getD p 0 = 0 := fun r hr => by
  unfold firstI at h
  have := List.findIdx?_eq_none_iff.mp h r hr
  simpa using this
theorem first_some {rows : List (List Int)} {p k : Nat} (h : firstI rows p = some k) : ∃ r, rows[k]? = some r ∧ r.getD p 0 ≠ 0 := by
  unfold firstI at h
  obtain ⟨hl, h1, _⟩ := List.findIdx?_eq_some_iff_getElem.mp h
  exact ⟨rows[k], List.getElem?_eq_getElem hl, by simpa using h1⟩
theorem vecI_clear {row head : List Int} {p : Nat} {G : Vec → Prop} (hl : row.length = head.length) (hp : 0 < head.getD p 0) :
    (Sp G (vecI row) → Sp G (vecI head) → Sp G (vecI (clearI row head p))) ∧ (Sp G (vecI (clearI row head p)) → Sp G (vecI head) → Sp G (vecI row)) := by
  obtain ⟨g, a, b, hg, ha, e, _⟩ := clear_eq hl hp
  have hg' : (g : Rat) ≠ 0 := fun z => by have := Rat.intCast_eq_zero_iff.mp z; omega
  have ha' : (a : Rat) ≠ 0 := fun z => by have := Rat.intCast_eq_zero_iff.mp z; omega
  have eq : ∀ j, (g : Rat) * vecI (clearI row head p) j = a * vecI row j - b * vecI head j := fun j => by
    unfold vecI
    rw [← Rat.intCast_mul, ← Rat.intCast_mul, ← Rat.intCast_mul, ← Rat.intCast_sub, e j]
  constructor
  · intro h1 h2
    have := Sp.lin (a / g) (-(b / g)) h1 h2
    have q : (fun j => (a : Rat) / g * vecI row j + -((b : Rat) / g) * vecI head j) = vecI (clearI row head p) := by
      funext j
      have := eq j
      grind
    rwa [q] at this
  · intro h1 h2
    have := Sp.lin (g / a) (b / a) h1 h2
    have q : (fun j => (g : Rat) / a * vecI (clearI row head p) j + (b : Rat) / a * vecI head j) = vecI row := by
      funext j
      have := eq j
      grind
    rwa [q] at this
theorem vecI_head {row : List Int} {p : Nat} {G : Vec → Prop} (hp : row.getD p 0 ≠ 0) : Sp G (vecI row) ↔ Sp G (vecI (headI row p)) := by
  obtain ⟨g, hg, e, _⟩ := head_eq hp
  have hg' : (g : Rat) ≠ 0 := fun z => by have := Rat.intCast_eq_zero_iff.mp z; omega
  have eq : ∀ j, vecI row j = g * vecI (headI row p) j := fun j => by
    unfold vecI
    rw [← Rat.intCast_mul, e j]
  constructor
  · intro h
    have := Sp.lin (1 / g) 0 h h
    have q : (fun j => (1 : Rat) / g * vecI row j + 0 * vecI row j) = vecI (headI row p) := by
      funext j; have := eq j; grind
    rwa [q] at this
  · intro h
    have := Sp.lin g 0 h h
    have q : (fun j => (g : Rat) * vecI (headI row p) j + 0 * vecI (headI row p) j) = vecI row := by
      funext j; have := eq j; grind
    rwa [q] at this
end Tw
set_option maxHeartbeats 4000000
namespace Tw
theorem mem_others {rows : List (List Int)} {k : Nat} {r x : List Int} (h : rows[k]? = some r) (hx : x ∈ rows) : x = r ∨ x ∈ rows.take k ++ rows.drop (k + 1) := by
  obtain ⟨i, hi⟩ := List.getElem?_of_mem hx
  by_cases e : i = k
  · subst e; rw [h] at hi; exact .inl (Option.some.inj hi).symm
  · right
    rw [List.mem_append]
    by_cases q : i < k
    · left
      exact List.mem_of_getElem? (i := i) (by rw [List.getElem?_take_of_lt q]; exact hi)
    · right
      exact List.mem_of_getElem? (i := i - (k + 1)) (by rw [List.getElem?_drop, show k + 1 + (i - (k + 1)) = i by omega]; exact hi)
theorem others_mem {rows : List (List Int)} {k : Nat} {x : List Int} (hx : x ∈ rows.take k ++ rows.drop (k + 1)) : x ∈ rows := by
  rcases List.mem_append.mp hx with q | q
  · exact List.mem_of_mem_take q
  · exact List.mem_of_mem_drop q
theorem pow_step (e t : Nat) : 2 * (2 ^ (2 ^ t * (e + 1) - 1) * 2 ^ (2 ^ t * (e + 1) - 1)) = 2 ^ (2 ^ (t + 1) * (e + 1) - 1) := by
  have h1 : 0 < 2 ^ t := Nat.pow_pos (by decide)
  have h2 : 1 ≤ 2 ^ t * (e + 1) := Nat.mul_pos h1 (by omega)
  rw [← Nat.pow_add, ← Nat.pow_succ']
  congr 1
  rw [Nat.pow_succ, Nat.mul_assoc, Nat.mul_comm 2 (e + 1), ← Nat.mul_assoc]
  omega
theorem StI.step {w p e : Nat} {hs : List Nat} {left found : List (List Int)} {G0 : Vec → Prop} (S : StI w p e hs left found G0) : ∃ hs', StI w (p + 1) e hs' (stepI p (left, found)).1 (stepI p (left, found)).2 G0 ∧ (hs' = hs ∨ hs' = hs ++ [p]) := by
  unfold stepI
  cases hf : firstI left p with
  | none =>
    have hz := first_none hf
    exact ⟨hs, { S with
      zero := fun r hr j hj => by
        rcases Nat.lt_or_ge j p with q | q
        · exact S.zero r hr j q
        · have : j = p := by omega
          subst this; exact hz r hr
      lt := fun h hh => Nat.lt_succ_of_lt (S.lt h hh) }, .inl rfl⟩
  | some k =>
    obtain ⟨row, hrow, hne⟩ := first_some hf
    have hg : left.getD k [] = row := by rw [List.getD_eq_getElem?_getD, hrow]; rfl
    have hm : row ∈ left := List.mem_of_getElem? hrow
    simp only [hg]
    obtain ⟨g, g0, eh, hp⟩ := head_eq hne
    have hl := head_len row p
    have h0 : ∀ j, j < p → (headI row p).getD j 0 = 0 := fun j hj => by
      have := S.zero row hm j hj
      rw [eh j] at this
      rcases Int.mul_eq_zero.mp this with q | q
      · exact absurd q g0
      · exact q
    have lr : ∀ r, r ∈ left ∨ r ∈ found → r.length = (headI row p).length := fun r hr => by
      rw [hl, S.lw row hm]
      rcases hr with q | q
      · exact S.lw r q
      · exact S.fw r q
    have hS : Sp G0 (vecI (headI row p)) := (vecI_head hne).mp (S.sp1 row (.inl hm))
    -- new generators
    have inH : GsI (((left.take k ++ left.drop (k + 1)).map fun r => clearI r (headI row p) p)) ((found.map fun r => clearI r (headI row p) p) ++ [headI row p]) (vecI (headI row p)) := ⟨_, .inr (by simp), rfl⟩
    have hd := S.bd row (.inl hm)
    have split_ : ∀ {i h : Nat} {r : List Int}, (hs ++ [p])[i]? = some h → ((found.map fun r => clearI r (headI row p) p) ++ [headI row p])[i]? = some r → (∃ x, hs[i]? = some h ∧ found[i]? = some x ∧ r = clearI x (headI row p) p) ∨ (i = hs.length ∧ h = p ∧ r = headI row p) := by
      intro i h r e1 e2
      have hlen := S.len
      by_cases hi : i < hs.length
      · left
        rw [List.getElem?_append_left hi] at e1
        rw [List.getElem?_append_left (by rw [List.length_map]; omega), List.getElem?_map, Option.map_eq_some_iff] at e2
        obtain ⟨x, hx, rfl⟩ := e2
        exact ⟨x, e1, hx, rfl⟩
      · right
        have : i < (hs ++ [p]).length := (List.getElem?_eq_some_iff.mp e1).1
        simp at this
        have hi2 : i = hs.length := by omega
        subst hi2
        rw [List.getElem?_append_right (Nat.le_refl _)] at e1
        rw [List.getElem?_append_right (by rw [List.length_map]; omega), List.length_map, hlen] at e2
        simp at e1 e2
        exact ⟨rfl, e1.symm, e2.symm⟩
    refine ⟨hs ++ [p], ⟨?_, ?_, ?_, ?_, ?_, ?_, ?_, ?_, ?_, ?_, ?_, ?_⟩, .inr rfl⟩
    · intro r hr
      obtain ⟨x, hx, rfl⟩ := List.mem_map.mp hr
      rw [clear_len (lr x (.inl (others_mem hx))), S.lw x (others_mem hx)]
    · intro r hr
      rcases List.mem_append.mp hr with q | q
      · obtain ⟨x, hx, rfl⟩ := List.mem_map.mp q
        rw [clear_len (lr x (.inr hx)), S.fw x hx]
      · simp only [List.mem_singleton] at q
        subst q
        rw [hl, S.lw row hm]
    · intro r hr
      rcases hr with hr | hr
      · obtain ⟨x, hx, rfl⟩ := List.mem_map.mp hr
        exact (vecI_clear (lr x (.inl (others_mem hx))) hp).1 (S.sp1 x (.inl (others_mem hx))) hS
      · rcases List.mem_append.mp hr with q | q
        · obtain ⟨x, hx, rfl⟩ := List.mem_map.mp q
          exact (vecI_clear (lr x (.inr hx)) hp).1 (S.sp1 x (.inr hx)) hS
        · simp only [List.mem_singleton] at q
          subst q
          exact hS
    · intro v hv
      refine Sp.mono ?_ (S.sp2 v hv)
      rintro u ⟨r, hr, rfl⟩
      have HH := Sp.gen inH
      rcases hr with hr | hr
      · rcases mem_others hrow hr with q | q
        · subst q
          exact (vecI_head hne).mpr HH
        · exact (vecI_clear (lr r (.inl hr)) hp).2 (Sp.gen ⟨_, .inl (List.mem_map_of_mem q), rfl⟩) HH
      · exact (vecI_clear (lr r (.inr hr)) hp).2 (Sp.gen ⟨_, .inr (List.mem_append_left _ (List.mem_map_of_mem hr)), rfl⟩) HH
    · intro r hr j hj
      obtain ⟨x, hx, rfl⟩ := List.mem_map.mp hr
      obtain ⟨g', a, b, hg', ha, eq, ez⟩ := clear_eq (lr x (.inl (others_mem hx))) hp
      rcases Nat.lt_or_ge j p with q | q
      · have := eq j
        rw [S.zero x (others_mem hx) j q, h0 j q, Int.mul_zero, Int.mul_zero, Int.sub_zero] at this
        rcases Int.mul_eq_zero.mp this with z | z
        · omega
        · exact z
      · have : j = p := by omega
        subst this; exact ez
    · simp [S.len]
    · rw [List.pairwise_append]
      refine ⟨S.inc, List.pairwise_singleton _ _, fun a ha b hb => ?_⟩
      simp only [List.mem_singleton] at hb
      subst hb
      exact S.lt a ha
    · intro h hh
      rcases List.mem_append.mp hh with q | q
      · exact Nat.lt_succ_of_lt (S.lt h q)
      · simp only [List.mem_singleton] at q
        omega
    · intro i h r e1 e2
      rcases split_ e1 e2 with ⟨x, q1, q2, rfl⟩ | ⟨_, rfl, rfl⟩
      · obtain ⟨g', a, b, hg', ha, eq, ez⟩ := clear_eq (lr x (.inr (List.mem_of_getElem? q2))) hp
        have := eq h
        rw [h0 h (S.lt h (List.mem_of_getElem? q1)), Int.mul_zero, Int.sub_zero] at this
        have hpos : 0 < a * x.getD h 0 := Int.mul_pos ha (S.pos i h x q1 q2)
        rw [← this] at hpos
        exact Int.pos_of_mul_pos_right hpos (by omega)
      · exact hp
    · intro i h r e1 e2 j hj
      rcases split_ e1 e2 with ⟨x, q1, q2, rfl⟩ | ⟨_, rfl, rfl⟩
      · obtain ⟨g', a, b, hg', ha, eq, ez⟩ := clear_eq (lr x (.inr (List.mem_of_getElem? q2))) hp
        have := eq j
        rw [S.low i h x q1 q2 j hj, h0 j (by have := S.lt h (List.mem_of_getElem? q1); omega), Int.mul_zero, Int.mul_zero, Int.sub_zero] at this
        rcases Int.mul_eq_zero.mp this with z | z
        · omega
        · exact z
      · exact h0 j hj
    · intro i k' h r e1 e2 hik
      have hk' : k' < (hs ++ [p]).length := by
        have := (List.getElem?_eq_some_iff.mp e2).1
        simp at this ⊢
        have := S.len
        omega
      obtain ⟨h', e3⟩ : ∃ h', (hs ++ [p])[k']? = some h' := ⟨_, List.getElem?_eq_getElem hk'⟩
      have iH : (i < hs.length ∧ hs[i]? = some h) ∨ (i = hs.length ∧ h = p) := by
        by_cases hi : i < hs.length
        · rw [List.getElem?_append_left hi] at e1; exact .inl ⟨hi, e1⟩
        · have : i < (hs ++ [p]).length := (List.getElem?_eq_some_iff.mp e1).1
          simp at this
          have hi2 : i = hs.length := by omega
          subst hi2
          rw [List.getElem?_append_right (Nat.le_refl _)] at e1
          simp at e1
          exact .inr ⟨rfl, e1.symm⟩
      rcases split_ e3 e2 with ⟨x, q1, q2, rfl⟩ | ⟨hk2, _, rfl⟩
      · obtain ⟨g', a, b, hg', ha, eq, ez⟩ := clear_eq (lr x (.inr (List.mem_of_getElem? q2))) hp
        rcases iH with ⟨hi, q⟩ | ⟨_, rfl⟩
        · have := eq h
          rw [S.off i k' h x q q2 hik, h0 h (S.lt h (List.mem_of_getElem? q)), Int.mul_zero, Int.mul_zero, Int.sub_zero] at this
          rcases Int.mul_eq_zero.mp this with z | z
          · omega
          · exact z
        · exact ez
      · rcases iH with ⟨hi, q⟩ | ⟨hi, _⟩
        · exact h0 h (S.lt h (List.mem_of_getElem? q))
        · omega
    · have bump : ∀ {r}, (r ∈ left ∨ r ∈ found) → BdI (2 ^ (2 ^ (found.length + 1) * (e + 1) - 1)) (clearI r (headI row p) p) := fun {r} hr => by
        have := BdI.clear (lr r hr) (S.bd r hr) hd.head hp
        rwa [pow_step] at this
      intro r hr
      simp only [List.length_append, List.length_map, List.length_singleton]
      rcases hr with hr | hr
      · obtain ⟨x, hx, rfl⟩ := List.mem_map.mp hr
        exact bump (.inl (others_mem hx))
      · rcases List.mem_append.mp hr with q | q
        · obtain ⟨x, hx, rfl⟩ := List.mem_map.mp q
          exact bump (.inr hx)
        · simp only [List.mem_singleton] at q
          subst q
          refine hd.head.mono (Nat.pow_le_pow_right (by decide) ?_)
          rw [Nat.pow_succ, Nat.mul_assoc, Nat.mul_comm 2 (e + 1), ← Nat.mul_assoc]
          omega
end Tw
set_option maxHeartbeats 4000000
namespace Tw
open PySem L2
section
variable {D : Defs} {rp : CF → Store → T → Out Str} {fw n : Nat} {s : Store}
end
end Tw
set_option maxHeartbeats 4000000
namespace Tw
theorem pw_len : ∀ {hs : List Nat} {w : Nat}, hs.Pairwise (· < ·) → (∀ h ∈ hs, h < w) → hs.length ≤ w := by
  intro hs w hp hw
  have : ∀ (hs : List Nat) (a : Nat), hs.Pairwise (· < ·) → (∀ h ∈ hs, a ≤ h ∧ h < w) → hs.length + a ≤ w ∨ hs = [] := by
    intro hs
    induction hs with
    | nil => intro a _ _; exact .inr rfl
    | cons h hs ih =>
      intro a hp hb
      rw [List.pairwise_cons] at hp
      have hh := hb h List.mem_cons_self
      rcases ih (h + 1) hp.2 fun x hx => ⟨hp.1 x hx, (hb x (List.mem_cons_of_mem _ hx)).2⟩ with q | q
      · left; simp only [List.length_cons]; omega
      · left; subst q; simp; omega
  rcases this hs 0 hp fun h hh => ⟨Nat.zero_le _, hw h hh⟩ with q | q
  · omega
  · rw [q]; simp
theorem StI.few {w p e : Nat} {hs : List Nat} {left found : List (List Int)} {G0 : Vec → Prop} (S : StI w p e hs left found G0) : found.length ≤ p := by
  rw [← S.len]
  exact pw_len S.inc S.lt
def hdI (r : List Int) : Nat := r.findIdx fun x => decide (x ≠ 0)
theorem hdI_of {r : List Int} {h : Nat} (h0 : ∀ j, j < h → r.getD j 0 = 0) (h1 : r.getD h 0 ≠ 0) : hdI r = h ∧ h < r.length := by
  have hl : h < r.length := by
    refine Classical.byContradiction fun q => h1 ?_
    rw [List.getD_eq_getElem?_getD, List.getElem?_eq_none (by omega)]; rfl
  refine ⟨?_, hl⟩
  unfold hdI
  rw [List.findIdx_eq hl]
  refine ⟨?_, fun j hj => ?_⟩
  · rw [List.getD_eq_getElem?_getD, List.getElem?_eq_getElem hl] at h1
    simpa using h1
  · have := h0 j hj
    rw [List.getD_eq_getElem?_getD, List.getElem?_eq_getElem (Nat.lt_trans hj hl)] at this
    simpa using this
end Tw
set_option maxHeartbeats 4000000
namespace Tw
open PySem L2
structure Small (w e : Nat) (rows : List (List Int)) : Prop where
  hw : ∀ r ∈ rows, r.length = w
  hb : ∀ r ∈ rows, BdI (2 ^ e) r
  few : rows.length ≤ 1000
  wide : w ≤ 900
  big : 2 ^ (min rows.length w) * (e + 1) ≤ 9000
theorem Small.lg {w e : Nat} {rows : List (List Int)} (h : Small w e rows) {t : Nat} (ht : t ≤ min rows.length w) : Lg (2 ^ (2 ^ t * (e + 1) - 1)) := by
  have h1 : 2 ^ t * (e + 1) ≤ 2 ^ (min rows.length w) * (e + 1) := Nat.mul_le_mul_right _ (Nat.pow_le_pow_right (by decide) ht)
  have h2 : 1 ≤ 2 ^ t * (e + 1) := Nat.mul_pos (Nat.pow_pos (by decide)) (by omega)
  exact Lg.of (Nat.le_refl _) (by have := h.big; omega)
section
variable {D : Defs} {rp : CF → Store → T → Out Str} {fw n : Nat} {s : Store}
end
end Tw
set_option maxHeartbeats 4000000
namespace Tw
end Tw
set_option maxHeartbeats 4000000
namespace Tw
section
variable {G : Vec → Prop} {u v a : Vec} {L : List Vec}
end
structure Hd (r : List Int) (h : Nat) : Prop where
  z : ∀ j, j < h → r.getD j 0 = 0
  n : r.getD h 0 ≠ 0
theorem Hd.hdI {r : List Int} {h : Nat} (H : Hd r h) : hdI r = h := (hdI_of H.z H.n).1
theorem Hd.self {r : List Int} {h : Nat} (H : Hd r h) : Hd r (Tw.hdI r) := by rw [H.hdI]; exact H
theorem Hd.lt {r : List Int} {h : Nat} (H : Hd r h) : h < r.length := (hdI_of H.z H.n).2
def leftI (R : List (List Int)) (row : List Int) : List Int := R.foldl (fun l s => clearI l s (hdI s)) row
def Tri (w : Nat) : List (List Int) → Prop
  | [] => True
  | s :: R => s.length = w ∧ Hd s (hdI s) ∧ (∀ r ∈ R, r.getD (hdI s) 0 = 0) ∧ Tri w R
theorem Tri.len {w : Nat} : ∀ {R : List (List Int)}, Tri w R → ∀ r ∈ R, r.length = w
  | s :: R, ⟨a, _, _, d⟩, r, h => by
    rcases List.mem_cons.mp h with rfl | q
    · exact a
    · exact d.len r q
theorem Tri.hd {w : Nat} : ∀ {R : List (List Int)}, Tri w R → ∀ r ∈ R, Hd r (hdI r)
  | s :: R, ⟨_, b, _, d⟩, r, h => by
    rcases List.mem_cons.mp h with rfl | q
    · exact b
    · exact d.hd r q
theorem Tri.push {w : Nat} {x : List Int} (hx : x.length = w) (hd : Hd x (hdI x)) : ∀ {R : List (List Int)}, Tri w R → (∀ r ∈ R, x.getD (hdI r) 0 = 0) → Tri w (R ++ [x])
  | [], _, _ => ⟨hx, hd, (fun _ h => by cases h), trivial⟩
  | s :: R, ⟨a, b, c, d⟩, h => ⟨a, b, fun r hr => by
      rcases List.mem_append.mp hr with q | q
      · exact c r q
      · rw [List.mem_singleton.mp q]; exact h s List.mem_cons_self, d.push hx hd fun r hr => h r (List.mem_cons_of_mem _ hr)⟩
abbrev SpI (R : List (List Int)) : Vec → Prop := Sp (· ∈ R.map vecI)
theorem SpI.here {s : List Int} {R : List (List Int)} : SpI (s :: R) (vecI s) := Sp.gen (List.mem_cons_self)
theorem Tri.heads {w : Nat} : ∀ {R : List (List Int)}, Tri w R → (R.map hdI).Nodup
  | [], _ => List.nodup_nil
  | s :: R, ⟨a, b, c, d⟩ => by
    rw [List.map_cons, List.nodup_cons]
    refine ⟨fun h => ?_, d.heads⟩
    obtain ⟨r, hr, e⟩ := List.mem_map.mp h
    have := (d.hd r hr).n
    rw [e] at this
    exact this (c r hr)
theorem nodup_len : ∀ {w : Nat} {hs : List Nat}, hs.Nodup → (∀ h ∈ hs, h < w) → hs.length ≤ w
  | 0, hs, _, h => by
    cases hs with
    | nil => exact Nat.le_refl _
    | cons x xs => exact absurd (h x List.mem_cons_self) (by omega)
  | w + 1, hs, n, h => by
    have e : (hs.erase w).length + 1 ≥ hs.length := by
      rw [List.length_erase]; split <;> omega
    have := nodup_len (w := w) (hs := hs.erase w) (n.erase w) fun x hx => by
      have h1 := h x (List.mem_of_mem_erase hx)
      have h2 : x ≠ w := (n.mem_erase_iff.mp hx).1
      omega
    omega
theorem Tri.few {w : Nat} {R : List (List Int)} (T : Tri w R) : R.length ≤ w := by
  have := nodup_len (w := w) T.heads fun h hh => by
    obtain ⟨r, hr, rfl⟩ := List.mem_map.mp hh
    rw [← T.len r hr]
    exact (T.hd r hr).lt
  rwa [List.length_map] at this
end Tw
set_option maxHeartbeats 4000000
namespace Tw
open PySem L2
section
variable {D : Defs} {rp : CF → Store → T → Out Str} {fw n : Nat} {s : Store}
structure SmallQ (w d e : Nat) (R : Mat) : Prop where
  hw : ∀ r ∈ R, r.length = w
  hd : 0 < d
  tb : TB d (2 ^ e) R
  ld : Lg d
  few : R.length ≤ 1000
  wide : w ≤ 900
  big : 2 ^ (min R.length w) * (e + 1) ≤ 8999
theorem SmallQ.le {w d e : Nat} {R : Mat} (H : SmallQ w d e R) : e < 9000 := by
  have h1 := H.big
  have h2 : 1 * (e + 1) ≤ 2 ^ (min R.length w) * (e + 1) := Nat.mul_le_mul_right _ (Nat.pow_pos (by decide))
  omega
end
end Tw
set_option maxHeartbeats 4000000
namespace Tw
open PySem L2
section
variable {D : Defs} {rp : CF → Store → T → Out Str} {fw n : Nat} {s : Store}
def longQ (ts : List Mat) : Row := (ts.map List.flatten).flatten
def longI (ts : List Mat) : List Int := (longQ ts).map (whole (lcms (longQ ts)))
end
end Tw
set_option maxHeartbeats 4000000
namespace Tw
open PySem L2
abbrev HH := Nat × List Mat
def tabs (Hs : List HH) (w : List Nat) : List Mat := Hs.map fun H => wordQ H.1 H.2 w
def lgI (Hs : List HH) (w : List Nat) : List Int := longI (tabs Hs w)
def anyI (r : List Int) : Bool := r.any fun z => decide (z ≠ 0)
structure HsOk (Hs : List HH) (L d M : Nat) : Prop where
  few : Hs.length ≤ 100
  L0 : 0 < L
  L1 : L ≤ 99
  len : ∀ H ∈ Hs, H.2.length = L
  k : ∀ H ∈ Hs, 0 < H.1 ∧ H.1 ≤ 99
  sh : ∀ H ∈ Hs, ∀ A ∈ H.2, Sh H.1 H.1 A
  d0 : 0 < d
  d1 : d ≤ 2 ^ 40
  tb : ∀ H ∈ Hs, ∃ m, m ≤ M ∧ H.1 * m ≤ M ∧ ∀ A ∈ H.2, TB d m A
  m1 : M ≤ 2 ^ 40
inductive Built (Hs : List HH) (L : Nat) : List (List Int) → List (List Nat) → Prop where
  | one : Built Hs L [lgI Hs []] [[]]
  | snoc {R : List (List Int)} {ws : List (List Nat)} {w : List Nat} {a : Nat} : Built Hs L R ws → w ∈ ws → a < L → anyI (leftI R (lgI Hs (w ++ [a]))) = true → Built Hs L (R ++ [bareI (leftI R (lgI Hs (w ++ [a])))]) (ws ++ [w ++ [a]])
theorem Built.len {Hs : List HH} {L : Nat} {R : List (List Int)} {ws : List (List Nat)} (B : Built Hs L R ws) : R.length = ws.length := by
  induction B with
  | one => rfl
  | snoc _ _ _ _ ih => simp [ih]
end Tw
set_option maxHeartbeats 4000000
namespace Tw
open PySem L2
section
variable {D : Defs} {rp : CF → Store → T → Out Str} {fw n : Nat} {s : Store}
end
end Tw
set_option maxHeartbeats 4000000
namespace Tw
open PySem L2
section
variable {D : Defs} {rp : CF → Store → T → Out Str} {fw n : Nat} {s : Store}
end
end Tw
set_option maxHeartbeats 4000000
namespace Tw
open PySem L2
theorem loopW_left {cond : Loc → Store → Out Bool} {body : Loc → Store → Fl} (P : Nat → Loc → Store → Prop) (Q : Loc → Store → Prop)
    (h : ∀ i loc s, P i loc s → (cond loc s = .ok false s ∧ Q loc s) ∨ (cond loc s = .ok true s ∧ ∃ j l2 s2, j < i ∧ body loc s = .nx l2 s2 ∧ P j l2 s2)) :
    ∀ (m i : Nat) (loc : Loc) (s : Store), i < m → P i loc s → ∃ l2 s2, loopW cond body m loc s = .nx l2 s2 ∧ Q l2 s2
  | 0, i, _, _, hm, _ => by omega
  | m + 1, i, loc, s, hm, hp => by
    unfold loopW
    rcases h i loc s hp with ⟨c, q⟩ | ⟨c, j, l2, s2, hj, b, p⟩
    · rw [c]; exact ⟨loc, s, rfl, q⟩
    · rw [c]
      simp only
      rw [b]
      exact loopW_left P Q h m j l2 s2 (by omega) p
section
variable {D : Defs} {rp : CF → Store → T → Out Str} {fw n : Nat} {s : Store}
end
end Tw
set_option maxHeartbeats 4000000
namespace Tw
open PySem L2
theorem seq_go {D : Defs} {cf : CF} {rq : Store → T → Out Str} {fw : Nat} {a b : S} {loc l1 : Loc} {s s1 : Store} (h : evS D cf rq fw a loc s = .nx l1 s1) : evS D cf rq fw (.seq a b) loc s = evS D cf rq fw b l1 s1 := by rw [evS_seq, h, seq_nx]
theorem seq_rtn {D : Defs} {cf : CF} {rq : Store → T → Out Str} {fw : Nat} {a b : S} {loc : Loc} {s s1 : Store} {y : VV} (h : evS D cf rq fw a loc s = .rt y s1) : evS D cf rq fw (.seq a b) loc s = .rt y s1 := by rw [evS_seq, h, seq_rt]
theorem ev_repr {D : Defs} {cf : CF} {rq : Store → T → Out Str} {a : E} {loc : Loc} {s s1 : Store} {t : T} {z : Str} (h : ev D cf rq a loc s = .ok (.t t) s1) (h2 : rq s1 t = .ok z s1) : ev D cf rq (.blt .repr (.cons a .nil)) loc s = .ok (.t (.str z)) s1 := by
  simp only [ev, evs, h, bind_ok, emb_t, h2, noex_ok]
theorem ne_reprs {D : Defs} {cf : CF} {rq : Store → T → Out Str} {a b : E} {loc : Loc} {s s1 : Store} {t : T} {z : Str} (h : ev D cf rq a loc s = .ok (.t t) s1) (h1 : ev D cf rq b loc s1 = .ok (.t t) s1) (h2 : rq s1 t = .ok z s1) : ev D cf rq (.cmp .NotEq (.blt .repr (.cons a .nil)) (.blt .repr (.cons b .nil))) loc s = .ok (.t (.bl false)) s1 := by
  rw [ev, ev_repr h h2, bind_ok, ev_repr h1 h2, bind_ok, cmp_nes]
  simp [ofT]
def bindE {α : Type} (g : E) (x : T) (loc : Loc) (k : Loc → Out α) : Out α := match bindG g x loc with
  | some l => k l
  | none => .bad
section
variable {D : Defs} {cf : CF} {rp : Store → T → Out Str} {loc : Loc} {s : Store}
theorem bindE_ok {α : Type} {g : E} {x : T} {k : Loc → Out α} {r : Out α} (h : bindE g x loc k = r) (hr : r ≠ .bad) : ∃ l, bindG g x loc = some l ∧ k l = r := by
  unfold bindE at h
  cases e : bindG g x loc with
  | none => rw [e] at h; exact absurd h.symm hr
  | some l => rw [e] at h; exact ⟨l, rfl, h⟩
theorem bindE_all {α : Type} {g : E} {x : T} {k r : List T → Loc → Out α} {f : List T → Out α} (h : ∀ acc, bindE g x loc (k acc) = f acc) (hr : ∀ acc, f acc ≠ .bad) : ∃ l, bindG g x loc = some l ∧ ∀ acc, k acc l = f acc := by
  obtain ⟨l, e, _⟩ := bindE_ok (h []) (hr [])
  refine ⟨l, e, fun acc => ?_⟩
  have := h acc
  unfold bindE at this
  rw [e] at this
  exact this
theorem lc_go {α : Type} {own : List Nat} {g it e : E} {src : Src} (as : List α) (v : α → T) {f : α → T} (h1 : evI D cf rp it loc s = .ok src s) (hw : Wk s src (as.map v)) (hz : as.length ≤ sizeLine)
    (h : ∀ x ∈ as, ∀ acc, bindE g (v x) (wipeL loc own) (fun l => ev D cf rp e l (s ++ [.lst acc])) = .ok (.t (f x)) (s ++ [.lst acc])) :
    ev D cf rp (.lc false own g it .omit e) loc s = .ok (.t (.lst (as.map f))) s :=
  ev_lc_mapA as v f h1 hw hz fun x hx => bindE_all (r := fun _ _ => .bad) (h x hx) fun _ => by intro z; cases z
theorem ixN_nat {n d : Nat} (h : d < n) : ixN n (d : Int) = some d := by
  unfold ixN
  simp
  omega
end
end Tw
set_option maxHeartbeats 4000000
namespace Tw
open PySem L2
structure EqT {α : Type} [DecidableEq α] (D : Defs) (cf : CF) (s : Store) (v : α → T) (m : Nat) : Prop where
  eq : ∀ a b, eqI (eqD D cf s m) (v a) (v b) = some (decide (a = b))
  dif : ∀ a b, a ≠ b → dif (v a) (v b) = true
section
variable {D : Defs} {cf : CF} {s : Store} {m : Nat} {α : Type} [DecidableEq α] {v : α → T}
theorem EqT.int : EqT D cf s T.int m := ⟨fun a b => rfl, fun a b h => by simp [Tw.dif, eqFlat, h]⟩
theorem EqT.ls (h : EqT D cf s v m) : ∀ xs ys : List α, xs.length = ys.length → eqLs (eqI (eqD D cf s m)) (xs.map v) (ys.map v) = some (decide (xs = ys))
  | [], [], _ => rfl
  | x :: xs, y :: ys, hl => by
    have ih := h.ls xs ys (by simpa using hl)
    rw [List.map_cons, List.map_cons]
    unfold eqLs
    rw [h.eq]
    by_cases e : x = y
    · simp [e, ih]
    · simp [e]
  | [], _ :: _, hl => by simp at hl
  | _ :: _, [], hl => by simp at hl
theorem EqT.difL (h : EqT D cf s v m) : ∀ xs ys : List α, xs ≠ ys → Tw.difL (xs.map v) (ys.map v) = true
  | [], [], hl => absurd rfl hl
  | x :: xs, y :: ys, hl => by
    simp only [List.map_cons, Tw.difL, Bool.or_eq_true]
    by_cases e : x = y
    · exact .inr (h.difL xs ys fun z => hl (by rw [e, z]))
    · exact .inl (h.dif x y e)
  | [], _ :: _, hl => rfl
  | _ :: _, [], hl => rfl
theorem EqT.lst (h : EqT D cf s v m) : EqT D cf s (fun l : List α => T.lst (l.map v)) (m + 1) := by
  have key : ∀ a b : List α, eqD D cf s (m + 1) (.lst (a.map v)) (.lst (b.map v)) = some (decide (a = b)) := fun a b => by
    show (if (a.map v).length = (b.map v).length then eqLs (eqI (eqD D cf s m)) (a.map v) (b.map v) else some false) = _
    by_cases hl : a.length = b.length
    · rw [if_pos (by simpa using hl), h.ls a b hl]
    · rw [if_neg (by simpa using hl)]
      have : a ≠ b := fun z => hl (by rw [z])
      simp [this]
  refine ⟨fun a b => ?_, fun a b e => h.difL a b e⟩
  have ef : eqFlat (.lst (a.map v)) (.lst (b.map v)) = none := rfl
  unfold eqI
  simp only [ef, key]
  by_cases e : a = b
  · simp [e]
  · have hd : Tw.dif (.lst (a.map v)) (.lst (b.map v)) = true := h.difL a b e
    simp [e, hd]
end
section
variable {D : Defs} {rp : CF → Store → T → Out Str} {fw n m : Nat} {s : Store}
theorem EqT.rat [a1 : Is (D.own 55 = true)] [a2 : Is (D.om 55 "__eq__" = some 351)] [Is (D.fn 351 = some F_ratios_Ratio___eq__)] [Is (∀ t, okT D t = true → D.kit (.cl 55) t = true)] [Is (∀ d, D.sub d 55 = decide (d = 55))] [Is (D.cls 55 = true)] [Is (D.fld 55 "own_top" = true)] [Is (D.fld 55 "own_bottom" = true)] : EqT D (callN D rp fw (n + 1)) s ratQ (m + 1) := ⟨fun a b => eqI_q, fun a b h => dif_q h⟩
theorem EqT.row [a1 : Is (D.own 55 = true)] [a2 : Is (D.om 55 "__eq__" = some 351)] [Is (D.fn 351 = some F_ratios_Ratio___eq__)] [Is (∀ t, okT D t = true → D.kit (.cl 55) t = true)] [Is (∀ d, D.sub d 55 = decide (d = 55))] [Is (D.cls 55 = true)] [Is (D.fld 55 "own_top" = true)] [Is (D.fld 55 "own_bottom" = true)] : EqT D (callN D rp fw (n + 1)) s rowT (m + 2) := EqT.rat.lst
end
end Tw
set_option maxHeartbeats 4000000
namespace Tw
open PySem L2
def prT (p : Int × Int) : T := .tup [.int p.1, .int p.2]
def PrB (m : Nat) (p : Int × Int) : Prop := p.1.natAbs ≤ m ∧ 1 ≤ p.2 ∧ p.2 ≤ (m : Int)
theorem PrB.mono {m k : Nat} {p : Int × Int} (h : PrB m p) (hk : m ≤ k) : PrB k p := ⟨Nat.le_trans h.1 hk, h.2.1, by have := h.2.2; omega⟩
def Nm (t : T) : Prop := (∃ i, t = .int i ∧ small i) ∨ ∃ a b, t = ratT a b ∧ small a ∧ small b
theorem Nm.num {t : T} (h : Nm t) : isNum t = true := by
  rcases h with ⟨i, rfl, _⟩ | ⟨a, b, rfl, _, _⟩ <;> rfl
theorem Nm.tame {d : Nat} {t : T} (h : Nm t) : tame d t := by
  rcases h with ⟨i, rfl, h⟩ | ⟨a, b, rfl, h1, h2⟩
  · exact tame_int h
  · exact tame_rat h1 h2
def Rw (w : Nat) (t : T) : Prop := ∃ xs, (t = .lst xs ∨ t = .tup xs) ∧ xs.length = w ∧ ∀ y ∈ xs, Nm y
theorem Sat.retk {S s : Store} {ks : List Nat} {r : Nat} {xs : List T} (h : Sat S ks [(r, xs)] s) : ∃ s', endC S (.rt (.c r) s) = .ok (.c S.length) (s' ++ [.lst xs]) ∧ Same ks S s' := by
  have h1 : S.length ≤ r := (h.own (r, xs) List.mem_cons_self).1
  have h2 := h.get
  have h4 : ¬ r < S.length := by omega
  refine ⟨s.take S.length, ?_, h.take⟩
  simp [endC, fin, h4, h2]
theorem fdiv_abs {a g : Int} (hg : 1 ≤ g) : (a.fdiv g).natAbs ≤ a.natAbs := by
  have h1 := Int.mul_fdiv_add_fmod a g
  have h2 := Int.fmod_nonneg_of_pos a (show 0 < g by omega)
  have h3 := Int.fmod_lt_of_pos a (show 0 < g by omega)
  generalize a.fdiv g = q at *
  generalize a.fmod g = r at *
  rcases Int.lt_trichotomy q 0 with hq | hq | hq
  · have : g * q ≤ 1 * q := by
      have := Int.mul_le_mul_of_nonpos_right (c := q) hg (by omega)
      omega
    have h4 : g * q ≤ g * (-1) := Int.mul_le_mul_of_nonneg_left (by omega) (by omega)
    by_cases hz : q = -1
    · subst hz; omega
    · have h5 : g * (q + 1) ≤ 1 * (q + 1) := by
        have := Int.mul_le_mul_of_nonpos_right (c := q + 1) hg (by omega)
        omega
      rw [Int.mul_add] at h5
      omega
  · omega
  · have : 1 * q ≤ g * q := Int.mul_le_mul_of_nonneg_right hg (by omega)
    omega
theorem fdiv_pos {b g : Int} (hg : 1 ≤ g) (hb : g ≤ b) : 1 ≤ b.fdiv g ∧ b.fdiv g ≤ b := by
  have h1 := Int.mul_fdiv_add_fmod b g
  have h2 := Int.fmod_nonneg_of_pos b (show 0 < g by omega)
  have h3 := Int.fmod_lt_of_pos b (show 0 < g by omega)
  have h4 := fdiv_abs (a := b) hg
  generalize b.fdiv g = q at *
  refine ⟨?_, by omega⟩
  rcases Int.lt_or_le 0 q with hq | hq
  · omega
  · have : g * q ≤ g * 0 := Int.mul_le_mul_of_nonneg_left hq (by omega)
    omega
section
variable {rp : CF → Store → T → Out Str} {fw n : Nat} {s : Store}
theorem drawF {m : Int} (h0 : 0 < m) (h1 : m < 1073741824) : PotFn (callN (PT.D true) rp fw (n + 1)) 1002 [.int m] (fun t => ∃ d : Nat, t = .int d ∧ (d : Int) < m) := draw_ok.fn h0 h1
theorem low_ok {a b : Int} (hb : 1 ≤ b) (hb2 : b ≤ 10000) (hf : 20000 ≤ fw ∨ b < fw) : ∃ p : Int × Int, callN (PT.D true) rp fw (n + 1) 1004 [.t (.int a), .t (.int b)] s = .ok (.t (prT p)) s ∧ p.1.natAbs ≤ a.natAbs ∧ 1 ≤ p.2 ∧ p.2 ≤ b := by
  rw [go_L_low]
  let P : Nat → Loc → Store → Prop := fun i loc st => ∃ o t : Nat, loc = [some (.t (.int a)), some (.t (.int b)), some (.t (.int (o : Int))), some (.t (.int (t : Int)))] ∧ s = st ∧ t = i ∧ Nat.gcd o t = Nat.gcd a.natAbs b.natAbs
  let Q : Loc → Store → Prop := fun loc st => ∃ t : Int, loc = [some (.t (.int a)), some (.t (.int b)), some (.t (.int ((Nat.gcd a.natAbs b.natAbs : Nat) : Int))), some (.t (.int t))] ∧ s = st
  obtain ⟨l2, s2, h4, t, rfl, rfl⟩ := loopW_left (cond := evT (PT.D true) (callN (PT.D true) rp fw n) (rp (callN (PT.D true) rp fw n)) WC_L_low_0) (body := evS (PT.D true) (callN (PT.D true) rp fw n) (rp (callN (PT.D true) rp fw n)) fw FB_L_low_0) P Q
    (fun i loc st hP => by
      obtain ⟨o, t, rfl, rfl, rfl, hg⟩ := hP
      by_cases h0 : t = 0
      · left
        subst h0
        refine ⟨?_, 0, ?_, rfl⟩
        · simp only [WC_L_low_0, evS, ev, evs, evF, evI, put, putL, bindV, bind_ok, toFl_ok, seq_nx, seq_rt, putFl_ok, rd_t, emb_t, ofO_some, ofT_some, noex_ok, E.isOmit, List.map_cons, List.map_nil, List.replicate, List.cons_append, List.nil_append, List.length_cons, List.length_nil, List.set_cons_zero, List.set_cons_succ, List.getElem?_cons_zero, List.getElem?_cons_succ, Bool.false_eq_true, if_true, if_false, reduceIte, Nat.reduceAdd, Nat.reduceSub, Nat.reduceLT, Nat.reduceLeDiff, Nat.lt_irrefl, evT, bin_add, bin_sub, mthOk_ins, attV_ins, cmpP_lt, cmpP_le, cmpP_gt, cmpP_ge, cmp_lt, cmp_le, cmp_gt, cmp_ge, cmp_eqi, cmp_eqs, cmp_eqb, cmp_nei, cmp_nes, cmp_neb, cmp_isn, cmp_nin, cmp_isb, cmp_nib, tru_bl, tru_int, isNon_lst, isNon_non, item_l, item_t, blt_lenl, blt_lent, blt_lend, blt_all, blt_any, mapM_t1, mapM_t2, embLM_t0, embLM_t1, embLM_t2, embLM_t3, Option.bind_some, Option.map_some, Bool.not_true, Bool.not_false, endC_rt, endC_nx, decide_eq_true_eq, List.mapM_nil]; simp
        · rw [Nat.gcd_zero_right] at hg; rw [hg]; rfl
      · right
        have hc : decide ((0 : Int) < (t : Int)) = true := decide_eq_true (by omega)
        have md := bin_mod (D := (PT.D true)) (cf := callN (PT.D true) rp fw n) (s := s) (i := (o : Int)) (j := (t : Int)) (by omega)
        have em : ((o : Int).fmod (t : Int)) = ((o % t : Nat) : Int) := by rw [Int.fmod_eq_emod_of_nonneg _ (by omega)]; rfl
        rw [em] at md
        refine ⟨?_, o % t, _, s, Nat.mod_lt _ (by omega), ?_, t, o % t, rfl, rfl, rfl, ?_⟩
        · simp only [WC_L_low_0, evS, ev, evs, evF, evI, put, putL, bindV, bind_ok, toFl_ok, seq_nx, seq_rt, putFl_ok, rd_t, emb_t, ofO_some, ofT_some, noex_ok, E.isOmit, List.map_cons, List.map_nil, List.replicate, List.cons_append, List.nil_append, List.length_cons, List.length_nil, List.set_cons_zero, List.set_cons_succ, List.getElem?_cons_zero, List.getElem?_cons_succ, Bool.false_eq_true, if_true, if_false, reduceIte, Nat.reduceAdd, Nat.reduceSub, Nat.reduceLT, Nat.reduceLeDiff, Nat.lt_irrefl, evT, bin_add, bin_sub, mthOk_ins, attV_ins, cmpP_lt, cmpP_le, cmpP_gt, cmpP_ge, cmp_lt, cmp_le, cmp_gt, cmp_ge, cmp_eqi, cmp_eqs, cmp_eqb, cmp_nei, cmp_nes, cmp_neb, cmp_isn, cmp_nin, cmp_isb, cmp_nib, tru_bl, tru_int, isNon_lst, isNon_non, item_l, item_t, blt_lenl, blt_lent, blt_lend, blt_all, blt_any, mapM_t1, mapM_t2, embLM_t0, embLM_t1, embLM_t2, embLM_t3, Option.bind_some, Option.map_some, Bool.not_true, Bool.not_false, endC_rt, endC_nx, decide_eq_true_eq, List.mapM_nil, hc]
        · simp only [FB_L_low_0, evS, ev, evs, evF, evI, put, putL, bindV, bind_ok, toFl_ok, seq_nx, seq_rt, putFl_ok, rd_t, emb_t, ofO_some, ofT_some, noex_ok, E.isOmit, List.map_cons, List.map_nil, List.replicate, List.cons_append, List.nil_append, List.length_cons, List.length_nil, List.set_cons_zero, List.set_cons_succ, List.getElem?_cons_zero, List.getElem?_cons_succ, Bool.false_eq_true, if_true, if_false, reduceIte, Nat.reduceAdd, Nat.reduceSub, Nat.reduceLT, Nat.reduceLeDiff, Nat.lt_irrefl, evT, bin_add, bin_sub, mthOk_ins, attV_ins, cmpP_lt, cmpP_le, cmpP_gt, cmpP_ge, cmp_lt, cmp_le, cmp_gt, cmp_ge, cmp_eqi, cmp_eqs, cmp_eqb, cmp_nei, cmp_nes, cmp_neb, cmp_isn, cmp_nin, cmp_isb, cmp_nib, tru_bl, tru_int, isNon_lst, isNon_non, item_l, item_t, blt_lenl, blt_lent, blt_lend, blt_all, blt_any, mapM_t1, mapM_t2, embLM_t0, embLM_t1, embLM_t2, embLM_t3, Option.bind_some, Option.map_some, Bool.not_true, Bool.not_false, endC_rt, endC_nx, decide_eq_true_eq, List.mapM_nil, blt_int, md]
        · rw [← hg, Nat.gcd_comm o t, Nat.gcd_rec t o]
          rw [Nat.gcd_comm]) fw b.natAbs [some (.t (.int a)), some (.t (.int b)), some (.t (.int (a.natAbs : Int))), some (.t (.int (b.natAbs : Int)))] s (by omega) ⟨a.natAbs, b.natAbs, rfl, rfl, rfl, rfl⟩
  have hgp : 0 < Nat.gcd a.natAbs b.natAbs := Nat.gcd_pos_of_pos_right _ (by omega)
  have hgb : Nat.gcd a.natAbs b.natAbs ≤ b.natAbs := Nat.gcd_le_right _ (by omega)
  generalize Nat.gcd a.natAbs b.natAbs = g at *
  have lg : (g : Int).natAbs.log2 < 9000 := by
    have h1 : (g : Int).natAbs.log2 ≤ (2 ^ 20).log2 := log2_mono (by omega)
    exact Nat.lt_of_le_of_lt h1 (by rw [Nat.log2_two_pow]; decide)
  have f1 := bin_fdiv (D := (PT.D true)) (cf := callN (PT.D true) rp fw n) (s := s) (i := a) (j := (g : Int)) (by omega) lg
  have f2 := bin_fdiv (D := (PT.D true)) (cf := callN (PT.D true) rp fw n) (s := s) (i := b) (j := (g : Int)) (by omega) lg
  have ab : ∀ z : Int, (if z < 0 then -z else z) = (z.natAbs : Int) := fun z => by split <;> omega
  have z2 : (2 ≤ sizeLine) = True := by rw [sizeL]; simp
  have hb0 : decide ((0 : Int) < b) = true := decide_eq_true (by omega)
  refine ⟨(a.fdiv g, b.fdiv g), ?_, fdiv_abs (by omega), fdiv_pos (by omega) (by omega)⟩
  unfold S_L_low
  rw [seq_go (l1 := [some (.t (.int a)), some (.t (.int b)), some (.t (.int (a.natAbs : Int))), some (.t (.int (b.natAbs : Int)))]) (s1 := s) (by simp only [evS, ev, evs, evF, evI, put, putL, bindV, bind_ok, toFl_ok, seq_nx, seq_rt, putFl_ok, rd_t, emb_t, ofO_some, ofT_some, noex_ok, E.isOmit, List.map_cons, List.map_nil, List.replicate, List.cons_append, List.nil_append, List.length_cons, List.length_nil, List.set_cons_zero, List.set_cons_succ, List.getElem?_cons_zero, List.getElem?_cons_succ, Bool.false_eq_true, if_true, if_false, reduceIte, Nat.reduceAdd, Nat.reduceSub, Nat.reduceLT, Nat.reduceLeDiff, Nat.lt_irrefl, evT, bin_add, bin_sub, mthOk_ins, attV_ins, cmpP_lt, cmpP_le, cmpP_gt, cmpP_ge, cmp_lt, cmp_le, cmp_gt, cmp_ge, cmp_eqi, cmp_eqs, cmp_eqb, cmp_nei, cmp_nes, cmp_neb, cmp_isn, cmp_nin, cmp_isb, cmp_nib, tru_bl, tru_int, isNon_lst, isNon_non, item_l, item_t, blt_lenl, blt_lent, blt_lend, blt_all, blt_any, mapM_t1, mapM_t2, embLM_t0, embLM_t1, embLM_t2, embLM_t3, Option.bind_some, Option.map_some, Bool.not_true, Bool.not_false, endC_rt, endC_nx, decide_eq_true_eq, List.mapM_nil, blt_abs, ab])]
  rw [seq_go (l1 := [some (.t (.int a)), some (.t (.int b)), some (.t (.int (g : Int))), some (.t (.int t))]) (s1 := s) (by unfold FS_L_low_0; simp only [evS]; exact h4)]
  simp only [evS, ev, evs, evF, evI, put, putL, bindV, bind_ok, toFl_ok, seq_nx, seq_rt, putFl_ok, rd_t, emb_t, ofO_some, ofT_some, noex_ok, E.isOmit, List.map_cons, List.map_nil, List.replicate, List.cons_append, List.nil_append, List.length_cons, List.length_nil, List.set_cons_zero, List.set_cons_succ, List.getElem?_cons_zero, List.getElem?_cons_succ, Bool.false_eq_true, if_true, if_false, reduceIte, Nat.reduceAdd, Nat.reduceSub, Nat.reduceLT, Nat.reduceLeDiff, Nat.lt_irrefl, evT, bin_add, bin_sub, mthOk_ins, attV_ins, cmpP_lt, cmpP_le, cmpP_gt, cmpP_ge, cmp_lt, cmp_le, cmp_gt, cmp_ge, cmp_eqi, cmp_eqs, cmp_eqb, cmp_nei, cmp_nes, cmp_neb, cmp_isn, cmp_nin, cmp_isb, cmp_nib, tru_bl, tru_int, isNon_lst, isNon_non, item_l, item_t, blt_lenl, blt_lent, blt_lend, blt_all, blt_any, mapM_t1, mapM_t2, embLM_t0, embLM_t1, embLM_t2, embLM_t3, Option.bind_some, Option.map_some, Bool.not_true, Bool.not_false, endC_rt, endC_nx, decide_eq_true_eq, List.mapM_nil, hb0, f1, f2, z2]
  rfl
theorem by_ok {p q : Int × Int} (hp : PrB 10 p) (hq : PrB 10 q) (hf : 200 ≤ fw) : ∃ r : Int × Int, callN (PT.D true) rp fw (n + 2) 1005 [.t (prT p), .t (prT q)] s = .ok (.t (prT r)) s ∧ PrB 100 r := by
  rw [go_L_by]
  obtain ⟨a, b⟩ := p
  obtain ⟨c, d⟩ := q
  obtain ⟨h1, h2, h3⟩ := hp
  obtain ⟨g1, g2, g3⟩ := hq
  simp only at h1 h2 h3 g1 g2 g3
  have e1 : (a * c).natAbs ≤ 10 * 10 := by rw [Int.natAbs_mul]; exact Nat.mul_le_mul h1 g1
  have e2 : b * d ≤ 10 * 10 := Int.mul_le_mul h3 g3 (by omega) (by decide)
  have e3 : 1 * 1 ≤ b * d := Int.mul_le_mul h2 g2 (by decide) (by omega)
  obtain ⟨r, e, r1, r2, r3⟩ := low_ok (rp := rp) (fw := fw) (n := n) (s := s) (a := a * c) (b := b * d) (by omega) (by omega) (.inr (by omega))
  have la : a.natAbs.log2 < 60 := by
    have h1 : a.natAbs.log2 ≤ (2 ^ 4).log2 := log2_mono (by omega)
    exact Nat.lt_of_le_of_lt h1 (by rw [Nat.log2_two_pow]; decide)
  have lb : b.natAbs.log2 < 60 := by
    have h1 : b.natAbs.log2 ≤ (2 ^ 4).log2 := log2_mono (by omega)
    exact Nat.lt_of_le_of_lt h1 (by rw [Nat.log2_two_pow]; decide)
  have i0 : ∀ x y : Int, itemP (prT (x, y)) (.int 0) = some (.int x) := fun x y => by unfold prT; rw [item_t]; exact atI_0
  have i1 : ∀ x y : Int, itemP (prT (x, y)) (.int 1) = some (.int y) := fun x y => by unfold prT; rw [item_t]; exact atI_1
  refine ⟨r, ?_, by omega, by omega, by omega⟩
  simp only [S_L_by, evS, ev, evs, evF, evI, put, putL, bindV, bind_ok, toFl_ok, seq_nx, seq_rt, putFl_ok, rd_t, emb_t, ofO_some, ofT_some, noex_ok, E.isOmit, List.map_cons, List.map_nil, List.replicate, List.cons_append, List.nil_append, List.length_cons, List.length_nil, List.set_cons_zero, List.set_cons_succ, List.getElem?_cons_zero, List.getElem?_cons_succ, Bool.false_eq_true, if_true, if_false, reduceIte, Nat.reduceAdd, Nat.reduceSub, Nat.reduceLT, Nat.reduceLeDiff, Nat.lt_irrefl, evT, bin_add, bin_sub, mthOk_ins, attV_ins, cmpP_lt, cmpP_le, cmpP_gt, cmpP_ge, cmp_lt, cmp_le, cmp_gt, cmp_ge, cmp_eqi, cmp_eqs, cmp_eqb, cmp_nei, cmp_nes, cmp_neb, cmp_isn, cmp_nin, cmp_isb, cmp_nib, tru_bl, tru_int, isNon_lst, isNon_non, item_l, item_t, blt_lenl, blt_lent, blt_lend, blt_all, blt_any, mapM_t1, mapM_t2, embLM_t0, embLM_t1, embLM_t2, embLM_t3, Option.bind_some, Option.map_some, Bool.not_true, Bool.not_false, endC_rt, endC_nx, decide_eq_true_eq, List.mapM_nil, i0, i1, bin_mull la, bin_mull lb, fl_L_low, e]
theorem passed_ok {p : Int × Int} (hp : PrB 100 p) : PotFn (callN (PT.D true) rp fw (n + 3)) 1006 [prT p] Nm := fun st pk hpot => by
  simp only [List.map_cons, List.map_nil]
  rw [go_L_passed]
  obtain ⟨a, b⟩ := p
  obtain ⟨h1, h2, h3⟩ := hp
  simp only at h1 h2 h3
  have sm : ∀ z : Int, z.natAbs ≤ 100 → small z := fun z hz => Nat.lt_of_le_of_lt hz (by decide)
  have i0 : itemP (prT (a, b)) (.int 0) = some (.int a) := by unfold prT; rw [item_t]; exact atI_0
  have i1 : itemP (prT (a, b)) (.int 1) = some (.int b) := by unfold prT; rw [item_t]; exact atI_1
  have p6 := fun (st : Store) (cf : CF) => bin_pow (D := (PT.D true)) (cf := cf) (s := st) (i := 10) (j := 6) (by decide) (by decide) (by decide)
  have q6 : (10 : Int) ^ (6 : Int).toNat = 1000000 := by decide
  have ab : (if a < 0 then -a else a) < 1000000 := by split <;> omega
  have A1 : evS (PT.D true) (callN (PT.D true) rp fw (n + 2)) (rp (callN (PT.D true) rp fw (n + 2))) fw (.asg (.gn 2) (.and (.cmp .Eq (.ix (.var 1) (.int 1)) (.int 1)) (.cmp .Lt (.blt .abs (.cons (.ix (.var 1) (.int 0)) .nil)) (.bin .Pow (.int 10) (.int 6))))) [some (.c pk), some (.t (prT (a, b))), none] st = .nx [some (.c pk), some (.t (prT (a, b))), some (.t (.bl (decide (b = 1))))] st := by
    by_cases hb : b = 1
    · simp only [evS, ev, evs, evF, evI, put, putL, bindV, bind_ok, toFl_ok, seq_nx, seq_rt, putFl_ok, rd_t, emb_t, ofO_some, ofT_some, noex_ok, E.isOmit, List.map_cons, List.map_nil, List.replicate, List.cons_append, List.nil_append, List.length_cons, List.length_nil, List.set_cons_zero, List.set_cons_succ, List.getElem?_cons_zero, List.getElem?_cons_succ, Bool.false_eq_true, if_true, if_false, reduceIte, Nat.reduceAdd, Nat.reduceSub, Nat.reduceLT, Nat.reduceLeDiff, Nat.lt_irrefl, evT, bin_add, bin_sub, mthOk_ins, attV_ins, cmpP_lt, cmpP_le, cmpP_gt, cmpP_ge, cmp_lt, cmp_le, cmp_gt, cmp_ge, cmp_eqi, cmp_eqs, cmp_eqb, cmp_nei, cmp_nes, cmp_neb, cmp_isn, cmp_nin, cmp_isb, cmp_nib, tru_bl, tru_int, isNon_lst, isNon_non, item_l, item_t, blt_lenl, blt_lent, blt_lend, blt_all, blt_any, mapM_t1, mapM_t2, embLM_t0, embLM_t1, embLM_t2, embLM_t3, Option.bind_some, Option.map_some, Bool.not_true, Bool.not_false, endC_rt, endC_nx, decide_eq_true_eq, List.mapM_nil, i0, i1, p6, q6, blt_abs, decide_eq_true hb, decide_eq_true ab]
    · simp only [evS, ev, evs, evF, evI, put, putL, bindV, bind_ok, toFl_ok, seq_nx, seq_rt, putFl_ok, rd_t, emb_t, ofO_some, ofT_some, noex_ok, E.isOmit, List.map_cons, List.map_nil, List.replicate, List.cons_append, List.nil_append, List.length_cons, List.length_nil, List.set_cons_zero, List.set_cons_succ, List.getElem?_cons_zero, List.getElem?_cons_succ, Bool.false_eq_true, if_true, if_false, reduceIte, Nat.reduceAdd, Nat.reduceSub, Nat.reduceLT, Nat.reduceLeDiff, Nat.lt_irrefl, evT, bin_add, bin_sub, mthOk_ins, attV_ins, cmpP_lt, cmpP_le, cmpP_gt, cmpP_ge, cmp_lt, cmp_le, cmp_gt, cmp_ge, cmp_eqi, cmp_eqs, cmp_eqb, cmp_nei, cmp_nes, cmp_neb, cmp_isn, cmp_nin, cmp_isb, cmp_nib, tru_bl, tru_int, isNon_lst, isNon_non, item_l, item_t, blt_lenl, blt_lent, blt_lend, blt_all, blt_any, mapM_t1, mapM_t2, embLM_t0, embLM_t1, embLM_t2, embLM_t3, Option.bind_some, Option.map_some, Bool.not_true, Bool.not_false, endC_rt, endC_nx, decide_eq_true_eq, List.mapM_nil, i0, i1, decide_eq_false hb]
  obtain ⟨_, s1, e1, q1, d, rfl, hd⟩ := drawF (rp := rp) (fw := fw) (n := n + 1) (m := 2) (by decide) (by decide) st pk hpot
  simp only [List.map_cons, List.map_nil] at e1
  have S0 := Sat.start1 hpot
  have S1 := S0.same q1
  have mk : ∀ st' : Store, ev (PT.D true) (callN (PT.D true) rp fw (n + 2)) (rp (callN (PT.D true) rp fw (n + 2))) (.mk 55 (.cons (.ix (.var 1) (.int 0)) (.cons (.ix (.var 1) (.int 1)) .nil))) [some (.c pk), some (.t (prT (a, b))), some (.t (.bl (decide (b = 1))))] st' = .ok (.t (mkR a b)) st' := fun st' => by
    have lg : b.natAbs.log2 < 9000 := by
      have h1 : b.natAbs.log2 ≤ (2 ^ 10).log2 := log2_mono (by omega)
      exact Nat.lt_of_le_of_lt h1 (by rw [Nat.log2_two_pow]; decide)
    have h5 := ratio_init_ok (D := (PT.D true)) (rp := rp) (fw := fw) (n := n) (s := st') (a := a) (b := b) (by omega) lg
    simp only [evS, ev, evs, evF, evI, put, putL, bindV, bind_ok, toFl_ok, seq_nx, seq_rt, putFl_ok, rd_t, emb_t, ofO_some, ofT_some, noex_ok, E.isOmit, List.map_cons, List.map_nil, List.replicate, List.cons_append, List.nil_append, List.length_cons, List.length_nil, List.set_cons_zero, List.set_cons_succ, List.getElem?_cons_zero, List.getElem?_cons_succ, Bool.false_eq_true, if_true, if_false, reduceIte, Nat.reduceAdd, Nat.reduceSub, Nat.reduceLT, Nat.reduceLeDiff, Nat.lt_irrefl, evT, bin_add, bin_sub, mthOk_ins, attV_ins, cmpP_lt, cmpP_le, cmpP_gt, cmpP_ge, cmp_lt, cmp_le, cmp_gt, cmp_ge, cmp_eqi, cmp_eqs, cmp_eqb, cmp_nei, cmp_nes, cmp_neb, cmp_isn, cmp_nin, cmp_isb, cmp_nib, tru_bl, tru_int, isNon_lst, isNon_non, item_l, item_t, blt_lenl, blt_lent, blt_lend, blt_all, blt_any, mapM_t1, mapM_t2, embLM_t0, embLM_t1, embLM_t2, embLM_t3, Option.bind_some, Option.map_some, Bool.not_true, Bool.not_false, endC_rt, endC_nx, decide_eq_true_eq, List.mapM_nil, i0, i1, ini_55, fl_ratios_Ratio___init__, h5, mkEnd_app, Cell.tree, mkR, ratT]
  have nmR : Nm (mkR a b) := by
    have c1 : cmn a b = ((Nat.gcd a.natAbs b.natAbs : Nat) : Int) := by unfold cmn; rw [if_neg (by omega)]
    have hgp : 0 < Nat.gcd a.natAbs b.natAbs := Nat.gcd_pos_of_pos_right _ (by omega)
    have g1 := fdiv_abs (a := a) (g := cmn a b) (by omega)
    have g2 := fdiv_abs (a := b) (g := cmn a b) (by omega)
    exact .inr ⟨_, _, rfl, sm _ (by omega), sm _ (by omega)⟩
  unfold S_L_passed
  rw [seq_go A1]
  by_cases hb : b = 1
  · by_cases hd0 : (d : Int) = 0
    · obtain ⟨s', r1, r2⟩ := S1.ret (x := .int a)
      refine ⟨.int a, s', ?_, r2, .inl ⟨a, rfl, sm a h1⟩⟩
      rw [← r1]
      simp only [evS, ev, evs, evF, evI, put, putL, bindV, bind_ok, toFl_ok, seq_nx, seq_rt, putFl_ok, rd_t, emb_t, ofO_some, ofT_some, noex_ok, E.isOmit, List.map_cons, List.map_nil, List.replicate, List.cons_append, List.nil_append, List.length_cons, List.length_nil, List.set_cons_zero, List.set_cons_succ, List.getElem?_cons_zero, List.getElem?_cons_succ, Bool.false_eq_true, if_true, if_false, reduceIte, Nat.reduceAdd, Nat.reduceSub, Nat.reduceLT, Nat.reduceLeDiff, Nat.lt_irrefl, evT, bin_add, bin_sub, mthOk_ins, attV_ins, cmpP_lt, cmpP_le, cmpP_gt, cmpP_ge, cmp_lt, cmp_le, cmp_gt, cmp_ge, cmp_eqi, cmp_eqs, cmp_eqb, cmp_nei, cmp_nes, cmp_neb, cmp_isn, cmp_nin, cmp_isb, cmp_nib, tru_bl, tru_int, isNon_lst, isNon_non, item_l, item_t, blt_lenl, blt_lent, blt_lend, blt_all, blt_any, mapM_t1, mapM_t2, embLM_t0, embLM_t1, embLM_t2, embLM_t3, Option.bind_some, Option.map_some, Bool.not_true, Bool.not_false, endC_rt, endC_nx, decide_eq_true_eq, List.mapM_nil, decide_eq_true hb, fl_L_draw, e1, decide_eq_true hd0, i0]
    · obtain ⟨s', r1, r2⟩ := S1.ret (x := mkR a b)
      refine ⟨mkR a b, s', ?_, r2, nmR⟩
      rw [← r1]
      have c0 : ev (PT.D true) (callN (PT.D true) rp fw (n + 2)) (rp (callN (PT.D true) rp fw (n + 2))) (.and (.var 2) (.cmp .Eq (.cal 1002 (.cons (.var 0) (.cons (.int 2) .nil))) (.int 0))) [some (.c pk), some (.t (prT (a, b))), some (.t (.bl (decide (b = 1))))] st = .ok (.t (.bl false)) s1 := by
        simp only [evS, ev, evs, evF, evI, put, putL, bindV, bind_ok, toFl_ok, seq_nx, seq_rt, putFl_ok, rd_t, emb_t, ofO_some, ofT_some, noex_ok, E.isOmit, List.map_cons, List.map_nil, List.replicate, List.cons_append, List.nil_append, List.length_cons, List.length_nil, List.set_cons_zero, List.set_cons_succ, List.getElem?_cons_zero, List.getElem?_cons_succ, Bool.false_eq_true, if_true, if_false, reduceIte, Nat.reduceAdd, Nat.reduceSub, Nat.reduceLT, Nat.reduceLeDiff, Nat.lt_irrefl, evT, bin_add, bin_sub, mthOk_ins, attV_ins, cmpP_lt, cmpP_le, cmpP_gt, cmpP_ge, cmp_lt, cmp_le, cmp_gt, cmp_ge, cmp_eqi, cmp_eqs, cmp_eqb, cmp_nei, cmp_nes, cmp_neb, cmp_isn, cmp_nin, cmp_isb, cmp_nib, tru_bl, tru_int, isNon_lst, isNon_non, item_l, item_t, blt_lenl, blt_lent, blt_lend, blt_all, blt_any, mapM_t1, mapM_t2, embLM_t0, embLM_t1, embLM_t2, embLM_t3, Option.bind_some, Option.map_some, Bool.not_true, Bool.not_false, endC_rt, endC_nx, decide_eq_true_eq, List.mapM_nil, decide_eq_true hb, fl_L_draw, e1, decide_eq_false hd0]
      have : ev (PT.D true) (callN (PT.D true) rp fw (n + 2)) (rp (callN (PT.D true) rp fw (n + 2))) (.ite (.and (.var 2) (.cmp .Eq (.cal 1002 (.cons (.var 0) (.cons (.int 2) .nil))) (.int 0))) (.ix (.var 1) (.int 0)) (.mk 55 (.cons (.ix (.var 1) (.int 0)) (.cons (.ix (.var 1) (.int 1)) .nil)))) [some (.c pk), some (.t (prT (a, b))), some (.t (.bl (decide (b = 1))))] st = .ok (.t (mkR a b)) s1 := by
        rw [ev, c0, bind_ok]
        simp only [rd_t, Option.bind_some, tru_bl]
        exact mk s1
      simp only [evS, this, toFl_ok, emb_t]
      simp
  · obtain ⟨s', r1, r2⟩ := S0.ret (x := mkR a b)
    refine ⟨mkR a b, s', ?_, r2, nmR⟩
    rw [← r1]
    have c0 : ev (PT.D true) (callN (PT.D true) rp fw (n + 2)) (rp (callN (PT.D true) rp fw (n + 2))) (.and (.var 2) (.cmp .Eq (.cal 1002 (.cons (.var 0) (.cons (.int 2) .nil))) (.int 0))) [some (.c pk), some (.t (prT (a, b))), some (.t (.bl (decide (b = 1))))] st = .ok (.t (.bl false)) st := by
      simp only [evS, ev, evs, evF, evI, put, putL, bindV, bind_ok, toFl_ok, seq_nx, seq_rt, putFl_ok, rd_t, emb_t, ofO_some, ofT_some, noex_ok, E.isOmit, List.map_cons, List.map_nil, List.replicate, List.cons_append, List.nil_append, List.length_cons, List.length_nil, List.set_cons_zero, List.set_cons_succ, List.getElem?_cons_zero, List.getElem?_cons_succ, Bool.false_eq_true, if_true, if_false, reduceIte, Nat.reduceAdd, Nat.reduceSub, Nat.reduceLT, Nat.reduceLeDiff, Nat.lt_irrefl, evT, bin_add, bin_sub, mthOk_ins, attV_ins, cmpP_lt, cmpP_le, cmpP_gt, cmpP_ge, cmp_lt, cmp_le, cmp_gt, cmp_ge, cmp_eqi, cmp_eqs, cmp_eqb, cmp_nei, cmp_nes, cmp_neb, cmp_isn, cmp_nin, cmp_isb, cmp_nib, tru_bl, tru_int, isNon_lst, isNon_non, item_l, item_t, blt_lenl, blt_lent, blt_lend, blt_all, blt_any, mapM_t1, mapM_t2, embLM_t0, embLM_t1, embLM_t2, embLM_t3, Option.bind_some, Option.map_some, Bool.not_true, Bool.not_false, endC_rt, endC_nx, decide_eq_true_eq, List.mapM_nil, decide_eq_false hb]
    have : ev (PT.D true) (callN (PT.D true) rp fw (n + 2)) (rp (callN (PT.D true) rp fw (n + 2))) (.ite (.and (.var 2) (.cmp .Eq (.cal 1002 (.cons (.var 0) (.cons (.int 2) .nil))) (.int 0))) (.ix (.var 1) (.int 0)) (.mk 55 (.cons (.ix (.var 1) (.int 0)) (.cons (.ix (.var 1) (.int 1)) .nil)))) [some (.c pk), some (.t (prT (a, b))), some (.t (.bl (decide (b = 1))))] st = .ok (.t (mkR a b)) st := by
      rw [ev, c0, bind_ok]
      simp only [rd_t, Option.bind_some, tru_bl]
      exact mk st
    simp only [evS, this, toFl_ok, emb_t]
    simp
end
end Tw
set_option maxHeartbeats 4000000
namespace Tw
open PySem L2
def isLong (x : T) : Bool := isSeq x && (decide ((itms x).length = 1 ∨ (itms x).length = 4 ∨ (itms x).length = 9 ∨ (itms x).length = 16) && (itms x).all isNum)
theorem rngL15 : rngL 1 5 = [.int 1, .int 2, .int 3, .int 4] := rfl
section
variable {rp : CF → Store → T → Out Str} {fw n : Nat} {s : Store}
theorem own_number_ok {x : T} (hx : okT (PT.D true) x = true) : callN (PT.D true) rp fw (n + 1) 1013 [.t x] s = .ok (.t (.bl (isNum x))) s := by
  have h1 : isiOk ((PT.D true)).kit ((PT.D true)).cls [.cl 55] x = true := isiOk_of hx (by simp only [List.mem_singleton, forall_eq]; exact Is.h (p := ∀ t, okT (PT.D true) t = true → ((PT.D true)).kit (.cl 55) t = true) _ hx)
  have h2 : isiOk ((PT.D true)).kit ((PT.D true)).cls [.ty "int"] x = true := isiOk_of hx (by simp only [List.mem_singleton, forall_eq]; exact Is.h (p := ∀ t, okT (PT.D true) t = true → ((PT.D true)).kit (.ty "int") t = true) _ hx)
  have h3 : isiOk ((PT.D true)).kit ((PT.D true)).cls [.ty "bool"] x = true := isiOk_of hx (by simp only [List.mem_singleton, forall_eq]; exact Is.h (p := ∀ t, okT (PT.D true) t = true → ((PT.D true)).kit (.ty "bool") t = true) _ hx)
  have sb : ∀ d, ((PT.D true)).sub d 55 = decide (d = 55) := Is.h (p := ∀ d, ((PT.D true)).sub d 55 = decide (d = 55))
  rw [go_L_is_number]
  simp only [S_L_is_number, evS, ev, evs, evF, evI, put, putL, bindV, bind_ok, toFl_ok, seq_nx, seq_rt, putFl_ok, rd_t, emb_t, ofO_some, ofT_some, noex_ok, E.isOmit, List.map_cons, List.map_nil, List.replicate, List.cons_append, List.nil_append, List.length_cons, List.length_nil, List.set_cons_zero, List.set_cons_succ, List.getElem?_cons_zero, List.getElem?_cons_succ, Bool.false_eq_true, if_true, if_false, reduceIte, Nat.reduceAdd, Nat.reduceSub, Nat.reduceLT, Nat.reduceLeDiff, Nat.lt_irrefl, evT, bin_add, bin_sub, mthOk_ins, attV_ins, cmpP_lt, cmpP_le, cmpP_gt, cmpP_ge, cmp_lt, cmp_le, cmp_gt, cmp_ge, cmp_eqi, cmp_eqs, cmp_eqb, cmp_nei, cmp_nes, cmp_neb, cmp_isn, cmp_nin, cmp_isb, cmp_nib, tru_bl, tru_int, isNon_lst, isNon_non, item_l, item_t, blt_lenl, blt_lent, blt_lend, blt_all, blt_any, mapM_t1, mapM_t2, embLM_t0, embLM_t1, embLM_t2, embLM_t3, Option.bind_some, Option.map_some, Bool.not_true, Bool.not_false, endC_rt, endC_nx, decide_eq_true_eq, List.mapM_nil, h1, h2, h3]
  cases x <;> simp [isNum, isInt, isRat, isiP, sb, toFl_ok, bind_ok, emb_t, rd_t, ofO_some, ofT_some, endC, fin, seq_nx, seq_rt, tru, ofT, ofO]
  rename_i c fs
  by_cases hc : c = 55 <;> simp [hc, toFl_ok, bind_ok, emb_t, rd_t, ofO_some, ofT_some, endC, fin, seq_nx, seq_rt, tru, ofT, ofO]
theorem own_seq {x : T} (hx : okT (PT.D true) x = true) {loc : Loc} (hl : loc[0]? = some (some (.t x))) : ev (PT.D true) (callN (PT.D true) rp fw n) (rp (callN (PT.D true) rp fw n)) (.isi (.var 0) [.ty "list", .ty "tuple"]) loc s = .ok (.t (.bl (isSeq x))) s := by
  have h1 : isiOk ((PT.D true)).kit ((PT.D true)).cls [.ty "list", .ty "tuple"] x = true := isiOk_of hx (by
    intro c hc
    simp only [List.mem_cons, List.not_mem_nil, or_false] at hc
    rcases hc with rfl | rfl
    · exact Is.h (p := ∀ t, okT (PT.D true) t = true → ((PT.D true)).kit (.ty "list") t = true) _ hx
    · exact Is.h (p := ∀ t, okT (PT.D true) t = true → ((PT.D true)).kit (.ty "tuple") t = true) _ hx)
  simp only [ev, hl, bind_ok, rd_t, h1, if_true]
  cases x <;> rfl
theorem own_row_ok {x : T} {w : Int} (hx : okN (PT.D true) 1 x) : callN (PT.D true) rp fw (n + 2) 1014 [.t x, .t (.int w)] s = .ok (.t (.bl (isRow x w))) s := by
  rw [go_L_is_row]
  have c0 := own_seq (rp := rp) (fw := fw) (n := n + 1) (s := s) hx.t (loc := [some (.t x), some (.t (.int w)), none]) rfl
  have key : ev (PT.D true) (callN (PT.D true) rp fw (n + 1)) (rp (callN (PT.D true) rp fw (n + 1))) (.and (.isi (.var 0) [.ty "list", .ty "tuple"]) (.and (.cmp .Eq (.blt .len (.cons (.var 0) .nil)) (.var 1)) (.blt .all (.cons LC_L_is_row_0 .nil)))) [some (.t x), some (.t (.int w)), none] s = .ok (.t (.bl (isRow x w))) s := by
    unfold isRow
    refine ev_and_t c0 fun hs => ?_
    refine ev_and_t (by simp only [evS, ev, evs, evF, evI, put, putL, bindV, bind_ok, toFl_ok, seq_nx, seq_rt, putFl_ok, rd_t, emb_t, ofO_some, ofT_some, noex_ok, E.isOmit, List.map_cons, List.map_nil, List.replicate, List.cons_append, List.nil_append, List.length_cons, List.length_nil, List.set_cons_zero, List.set_cons_succ, List.getElem?_cons_zero, List.getElem?_cons_succ, Bool.false_eq_true, if_true, if_false, reduceIte, Nat.reduceAdd, Nat.reduceSub, Nat.reduceLT, Nat.reduceLeDiff, Nat.lt_irrefl, evT, bin_add, bin_sub, mthOk_ins, attV_ins, cmpP_lt, cmpP_le, cmpP_gt, cmpP_ge, cmp_lt, cmp_le, cmp_gt, cmp_ge, cmp_eqi, cmp_eqs, cmp_eqb, cmp_nei, cmp_nes, cmp_neb, cmp_isn, cmp_nin, cmp_isb, cmp_nib, tru_bl, tru_int, isNon_lst, isNon_non, item_l, item_t, blt_lenl, blt_lent, blt_lend, blt_all, blt_any, mapM_t1, mapM_t2, embLM_t0, embLM_t1, embLM_t2, embLM_t3, Option.bind_some, Option.map_some, Bool.not_true, Bool.not_false, endC_rt, endC_nx, decide_eq_true_eq, List.mapM_nil, blt_len_seq hs]) fun hw => ?_
    obtain ⟨src, h1, h2⟩ := evI_seq (s := s) (D := (PT.D true)) (cf := callN (PT.D true) rp fw (n + 1)) (rp := rp (callN (PT.D true) rp fw (n + 1))) (e := .var 0) (loc := [some (.t x), some (.t (.int w)), none]) hs (by simp only [evS, ev, evs, evF, evI, put, putL, bindV, bind_ok, toFl_ok, seq_nx, seq_rt, putFl_ok, rd_t, emb_t, ofO_some, ofT_some, noex_ok, E.isOmit, List.map_cons, List.map_nil, List.replicate, List.cons_append, List.nil_append, List.length_cons, List.length_nil, List.set_cons_zero, List.set_cons_succ, List.getElem?_cons_zero, List.getElem?_cons_succ, Bool.false_eq_true, if_true, if_false, reduceIte, Nat.reduceAdd, Nat.reduceSub, Nat.reduceLT, Nat.reduceLeDiff, Nat.lt_irrefl, evT, bin_add, bin_sub, mthOk_ins, attV_ins, cmpP_lt, cmpP_le, cmpP_gt, cmpP_ge, cmp_lt, cmp_le, cmp_gt, cmp_ge, cmp_eqi, cmp_eqs, cmp_eqb, cmp_nei, cmp_nes, cmp_neb, cmp_isn, cmp_nin, cmp_isb, cmp_nib, tru_bl, tru_int, isNon_lst, isNon_non, item_l, item_t, blt_lenl, blt_lent, blt_lend, blt_all, blt_any, mapM_t1, mapM_t2, embLM_t0, embLM_t1, embLM_t2, embLM_t3, Option.bind_some, Option.map_some, Bool.not_true, Bool.not_false, endC_rt, endC_nx, decide_eq_true_eq, List.mapM_nil])
    have hlc : ev (PT.D true) (callN (PT.D true) rp fw (n + 1)) (rp (callN (PT.D true) rp fw (n + 1))) LC_L_is_row_0 [some (.t x), some (.t (.int w)), none] s = _ := ev_lc_map (fun y => .bl (isNum y)) h1 h2 hx.2.1 (fun y hy => ⟨[some (.t x), some (.t (.int w)), some (.t y)], by simp [bindG, wipeL], fun acc => by
      simp only [evS, ev, evs, evF, evI, put, putL, bindV, bind_ok, toFl_ok, seq_nx, seq_rt, putFl_ok, rd_t, emb_t, ofO_some, ofT_some, noex_ok, E.isOmit, List.map_cons, List.map_nil, List.replicate, List.cons_append, List.nil_append, List.length_cons, List.length_nil, List.set_cons_zero, List.set_cons_succ, List.getElem?_cons_zero, List.getElem?_cons_succ, Bool.false_eq_true, if_true, if_false, reduceIte, Nat.reduceAdd, Nat.reduceSub, Nat.reduceLT, Nat.reduceLeDiff, Nat.lt_irrefl, evT, bin_add, bin_sub, mthOk_ins, attV_ins, cmpP_lt, cmpP_le, cmpP_gt, cmpP_ge, cmp_lt, cmp_le, cmp_gt, cmp_ge, cmp_eqi, cmp_eqs, cmp_eqb, cmp_nei, cmp_nes, cmp_neb, cmp_isn, cmp_nin, cmp_isb, cmp_nib, tru_bl, tru_int, isNon_lst, isNon_non, item_l, item_t, blt_lenl, blt_lent, blt_lend, blt_all, blt_any, mapM_t1, mapM_t2, embLM_t0, embLM_t1, embLM_t2, embLM_t3, Option.bind_some, Option.map_some, Bool.not_true, Bool.not_false, endC_rt, endC_nx, decide_eq_true_eq, List.mapM_nil, fl_L_is_number, own_number_ok (hx.2.2 y hy)]⟩)
    simp only [ev, evs, hlc, bind_ok, mapM_t1, blt_all, ofT_some]
  simp only [S_L_is_row, evS, key, toFl_ok, emb_t, Bool.false_eq_true, if_false, endC_rt]
theorem own_table_ok {x : T} (hx : okN (PT.D true) 2 x) : callN (PT.D true) rp fw (n + 3) 1015 [.t x] s = .ok (.t (.bl (tblOk x))) s := by
  rw [go_L_is_table]
  have c0 := own_seq (rp := rp) (fw := fw) (n := n + 2) (s := s) hx.t (loc := [some (.t x), none]) rfl
  have c1 : isSeq x = true → ev (PT.D true) (callN (PT.D true) rp fw (n + 2)) (rp (callN (PT.D true) rp fw (n + 2))) (.cmp2 .LtE .LtE (.int 1) (.blt .len (.cons (.var 0) .nil)) (.int 4)) [some (.t x), none] s = .ok (.t (.bl (decide (1 ≤ ((itms x).length : Int)) && decide (((itms x).length : Int) ≤ 4)))) s := fun hs => by
    by_cases h1 : (1 : Int) ≤ ((itms x).length : Int)
    · by_cases h4 : ((itms x).length : Int) ≤ 4
      · simp only [evS, ev, evs, evF, evI, put, putL, bindV, bind_ok, toFl_ok, seq_nx, seq_rt, putFl_ok, rd_t, emb_t, ofO_some, ofT_some, noex_ok, E.isOmit, List.map_cons, List.map_nil, List.replicate, List.cons_append, List.nil_append, List.length_cons, List.length_nil, List.set_cons_zero, List.set_cons_succ, List.getElem?_cons_zero, List.getElem?_cons_succ, Bool.false_eq_true, if_true, if_false, reduceIte, Nat.reduceAdd, Nat.reduceSub, Nat.reduceLT, Nat.reduceLeDiff, Nat.lt_irrefl, evT, bin_add, bin_sub, mthOk_ins, attV_ins, cmpP_lt, cmpP_le, cmpP_gt, cmpP_ge, cmp_lt, cmp_le, cmp_gt, cmp_ge, cmp_eqi, cmp_eqs, cmp_eqb, cmp_nei, cmp_nes, cmp_neb, cmp_isn, cmp_nin, cmp_isb, cmp_nib, tru_bl, tru_int, isNon_lst, isNon_non, item_l, item_t, blt_lenl, blt_lent, blt_lend, blt_all, blt_any, mapM_t1, mapM_t2, embLM_t0, embLM_t1, embLM_t2, embLM_t3, Option.bind_some, Option.map_some, Bool.not_true, Bool.not_false, endC_rt, endC_nx, decide_eq_true_eq, List.mapM_nil, blt_len_seq hs, decide_eq_true h1, decide_eq_true h4, Bool.and_self]
      · simp only [evS, ev, evs, evF, evI, put, putL, bindV, bind_ok, toFl_ok, seq_nx, seq_rt, putFl_ok, rd_t, emb_t, ofO_some, ofT_some, noex_ok, E.isOmit, List.map_cons, List.map_nil, List.replicate, List.cons_append, List.nil_append, List.length_cons, List.length_nil, List.set_cons_zero, List.set_cons_succ, List.getElem?_cons_zero, List.getElem?_cons_succ, Bool.false_eq_true, if_true, if_false, reduceIte, Nat.reduceAdd, Nat.reduceSub, Nat.reduceLT, Nat.reduceLeDiff, Nat.lt_irrefl, evT, bin_add, bin_sub, mthOk_ins, attV_ins, cmpP_lt, cmpP_le, cmpP_gt, cmpP_ge, cmp_lt, cmp_le, cmp_gt, cmp_ge, cmp_eqi, cmp_eqs, cmp_eqb, cmp_nei, cmp_nes, cmp_neb, cmp_isn, cmp_nin, cmp_isb, cmp_nib, tru_bl, tru_int, isNon_lst, isNon_non, item_l, item_t, blt_lenl, blt_lent, blt_lend, blt_all, blt_any, mapM_t1, mapM_t2, embLM_t0, embLM_t1, embLM_t2, embLM_t3, Option.bind_some, Option.map_some, Bool.not_true, Bool.not_false, endC_rt, endC_nx, decide_eq_true_eq, List.mapM_nil, blt_len_seq hs, decide_eq_true h1, decide_eq_false h4, Bool.and_false]
    · simp only [evS, ev, evs, evF, evI, put, putL, bindV, bind_ok, toFl_ok, seq_nx, seq_rt, putFl_ok, rd_t, emb_t, ofO_some, ofT_some, noex_ok, E.isOmit, List.map_cons, List.map_nil, List.replicate, List.cons_append, List.nil_append, List.length_cons, List.length_nil, List.set_cons_zero, List.set_cons_succ, List.getElem?_cons_zero, List.getElem?_cons_succ, Bool.false_eq_true, if_true, if_false, reduceIte, Nat.reduceAdd, Nat.reduceSub, Nat.reduceLT, Nat.reduceLeDiff, Nat.lt_irrefl, evT, bin_add, bin_sub, mthOk_ins, attV_ins, cmpP_lt, cmpP_le, cmpP_gt, cmpP_ge, cmp_lt, cmp_le, cmp_gt, cmp_ge, cmp_eqi, cmp_eqs, cmp_eqb, cmp_nei, cmp_nes, cmp_neb, cmp_isn, cmp_nin, cmp_isb, cmp_nib, tru_bl, tru_int, isNon_lst, isNon_non, item_l, item_t, blt_lenl, blt_lent, blt_lend, blt_all, blt_any, mapM_t1, mapM_t2, embLM_t0, embLM_t1, embLM_t2, embLM_t3, Option.bind_some, Option.map_some, Bool.not_true, Bool.not_false, endC_rt, endC_nx, decide_eq_true_eq, List.mapM_nil, blt_len_seq hs, decide_eq_false h1, Bool.false_and]
  have c2 : ev (PT.D true) (callN (PT.D true) rp fw (n + 2)) (rp (callN (PT.D true) rp fw (n + 2))) (.or (.not (.isi (.var 0) [.ty "list", .ty "tuple"])) (.not (.cmp2 .LtE .LtE (.int 1) (.blt .len (.cons (.var 0) .nil)) (.int 4)))) [some (.t x), none] s = .ok (.t (.bl (!isSeq x || !(decide (1 ≤ ((itms x).length : Int)) && decide (((itms x).length : Int) ≤ 4))))) s :=
    ev_or_t (ev_not_t c0) fun h => ev_not_t (c1 (by simpa using h))
  unfold S_L_is_table
  cases hb : (!isSeq x || !(decide (1 ≤ ((itms x).length : Int)) && decide (((itms x).length : Int) ≤ 4))) with
  | true =>
    rw [hb] at c2
    have : tblOk x = false := by
      unfold tblOk
      cases hs : isSeq x with
      | false => simp
      | true => rw [hs] at hb; simp only [Bool.not_true, Bool.false_or, Bool.not_eq_true'] at hb; rw [hb]; simp
    rw [seq_rtn (y := .t (.bl false)) (s1 := s) (by
      simp only [evS, evT]
      rw [c2]
      simp only [evS, ev, evs, evF, evI, put, putL, bindV, bind_ok, toFl_ok, seq_nx, seq_rt, putFl_ok, rd_t, emb_t, ofO_some, ofT_some, noex_ok, E.isOmit, List.map_cons, List.map_nil, List.replicate, List.cons_append, List.nil_append, List.length_cons, List.length_nil, List.set_cons_zero, List.set_cons_succ, List.getElem?_cons_zero, List.getElem?_cons_succ, Bool.false_eq_true, if_true, if_false, reduceIte, Nat.reduceAdd, Nat.reduceSub, Nat.reduceLT, Nat.reduceLeDiff, Nat.lt_irrefl, evT, bin_add, bin_sub, mthOk_ins, attV_ins, cmpP_lt, cmpP_le, cmpP_gt, cmpP_ge, cmp_lt, cmp_le, cmp_gt, cmp_ge, cmp_eqi, cmp_eqs, cmp_eqb, cmp_nei, cmp_nes, cmp_neb, cmp_isn, cmp_nin, cmp_isb, cmp_nib, tru_bl, tru_int, isNon_lst, isNon_non, item_l, item_t, blt_lenl, blt_lent, blt_lend, blt_all, blt_any, mapM_t1, mapM_t2, embLM_t0, embLM_t1, embLM_t2, embLM_t3, Option.bind_some, Option.map_some, Bool.not_true, Bool.not_false, endC_rt, endC_nx, decide_eq_true_eq, List.mapM_nil])]
    rw [this, endC_rt]
  | false =>
    rw [hb] at c2
    simp only [Bool.or_eq_false_iff, Bool.not_eq_false'] at hb
    obtain ⟨hs, hl⟩ := hb
    rw [seq_go (l1 := [some (.t x), none]) (s1 := s) (by
      simp only [evS, evT]
      rw [c2]
      simp only [evS, ev, evs, evF, evI, put, putL, bindV, bind_ok, toFl_ok, seq_nx, seq_rt, putFl_ok, rd_t, emb_t, ofO_some, ofT_some, noex_ok, E.isOmit, List.map_cons, List.map_nil, List.replicate, List.cons_append, List.nil_append, List.length_cons, List.length_nil, List.set_cons_zero, List.set_cons_succ, List.getElem?_cons_zero, List.getElem?_cons_succ, Bool.false_eq_true, if_true, if_false, reduceIte, Nat.reduceAdd, Nat.reduceSub, Nat.reduceLT, Nat.reduceLeDiff, Nat.lt_irrefl, evT, bin_add, bin_sub, mthOk_ins, attV_ins, cmpP_lt, cmpP_le, cmpP_gt, cmpP_ge, cmp_lt, cmp_le, cmp_gt, cmp_ge, cmp_eqi, cmp_eqs, cmp_eqb, cmp_nei, cmp_nes, cmp_neb, cmp_isn, cmp_nin, cmp_isb, cmp_nib, tru_bl, tru_int, isNon_lst, isNon_non, item_l, item_t, blt_lenl, blt_lent, blt_lend, blt_all, blt_any, mapM_t1, mapM_t2, embLM_t0, embLM_t1, embLM_t2, embLM_t3, Option.bind_some, Option.map_some, Bool.not_true, Bool.not_false, endC_rt, endC_nx, decide_eq_true_eq, List.mapM_nil])]
    obtain ⟨src, h1, h2⟩ := evI_seq (s := s) (D := (PT.D true)) (cf := callN (PT.D true) rp fw (n + 2)) (rp := rp (callN (PT.D true) rp fw (n + 2))) (e := .var 0) (loc := [some (.t x), none]) hs (by simp only [evS, ev, evs, evF, evI, put, putL, bindV, bind_ok, toFl_ok, seq_nx, seq_rt, putFl_ok, rd_t, emb_t, ofO_some, ofT_some, noex_ok, E.isOmit, List.map_cons, List.map_nil, List.replicate, List.cons_append, List.nil_append, List.length_cons, List.length_nil, List.set_cons_zero, List.set_cons_succ, List.getElem?_cons_zero, List.getElem?_cons_succ, Bool.false_eq_true, if_true, if_false, reduceIte, Nat.reduceAdd, Nat.reduceSub, Nat.reduceLT, Nat.reduceLeDiff, Nat.lt_irrefl, evT, bin_add, bin_sub, mthOk_ins, attV_ins, cmpP_lt, cmpP_le, cmpP_gt, cmpP_ge, cmp_lt, cmp_le, cmp_gt, cmp_ge, cmp_eqi, cmp_eqs, cmp_eqb, cmp_nei, cmp_nes, cmp_neb, cmp_isn, cmp_nin, cmp_isb, cmp_nib, tru_bl, tru_int, isNon_lst, isNon_non, item_l, item_t, blt_lenl, blt_lent, blt_lend, blt_all, blt_any, mapM_t1, mapM_t2, embLM_t0, embLM_t1, embLM_t2, embLM_t3, Option.bind_some, Option.map_some, Bool.not_true, Bool.not_false, endC_rt, endC_nx, decide_eq_true_eq, List.mapM_nil])
    have hlc : ev (PT.D true) (callN (PT.D true) rp fw (n + 2)) (rp (callN (PT.D true) rp fw (n + 2))) LC_L_is_table_0 [some (.t x), none] s = _ := ev_lc_map (fun y => .bl (isRow y (itms x).length)) h1 h2 hx.2.1 (fun y hy => ⟨[some (.t x), some (.t y)], by simp [bindG, wipeL], fun acc => by
      simp only [evS, ev, evs, evF, evI, put, putL, bindV, bind_ok, toFl_ok, seq_nx, seq_rt, putFl_ok, rd_t, emb_t, ofO_some, ofT_some, noex_ok, E.isOmit, List.map_cons, List.map_nil, List.replicate, List.cons_append, List.nil_append, List.length_cons, List.length_nil, List.set_cons_zero, List.set_cons_succ, List.getElem?_cons_zero, List.getElem?_cons_succ, Bool.false_eq_true, if_true, if_false, reduceIte, Nat.reduceAdd, Nat.reduceSub, Nat.reduceLT, Nat.reduceLeDiff, Nat.lt_irrefl, evT, bin_add, bin_sub, mthOk_ins, attV_ins, cmpP_lt, cmpP_le, cmpP_gt, cmpP_ge, cmp_lt, cmp_le, cmp_gt, cmp_ge, cmp_eqi, cmp_eqs, cmp_eqb, cmp_nei, cmp_nes, cmp_neb, cmp_isn, cmp_nin, cmp_isb, cmp_nib, tru_bl, tru_int, isNon_lst, isNon_non, item_l, item_t, blt_lenl, blt_lent, blt_lend, blt_all, blt_any, mapM_t1, mapM_t2, embLM_t0, embLM_t1, embLM_t2, embLM_t3, Option.bind_some, Option.map_some, Bool.not_true, Bool.not_false, endC_rt, endC_nx, decide_eq_true_eq, List.mapM_nil, blt_len_seq hs, fl_L_is_row, own_row_ok (hx.2.2 y hy)]⟩)
    have : tblOk x = (itms x).all fun r => isRow r (itms x).length := by unfold tblOk; rw [hs, hl]; simp
    rw [this]
    simp only [evS, ev, evs, hlc, bind_ok, mapM_t1, blt_all, ofT_some, toFl_ok, emb_t, Bool.false_eq_true, if_false, endC_rt]
theorem own_long_ok {x : T} (hx : okN (PT.D true) 1 x) : callN (PT.D true) rp fw (n + 2) 1016 [.t x] s = .ok (.t (.bl (isLong x))) s := by
  rw [go_L_is_long]
  have c0 := own_seq (rp := rp) (fw := fw) (n := n + 1) (s := s) hx.t (loc := [some (.t x), none]) rfl
  have z4 : (4 ≤ sizeLine) = True := by rw [sizeL]; simp
  have key : ev (PT.D true) (callN (PT.D true) rp fw (n + 1)) (rp (callN (PT.D true) rp fw (n + 1))) (.and (.isi (.var 0) [.ty "list", .ty "tuple"]) (.and (.cmp .In (.blt .len (.cons (.var 0) .nil)) (.lst false (.cons (.int 1) (.cons (.int 4) (.cons (.int 9) (.cons (.int 16) .nil)))))) (.blt .all (.cons LC_L_is_long_0 .nil)))) [some (.t x), none] s = .ok (.t (.bl (isLong x))) s := by
    unfold isLong
    refine ev_and_t c0 fun hs => ?_
    have em4 : embLM s [.t (.int 1), .t (.int 4), .t (.int 9), .t (.int 16)] = .ok [.int 1, .int 4, .int 9, .int 16] s := nrfl rfl
    have ci : cmpV (PT.D true) (callN (PT.D true) rp fw (n + 1)) .In (.t (.int ((itms x).length : Int))) (.t (.lst [.int 1, .int 4, .int 9, .int 16])) s = some (decide ((itms x).length = 1 ∨ (itms x).length = 4 ∨ (itms x).length = 9 ∨ (itms x).length = 16)) := by
      generalize (itms x).length = l
      have h1 : ((l : Int) = 1) = (l = 1) := by apply propext; omega
      have h4 : ((l : Int) = 4) = (l = 4) := by apply propext; omega
      have h9 : ((l : Int) = 9) = (l = 9) := by apply propext; omega
      have h16 : ((l : Int) = 16) = (l = 16) := by apply propext; omega
      by_cases a : l = 1
      · subst a; rfl
      · by_cases b : l = 4
        · subst b; rfl
        · by_cases c : l = 9
          · subst c; rfl
          · by_cases d : l = 16
            · subst d; rfl
            · have : decide (l = 1 ∨ l = 4 ∨ l = 9 ∨ l = 16) = false := decide_eq_false (by omega)
              rw [this]
              have hi : inP false (.int (l : Int)) [.int 1, .int 4, .int 9, .int 16] = some false := by simp [inP, eqFlat, h1, h4, h9, h16, a, b, c, d]; omega
              show (if ([.int 1, .int 4, .int 9, .int 16] : List T).all isSc then inP false (.int (l : Int)) [.int 1, .int 4, .int 9, .int 16] else none) = _
              exact hi
    refine ev_and_t (by simp only [evS, ev, evs, evF, evI, put, putL, bindV, bind_ok, toFl_ok, seq_nx, seq_rt, putFl_ok, rd_t, emb_t, ofO_some, ofT_some, noex_ok, E.isOmit, List.map_cons, List.map_nil, List.replicate, List.cons_append, List.nil_append, List.length_cons, List.length_nil, List.set_cons_zero, List.set_cons_succ, List.getElem?_cons_zero, List.getElem?_cons_succ, Bool.false_eq_true, if_true, if_false, reduceIte, Nat.reduceAdd, Nat.reduceSub, Nat.reduceLT, Nat.reduceLeDiff, Nat.lt_irrefl, evT, bin_add, bin_sub, mthOk_ins, attV_ins, cmpP_lt, cmpP_le, cmpP_gt, cmpP_ge, cmp_lt, cmp_le, cmp_gt, cmp_ge, cmp_eqi, cmp_eqs, cmp_eqb, cmp_nei, cmp_nes, cmp_neb, cmp_isn, cmp_nin, cmp_isb, cmp_nib, tru_bl, tru_int, isNon_lst, isNon_non, item_l, item_t, blt_lenl, blt_lent, blt_lend, blt_all, blt_any, mapM_t1, mapM_t2, embLM_t0, embLM_t1, embLM_t2, embLM_t3, Option.bind_some, Option.map_some, Bool.not_true, Bool.not_false, endC_rt, endC_nx, decide_eq_true_eq, List.mapM_nil, blt_len_seq hs, em4, z4, ci]) fun hw => ?_
    obtain ⟨src, h1, h2⟩ := evI_seq (s := s) (D := (PT.D true)) (cf := callN (PT.D true) rp fw (n + 1)) (rp := rp (callN (PT.D true) rp fw (n + 1))) (e := .var 0) (loc := [some (.t x), none]) hs (by simp only [evS, ev, evs, evF, evI, put, putL, bindV, bind_ok, toFl_ok, seq_nx, seq_rt, putFl_ok, rd_t, emb_t, ofO_some, ofT_some, noex_ok, E.isOmit, List.map_cons, List.map_nil, List.replicate, List.cons_append, List.nil_append, List.length_cons, List.length_nil, List.set_cons_zero, List.set_cons_succ, List.getElem?_cons_zero, List.getElem?_cons_succ, Bool.false_eq_true, if_true, if_false, reduceIte, Nat.reduceAdd, Nat.reduceSub, Nat.reduceLT, Nat.reduceLeDiff, Nat.lt_irrefl, evT, bin_add, bin_sub, mthOk_ins, attV_ins, cmpP_lt, cmpP_le, cmpP_gt, cmpP_ge, cmp_lt, cmp_le, cmp_gt, cmp_ge, cmp_eqi, cmp_eqs, cmp_eqb, cmp_nei, cmp_nes, cmp_neb, cmp_isn, cmp_nin, cmp_isb, cmp_nib, tru_bl, tru_int, isNon_lst, isNon_non, item_l, item_t, blt_lenl, blt_lent, blt_lend, blt_all, blt_any, mapM_t1, mapM_t2, embLM_t0, embLM_t1, embLM_t2, embLM_t3, Option.bind_some, Option.map_some, Bool.not_true, Bool.not_false, endC_rt, endC_nx, decide_eq_true_eq, List.mapM_nil])
    have hlc : ev (PT.D true) (callN (PT.D true) rp fw (n + 1)) (rp (callN (PT.D true) rp fw (n + 1))) LC_L_is_long_0 [some (.t x), none] s = _ := ev_lc_map (fun y => .bl (isNum y)) h1 h2 hx.2.1 (fun y hy => ⟨[some (.t x), some (.t y)], by simp [bindG, wipeL], fun acc => by
      simp only [evS, ev, evs, evF, evI, put, putL, bindV, bind_ok, toFl_ok, seq_nx, seq_rt, putFl_ok, rd_t, emb_t, ofO_some, ofT_some, noex_ok, E.isOmit, List.map_cons, List.map_nil, List.replicate, List.cons_append, List.nil_append, List.length_cons, List.length_nil, List.set_cons_zero, List.set_cons_succ, List.getElem?_cons_zero, List.getElem?_cons_succ, Bool.false_eq_true, if_true, if_false, reduceIte, Nat.reduceAdd, Nat.reduceSub, Nat.reduceLT, Nat.reduceLeDiff, Nat.lt_irrefl, evT, bin_add, bin_sub, mthOk_ins, attV_ins, cmpP_lt, cmpP_le, cmpP_gt, cmpP_ge, cmp_lt, cmp_le, cmp_gt, cmp_ge, cmp_eqi, cmp_eqs, cmp_eqb, cmp_nei, cmp_nes, cmp_neb, cmp_isn, cmp_nin, cmp_isb, cmp_nib, tru_bl, tru_int, isNon_lst, isNon_non, item_l, item_t, blt_lenl, blt_lent, blt_lend, blt_all, blt_any, mapM_t1, mapM_t2, embLM_t0, embLM_t1, embLM_t2, embLM_t3, Option.bind_some, Option.map_some, Bool.not_true, Bool.not_false, endC_rt, endC_nx, decide_eq_true_eq, List.mapM_nil, fl_L_is_number, own_number_ok (hx.2.2 y hy)]⟩)
    simp only [ev, evs, hlc, bind_ok, mapM_t1, blt_all, ofT_some]
  simp only [S_L_is_long, evS, key, toFl_ok, emb_t, Bool.false_eq_true, if_false, endC_rt]
theorem is_table_pub {x : T} (hx : okN (PT.D true) 2 x) : callN (PT.D true) rp fw (n + 5) 458 [.t x] s = .ok (.t (.bl (tblOk x))) s := by
  rw [go_tables_is_table]
  have e := table_in_ok (D := (PT.D true)) (rp := rp) (fw := fw) (n := n) (s := s) hx
  simp only [S_tables_is_table, fl_tables_table_in, evS, ev, evs, evF, evI, put, putL, bindV, bind_ok, toFl_ok, seq_nx, seq_rt, putFl_ok, rd_t, emb_t, ofO_some, ofT_some, noex_ok, E.isOmit, List.map_cons, List.map_nil, List.replicate, List.cons_append, List.nil_append, List.length_cons, List.length_nil, List.set_cons_zero, List.set_cons_succ, List.getElem?_cons_zero, List.getElem?_cons_succ, Bool.false_eq_true, if_true, if_false, reduceIte, Nat.reduceAdd, Nat.reduceSub, Nat.reduceLT, Nat.reduceLeDiff, Nat.lt_irrefl, evT, bin_add, bin_sub, mthOk_ins, attV_ins, cmpP_lt, cmpP_le, cmpP_gt, cmpP_ge, cmp_lt, cmp_le, cmp_gt, cmp_ge, cmp_eqi, cmp_eqs, cmp_eqb, cmp_nei, cmp_nes, cmp_neb, cmp_isn, cmp_nin, cmp_isb, cmp_nib, tru_bl, tru_int, isNon_lst, isNon_non, item_l, item_t, blt_lenl, blt_lent, blt_lend, blt_all, blt_any, mapM_t1, mapM_t2, embLM_t0, embLM_t1, embLM_t2, embLM_t3, Option.bind_some, Option.map_some, Bool.not_true, Bool.not_false, endC_rt, endC_nx, decide_eq_true_eq, List.mapM_nil, fl_tables_table_in, e, isNon_tblIn]
  simp
theorem short_ok {ys : List T} {k : Nat} (hk : k ≤ 4) : ∃ t, callN (PT.D true) rp fw (n + 1) 455 [.t (.lst ys), .t (.int (k : Int))] s = .ok (.t t) s := by
  rw [go_tables_short_of]
  have hlc : ev (PT.D true) (callN (PT.D true) rp fw n) (rp (callN (PT.D true) rp fw n)) LC_tables_short_of_0 [some (.t (.lst ys)), some (.t (.int (k : Int))), none] s = .ok (.t (.lst ((List.range k).map fun i : Nat => T.lst (cutT ys (some ((i : Int) * (k : Int))) (some (((i : Int) + 1) * (k : Int))))))) s := by
    unfold LC_tables_short_of_0
    refine lc_go (List.range k) (fun i : Nat => T.int i) (f := fun i : Nat => T.lst (cutT ys (some ((i : Int) * (k : Int))) (some (((i : Int) + 1) * (k : Int))))) (evI_rng (m := k) (by simp only [evS, ev, evs, evF, evI, put, putL, bindV, bind_ok, toFl_ok, seq_nx, seq_rt, putFl_ok, rd_t, emb_t, ofO_some, ofT_some, noex_ok, E.isOmit, List.map_cons, List.map_nil, List.replicate, List.cons_append, List.nil_append, List.length_cons, List.length_nil, List.set_cons_zero, List.set_cons_succ, List.getElem?_cons_zero, List.getElem?_cons_succ, Bool.false_eq_true, if_true, if_false, reduceIte, Nat.reduceAdd, Nat.reduceSub, Nat.reduceLT, Nat.reduceLeDiff, Nat.lt_irrefl, evT, bin_add, bin_sub, mthOk_ins, attV_ins, cmpP_lt, cmpP_le, cmpP_gt, cmpP_ge, cmp_lt, cmp_le, cmp_gt, cmp_ge, cmp_eqi, cmp_eqs, cmp_eqb, cmp_nei, cmp_nes, cmp_neb, cmp_isn, cmp_nin, cmp_isb, cmp_nib, tru_bl, tru_int, isNon_lst, isNon_non, item_l, item_t, blt_lenl, blt_lent, blt_lend, blt_all, blt_any, mapM_t1, mapM_t2, embLM_t0, embLM_t1, embLM_t2, embLM_t3, Option.bind_some, Option.map_some, Bool.not_true, Bool.not_false, endC_rt, endC_nx, decide_eq_true_eq, List.mapM_nil]) (by omega)) Wk.rng0 (by rw [List.length_range, sizeL]; omega) fun i hi acc => ?_
    have hi := List.mem_range.mp hi
    have lg : (k : Int).natAbs.log2 < 60 := log_lt (by omega) (by omega)
    simp only [bindE, bindG, bindGs, wipeL, items, evS, ev, evs, evF, evI, put, putL, bindV, bind_ok, toFl_ok, seq_nx, seq_rt, putFl_ok, rd_t, emb_t, ofO_some, ofT_some, noex_ok, E.isOmit, List.map_cons, List.map_nil, List.replicate, List.cons_append, List.nil_append, List.length_cons, List.length_nil, List.set_cons_zero, List.set_cons_succ, List.getElem?_cons_zero, List.getElem?_cons_succ, Bool.false_eq_true, if_true, if_false, reduceIte, Nat.reduceAdd, Nat.reduceSub, Nat.reduceLT, Nat.reduceLeDiff, Nat.lt_irrefl, evT, bin_add, bin_sub, mthOk_ins, attV_ins, cmpP_lt, cmpP_le, cmpP_gt, cmpP_ge, cmp_lt, cmp_le, cmp_gt, cmp_ge, cmp_eqi, cmp_eqs, cmp_eqb, cmp_nei, cmp_nes, cmp_neb, cmp_isn, cmp_nin, cmp_isb, cmp_nib, tru_bl, tru_int, isNon_lst, isNon_non, item_l, item_t, blt_lenl, blt_lent, blt_lend, blt_all, blt_any, mapM_t1, mapM_t2, embLM_t0, embLM_t1, embLM_t2, embLM_t3, Option.bind_some, Option.map_some, Bool.not_true, Bool.not_false, endC_rt, endC_nx, decide_eq_true_eq, List.mapM_nil, bin_mulr lg, optI_i, slV_lt]
  refine ⟨.lst ((List.range k).map fun i : Nat => T.lst (cutT ys (some ((i : Int) * (k : Int))) (some (((i : Int) + 1) * (k : Int))))), ?_⟩
  simp only [S_tables_short_of, evS, ev, evs, evF, evI, put, putL, bindV, bind_ok, toFl_ok, seq_nx, seq_rt, putFl_ok, rd_t, emb_t, ofO_some, ofT_some, noex_ok, E.isOmit, List.map_cons, List.map_nil, List.replicate, List.cons_append, List.nil_append, List.length_cons, List.length_nil, List.set_cons_zero, List.set_cons_succ, List.getElem?_cons_zero, List.getElem?_cons_succ, Bool.false_eq_true, if_true, if_false, reduceIte, Nat.reduceAdd, Nat.reduceSub, Nat.reduceLT, Nat.reduceLeDiff, Nat.lt_irrefl, evT, bin_add, bin_sub, mthOk_ins, attV_ins, cmpP_lt, cmpP_le, cmpP_gt, cmpP_ge, cmp_lt, cmp_le, cmp_gt, cmp_ge, cmp_eqi, cmp_eqs, cmp_eqb, cmp_nei, cmp_nes, cmp_neb, cmp_isn, cmp_nin, cmp_isb, cmp_nib, tru_bl, tru_int, isNon_lst, isNon_non, item_l, item_t, blt_lenl, blt_lent, blt_lend, blt_all, blt_any, mapM_t1, mapM_t2, embLM_t0, embLM_t1, embLM_t2, embLM_t3, Option.bind_some, Option.map_some, Bool.not_true, Bool.not_false, endC_rt, endC_nx, decide_eq_true_eq, List.mapM_nil, hlc]
theorem from_long_ok {x : T} (hx : okN (PT.D true) 1 x) : (isLong x = true → ∃ t, callN (PT.D true) rp fw (n + 4) 469 [.t x] s = .ok (.t t) s) ∧ (isLong x = false → callN (PT.D true) rp fw (n + 4) 469 [.t x] s = .ex ⟨10, [("value", x)]⟩ s) := by
  rw [go_tables_from_long_x]
  have key : (∃ t, evS (PT.D true) (callN (PT.D true) rp fw (n + 3)) (rp (callN (PT.D true) rp fw (n + 3))) fw FS_tables_from_long_x_0 [some (.t x), none, none] s = .rt (.t t) s ∧ isLong x = true) ∨ (∃ o1, evS (PT.D true) (callN (PT.D true) rp fw (n + 3)) (rp (callN (PT.D true) rp fw (n + 3))) fw FS_tables_from_long_x_0 [some (.t x), none, none] s = .nx [some (.t x), o1, none] s ∧ isLong x = false) := by
    have ei : evI (PT.D true) (callN (PT.D true) rp fw (n + 3)) (rp (callN (PT.D true) rp fw (n + 3))) (.irng2 (.int 1) (.bin .Add (.int 4) (.int 1))) [some (.t x), none, none] s = .ok (.rng 1 5) s := it_rng2 (m := 1) (k := 5) (by simp only [evS, ev, evs, evF, evI, put, putL, bindV, bind_ok, toFl_ok, seq_nx, seq_rt, putFl_ok, rd_t, emb_t, ofO_some, ofT_some, noex_ok, E.isOmit, List.map_cons, List.map_nil, List.replicate, List.cons_append, List.nil_append, List.length_cons, List.length_nil, List.set_cons_zero, List.set_cons_succ, List.getElem?_cons_zero, List.getElem?_cons_succ, Bool.false_eq_true, if_true, if_false, reduceIte, Nat.reduceAdd, Nat.reduceSub, Nat.reduceLT, Nat.reduceLeDiff, Nat.lt_irrefl, evT, bin_add, bin_sub, mthOk_ins, attV_ins, cmpP_lt, cmpP_le, cmpP_gt, cmpP_ge, cmp_lt, cmp_le, cmp_gt, cmp_ge, cmp_eqi, cmp_eqs, cmp_eqb, cmp_nei, cmp_nes, cmp_neb, cmp_isn, cmp_nin, cmp_isb, cmp_nib, tru_bl, tru_int, isNon_lst, isNon_non, item_l, item_t, blt_lenl, blt_lent, blt_lend, blt_all, blt_any, mapM_t1, mapM_t2, embLM_t0, embLM_t1, embLM_t2, embLM_t3, Option.bind_some, Option.map_some, Bool.not_true, Bool.not_false, endC_rt, endC_nx, decide_eq_true_eq, List.mapM_nil]; rfl) (by simp only [evS, ev, evs, evF, evI, put, putL, bindV, bind_ok, toFl_ok, seq_nx, seq_rt, putFl_ok, rd_t, emb_t, ofO_some, ofT_some, noex_ok, E.isOmit, List.map_cons, List.map_nil, List.replicate, List.cons_append, List.nil_append, List.length_cons, List.length_nil, List.set_cons_zero, List.set_cons_succ, List.getElem?_cons_zero, List.getElem?_cons_succ, Bool.false_eq_true, if_true, if_false, reduceIte, Nat.reduceAdd, Nat.reduceSub, Nat.reduceLT, Nat.reduceLeDiff, Nat.lt_irrefl, evT, bin_add, bin_sub, mthOk_ins, attV_ins, cmpP_lt, cmpP_le, cmpP_gt, cmpP_ge, cmp_lt, cmp_le, cmp_gt, cmp_ge, cmp_eqi, cmp_eqs, cmp_eqb, cmp_nei, cmp_nes, cmp_neb, cmp_isn, cmp_nin, cmp_isb, cmp_nib, tru_bl, tru_int, isNon_lst, isNon_non, item_l, item_t, blt_lenl, blt_lent, blt_lend, blt_all, blt_any, mapM_t1, mapM_t2, embLM_t0, embLM_t1, embLM_t2, embLM_t3, Option.bind_some, Option.map_some, Bool.not_true, Bool.not_false, endC_rt, endC_nx, decide_eq_true_eq, List.mapM_nil]; rfl) (by decide) (by decide)
    unfold FS_tables_from_long_x_0
    simp only [evS, ei, toFl_ok]
    refine loopF_ret (src := .rng 1 5) (g := .gn 1) (body := evS (PT.D true) (callN (PT.D true) rp fw (n + 3)) (rp (callN (PT.D true) rp fw (n + 3))) fw FB_tables_from_long_x_0) (xs := rngL 1 5) (fun i loc st => s = st ∧ (∃ o1, loc = [some (.t x), o1, none]) ∧ ∀ j, j < i → isRow x (((j + 1) * (j + 1) : Nat) : Int) = false)
      (fun fl => (∃ t, fl = .rt (.t t) s ∧ isLong x = true) ∨ (∃ o1, fl = .nx [some (.t x), o1, none] s ∧ isLong x = false)) (fun i loc st _ => at_rng i) (fun i y loc st hy hI => ?_) (fun loc st hI => ?_) (Src.most s (.rng 1 5)) 0 [some (.t x), none, none] s (by rw [most_rng, rngL15]; decide) (Nat.zero_le _) ⟨rfl, ⟨_, rfl⟩, fun j hj => by omega⟩
    · obtain ⟨rfl, ⟨o1, rfl⟩, hj⟩ := hI
      have hi : i < 4 := by
        have := (List.getElem?_eq_some_iff.mp hy).1
        rw [rngL15] at this
        exact this
      have hyi : y = .int ((i + 1 : Nat) : Int) := by
        rw [rngL15] at hy
        rcases (by omega : i = 0 ∨ i = 1 ∨ i = 2 ∨ i = 3) with rfl | rfl | rfl | rfl <;> · simp at hy; rw [← hy]; rfl
      subst hyi
      refine ⟨[some (.t x), some (.t (.int ((i + 1 : Nat) : Int))), none], rfl, ?_⟩
      have an := are_numbers_ok (D := (PT.D true)) (rp := rp) (fw := fw) (n := n) (s := s) (x := x) (w := (((i + 1) * (i + 1) : Nat) : Int)) hx
      have lg : ((i + 1 : Nat) : Int).natAbs.log2 < 60 := log_lt (by omega) (by omega)
      have em : ((i + 1 : Nat) : Int) * ((i + 1 : Nat) : Int) = (((i + 1) * (i + 1) : Nat) : Int) := (Int.natCast_mul ..).symm
      have bm := bin_mulr (D := (PT.D true)) (cf := callN (PT.D true) rp fw (n + 3)) (s := s) (i := ((i + 1 : Nat) : Int)) lg
      rw [em] at bm
      generalize hk : i + 1 = k at *
      cases hr : isRow x ((k * k : Nat) : Int) with
      | false =>
        left
        rw [hr] at an
        refine ⟨[some (.t x), some (.t (.int (k : Int))), none], s, .inl ?_, rfl, ⟨_, rfl⟩, fun j hj' => ?_⟩
        · simp only [FB_tables_from_long_x_0, evS, ev, evs, evF, evI, put, putL, bindV, bind_ok, toFl_ok, seq_nx, seq_rt, putFl_ok, rd_t, emb_t, ofO_some, ofT_some, noex_ok, E.isOmit, List.map_cons, List.map_nil, List.replicate, List.cons_append, List.nil_append, List.length_cons, List.length_nil, List.set_cons_zero, List.set_cons_succ, List.getElem?_cons_zero, List.getElem?_cons_succ, Bool.false_eq_true, if_true, if_false, reduceIte, Nat.reduceAdd, Nat.reduceSub, Nat.reduceLT, Nat.reduceLeDiff, Nat.lt_irrefl, evT, bin_add, bin_sub, mthOk_ins, attV_ins, cmpP_lt, cmpP_le, cmpP_gt, cmpP_ge, cmp_lt, cmp_le, cmp_gt, cmp_ge, cmp_eqi, cmp_eqs, cmp_eqb, cmp_nei, cmp_nes, cmp_neb, cmp_isn, cmp_nin, cmp_isb, cmp_nib, tru_bl, tru_int, isNon_lst, isNon_non, item_l, item_t, blt_lenl, blt_lent, blt_lend, blt_all, blt_any, mapM_t1, mapM_t2, embLM_t0, embLM_t1, embLM_t2, embLM_t3, Option.bind_some, Option.map_some, Bool.not_true, Bool.not_false, endC_rt, endC_nx, decide_eq_true_eq, List.mapM_nil, bm, fl_solved_are_numbers, an]
        · by_cases hji : j < i
          · exact hj j hji
          · have : j + 1 = k := by omega
            rw [this]; exact hr
      | true =>
        right
        rw [hr] at an
        unfold isRow at hr
        simp only [Bool.and_eq_true, decide_eq_true_eq] at hr
        obtain ⟨hs, hl, ha⟩ := hr
        obtain ⟨src, h1, h2⟩ := evI_seq (s := s) (D := (PT.D true)) (cf := callN (PT.D true) rp fw (n + 3)) (rp := rp (callN (PT.D true) rp fw (n + 3))) (e := .var 0) (loc := [some (.t x), some (.t (.int (k : Int))), none]) hs (by simp only [evS, ev, evs, evF, evI, put, putL, bindV, bind_ok, toFl_ok, seq_nx, seq_rt, putFl_ok, rd_t, emb_t, ofO_some, ofT_some, noex_ok, E.isOmit, List.map_cons, List.map_nil, List.replicate, List.cons_append, List.nil_append, List.length_cons, List.length_nil, List.set_cons_zero, List.set_cons_succ, List.getElem?_cons_zero, List.getElem?_cons_succ, Bool.false_eq_true, if_true, if_false, reduceIte, Nat.reduceAdd, Nat.reduceSub, Nat.reduceLT, Nat.reduceLeDiff, Nat.lt_irrefl, evT, bin_add, bin_sub, mthOk_ins, attV_ins, cmpP_lt, cmpP_le, cmpP_gt, cmpP_ge, cmp_lt, cmp_le, cmp_gt, cmp_ge, cmp_eqi, cmp_eqs, cmp_eqb, cmp_nei, cmp_nes, cmp_neb, cmp_isn, cmp_nin, cmp_isb, cmp_nib, tru_bl, tru_int, isNon_lst, isNon_non, item_l, item_t, blt_lenl, blt_lent, blt_lend, blt_all, blt_any, mapM_t1, mapM_t2, embLM_t0, embLM_t1, embLM_t2, embLM_t3, Option.bind_some, Option.map_some, Bool.not_true, Bool.not_false, endC_rt, endC_nx, decide_eq_true_eq, List.mapM_nil])
        have hlc : ev (PT.D true) (callN (PT.D true) rp fw (n + 3)) (rp (callN (PT.D true) rp fw (n + 3))) LC_tables_from_long_x_0 [some (.t x), some (.t (.int (k : Int))), none] s = _ := ev_lc_map (fun y => ratOf y) h1 h2 hx.2.1 (fun y hy => ⟨[some (.t x), some (.t (.int (k : Int))), some (.t y)], by simp [bindG, wipeL], fun acc => by
          simp only [evS, ev, evs, evF, evI, put, putL, bindV, bind_ok, toFl_ok, seq_nx, seq_rt, putFl_ok, rd_t, emb_t, ofO_some, ofT_some, noex_ok, E.isOmit, List.map_cons, List.map_nil, List.replicate, List.cons_append, List.nil_append, List.length_cons, List.length_nil, List.set_cons_zero, List.set_cons_succ, List.getElem?_cons_zero, List.getElem?_cons_succ, Bool.false_eq_true, if_true, if_false, reduceIte, Nat.reduceAdd, Nat.reduceSub, Nat.reduceLT, Nat.reduceLeDiff, Nat.lt_irrefl, evT, bin_add, bin_sub, mthOk_ins, attV_ins, cmpP_lt, cmpP_le, cmpP_gt, cmpP_ge, cmp_lt, cmp_le, cmp_gt, cmp_ge, cmp_eqi, cmp_eqs, cmp_eqb, cmp_nei, cmp_nes, cmp_neb, cmp_isn, cmp_nin, cmp_isb, cmp_nib, tru_bl, tru_int, isNon_lst, isNon_non, item_l, item_t, blt_lenl, blt_lent, blt_lend, blt_all, blt_any, mapM_t1, mapM_t2, embLM_t0, embLM_t1, embLM_t2, embLM_t3, Option.bind_some, Option.map_some, Bool.not_true, Bool.not_false, endC_rt, endC_nx, decide_eq_true_eq, List.mapM_nil, fl_ratios_ratio_of, ratio_of_ok (hx.2.2 y hy) (List.all_eq_true.mp ha y hy)]⟩)
        obtain ⟨t, et⟩ := short_ok (rp := rp) (fw := fw) (n := n + 2) (s := s) (ys := (itms x).map fun y => ratOf y) (k := k) (by omega)
        have hlen : (itms x).length = k * k := by omega
        have hlong : isLong x = true := by
          unfold isLong
          rw [hs, ha, hlen]
          rcases (by omega : k = 1 ∨ k = 2 ∨ k = 3 ∨ k = 4) with rfl | rfl | rfl | rfl <;> rfl
        have eb : evS (PT.D true) (callN (PT.D true) rp fw (n + 3)) (rp (callN (PT.D true) rp fw (n + 3))) fw FB_tables_from_long_x_0 [some (.t x), some (.t (.int (k : Int))), none] s = .rt (.t t) s := by
          simp only [FB_tables_from_long_x_0, evS, ev, evs, evF, evI, put, putL, bindV, bind_ok, toFl_ok, seq_nx, seq_rt, putFl_ok, rd_t, emb_t, ofO_some, ofT_some, noex_ok, E.isOmit, List.map_cons, List.map_nil, List.replicate, List.cons_append, List.nil_append, List.length_cons, List.length_nil, List.set_cons_zero, List.set_cons_succ, List.getElem?_cons_zero, List.getElem?_cons_succ, Bool.false_eq_true, if_true, if_false, reduceIte, Nat.reduceAdd, Nat.reduceSub, Nat.reduceLT, Nat.reduceLeDiff, Nat.lt_irrefl, evT, bin_add, bin_sub, mthOk_ins, attV_ins, cmpP_lt, cmpP_le, cmpP_gt, cmpP_ge, cmp_lt, cmp_le, cmp_gt, cmp_ge, cmp_eqi, cmp_eqs, cmp_eqb, cmp_nei, cmp_nes, cmp_neb, cmp_isn, cmp_nin, cmp_isb, cmp_nib, tru_bl, tru_int, isNon_lst, isNon_non, item_l, item_t, blt_lenl, blt_lent, blt_lend, blt_all, blt_any, mapM_t1, mapM_t2, embLM_t0, embLM_t1, embLM_t2, embLM_t3, Option.bind_some, Option.map_some, Bool.not_true, Bool.not_false, endC_rt, endC_nx, decide_eq_true_eq, List.mapM_nil, bm, fl_solved_are_numbers, an, hlc, fl_tables_short_of, et]
        exact ⟨⟨_, _, eb⟩, .inl ⟨t, eb, hlong⟩⟩
    · obtain ⟨rfl, ⟨o1, rfl⟩, hj⟩ := hI
      refine .inr ⟨o1, rfl, ?_⟩
      rw [rngL15] at hj
      have e0 := hj 0 (by decide)
      have e1 := hj 1 (by decide)
      have e2 := hj 2 (by decide)
      have e3 := hj 3 (by decide)
      unfold isRow at e0 e1 e2 e3
      unfold isLong
      cases hs : isSeq x with
      | false => rfl
      | true =>
        cases ha : (itms x).all isNum with
        | false => simp
        | true =>
          rw [hs, ha] at e0 e1 e2 e3
          simp only [Bool.true_and, Bool.and_true, decide_eq_false_iff_not] at e0 e1 e2 e3 ⊢
          omega
  unfold S_tables_from_long_x
  refine ⟨fun hl => ?_, fun hl => ?_⟩
  · rcases key with ⟨t, e, _⟩ | ⟨o1, e, h⟩
    · exact ⟨t, by rw [seq_rtn e, endC_rt]⟩
    · rw [h] at hl; cases hl
  · rcases key with ⟨t, e, h⟩ | ⟨o1, e, _⟩
    · rw [h] at hl; cases hl
    · rw [seq_go e]
      have hx10 : ((PT.D true)).exf 10 = some (some ("value" : Str)) := rfl
      simp only [evS, evs, ev, List.getElem?_cons_zero, bind_ok, toFl_ok, raiseOf, hx10, emb_t, endC, List.take_length]
theorem lets_ok {x : T} (hx : okN (PT.D true) 1 x) : callN (PT.D true) rp fw (n + 5) 1017 [.t x] s = .ok (.t (.bl (isLong x))) s := by
  rw [go_L_lets]
  obtain ⟨f1, f2⟩ := from_long_ok (rp := rp) (fw := fw) (n := n) (s := s) hx
  have hx10 : (((PT.D true)).exf 10).isSome = true := rfl
  have hs10 : ((PT.D true)).sub 10 10 = true := rfl
  unfold S_L_lets
  rw [seq_go (l1 := [some (.t x), some (.t (.bl true))]) (s1 := s) (by simp only [evS, ev, evs, evF, evI, put, putL, bindV, bind_ok, toFl_ok, seq_nx, seq_rt, putFl_ok, rd_t, emb_t, ofO_some, ofT_some, noex_ok, E.isOmit, List.map_cons, List.map_nil, List.replicate, List.cons_append, List.nil_append, List.length_cons, List.length_nil, List.set_cons_zero, List.set_cons_succ, List.getElem?_cons_zero, List.getElem?_cons_succ, Bool.false_eq_true, if_true, if_false, reduceIte, Nat.reduceAdd, Nat.reduceSub, Nat.reduceLT, Nat.reduceLeDiff, Nat.lt_irrefl, evT, bin_add, bin_sub, mthOk_ins, attV_ins, cmpP_lt, cmpP_le, cmpP_gt, cmpP_ge, cmp_lt, cmp_le, cmp_gt, cmp_ge, cmp_eqi, cmp_eqs, cmp_eqb, cmp_nei, cmp_nes, cmp_neb, cmp_isn, cmp_nin, cmp_isb, cmp_nib, tru_bl, tru_int, isNon_lst, isNon_non, item_l, item_t, blt_lenl, blt_lent, blt_lend, blt_all, blt_any, mapM_t1, mapM_t2, embLM_t0, embLM_t1, embLM_t2, embLM_t3, Option.bind_some, Option.map_some, Bool.not_true, Bool.not_false, endC_rt, endC_nx, decide_eq_true_eq, List.mapM_nil])]
  cases hl : isLong x with
  | true =>
    obtain ⟨t, e⟩ := f1 hl
    rw [seq_go (l1 := [some (.t x), some (.t (.bl true))]) (s1 := s) (by simp only [evS, ev, evs, evF, evI, put, putL, bindV, bind_ok, toFl_ok, seq_nx, seq_rt, putFl_ok, rd_t, emb_t, ofO_some, ofT_some, noex_ok, E.isOmit, List.map_cons, List.map_nil, List.replicate, List.cons_append, List.nil_append, List.length_cons, List.length_nil, List.set_cons_zero, List.set_cons_succ, List.getElem?_cons_zero, List.getElem?_cons_succ, Bool.false_eq_true, if_true, if_false, reduceIte, Nat.reduceAdd, Nat.reduceSub, Nat.reduceLT, Nat.reduceLeDiff, Nat.lt_irrefl, evT, bin_add, bin_sub, mthOk_ins, attV_ins, cmpP_lt, cmpP_le, cmpP_gt, cmpP_ge, cmp_lt, cmp_le, cmp_gt, cmp_ge, cmp_eqi, cmp_eqs, cmp_eqb, cmp_nei, cmp_nes, cmp_neb, cmp_isn, cmp_nin, cmp_isb, cmp_nib, tru_bl, tru_int, isNon_lst, isNon_non, item_l, item_t, blt_lenl, blt_lent, blt_lend, blt_all, blt_any, mapM_t1, mapM_t2, embLM_t0, embLM_t1, embLM_t2, embLM_t3, Option.bind_some, Option.map_some, Bool.not_true, Bool.not_false, endC_rt, endC_nx, decide_eq_true_eq, List.mapM_nil, fl_tables_from_long_x, e])]
    simp only [evS, ev, evs, evF, evI, put, putL, bindV, bind_ok, toFl_ok, seq_nx, seq_rt, putFl_ok, rd_t, emb_t, ofO_some, ofT_some, noex_ok, E.isOmit, List.map_cons, List.map_nil, List.replicate, List.cons_append, List.nil_append, List.length_cons, List.length_nil, List.set_cons_zero, List.set_cons_succ, List.getElem?_cons_zero, List.getElem?_cons_succ, Bool.false_eq_true, if_true, if_false, reduceIte, Nat.reduceAdd, Nat.reduceSub, Nat.reduceLT, Nat.reduceLeDiff, Nat.lt_irrefl, evT, bin_add, bin_sub, mthOk_ins, attV_ins, cmpP_lt, cmpP_le, cmpP_gt, cmpP_ge, cmp_lt, cmp_le, cmp_gt, cmp_ge, cmp_eqi, cmp_eqs, cmp_eqb, cmp_nei, cmp_nes, cmp_neb, cmp_isn, cmp_nin, cmp_isb, cmp_nib, tru_bl, tru_int, isNon_lst, isNon_non, item_l, item_t, blt_lenl, blt_lent, blt_lend, blt_all, blt_any, mapM_t1, mapM_t2, embLM_t0, embLM_t1, embLM_t2, embLM_t3, Option.bind_some, Option.map_some, Bool.not_true, Bool.not_false, endC_rt, endC_nx, decide_eq_true_eq, List.mapM_nil]
  | false =>
    have e := f2 hl
    have eb : ev (PT.D true) (callN (PT.D true) rp fw (n + 4)) (rp (callN (PT.D true) rp fw (n + 4))) (.cal 469 (.cons (.var 0) .nil)) [some (.t x), some (.t (.bl true))] s = .ex ⟨10, [("value", x)]⟩ s := by
      simp only [ev, evs, List.getElem?_cons_zero, bind_ok, fl_tables_from_long_x, e]
    rw [seq_go (l1 := [some (.t x), some (.t (.bl false))]) (s1 := s) (by
      simp only [evS, eb, Out.toFl, hx10, hs10, Bool.and_self, if_true]
      simp [ev, Out.toFl, put, putFl, Fl.noex])]
    simp only [evS, ev, evs, evF, evI, put, putL, bindV, bind_ok, toFl_ok, seq_nx, seq_rt, putFl_ok, rd_t, emb_t, ofO_some, ofT_some, noex_ok, E.isOmit, List.map_cons, List.map_nil, List.replicate, List.cons_append, List.nil_append, List.length_cons, List.length_nil, List.set_cons_zero, List.set_cons_succ, List.getElem?_cons_zero, List.getElem?_cons_succ, Bool.false_eq_true, if_true, if_false, reduceIte, Nat.reduceAdd, Nat.reduceSub, Nat.reduceLT, Nat.reduceLeDiff, Nat.lt_irrefl, evT, bin_add, bin_sub, mthOk_ins, attV_ins, cmpP_lt, cmpP_le, cmpP_gt, cmpP_ge, cmp_lt, cmp_le, cmp_gt, cmp_ge, cmp_eqi, cmp_eqs, cmp_eqb, cmp_nei, cmp_nes, cmp_neb, cmp_isn, cmp_nin, cmp_isb, cmp_nib, tru_bl, tru_int, isNon_lst, isNon_non, item_l, item_t, blt_lenl, blt_lent, blt_lend, blt_all, blt_any, mapM_t1, mapM_t2, embLM_t0, embLM_t1, embLM_t2, embLM_t3, Option.bind_some, Option.map_some, Bool.not_true, Bool.not_false, endC_rt, endC_nx, decide_eq_true_eq, List.mapM_nil]
end
end Tw
set_option maxHeartbeats 4000000
namespace Tw
open PySem L2
def plT (ps : List (Int × Int)) : T := .lst (ps.map prT)
def Tb (k : Nat) (rows : List (List (Int × Int))) : Prop := rows.length = k ∧ ∀ ps ∈ rows, ps.length = k ∧ ∀ p ∈ ps, PrB 100 p
section
variable {rp : CF → Store → T → Out Str} {fw n : Nat} {s : Store}
theorem given_row_ok {ps : List (Int × Int)} (h : ∀ p ∈ ps, PrB 100 p) (hl : ps.length ≤ 10) : PotFn (callN (PT.D true) rp fw (n + 4)) 1007 [plT ps] (Rw ps.length) := fun st pk hp => by
  simp only [List.map_cons, List.map_nil]
  rw [go_L_given_row]
  have S0 := Sat.start1 hp
  obtain ⟨xs, s1, e1, h1, hX⟩ := lc_drawA (D := (PT.D true)) (cf := callN (PT.D true) rp fw (n + 3)) (rp := rp (callN (PT.D true) rp fw (n + 3))) (ks := [pk]) (own := [3]) (g := .gn 3) (it := .iseq (.var 1)) (e := .cal 1006 (.cons (.var 0) (.cons (.var 3) .nil))) (loc := [some (.c pk), some (.t (plT ps)), none, none]) (s := st) (s1 := st) (src := .lst (.t (.lst (ps.map prT)))) ps prT (fun _ t => Nm t) (it_lst (by simp only [evS, ev, evs, evF, evI, put, putL, bindV, bind_ok, toFl_ok, seq_nx, seq_rt, putFl_ok, rd_t, emb_t, ofO_some, ofT_some, noex_ok, E.isOmit, List.map_cons, List.map_nil, List.replicate, List.cons_append, List.nil_append, List.length_cons, List.length_nil, List.set_cons_zero, List.set_cons_succ, List.getElem?_cons_zero, List.getElem?_cons_succ, Bool.false_eq_true, if_true, if_false, reduceIte, Nat.reduceAdd, Nat.reduceSub, Nat.reduceLT, Nat.reduceLeDiff, Nat.lt_irrefl, evT, bin_add, bin_sub, mthOk_ins, attV_ins, cmpP_lt, cmpP_le, cmpP_gt, cmpP_ge, cmp_lt, cmp_le, cmp_gt, cmp_ge, cmp_eqi, cmp_eqs, cmp_eqb, cmp_nei, cmp_nes, cmp_neb, cmp_isn, cmp_nin, cmp_isb, cmp_nib, tru_bl, tru_int, isNon_lst, isNon_non, item_l, item_t, blt_lenl, blt_lent, blt_lend, blt_all, blt_any, mapM_t1, mapM_t2, embLM_t0, embLM_t1, embLM_t2, embLM_t3, Option.bind_some, Option.map_some, Bool.not_true, Bool.not_false, endC_rt, endC_nx, decide_eq_true_eq, List.mapM_nil, plT])) (Sat.start S0.pots)
    (fun s' hE i => Wk.lst.here i) (by rw [most_lst rfl, List.length_map]; omega) (by rw [sizeL]; omega)
    (fun p hp' s' hE => by
      obtain ⟨t, s5, e5, h5, ht⟩ := passed_ok (rp := rp) (fw := fw) (n := n) (h p hp') s' pk (Sat.pot1 hE)
      simp only [List.map_cons, List.map_nil] at e5
      refine ⟨[some (.c pk), some (.t (plT ps)), none, some (.t (prT p))], by simp [bindG, wipeL], t, s5, ?_, (Sat.start hE.pots).same h5, ht⟩
      simp only [evS, ev, evs, evF, evI, put, putL, bindV, bind_ok, toFl_ok, seq_nx, seq_rt, putFl_ok, rd_t, emb_t, ofO_some, ofT_some, noex_ok, E.isOmit, List.map_cons, List.map_nil, List.replicate, List.cons_append, List.nil_append, List.length_cons, List.length_nil, List.set_cons_zero, List.set_cons_succ, List.getElem?_cons_zero, List.getElem?_cons_succ, Bool.false_eq_true, if_true, if_false, reduceIte, Nat.reduceAdd, Nat.reduceSub, Nat.reduceLT, Nat.reduceLeDiff, Nat.lt_irrefl, evT, bin_add, bin_sub, mthOk_ins, attV_ins, cmpP_lt, cmpP_le, cmpP_gt, cmpP_ge, cmp_lt, cmp_le, cmp_gt, cmp_ge, cmp_eqi, cmp_eqs, cmp_eqb, cmp_nei, cmp_nes, cmp_neb, cmp_isn, cmp_nin, cmp_isb, cmp_nib, tru_bl, tru_int, isNon_lst, isNon_non, item_l, item_t, blt_lenl, blt_lent, blt_lend, blt_all, blt_any, mapM_t1, mapM_t2, embLM_t0, embLM_t1, embLM_t2, embLM_t3, Option.bind_some, Option.map_some, Bool.not_true, Bool.not_false, endC_rt, endC_nx, decide_eq_true_eq, List.mapM_nil, fl_L_passed, e5])
  have S1 := S0.trans h1
  have e1' : ev (PT.D true) (callN (PT.D true) rp fw (n + 3)) (rp (callN (PT.D true) rp fw (n + 3))) LC_L_given_row_0 [some (.c pk), some (.t (plT ps)), none, none] st = _ := e1
  have hx : ∀ y ∈ xs, Nm y := fun y hy => by
    obtain ⟨_, _, q⟩ := forall2_mem hX y hy
    exact q
  have hxl : xs.length = ps.length := hX.length_eq.symm
  obtain ⟨_, s2, e2, q2, d, rfl, hd⟩ := drawF (rp := rp) (fw := fw) (n := n + 2) (m := 3) (by decide) (by decide) s1 pk S1.pot1
  simp only [List.map_cons, List.map_nil] at e2
  have S2 := S1.same q2
  have bt : bltP .tuple [.lst xs] = some (.tup xs) := nrfl rfl
  unfold S_L_given_row
  rw [seq_go (l1 := [some (.c pk), some (.t (plT ps)), some (.t (.lst xs)), none]) (s1 := s1) (by simp only [evS, ev, evs, evF, evI, put, putL, bindV, bind_ok, toFl_ok, seq_nx, seq_rt, putFl_ok, rd_t, emb_t, ofO_some, ofT_some, noex_ok, E.isOmit, List.map_cons, List.map_nil, List.replicate, List.cons_append, List.nil_append, List.length_cons, List.length_nil, List.set_cons_zero, List.set_cons_succ, List.getElem?_cons_zero, List.getElem?_cons_succ, Bool.false_eq_true, if_true, if_false, reduceIte, Nat.reduceAdd, Nat.reduceSub, Nat.reduceLT, Nat.reduceLeDiff, Nat.lt_irrefl, evT, bin_add, bin_sub, mthOk_ins, attV_ins, cmpP_lt, cmpP_le, cmpP_gt, cmpP_ge, cmp_lt, cmp_le, cmp_gt, cmp_ge, cmp_eqi, cmp_eqs, cmp_eqb, cmp_nei, cmp_nes, cmp_neb, cmp_isn, cmp_nin, cmp_isb, cmp_nib, tru_bl, tru_int, isNon_lst, isNon_non, item_l, item_t, blt_lenl, blt_lent, blt_lend, blt_all, blt_any, mapM_t1, mapM_t2, embLM_t0, embLM_t1, embLM_t2, embLM_t3, Option.bind_some, Option.map_some, Bool.not_true, Bool.not_false, endC_rt, endC_nx, decide_eq_true_eq, List.mapM_nil, e1'])]
  by_cases h0 : (d : Int) = 0
  · obtain ⟨s', r1, r2⟩ := S2.ret (x := .tup xs)
    refine ⟨.tup xs, s', ?_, r2, xs, .inr rfl, hxl, hx⟩
    rw [← r1]
    simp only [evS, ev, evs, evF, evI, put, putL, bindV, bind_ok, toFl_ok, seq_nx, seq_rt, putFl_ok, rd_t, emb_t, ofO_some, ofT_some, noex_ok, E.isOmit, List.map_cons, List.map_nil, List.replicate, List.cons_append, List.nil_append, List.length_cons, List.length_nil, List.set_cons_zero, List.set_cons_succ, List.getElem?_cons_zero, List.getElem?_cons_succ, Bool.false_eq_true, if_true, if_false, reduceIte, Nat.reduceAdd, Nat.reduceSub, Nat.reduceLT, Nat.reduceLeDiff, Nat.lt_irrefl, evT, bin_add, bin_sub, mthOk_ins, attV_ins, cmpP_lt, cmpP_le, cmpP_gt, cmpP_ge, cmp_lt, cmp_le, cmp_gt, cmp_ge, cmp_eqi, cmp_eqs, cmp_eqb, cmp_nei, cmp_nes, cmp_neb, cmp_isn, cmp_nin, cmp_isb, cmp_nib, tru_bl, tru_int, isNon_lst, isNon_non, item_l, item_t, blt_lenl, blt_lent, blt_lend, blt_all, blt_any, mapM_t1, mapM_t2, embLM_t0, embLM_t1, embLM_t2, embLM_t3, Option.bind_some, Option.map_some, Bool.not_true, Bool.not_false, endC_rt, endC_nx, decide_eq_true_eq, List.mapM_nil, fl_L_draw, e2, decide_eq_true h0, bt]
  · obtain ⟨s', r1, r2⟩ := S2.ret (x := .lst xs)
    refine ⟨.lst xs, s', ?_, r2, xs, .inl rfl, hxl, hx⟩
    rw [← r1]
    simp only [evS, ev, evs, evF, evI, put, putL, bindV, bind_ok, toFl_ok, seq_nx, seq_rt, putFl_ok, rd_t, emb_t, ofO_some, ofT_some, noex_ok, E.isOmit, List.map_cons, List.map_nil, List.replicate, List.cons_append, List.nil_append, List.length_cons, List.length_nil, List.set_cons_zero, List.set_cons_succ, List.getElem?_cons_zero, List.getElem?_cons_succ, Bool.false_eq_true, if_true, if_false, reduceIte, Nat.reduceAdd, Nat.reduceSub, Nat.reduceLT, Nat.reduceLeDiff, Nat.lt_irrefl, evT, bin_add, bin_sub, mthOk_ins, attV_ins, cmpP_lt, cmpP_le, cmpP_gt, cmpP_ge, cmp_lt, cmp_le, cmp_gt, cmp_ge, cmp_eqi, cmp_eqs, cmp_eqb, cmp_nei, cmp_nes, cmp_neb, cmp_isn, cmp_nin, cmp_isb, cmp_nib, tru_bl, tru_int, isNon_lst, isNon_non, item_l, item_t, blt_lenl, blt_lent, blt_lend, blt_all, blt_any, mapM_t1, mapM_t2, embLM_t0, embLM_t1, embLM_t2, embLM_t3, Option.bind_some, Option.map_some, Bool.not_true, Bool.not_false, endC_rt, endC_nx, decide_eq_true_eq, List.mapM_nil, fl_L_draw, e2, decide_eq_false h0]
theorem given_ok {k : Nat} {rows : List (List (Int × Int))} (h : Tb k rows) (hk : k ≤ 10) : PotFn (callN (PT.D true) rp fw (n + 5)) 1008 [.lst (rows.map plT)] (fun t => ∃ xs, (t = .lst xs ∨ t = .tup xs) ∧ xs.length = k ∧ ∀ y ∈ xs, Rw k y) := fun st pk hp => by
  simp only [List.map_cons, List.map_nil]
  rw [go_L_given]
  have S0 := Sat.start1 hp
  have hrl := h.1
  obtain ⟨xs, s1, e1, h1, hX⟩ := lc_drawA (D := (PT.D true)) (cf := callN (PT.D true) rp fw (n + 4)) (rp := rp (callN (PT.D true) rp fw (n + 4))) (ks := [pk]) (own := [3]) (g := .gn 3) (it := .iseq (.var 1)) (e := .cal 1007 (.cons (.var 0) (.cons (.var 3) .nil))) (loc := [some (.c pk), some (.t (.lst (rows.map plT))), none, none]) (s := st) (s1 := st) (src := .lst (.t (.lst (rows.map plT)))) rows plT (fun _ t => Rw k t) (it_lst (by simp only [evS, ev, evs, evF, evI, put, putL, bindV, bind_ok, toFl_ok, seq_nx, seq_rt, putFl_ok, rd_t, emb_t, ofO_some, ofT_some, noex_ok, E.isOmit, List.map_cons, List.map_nil, List.replicate, List.cons_append, List.nil_append, List.length_cons, List.length_nil, List.set_cons_zero, List.set_cons_succ, List.getElem?_cons_zero, List.getElem?_cons_succ, Bool.false_eq_true, if_true, if_false, reduceIte, Nat.reduceAdd, Nat.reduceSub, Nat.reduceLT, Nat.reduceLeDiff, Nat.lt_irrefl, evT, bin_add, bin_sub, mthOk_ins, attV_ins, cmpP_lt, cmpP_le, cmpP_gt, cmpP_ge, cmp_lt, cmp_le, cmp_gt, cmp_ge, cmp_eqi, cmp_eqs, cmp_eqb, cmp_nei, cmp_nes, cmp_neb, cmp_isn, cmp_nin, cmp_isb, cmp_nib, tru_bl, tru_int, isNon_lst, isNon_non, item_l, item_t, blt_lenl, blt_lent, blt_lend, blt_all, blt_any, mapM_t1, mapM_t2, embLM_t0, embLM_t1, embLM_t2, embLM_t3, Option.bind_some, Option.map_some, Bool.not_true, Bool.not_false, endC_rt, endC_nx, decide_eq_true_eq, List.mapM_nil])) (Sat.start S0.pots)
    (fun s' hE i => Wk.lst.here i) (by rw [most_lst rfl, List.length_map]; omega) (by rw [sizeL]; omega)
    (fun ps hp' s' hE => by
      obtain ⟨g1, g2⟩ := h.2 ps hp'
      obtain ⟨t, s5, e5, h5, ht⟩ := given_row_ok (rp := rp) (fw := fw) (n := n) g2 (by omega) s' pk (Sat.pot1 hE)
      simp only [List.map_cons, List.map_nil] at e5
      refine ⟨[some (.c pk), some (.t (.lst (rows.map plT))), none, some (.t (plT ps))], by simp [bindG, wipeL], t, s5, ?_, (Sat.start hE.pots).same h5, by rw [g1] at ht; exact ht⟩
      simp only [evS, ev, evs, evF, evI, put, putL, bindV, bind_ok, toFl_ok, seq_nx, seq_rt, putFl_ok, rd_t, emb_t, ofO_some, ofT_some, noex_ok, E.isOmit, List.map_cons, List.map_nil, List.replicate, List.cons_append, List.nil_append, List.length_cons, List.length_nil, List.set_cons_zero, List.set_cons_succ, List.getElem?_cons_zero, List.getElem?_cons_succ, Bool.false_eq_true, if_true, if_false, reduceIte, Nat.reduceAdd, Nat.reduceSub, Nat.reduceLT, Nat.reduceLeDiff, Nat.lt_irrefl, evT, bin_add, bin_sub, mthOk_ins, attV_ins, cmpP_lt, cmpP_le, cmpP_gt, cmpP_ge, cmp_lt, cmp_le, cmp_gt, cmp_ge, cmp_eqi, cmp_eqs, cmp_eqb, cmp_nei, cmp_nes, cmp_neb, cmp_isn, cmp_nin, cmp_isb, cmp_nib, tru_bl, tru_int, isNon_lst, isNon_non, item_l, item_t, blt_lenl, blt_lent, blt_lend, blt_all, blt_any, mapM_t1, mapM_t2, embLM_t0, embLM_t1, embLM_t2, embLM_t3, Option.bind_some, Option.map_some, Bool.not_true, Bool.not_false, endC_rt, endC_nx, decide_eq_true_eq, List.mapM_nil, fl_L_given_row, e5])
  have S1 := S0.trans h1
  have e1' : ev (PT.D true) (callN (PT.D true) rp fw (n + 4)) (rp (callN (PT.D true) rp fw (n + 4))) LC_L_given_0 [some (.c pk), some (.t (.lst (rows.map plT))), none, none] st = _ := e1
  have hx : ∀ y ∈ xs, Rw k y := fun y hy => by
    obtain ⟨_, _, q⟩ := forall2_mem hX y hy
    exact q
  have hxl : xs.length = k := by rw [← hX.length_eq]; exact hrl
  obtain ⟨_, s2, e2, q2, d, rfl, hd⟩ := drawF (rp := rp) (fw := fw) (n := n + 3) (m := 3) (by decide) (by decide) s1 pk S1.pot1
  simp only [List.map_cons, List.map_nil] at e2
  have S2 := S1.same q2
  have bt : bltP .tuple [.lst xs] = some (.tup xs) := nrfl rfl
  unfold S_L_given
  rw [seq_go (l1 := [some (.c pk), some (.t (.lst (rows.map plT))), some (.t (.lst xs)), none]) (s1 := s1) (by simp only [evS, ev, evs, evF, evI, put, putL, bindV, bind_ok, toFl_ok, seq_nx, seq_rt, putFl_ok, rd_t, emb_t, ofO_some, ofT_some, noex_ok, E.isOmit, List.map_cons, List.map_nil, List.replicate, List.cons_append, List.nil_append, List.length_cons, List.length_nil, List.set_cons_zero, List.set_cons_succ, List.getElem?_cons_zero, List.getElem?_cons_succ, Bool.false_eq_true, if_true, if_false, reduceIte, Nat.reduceAdd, Nat.reduceSub, Nat.reduceLT, Nat.reduceLeDiff, Nat.lt_irrefl, evT, bin_add, bin_sub, mthOk_ins, attV_ins, cmpP_lt, cmpP_le, cmpP_gt, cmpP_ge, cmp_lt, cmp_le, cmp_gt, cmp_ge, cmp_eqi, cmp_eqs, cmp_eqb, cmp_nei, cmp_nes, cmp_neb, cmp_isn, cmp_nin, cmp_isb, cmp_nib, tru_bl, tru_int, isNon_lst, isNon_non, item_l, item_t, blt_lenl, blt_lent, blt_lend, blt_all, blt_any, mapM_t1, mapM_t2, embLM_t0, embLM_t1, embLM_t2, embLM_t3, Option.bind_some, Option.map_some, Bool.not_true, Bool.not_false, endC_rt, endC_nx, decide_eq_true_eq, List.mapM_nil, e1'])]
  by_cases h0 : (d : Int) = 0
  · obtain ⟨s', r1, r2⟩ := S2.ret (x := .tup xs)
    refine ⟨.tup xs, s', ?_, r2, xs, .inr rfl, hxl, hx⟩
    rw [← r1]
    simp only [evS, ev, evs, evF, evI, put, putL, bindV, bind_ok, toFl_ok, seq_nx, seq_rt, putFl_ok, rd_t, emb_t, ofO_some, ofT_some, noex_ok, E.isOmit, List.map_cons, List.map_nil, List.replicate, List.cons_append, List.nil_append, List.length_cons, List.length_nil, List.set_cons_zero, List.set_cons_succ, List.getElem?_cons_zero, List.getElem?_cons_succ, Bool.false_eq_true, if_true, if_false, reduceIte, Nat.reduceAdd, Nat.reduceSub, Nat.reduceLT, Nat.reduceLeDiff, Nat.lt_irrefl, evT, bin_add, bin_sub, mthOk_ins, attV_ins, cmpP_lt, cmpP_le, cmpP_gt, cmpP_ge, cmp_lt, cmp_le, cmp_gt, cmp_ge, cmp_eqi, cmp_eqs, cmp_eqb, cmp_nei, cmp_nes, cmp_neb, cmp_isn, cmp_nin, cmp_isb, cmp_nib, tru_bl, tru_int, isNon_lst, isNon_non, item_l, item_t, blt_lenl, blt_lent, blt_lend, blt_all, blt_any, mapM_t1, mapM_t2, embLM_t0, embLM_t1, embLM_t2, embLM_t3, Option.bind_some, Option.map_some, Bool.not_true, Bool.not_false, endC_rt, endC_nx, decide_eq_true_eq, List.mapM_nil, fl_L_draw, e2, decide_eq_true h0, bt]
  · obtain ⟨s', r1, r2⟩ := S2.ret (x := .lst xs)
    refine ⟨.lst xs, s', ?_, r2, xs, .inl rfl, hxl, hx⟩
    rw [← r1]
    simp only [evS, ev, evs, evF, evI, put, putL, bindV, bind_ok, toFl_ok, seq_nx, seq_rt, putFl_ok, rd_t, emb_t, ofO_some, ofT_some, noex_ok, E.isOmit, List.map_cons, List.map_nil, List.replicate, List.cons_append, List.nil_append, List.length_cons, List.length_nil, List.set_cons_zero, List.set_cons_succ, List.getElem?_cons_zero, List.getElem?_cons_succ, Bool.false_eq_true, if_true, if_false, reduceIte, Nat.reduceAdd, Nat.reduceSub, Nat.reduceLT, Nat.reduceLeDiff, Nat.lt_irrefl, evT, bin_add, bin_sub, mthOk_ins, attV_ins, cmpP_lt, cmpP_le, cmpP_gt, cmpP_ge, cmp_lt, cmp_le, cmp_gt, cmp_ge, cmp_eqi, cmp_eqs, cmp_eqb, cmp_nei, cmp_nes, cmp_neb, cmp_isn, cmp_nin, cmp_isb, cmp_nib, tru_bl, tru_int, isNon_lst, isNon_non, item_l, item_t, blt_lenl, blt_lent, blt_lend, blt_all, blt_any, mapM_t1, mapM_t2, embLM_t0, embLM_t1, embLM_t2, embLM_t3, Option.bind_some, Option.map_some, Bool.not_true, Bool.not_false, endC_rt, endC_nx, decide_eq_true_eq, List.mapM_nil, fl_L_draw, e2, decide_eq_false h0]
def entL : List (Int × Int) := [(0, 1), (0, 1), (1, 1), (-1, 1), (2, 1), (3, 1), (-2, 1), (1, 2), (-5, 3), (0, 1)]
theorem entry_ok : PotFn (callN (PT.D true) rp fw (n + 3)) 1009 [] (fun t => ∃ p, t = prT p ∧ PrB 10 p) := fun st pk hp => by
  simp only [List.map_nil]
  rw [go_L_entry]
  obtain ⟨t, s1, e1, h1, ht⟩ := (pick_ok (rp := rp) (fw := fw) (n := n)).fn (xs := entL.map prT) (by decide) (by decide) st pk hp
  simp only [List.map_cons, List.map_nil] at e1
  have S1 := (Sat.start1 hp).same h1
  obtain ⟨p, hpm, rfl⟩ := List.mem_map.mp ht
  have hb : PrB 10 p := by
    have : (entL.all fun p => decide (p.1.natAbs ≤ 10) && (decide (1 ≤ p.2) && decide (p.2 ≤ 10))) = true := by decide
    have := List.all_eq_true.mp this p hpm
    simp only [Bool.and_eq_true, decide_eq_true_eq] at this
    exact ⟨this.1, this.2.1, this.2.2⟩
  obtain ⟨s', r1, r2⟩ := S1.ret (x := prT p)
  refine ⟨prT p, s', ?_, r2, p, rfl, hb⟩
  rw [← r1]
  have z2 : (2 ≤ sizeLine) = True := by rw [sizeL]; simp
  have z10 : (10 ≤ sizeLine) = True := by rw [sizeL]; simp
  have em : ∀ a b c d e f g h i j : T, embLM st [.t a, .t b, .t c, .t d, .t e, .t f, .t g, .t h, .t i, .t j] = .ok [a, b, c, d, e, f, g, h, i, j] st := fun _ _ _ _ _ _ _ _ _ _ => nrfl rfl
  have ng : ∀ z : Int, negV (PT.D true) (callN (PT.D true) rp fw (n + 2)) (.t (.int z)) st = .ok (.t (.int (-z))) st := fun z => nrfl rfl
  have e1' : callN (PT.D true) rp fw (n + 2) 1003 [.c pk, .t (.lst [.tup [.int 0, .int 1], .tup [.int 0, .int 1], .tup [.int 1, .int 1], .tup [.int (-1), .int 1], .tup [.int 2, .int 1], .tup [.int 3, .int 1], .tup [.int (-2), .int 1], .tup [.int 1, .int 2], .tup [.int (-5), .int 3], .tup [.int 0, .int 1]])] st = .ok (.t (prT p)) s1 := e1
  simp only [S_L_entry, evS, ev, evs, evF, evI, put, putL, bindV, bind_ok, toFl_ok, seq_nx, seq_rt, putFl_ok, rd_t, emb_t, ofO_some, ofT_some, noex_ok, E.isOmit, List.map_cons, List.map_nil, List.replicate, List.cons_append, List.nil_append, List.length_cons, List.length_nil, List.set_cons_zero, List.set_cons_succ, List.getElem?_cons_zero, List.getElem?_cons_succ, Bool.false_eq_true, if_true, if_false, reduceIte, Nat.reduceAdd, Nat.reduceSub, Nat.reduceLT, Nat.reduceLeDiff, Nat.lt_irrefl, evT, bin_add, bin_sub, mthOk_ins, attV_ins, cmpP_lt, cmpP_le, cmpP_gt, cmpP_ge, cmp_lt, cmp_le, cmp_gt, cmp_ge, cmp_eqi, cmp_eqs, cmp_eqb, cmp_nei, cmp_nes, cmp_neb, cmp_isn, cmp_nin, cmp_isb, cmp_nib, tru_bl, tru_int, isNon_lst, isNon_non, item_l, item_t, blt_lenl, blt_lent, blt_lend, blt_all, blt_any, mapM_t1, mapM_t2, embLM_t0, embLM_t1, embLM_t2, embLM_t3, Option.bind_some, Option.map_some, Bool.not_true, Bool.not_false, endC_rt, endC_nx, decide_eq_true_eq, List.mapM_nil, ng, z2, em, z10, fl_L_pick, e1']
theorem row_ok {w : Nat} (hw : w ≤ 10) : PotFn (callN (PT.D true) rp fw (n + 4)) 1010 [.int w] (fun t => ∃ ps, t = plT ps ∧ ps.length = w ∧ ∀ p ∈ ps, PrB 10 p) := fun st pk hp => by
  simp only [List.map_cons, List.map_nil]
  rw [go_L_row]
  have S0 := Sat.start1 hp
  obtain ⟨xs, s1, e1, h1, hX⟩ := lc_drawA (D := (PT.D true)) (cf := callN (PT.D true) rp fw (n + 3)) (rp := rp (callN (PT.D true) rp fw (n + 3))) (ks := [pk]) (own := [2]) (g := .gn 2) (it := .irng1 (.var 1)) (e := .cal 1009 (.cons (.var 0) .nil)) (loc := [some (.c pk), some (.t (.int (w : Int))), none]) (s := st) (s1 := st) (src := .rng 0 (w : Nat)) (List.range w) (fun i : Nat => T.int i) (fun _ t => ∃ p, t = prT p ∧ PrB 10 p) (evI_rng (by simp only [evS, ev, evs, evF, evI, put, putL, bindV, bind_ok, toFl_ok, seq_nx, seq_rt, putFl_ok, rd_t, emb_t, ofO_some, ofT_some, noex_ok, E.isOmit, List.map_cons, List.map_nil, List.replicate, List.cons_append, List.nil_append, List.length_cons, List.length_nil, List.set_cons_zero, List.set_cons_succ, List.getElem?_cons_zero, List.getElem?_cons_succ, Bool.false_eq_true, if_true, if_false, reduceIte, Nat.reduceAdd, Nat.reduceSub, Nat.reduceLT, Nat.reduceLeDiff, Nat.lt_irrefl, evT, bin_add, bin_sub, mthOk_ins, attV_ins, cmpP_lt, cmpP_le, cmpP_gt, cmpP_ge, cmp_lt, cmp_le, cmp_gt, cmp_ge, cmp_eqi, cmp_eqs, cmp_eqb, cmp_nei, cmp_nes, cmp_neb, cmp_isn, cmp_nin, cmp_isb, cmp_nib, tru_bl, tru_int, isNon_lst, isNon_non, item_l, item_t, blt_lenl, blt_lent, blt_lend, blt_all, blt_any, mapM_t1, mapM_t2, embLM_t0, embLM_t1, embLM_t2, embLM_t3, Option.bind_some, Option.map_some, Bool.not_true, Bool.not_false, endC_rt, endC_nx, decide_eq_true_eq, List.mapM_nil]) (by omega)) (Sat.start S0.pots)
    (fun s' hE i => Wk.rng0.here i) (by rw [most_rng, rng_len, List.length_range]; omega) (by rw [List.length_range, sizeL]; omega)
    (fun i hi s' hE => by
      obtain ⟨t, s5, e5, h5, ht⟩ := entry_ok (rp := rp) (fw := fw) (n := n) s' pk (Sat.pot1 hE)
      simp only [List.map_nil] at e5
      refine ⟨[some (.c pk), some (.t (.int (w : Int))), some (.t (.int (i : Int)))], by simp [bindG, wipeL], t, s5, ?_, (Sat.start hE.pots).same h5, ht⟩
      simp only [evS, ev, evs, evF, evI, put, putL, bindV, bind_ok, toFl_ok, seq_nx, seq_rt, putFl_ok, rd_t, emb_t, ofO_some, ofT_some, noex_ok, E.isOmit, List.map_cons, List.map_nil, List.replicate, List.cons_append, List.nil_append, List.length_cons, List.length_nil, List.set_cons_zero, List.set_cons_succ, List.getElem?_cons_zero, List.getElem?_cons_succ, Bool.false_eq_true, if_true, if_false, reduceIte, Nat.reduceAdd, Nat.reduceSub, Nat.reduceLT, Nat.reduceLeDiff, Nat.lt_irrefl, evT, bin_add, bin_sub, mthOk_ins, attV_ins, cmpP_lt, cmpP_le, cmpP_gt, cmpP_ge, cmp_lt, cmp_le, cmp_gt, cmp_ge, cmp_eqi, cmp_eqs, cmp_eqb, cmp_nei, cmp_nes, cmp_neb, cmp_isn, cmp_nin, cmp_isb, cmp_nib, tru_bl, tru_int, isNon_lst, isNon_non, item_l, item_t, blt_lenl, blt_lent, blt_lend, blt_all, blt_any, mapM_t1, mapM_t2, embLM_t0, embLM_t1, embLM_t2, embLM_t3, Option.bind_some, Option.map_some, Bool.not_true, Bool.not_false, endC_rt, endC_nx, decide_eq_true_eq, List.mapM_nil, fl_L_entry, e5])
  have S1 := S0.trans h1
  have e1' : ev (PT.D true) (callN (PT.D true) rp fw (n + 3)) (rp (callN (PT.D true) rp fw (n + 3))) LC_L_row_0 [some (.c pk), some (.t (.int (w : Int))), none] st = _ := e1
  obtain ⟨ps, rfl⟩ := mem_map_of (f := prT) (ys := xs) fun y hy => by
    obtain ⟨_, _, p, e, _⟩ := forall2_mem hX y hy
    exact ⟨p, e⟩
  have hl := hX.length_eq
  rw [List.length_range, List.length_map] at hl
  obtain ⟨s', r1, r2⟩ := S1.ret (x := plT ps)
  refine ⟨plT ps, s', ?_, r2, ps, rfl, hl.symm, fun p hp' => ?_⟩
  · rw [← r1]
    simp only [S_L_row, evS, ev, evs, evF, evI, put, putL, bindV, bind_ok, toFl_ok, seq_nx, seq_rt, putFl_ok, rd_t, emb_t, ofO_some, ofT_some, noex_ok, E.isOmit, List.map_cons, List.map_nil, List.replicate, List.cons_append, List.nil_append, List.length_cons, List.length_nil, List.set_cons_zero, List.set_cons_succ, List.getElem?_cons_zero, List.getElem?_cons_succ, Bool.false_eq_true, if_true, if_false, reduceIte, Nat.reduceAdd, Nat.reduceSub, Nat.reduceLT, Nat.reduceLeDiff, Nat.lt_irrefl, evT, bin_add, bin_sub, mthOk_ins, attV_ins, cmpP_lt, cmpP_le, cmpP_gt, cmpP_ge, cmp_lt, cmp_le, cmp_gt, cmp_ge, cmp_eqi, cmp_eqs, cmp_eqb, cmp_nei, cmp_nes, cmp_neb, cmp_isn, cmp_nin, cmp_isb, cmp_nib, tru_bl, tru_int, isNon_lst, isNon_non, item_l, item_t, blt_lenl, blt_lent, blt_lend, blt_all, blt_any, mapM_t1, mapM_t2, embLM_t0, embLM_t1, embLM_t2, embLM_t3, Option.bind_some, Option.map_some, Bool.not_true, Bool.not_false, endC_rt, endC_nx, decide_eq_true_eq, List.mapM_nil, e1', plT]
  · obtain ⟨_, _, p', e, hb⟩ := forall2_mem hX (prT p) (List.mem_map_of_mem hp')
    have : p = p' := by
      unfold prT at e
      simp only [T.tup.injEq, List.cons.injEq, T.int.injEq, and_true] at e
      exact Prod.ext e.1 e.2
    rw [this]; exact hb
theorem list_ok {w m : Nat} (hw : w ≤ 10) (hm : m ≤ 10) {st : Store} {pk : Nat} (hp : PotAt st pk) : ∃ (rows : List (List (Int × Int))) (s' : Store), callN (PT.D true) rp fw (n + 5) 1011 [.c pk, .t (.int (w : Int)), .t (.int (m : Int))] st = .ok (.c st.length) (s' ++ [.lst (rows.map plT)]) ∧ Same [pk] st s' ∧ rows.length = m ∧ ∀ ps ∈ rows, ps.length = w ∧ ∀ p ∈ ps, PrB 10 p := by
  rw [go_L_list]
  have S0 := (Sat.start1 hp).new (xs := ([] : List (List (Int × Int))).map plT)
  obtain ⟨l2, s2, e, ⟨o4, rfl⟩, ts, hl, hts, S2⟩ := loopF_invA (src := .rng 0 (m : Nat)) (g := .gn 4) (body := evS (PT.D true) (callN (PT.D true) rp fw (n + 4)) (rp (callN (PT.D true) rp fw (n + 4))) fw FB_L_list_0) (List.range m) (fun i : Nat => T.int i)
    (fun i loc s1 => (∃ o4, loc = [some (.c pk), some (.t (.int (w : Int))), some (.t (.int (m : Int))), some (.c st.length), o4]) ∧ ∃ ts : List (List (Int × Int)), ts.length = i ∧ (∀ ps ∈ ts, ps.length = w ∧ ∀ p ∈ ps, PrB 10 p) ∧ Sat st [pk] [(st.length, ts.map plT)] s1)
    (fun i loc s1 _ => Wk.rng0.here i)
    (fun i j loc s1 hj hI => by
      obtain ⟨⟨o4, rfl⟩, ts, hl, hts, S3⟩ := hI
      have hi : i < m := by simpa using (List.getElem?_eq_some_iff.mp hj).1
      obtain ⟨_, s2, e1, h1, ps, rfl, hA, hB⟩ := row_ok (rp := rp) (fw := fw) (n := n) hw s1 pk S3.pot1
      simp only [List.map_cons, List.map_nil] at e1
      have S4 := S3.same h1
      refine ⟨_, rfl, [some (.c pk), some (.t (.int (w : Int))), some (.t (.int (m : Int))), some (.c st.length), some (.t (.int j))], s2.set st.length (.lst (ts.map plT ++ [plT ps])), .inl ?_, ⟨_, rfl⟩, ts ++ [ps], by simp [hl], ?_, ?_⟩
      · unfold FB_L_list_0
        simp only [evS]
        rw [cell_at (k := st.length) (xs := ts.map plT) rfl S3.get]
        simp only [evS, ev, evs, evF, evI, put, putL, bindV, bind_ok, toFl_ok, seq_nx, seq_rt, putFl_ok, rd_t, emb_t, ofO_some, ofT_some, noex_ok, E.isOmit, List.map_cons, List.map_nil, List.replicate, List.cons_append, List.nil_append, List.length_cons, List.length_nil, List.set_cons_zero, List.set_cons_succ, List.getElem?_cons_zero, List.getElem?_cons_succ, Bool.false_eq_true, if_true, if_false, reduceIte, Nat.reduceAdd, Nat.reduceSub, Nat.reduceLT, Nat.reduceLeDiff, Nat.lt_irrefl, evT, bin_add, bin_sub, mthOk_ins, attV_ins, cmpP_lt, cmpP_le, cmpP_gt, cmpP_ge, cmp_lt, cmp_le, cmp_gt, cmp_ge, cmp_eqi, cmp_eqs, cmp_eqb, cmp_nei, cmp_nes, cmp_neb, cmp_isn, cmp_nin, cmp_isb, cmp_nib, tru_bl, tru_int, isNon_lst, isNon_non, item_l, item_t, blt_lenl, blt_lent, blt_lend, blt_all, blt_any, mapM_t1, mapM_t2, embLM_t0, embLM_t1, embLM_t2, embLM_t3, Option.bind_some, Option.map_some, Bool.not_true, Bool.not_false, endC_rt, endC_nx, decide_eq_true_eq, List.mapM_nil, fl_L_row, e1]
        exact app_to rfl S4.get (by rw [sizeL]; simp; omega)
      · intro B hB'
        rcases List.mem_append.mp hB' with h | h
        · exact hts B h
        · rw [List.mem_singleton.mp h]; exact ⟨hA, hB⟩
      · rw [List.map_append]
        exact S4.putr)
    (m := Src.most (st ++ [.lst []]) (.rng 0 (m : Nat))) (loc := [some (.c pk), some (.t (.int (w : Int))), some (.t (.int (m : Int))), some (.c st.length), none]) (s := st ++ [.lst []]) (by rw [most_rng, rng_len]; simp) ⟨⟨_, rfl⟩, [], rfl, by simp, S0⟩
  rw [List.length_range] at hl
  have ei : evI (PT.D true) (callN (PT.D true) rp fw (n + 4)) (rp (callN (PT.D true) rp fw (n + 4))) (.irng1 (.var 2)) [some (.c pk), some (.t (.int (w : Int))), some (.t (.int (m : Int))), some (.c st.length), none] (st ++ [.lst []]) = .ok (.rng 0 (m : Nat)) (st ++ [.lst []]) := evI_rng (by simp only [evS, ev, evs, evF, evI, put, putL, bindV, bind_ok, toFl_ok, seq_nx, seq_rt, putFl_ok, rd_t, emb_t, ofO_some, ofT_some, noex_ok, E.isOmit, List.map_cons, List.map_nil, List.replicate, List.cons_append, List.nil_append, List.length_cons, List.length_nil, List.set_cons_zero, List.set_cons_succ, List.getElem?_cons_zero, List.getElem?_cons_succ, Bool.false_eq_true, if_true, if_false, reduceIte, Nat.reduceAdd, Nat.reduceSub, Nat.reduceLT, Nat.reduceLeDiff, Nat.lt_irrefl, evT, bin_add, bin_sub, mthOk_ins, attV_ins, cmpP_lt, cmpP_le, cmpP_gt, cmpP_ge, cmp_lt, cmp_le, cmp_gt, cmp_ge, cmp_eqi, cmp_eqs, cmp_eqb, cmp_nei, cmp_nes, cmp_neb, cmp_isn, cmp_nin, cmp_isb, cmp_nib, tru_bl, tru_int, isNon_lst, isNon_non, item_l, item_t, blt_lenl, blt_lent, blt_lend, blt_all, blt_any, mapM_t1, mapM_t2, embLM_t0, embLM_t1, embLM_t2, embLM_t3, Option.bind_some, Option.map_some, Bool.not_true, Bool.not_false, endC_rt, endC_nx, decide_eq_true_eq, List.mapM_nil]) (by omega)
  have z0 : (0 ≤ sizeLine) = True := by simp
  obtain ⟨s', e9, h9⟩ := S2.retk
  refine ⟨ts, s', ?_, h9, hl, hts⟩
  rw [← e9]
  unfold S_L_list
  rw [seq_go (l1 := [some (.c pk), some (.t (.int (w : Int))), some (.t (.int (m : Int))), some (.c st.length), none]) (s1 := st ++ [.lst []]) (by simp only [evS, ev, evs, evF, evI, put, putL, bindV, bind_ok, toFl_ok, seq_nx, seq_rt, putFl_ok, rd_t, emb_t, ofO_some, ofT_some, noex_ok, E.isOmit, List.map_cons, List.map_nil, List.replicate, List.cons_append, List.nil_append, List.length_cons, List.length_nil, List.set_cons_zero, List.set_cons_succ, List.getElem?_cons_zero, List.getElem?_cons_succ, Bool.false_eq_true, if_true, if_false, reduceIte, Nat.reduceAdd, Nat.reduceSub, Nat.reduceLT, Nat.reduceLeDiff, Nat.lt_irrefl, evT, bin_add, bin_sub, mthOk_ins, attV_ins, cmpP_lt, cmpP_le, cmpP_gt, cmpP_ge, cmp_lt, cmp_le, cmp_gt, cmp_ge, cmp_eqi, cmp_eqs, cmp_eqb, cmp_nei, cmp_nes, cmp_neb, cmp_isn, cmp_nin, cmp_isb, cmp_nib, tru_bl, tru_int, isNon_lst, isNon_non, item_l, item_t, blt_lenl, blt_lent, blt_lend, blt_all, blt_any, mapM_t1, mapM_t2, embLM_t0, embLM_t1, embLM_t2, embLM_t3, Option.bind_some, Option.map_some, Bool.not_true, Bool.not_false, endC_rt, endC_nx, decide_eq_true_eq, List.mapM_nil, z0])]
  rw [seq_go (l1 := [some (.c pk), some (.t (.int (w : Int))), some (.t (.int (m : Int))), some (.c st.length), o4]) (s1 := s2) (by unfold FS_L_list_0; simp only [evS, ei, toFl_ok]; exact e)]
  simp only [evS, ev, List.getElem?_cons_zero, List.getElem?_cons_succ, toFl_ok, if_true]
end
end Tw
set_option maxHeartbeats 4000000
namespace Tw
open PySem L2
section
variable {rp : CF → Store → T → Out Str} {fw n : Nat} {s : Store}
theorem bin_mulL {D : Defs} {cf : CF} {xs : List T} {k : Int} {r : T} (h : (if decide (-(2 ^ 63) ≤ k) && decide (k < 2 ^ 63) && decide (xs.length * k.toNat ≤ sizeLine) then some (T.lst (List.replicate k.toNat xs).flatten) else none) = some r) : binV D cf .Mult (.t (.lst xs)) (.t (.int k)) s = .ok (.t r) s := by
  simp only [binV, rd_t, binP, h]
theorem rep_flat {x : T} : ∀ k : Nat, (List.replicate k [x]).flatten = List.replicate k x
  | 0 => rfl
  | k + 1 => by rw [List.replicate_succ, List.flatten_cons, List.replicate_succ, rep_flat k]; rfl
theorem bin_rep {D : Defs} {cf : CF} {x : T} {k : Nat} (hk : k ≤ 100) : binV D cf .Mult (.t (.lst [x])) (.t (.int (k : Int))) s = .ok (.t (.lst (List.replicate k x))) s := by
  refine bin_mulL ?_
  have c1 : -(2 ^ 63) ≤ (k : Int) := by omega
  have c2 : (k : Int) < 2 ^ 63 := by omega
  have c3 : [x].length * (k : Int).toNat ≤ sizeLine := by rw [sizeL, List.length_singleton]; omega
  rw [decide_eq_true c1, decide_eq_true c2, decide_eq_true c3, Int.toNat_natCast, rep_flat]
  rfl
theorem table_ok {k : Nat} (h1 : 1 ≤ k) (hk : k ≤ 4) (hf : 200 ≤ fw) : PotFn (callN (PT.D true) rp fw (n + 6)) 1012 [.int k] (fun t => ∃ rows, t = .lst (rows.map plT) ∧ Tb k rows) := fun st pk hp => by
  simp only [List.map_cons, List.map_nil]
  rw [go_L_table]
  obtain ⟨rows, s1, e1, q1, hl, hrows⟩ := list_ok (rp := rp) (fw := fw) (n := n) (w := k) (m := k) (by omega) (by omega) hp
  have S1 : Sat st [pk] [(st.length, rows.map plT)] (s1 ++ [.lst (rows.map plT)]) := by
    have h0 := ((Sat.start1 hp).same q1).new (xs := rows.map plT)
    rw [q1.len] at h0
    exact h0
  generalize hs2 : s1 ++ [Cell.lst (rows.map plT)] = s2 at e1 S1
  -- now and then one row is another one's
  obtain ⟨rows', s3, o3, o4, o5, hT, S3, A2⟩ : ∃ (rows' : List (List (Int × Int))) (s3 : Store) (o3 o4 o5 : Option VV), Tb k rows' ∧ Sat st [pk] [(st.length, rows'.map plT)] s3 ∧ evS (PT.D true) (callN (PT.D true) rp fw (n + 5)) (rp (callN (PT.D true) rp fw (n + 5))) fw (.ite (.and (.cmp .Gt (.var 1) (.int 1)) (.cmp .Eq (.cal 1002 (.cons (.var 0) (.cons (.int 3) .nil))) (.int 0))) (.seq (.par (.cons (.gn 3) (.cons (.gn 4) (.cons (.gn 5) .nil))) (.cons (.cal 1002 (.cons (.var 0) (.cons (.var 1) .nil))) (.cons (.cal 1002 (.cons (.var 0) (.cons (.var 1) .nil))) (.cons (.cal 1009 (.cons (.var 0) .nil)) .nil))))
    (.asg (.ix (.var 2) (.var 3)) (.ite (.cmp .NotEq (.var 3) (.var 4)) LC_L_table_0 (.bin .Mult (.lst false (.cons (.tup (.cons (.int 0) (.cons (.int 1) .nil))) .nil)) (.var 1))))) .skip) [some (.c pk), some (.t (.int (k : Int))), some (.c st.length), none, none, none, none] s2 = .nx [some (.c pk), some (.t (.int (k : Int))), some (.c st.length), o3, o4, o5, none] s3 := by
    have hT0 : Tb k rows := ⟨hl, fun ps hps => ⟨(hrows ps hps).1, fun p hp' => ((hrows ps hps).2 p hp').mono (by decide)⟩⟩
    by_cases hk1 : k = 1
    · refine ⟨rows, s2, none, none, none, hT0, S1, ?_⟩
      have c : decide ((1 : Int) < (k : Int)) = false := decide_eq_false (by omega)
      simp only [evS, ev, evs, evF, evI, put, putL, bindV, bind_ok, toFl_ok, seq_nx, seq_rt, putFl_ok, rd_t, emb_t, ofO_some, ofT_some, noex_ok, E.isOmit, List.map_cons, List.map_nil, List.replicate, List.cons_append, List.nil_append, List.length_cons, List.length_nil, List.set_cons_zero, List.set_cons_succ, List.getElem?_cons_zero, List.getElem?_cons_succ, Bool.false_eq_true, if_true, if_false, reduceIte, Nat.reduceAdd, Nat.reduceSub, Nat.reduceLT, Nat.reduceLeDiff, Nat.lt_irrefl, evT, bin_add, bin_sub, mthOk_ins, attV_ins, cmpP_lt, cmpP_le, cmpP_gt, cmpP_ge, cmp_lt, cmp_le, cmp_gt, cmp_ge, cmp_eqi, cmp_eqs, cmp_eqb, cmp_nei, cmp_nes, cmp_neb, cmp_isn, cmp_nin, cmp_isb, cmp_nib, tru_bl, tru_int, isNon_lst, isNon_non, item_l, item_t, blt_lenl, blt_lent, blt_lend, blt_all, blt_any, mapM_t1, mapM_t2, embLM_t0, embLM_t1, embLM_t2, embLM_t3, Option.bind_some, Option.map_some, Bool.not_true, Bool.not_false, endC_rt, endC_nx, decide_eq_true_eq, List.mapM_nil, c]
    · have c : decide ((1 : Int) < (k : Int)) = true := decide_eq_true (by omega)
      obtain ⟨_, s3, e3, q3, d, rfl, hd⟩ := drawF (rp := rp) (fw := fw) (n := n + 4) (m := 3) (by decide) (by decide) s2 pk S1.pot1
      simp only [List.map_cons, List.map_nil] at e3
      have S3 := S1.same q3
      by_cases hd0 : (d : Int) = 0
      · obtain ⟨_, s4, e4, q4, a, rfl, ha⟩ := drawF (rp := rp) (fw := fw) (n := n + 4) (m := (k : Int)) (by omega) (by omega) s3 pk S3.pot1
        simp only [List.map_cons, List.map_nil] at e4
        have S4 := S3.same q4
        obtain ⟨_, s5, e5, q5, b, rfl, hb⟩ := drawF (rp := rp) (fw := fw) (n := n + 4) (m := (k : Int)) (by omega) (by omega) s4 pk S4.pot1
        simp only [List.map_cons, List.map_nil] at e5
        have S5 := S4.same q5
        obtain ⟨_, s6, e6, q6, p, rfl, hpb⟩ := entry_ok (rp := rp) (fw := fw) (n := n + 2) s5 pk S5.pot1
        simp only [List.map_nil] at e6
        have S6 := S5.same q6
        have hal : a < rows.length := by omega
        have hbl : b < rows.length := by omega
        have ixa : ixN (rows.map plT).length (a : Int) = some a := ixN_nat (by rw [List.length_map]; exact hal)
        have hA0 : evS (PT.D true) (callN (PT.D true) rp fw (n + 5)) (rp (callN (PT.D true) rp fw (n + 5))) fw (.par (.cons (.gn 3) (.cons (.gn 4) (.cons (.gn 5) .nil))) (.cons (.cal 1002 (.cons (.var 0) (.cons (.var 1) .nil))) (.cons (.cal 1002 (.cons (.var 0) (.cons (.var 1) .nil))) (.cons (.cal 1009 (.cons (.var 0) .nil)) .nil)))) [some (.c pk), some (.t (.int (k : Int))), some (.c st.length), none, none, none, none] s3 = .nx [some (.c pk), some (.t (.int (k : Int))), some (.c st.length), some (.t (.int (a : Int))), some (.t (.int (b : Int))), some (.t (prT p)), none] s6 := by
          simp only [evS, ev, evs, evF, evI, put, putL, bindV, bind_ok, toFl_ok, seq_nx, seq_rt, putFl_ok, rd_t, emb_t, ofO_some, ofT_some, noex_ok, E.isOmit, List.map_cons, List.map_nil, List.replicate, List.cons_append, List.nil_append, List.length_cons, List.length_nil, List.set_cons_zero, List.set_cons_succ, List.getElem?_cons_zero, List.getElem?_cons_succ, Bool.false_eq_true, if_true, if_false, reduceIte, Nat.reduceAdd, Nat.reduceSub, Nat.reduceLT, Nat.reduceLeDiff, Nat.lt_irrefl, evT, bin_add, bin_sub, mthOk_ins, attV_ins, cmpP_lt, cmpP_le, cmpP_gt, cmpP_ge, cmp_lt, cmp_le, cmp_gt, cmp_ge, cmp_eqi, cmp_eqs, cmp_eqb, cmp_nei, cmp_nes, cmp_neb, cmp_isn, cmp_nin, cmp_isb, cmp_nib, tru_bl, tru_int, isNon_lst, isNon_non, item_l, item_t, blt_lenl, blt_lent, blt_lend, blt_all, blt_any, mapM_t1, mapM_t2, embLM_t0, embLM_t1, embLM_t2, embLM_t3, Option.bind_some, Option.map_some, Bool.not_true, Bool.not_false, endC_rt, endC_nx, decide_eq_true_eq, List.mapM_nil, fl_L_draw, e4, e5, fl_L_entry, e6]
        -- the new row
        obtain ⟨ps, s7, hps, S7, e7⟩ : ∃ (ps : List (Int × Int)) (s7 : Store), (ps.length = k ∧ ∀ p ∈ ps, PrB 100 p) ∧ Sat st [pk] [(st.length, rows.map plT)] s7 ∧ ev (PT.D true) (callN (PT.D true) rp fw (n + 5)) (rp (callN (PT.D true) rp fw (n + 5))) (.ite (.cmp .NotEq (.var 3) (.var 4)) LC_L_table_0 (.bin .Mult (.lst false (.cons (.tup (.cons (.int 0) (.cons (.int 1) .nil))) .nil)) (.var 1))) [some (.c pk), some (.t (.int (k : Int))), some (.c st.length), some (.t (.int (a : Int))), some (.t (.int (b : Int))), some (.t (prT p)), none] s6 = .ok (.t (plT ps)) s7 := by
          by_cases hab : (a : Int) = (b : Int)
          · have z1 : (1 ≤ sizeLine) = True := by rw [sizeL]; simp
            have z2 : (2 ≤ sizeLine) = True := by rw [sizeL]; simp
            have br := bin_rep (D := (PT.D true)) (cf := callN (PT.D true) rp fw (n + 5)) (s := s6) (x := .tup [.int 0, .int 1]) (k := k) (by omega)
            have er : (.lst (List.replicate k (.tup [.int 0, .int 1])) : T) = plT (List.replicate k (0, 1)) := by unfold plT; rw [List.map_replicate]; rfl
            rw [er] at br
            refine ⟨List.replicate k (0, 1), s6, ⟨by simp, fun q hq => by rw [List.eq_of_mem_replicate hq]; exact ⟨by decide, by decide, by decide⟩⟩, S6, ?_⟩
            have nq : ∀ st', cmpV (PT.D true) (callN (PT.D true) rp fw (n + 5)) .NotEq (.t (.int (a : Int))) (.t (.int (b : Int))) st' = some false := fun st' => by rw [cmp_nei, decide_eq_true hab]; rfl
            have c0 : ev (PT.D true) (callN (PT.D true) rp fw (n + 5)) (rp (callN (PT.D true) rp fw (n + 5))) (.cmp .NotEq (.var 3) (.var 4)) [some (.c pk), some (.t (.int (k : Int))), some (.c st.length), some (.t (.int (a : Int))), some (.t (.int (b : Int))), some (.t (prT p)), none] s6 = .ok (.t (.bl false)) s6 := by
              simp only [ev, List.getElem?_cons_succ, List.getElem?_cons_zero, bind_ok]
              rw [nq]
              rfl
            rw [ev, c0, bind_ok]
            simp only [evS, ev, evs, evF, evI, put, putL, bindV, bind_ok, toFl_ok, seq_nx, seq_rt, putFl_ok, rd_t, emb_t, ofO_some, ofT_some, noex_ok, E.isOmit, List.map_cons, List.map_nil, List.replicate, List.cons_append, List.nil_append, List.length_cons, List.length_nil, List.set_cons_zero, List.set_cons_succ, List.getElem?_cons_zero, List.getElem?_cons_succ, Bool.false_eq_true, if_true, if_false, reduceIte, Nat.reduceAdd, Nat.reduceSub, Nat.reduceLT, Nat.reduceLeDiff, Nat.lt_irrefl, evT, bin_add, bin_sub, mthOk_ins, attV_ins, cmpP_lt, cmpP_le, cmpP_gt, cmpP_ge, cmp_lt, cmp_le, cmp_gt, cmp_ge, cmp_eqi, cmp_eqs, cmp_eqb, cmp_nei, cmp_nes, cmp_neb, cmp_isn, cmp_nin, cmp_isb, cmp_nib, tru_bl, tru_int, isNon_lst, isNon_non, item_l, item_t, blt_lenl, blt_lent, blt_lend, blt_all, blt_any, mapM_t1, mapM_t2, embLM_t0, embLM_t1, embLM_t2, embLM_t3, Option.bind_some, Option.map_some, Bool.not_true, Bool.not_false, endC_rt, endC_nx, decide_eq_true_eq, List.mapM_nil, z1, z2, br]
          · obtain ⟨ps0, hps0⟩ : ∃ ps0, rows[b]? = some ps0 := ⟨_, List.getElem?_eq_getElem hbl⟩
            obtain ⟨g1, g2⟩ := hrows ps0 (List.mem_of_getElem? hps0)
            have itb : itemP (.lst (rows.map plT)) (.int (b : Int)) = some (plT ps0) := by rw [item_l, atI_map hps0]
            obtain ⟨xs, s7, e7, h7, hX⟩ := lc_drawA (D := (PT.D true)) (cf := callN (PT.D true) rp fw (n + 5)) (rp := rp (callN (PT.D true) rp fw (n + 5))) (ks := [pk]) (own := [6]) (g := .gn 6) (it := .iseq (.ix (.var 2) (.var 4))) (e := .cal 1005 (.cons (.var 5) (.cons (.var 6) .nil))) (loc := [some (.c pk), some (.t (.int (k : Int))), some (.c st.length), some (.t (.int (a : Int))), some (.t (.int (b : Int))), some (.t (prT p)), none]) (s := s6) (s1 := s6) (src := .lst (.t (.lst (ps0.map prT)))) ps0 prT (fun _ t => ∃ r, t = prT r ∧ PrB 100 r) (it_lst (by simp only [evS, ev, evs, evF, evI, put, putL, bindV, bind_ok, toFl_ok, seq_nx, seq_rt, putFl_ok, rd_t, emb_t, ofO_some, ofT_some, noex_ok, E.isOmit, List.map_cons, List.map_nil, List.replicate, List.cons_append, List.nil_append, List.length_cons, List.length_nil, List.set_cons_zero, List.set_cons_succ, List.getElem?_cons_zero, List.getElem?_cons_succ, Bool.false_eq_true, if_true, if_false, reduceIte, Nat.reduceAdd, Nat.reduceSub, Nat.reduceLT, Nat.reduceLeDiff, Nat.lt_irrefl, evT, bin_add, bin_sub, mthOk_ins, attV_ins, cmpP_lt, cmpP_le, cmpP_gt, cmpP_ge, cmp_lt, cmp_le, cmp_gt, cmp_ge, cmp_eqi, cmp_eqs, cmp_eqb, cmp_nei, cmp_nes, cmp_neb, cmp_isn, cmp_nin, cmp_isb, cmp_nib, tru_bl, tru_int, isNon_lst, isNon_non, item_l, item_t, blt_lenl, blt_lent, blt_lend, blt_all, blt_any, mapM_t1, mapM_t2, embLM_t0, embLM_t1, embLM_t2, embLM_t3, Option.bind_some, Option.map_some, Bool.not_true, Bool.not_false, endC_rt, endC_nx, decide_eq_true_eq, List.mapM_nil, S6.rd, itb, plT])) (Sat.start S6.pots)
              (fun s' hE i => Wk.lst.here i) (by rw [most_lst rfl, List.length_map]; omega) (by rw [sizeL]; omega)
              (fun q hq s' hE => by
                obtain ⟨r, e8, hr⟩ := by_ok (rp := rp) (fw := fw) (n := n + 3) (s := s') hpb (g2 q hq) hf
                refine ⟨[some (.c pk), some (.t (.int (k : Int))), some (.c st.length), some (.t (.int (a : Int))), some (.t (.int (b : Int))), some (.t (prT p)), some (.t (prT q))], by simp [bindG, wipeL], prT r, s', ?_, Sat.start hE.pots, r, rfl, hr⟩
                simp only [evS, ev, evs, evF, evI, put, putL, bindV, bind_ok, toFl_ok, seq_nx, seq_rt, putFl_ok, rd_t, emb_t, ofO_some, ofT_some, noex_ok, E.isOmit, List.map_cons, List.map_nil, List.replicate, List.cons_append, List.nil_append, List.length_cons, List.length_nil, List.set_cons_zero, List.set_cons_succ, List.getElem?_cons_zero, List.getElem?_cons_succ, Bool.false_eq_true, if_true, if_false, reduceIte, Nat.reduceAdd, Nat.reduceSub, Nat.reduceLT, Nat.reduceLeDiff, Nat.lt_irrefl, evT, bin_add, bin_sub, mthOk_ins, attV_ins, cmpP_lt, cmpP_le, cmpP_gt, cmpP_ge, cmp_lt, cmp_le, cmp_gt, cmp_ge, cmp_eqi, cmp_eqs, cmp_eqb, cmp_nei, cmp_nes, cmp_neb, cmp_isn, cmp_nin, cmp_isb, cmp_nib, tru_bl, tru_int, isNon_lst, isNon_non, item_l, item_t, blt_lenl, blt_lent, blt_lend, blt_all, blt_any, mapM_t1, mapM_t2, embLM_t0, embLM_t1, embLM_t2, embLM_t3, Option.bind_some, Option.map_some, Bool.not_true, Bool.not_false, endC_rt, endC_nx, decide_eq_true_eq, List.mapM_nil, fl_L_by, e8])
            have e7' : ev (PT.D true) (callN (PT.D true) rp fw (n + 5)) (rp (callN (PT.D true) rp fw (n + 5))) LC_L_table_0 [some (.c pk), some (.t (.int (k : Int))), some (.c st.length), some (.t (.int (a : Int))), some (.t (.int (b : Int))), some (.t (prT p)), none] s6 = _ := e7
            obtain ⟨ps, rfl⟩ := mem_map_of (f := prT) (ys := xs) fun y hy => by
              obtain ⟨_, _, r, e, _⟩ := forall2_mem hX y hy
              exact ⟨r, e⟩
            have hll := hX.length_eq
            rw [List.length_map] at hll
            refine ⟨ps, s7, ⟨by omega, fun q hq => ?_⟩, S6.trans h7, ?_⟩
            · obtain ⟨_, _, r, e, hr⟩ := forall2_mem hX (prT q) (List.mem_map_of_mem hq)
              have : q = r := by
                unfold prT at e
                simp only [T.tup.injEq, List.cons.injEq, T.int.injEq, and_true] at e
                exact Prod.ext e.1 e.2
              rw [this]; exact hr
            · have nq : ∀ st', cmpV (PT.D true) (callN (PT.D true) rp fw (n + 5)) .NotEq (.t (.int (a : Int))) (.t (.int (b : Int))) st' = some true := fun st' => by rw [cmp_nei, decide_eq_false hab]; rfl
              have c0 : ev (PT.D true) (callN (PT.D true) rp fw (n + 5)) (rp (callN (PT.D true) rp fw (n + 5))) (.cmp .NotEq (.var 3) (.var 4)) [some (.c pk), some (.t (.int (k : Int))), some (.c st.length), some (.t (.int (a : Int))), some (.t (.int (b : Int))), some (.t (prT p)), none] s6 = .ok (.t (.bl true)) s6 := by
                simp only [ev, List.getElem?_cons_succ, List.getElem?_cons_zero, bind_ok]
                rw [nq]
                rfl
              rw [ev, c0, bind_ok]
              simp only [evS, ev, evs, evF, evI, put, putL, bindV, bind_ok, toFl_ok, seq_nx, seq_rt, putFl_ok, rd_t, emb_t, ofO_some, ofT_some, noex_ok, E.isOmit, List.map_cons, List.map_nil, List.replicate, List.cons_append, List.nil_append, List.length_cons, List.length_nil, List.set_cons_zero, List.set_cons_succ, List.getElem?_cons_zero, List.getElem?_cons_succ, Bool.false_eq_true, if_true, if_false, reduceIte, Nat.reduceAdd, Nat.reduceSub, Nat.reduceLT, Nat.reduceLeDiff, Nat.lt_irrefl, evT, bin_add, bin_sub, mthOk_ins, attV_ins, cmpP_lt, cmpP_le, cmpP_gt, cmpP_ge, cmp_lt, cmp_le, cmp_gt, cmp_ge, cmp_eqi, cmp_eqs, cmp_eqb, cmp_nei, cmp_nes, cmp_neb, cmp_isn, cmp_nin, cmp_isb, cmp_nib, tru_bl, tru_int, isNon_lst, isNon_non, item_l, item_t, blt_lenl, blt_lent, blt_lend, blt_all, blt_any, mapM_t1, mapM_t2, embLM_t0, embLM_t1, embLM_t2, embLM_t3, Option.bind_some, Option.map_some, Bool.not_true, Bool.not_false, endC_rt, endC_nx, decide_eq_true_eq, List.mapM_nil, e7', plT]
        refine ⟨rows.set a ps, s7.set st.length (.lst ((rows.set a ps).map plT)), some (.t (.int (a : Int))), some (.t (.int (b : Int))), some (.t (prT p)), ⟨by rw [List.length_set, hl], fun q hq => ?_⟩, S7.putr, ?_⟩
        · rcases List.mem_or_eq_of_mem_set hq with h | rfl
          · exact hT0.2 q h
          · exact hps
        · have cnd : evT (PT.D true) (callN (PT.D true) rp fw (n + 5)) (rp (callN (PT.D true) rp fw (n + 5))) (.and (.cmp .Gt (.var 1) (.int 1)) (.cmp .Eq (.cal 1002 (.cons (.var 0) (.cons (.int 3) .nil))) (.int 0))) [some (.c pk), some (.t (.int (k : Int))), some (.c st.length), none, none, none, none] s2 = .ok true s3 := by
            simp only [evS, ev, evs, evF, evI, put, putL, bindV, bind_ok, toFl_ok, seq_nx, seq_rt, putFl_ok, rd_t, emb_t, ofO_some, ofT_some, noex_ok, E.isOmit, List.map_cons, List.map_nil, List.replicate, List.cons_append, List.nil_append, List.length_cons, List.length_nil, List.set_cons_zero, List.set_cons_succ, List.getElem?_cons_zero, List.getElem?_cons_succ, Bool.false_eq_true, if_true, if_false, reduceIte, Nat.reduceAdd, Nat.reduceSub, Nat.reduceLT, Nat.reduceLeDiff, Nat.lt_irrefl, evT, bin_add, bin_sub, mthOk_ins, attV_ins, cmpP_lt, cmpP_le, cmpP_gt, cmpP_ge, cmp_lt, cmp_le, cmp_gt, cmp_ge, cmp_eqi, cmp_eqs, cmp_eqb, cmp_nei, cmp_nes, cmp_neb, cmp_isn, cmp_nin, cmp_isb, cmp_nib, tru_bl, tru_int, isNon_lst, isNon_non, item_l, item_t, blt_lenl, blt_lent, blt_lend, blt_all, blt_any, mapM_t1, mapM_t2, embLM_t0, embLM_t1, embLM_t2, embLM_t3, Option.bind_some, Option.map_some, Bool.not_true, Bool.not_false, endC_rt, endC_nx, decide_eq_true_eq, List.mapM_nil, c, fl_L_draw, e3, decide_eq_true hd0]
          rw [evS, cnd]
          simp only [toFl_ok, if_true]
          rw [seq_go hA0]
          rw [evS, e7]
          simp only [toFl_ok, put, ev, List.getElem?_cons_succ, List.getElem?_cons_zero, bind_ok, setIx, emb_t, S7.get, rd_t, ixa, putFl_ok, List.map_set]
      · refine ⟨rows, s3, none, none, none, hT0, S3, ?_⟩
        simp only [evS, ev, evs, evF, evI, put, putL, bindV, bind_ok, toFl_ok, seq_nx, seq_rt, putFl_ok, rd_t, emb_t, ofO_some, ofT_some, noex_ok, E.isOmit, List.map_cons, List.map_nil, List.replicate, List.cons_append, List.nil_append, List.length_cons, List.length_nil, List.set_cons_zero, List.set_cons_succ, List.getElem?_cons_zero, List.getElem?_cons_succ, Bool.false_eq_true, if_true, if_false, reduceIte, Nat.reduceAdd, Nat.reduceSub, Nat.reduceLT, Nat.reduceLeDiff, Nat.lt_irrefl, evT, bin_add, bin_sub, mthOk_ins, attV_ins, cmpP_lt, cmpP_le, cmpP_gt, cmpP_ge, cmp_lt, cmp_le, cmp_gt, cmp_ge, cmp_eqi, cmp_eqs, cmp_eqb, cmp_nei, cmp_nes, cmp_neb, cmp_isn, cmp_nin, cmp_isb, cmp_nib, tru_bl, tru_int, isNon_lst, isNon_non, item_l, item_t, blt_lenl, blt_lent, blt_lend, blt_all, blt_any, mapM_t1, mapM_t2, embLM_t0, embLM_t1, embLM_t2, embLM_t3, Option.bind_some, Option.map_some, Bool.not_true, Bool.not_false, endC_rt, endC_nx, decide_eq_true_eq, List.mapM_nil, c, fl_L_draw, e3, decide_eq_false hd0]
  obtain ⟨s', r1, r2⟩ := S3.retc
  refine ⟨.lst (rows'.map plT), s', ?_, r2, rows', rfl, hT⟩
  unfold S_L_table
  rw [seq_go (l1 := [some (.c pk), some (.t (.int (k : Int))), some (.c st.length), none, none, none, none]) (s1 := s2) (by simp only [evS, ev, evs, evF, evI, put, putL, bindV, bind_ok, toFl_ok, seq_nx, seq_rt, putFl_ok, rd_t, emb_t, ofO_some, ofT_some, noex_ok, E.isOmit, List.map_cons, List.map_nil, List.replicate, List.cons_append, List.nil_append, List.length_cons, List.length_nil, List.set_cons_zero, List.set_cons_succ, List.getElem?_cons_zero, List.getElem?_cons_succ, Bool.false_eq_true, if_true, if_false, reduceIte, Nat.reduceAdd, Nat.reduceSub, Nat.reduceLT, Nat.reduceLeDiff, Nat.lt_irrefl, evT, bin_add, bin_sub, mthOk_ins, attV_ins, cmpP_lt, cmpP_le, cmpP_gt, cmpP_ge, cmp_lt, cmp_le, cmp_gt, cmp_ge, cmp_eqi, cmp_eqs, cmp_eqb, cmp_nei, cmp_nes, cmp_neb, cmp_isn, cmp_nin, cmp_isb, cmp_nib, tru_bl, tru_int, isNon_lst, isNon_non, item_l, item_t, blt_lenl, blt_lent, blt_lend, blt_all, blt_any, mapM_t1, mapM_t2, embLM_t0, embLM_t1, embLM_t2, embLM_t3, Option.bind_some, Option.map_some, Bool.not_true, Bool.not_false, endC_rt, endC_nx, decide_eq_true_eq, List.mapM_nil, fl_L_list, e1])]
  rw [seq_go A2]
  simp only [evS, ev, evs, evF, evI, put, putL, bindV, bind_ok, toFl_ok, seq_nx, seq_rt, putFl_ok, rd_t, emb_t, ofO_some, ofT_some, noex_ok, E.isOmit, List.map_cons, List.map_nil, List.replicate, List.cons_append, List.nil_append, List.length_cons, List.length_nil, List.set_cons_zero, List.set_cons_succ, List.getElem?_cons_zero, List.getElem?_cons_succ, Bool.false_eq_true, if_true, if_false, reduceIte, Nat.reduceAdd, Nat.reduceSub, Nat.reduceLT, Nat.reduceLeDiff, Nat.lt_irrefl, evT, bin_add, bin_sub, mthOk_ins, attV_ins, cmpP_lt, cmpP_le, cmpP_gt, cmpP_ge, cmp_lt, cmp_le, cmp_gt, cmp_ge, cmp_eqi, cmp_eqs, cmp_eqb, cmp_nei, cmp_nes, cmp_neb, cmp_isn, cmp_nin, cmp_isb, cmp_nib, tru_bl, tru_int, isNon_lst, isNon_non, item_l, item_t, blt_lenl, blt_lent, blt_lend, blt_all, blt_any, mapM_t1, mapM_t2, embLM_t0, embLM_t1, embLM_t2, embLM_t3, Option.bind_some, Option.map_some, Bool.not_true, Bool.not_false, endC_rt, endC_nx, decide_eq_true_eq, List.mapM_nil]
  rw [S3.frz.1] at r1 ⊢
  exact r1
end
end Tw
set_option maxHeartbeats 4000000
namespace Tw
open PySem L2
theorem evs_c {D : Defs} {cf : CF} {r : Store → T → Out Str} {a as : E} {loc : Loc} {s s1 s2 : Store} {y : VV} {ys : List VV} (h1 : ev D cf r a loc s = .ok y s1) (h2 : evs D cf r as loc s1 = .ok ys s2) : evs D cf r (.cons a as) loc s = .ok (y :: ys) s2 := by simp only [evs, h1, h2, bind_ok]
theorem evs_k {D : Defs} {cf : CF} {r : Store → T → Out Str} {a as : E} {loc : Loc} {s : Store} {y : VV} {ys : List VV} (h1 : ev D cf r a loc s = .ok y s) (h2 : evs D cf r as loc s = .ok ys s) : evs D cf r (.cons a as) loc s = .ok (y :: ys) s := evs_c h1 h2
theorem evs_n {D : Defs} {cf : CF} {r : Store → T → Out Str} {loc : Loc} {s : Store} : evs D cf r .nil loc s = .ok [] s := by simp only [evs]
theorem embL_ts {s : Store} : ∀ ys : List T, embL s (ys.map VV.t) = some (ys, s)
  | [] => rfl
  | y :: r => by
    rw [List.map_cons]
    unfold embL
    rw [emb_t]
    simp only [embL_ts r]
theorem ev_l {D : Defs} {cf : CF} {r : Store → T → Out Str} {as : E} {loc : Loc} {s s1 : Store} {ys : List T} (h : evs D cf r as loc s = .ok (ys.map VV.t) s1) (hl : ys.length ≤ 1000) : ev D cf r (.lst false as) loc s = .ok (.t (.lst ys)) s1 := by
  have em : embLM s1 (ys.map VV.t) = .ok ys s1 := by
    unfold embLM
    rw [embL_ts]
  have z : (ys.length ≤ sizeLine) = True := by rw [sizeL]; simp; omega
  simp only [ev, h, bind_ok, em, z, if_true, Bool.false_eq_true, if_false]
theorem ev_d0 {D : Defs} {cf : CF} {r : Store → T → Out Str} {loc : Loc} {s : Store} : ev D cf r (.dct [] .nil) loc s = .ok (.t (.dct [])) s := by
  simp [ev, evs, bind_ok, embLM_t0]
theorem ev_d1 {D : Defs} {cf : CF} {r : Store → T → Out Str} {loc : Loc} {s : Store} : ev D cf r (.dct [.inl 0] (.cons (.lst false (.cons (.int 1) .nil)) .nil)) loc s = .ok (.t (.dct [(.inl 0, .lst [.int 1])])) s := by
  have z1 : (1 ≤ sizeLine) = True := by rw [sizeL]; simp
  simp [ev, evs, bind_ok, embLM_t1, z1]
theorem bin_addc {D : Defs} {cf : CF} {s : Store} {xs ys : List T} {k : Nat} (h : s[k]? = some (.lst xs)) (hz : xs.length + ys.length ≤ sizeLine) : binV D cf .Add (.c k) (.t (.lst ys)) s = .ok (.t (.lst (xs ++ ys))) s := by
  have e : rd s (.c k) = some (.lst xs) := by rw [rd_c' h]; rfl
  simp [binV, e, rd_t, binP, hz]
theorem cut_m1 {xs : List T} : cutT xs none (some (-1)) = xs.dropLast := by
  rw [List.dropLast_eq_take]
  unfold cutT
  simp [HT.sIx]
  omega
theorem Rw.itms {k : Nat} {t : T} (h : Rw k t) : isSeq t = true ∧ (itms t).length = k ∧ ∀ y ∈ itms t, Nm y := by
  obtain ⟨xs, rfl | rfl, h1, h2⟩ := h
  · exact ⟨rfl, h1, h2⟩
  · exact ⟨rfl, h1, h2⟩
theorem Rw.tame {k : Nat} {t : T} (h : Rw k t) (hk : k ≤ 40) : tame 1 t := by
  obtain ⟨xs, rfl | rfl, h1, h2⟩ := h
  · exact .lst (by omega) fun y hy => (h2 y hy).tame
  · exact .tup (by omega) fun y hy => (h2 y hy).tame
theorem tame_0 {d : Nat} : tame d (.int 0) := tame_int (by unfold small; decide)
def oddL : List T := [.non, .bl true, .bl false, .str "1", .lst [.int 1], .tup [], .dct []]
theorem odd_tame : ∀ o ∈ oddL, tame 1 o := by
  intro o ho
  simp only [oddL, List.mem_cons, List.not_mem_nil, or_false] at ho
  rcases ho with rfl | rfl | rfl | rfl | rfl | rfl | rfl
  · exact tame_non
  · exact tame_bl
  · exact tame_bl
  · exact tame_str (by decide +kernel)
  · exact .lst (by decide) fun y hy => by
      rw [List.mem_singleton.mp hy]
      exact tame_int (by unfold small; decide)
  · exact .tup (by decide) fun y hy => by simp at hy
  · exact tame_d0
section
variable {rp : CF → Store → T → Out Str} {fw n : Nat} {s : Store}
theorem odd_ev {loc : Loc} {D : Defs} {cf : CF} {r : Store → T → Out Str} : ev D cf r (.lst false (.cons .non (.cons (.bl true) (.cons (.bl false) (.cons (.str "1") (.cons (.lst false (.cons (.int 1) .nil)) (.cons (.tup .nil) (.cons (.dct [] .nil) .nil)))))))) loc s = .ok (.t (.lst oddL)) s := by
  have z0 : (0 ≤ sizeLine) = True := by simp
  have z1 : (1 ≤ sizeLine) = True := by rw [sizeL]; simp
  refine ev_l (ys := oddL) (evs_k (y := .t .non) (by simp only [ev]) (evs_k (y := .t (.bl true)) (by simp only [ev]) (evs_k (y := .t (.bl false)) (by simp only [ev]) (evs_k (y := .t (.str "1")) (by simp only [ev]) (evs_k (y := .t (.lst [.int 1])) ?_ (evs_k (y := .t (.tup [])) ?_ (evs_k (y := .t (.dct [])) ev_d0 evs_n))))))) (by decide)
  · simp only [evS, ev, evs, evF, evI, put, putL, bindV, bind_ok, toFl_ok, seq_nx, seq_rt, putFl_ok, rd_t, emb_t, ofO_some, ofT_some, noex_ok, E.isOmit, List.map_cons, List.map_nil, List.replicate, List.cons_append, List.nil_append, List.length_cons, List.length_nil, List.set_cons_zero, List.set_cons_succ, List.getElem?_cons_zero, List.getElem?_cons_succ, Bool.false_eq_true, if_true, if_false, reduceIte, Nat.reduceAdd, Nat.reduceSub, Nat.reduceLT, Nat.reduceLeDiff, Nat.lt_irrefl, evT, bin_add, bin_sub, mthOk_ins, attV_ins, cmpP_lt, cmpP_le, cmpP_gt, cmpP_ge, cmp_lt, cmp_le, cmp_gt, cmp_ge, cmp_eqi, cmp_eqs, cmp_eqb, cmp_nei, cmp_nes, cmp_neb, cmp_isn, cmp_nin, cmp_isb, cmp_nib, tru_bl, tru_int, isNon_lst, isNon_non, item_l, item_t, blt_lenl, blt_lent, blt_lend, blt_all, blt_any, mapM_t1, mapM_t2, embLM_t0, embLM_t1, embLM_t2, embLM_t3, Option.bind_some, Option.map_some, Bool.not_true, Bool.not_false, endC_rt, endC_nx, decide_eq_true_eq, List.mapM_nil, z1]
  · simp only [evS, ev, evs, evF, evI, put, putL, bindV, bind_ok, toFl_ok, seq_nx, seq_rt, putFl_ok, rd_t, emb_t, ofO_some, ofT_some, noex_ok, E.isOmit, List.map_cons, List.map_nil, List.replicate, List.cons_append, List.nil_append, List.length_cons, List.length_nil, List.set_cons_zero, List.set_cons_succ, List.getElem?_cons_zero, List.getElem?_cons_succ, Bool.false_eq_true, if_true, if_false, reduceIte, Nat.reduceAdd, Nat.reduceSub, Nat.reduceLT, Nat.reduceLeDiff, Nat.lt_irrefl, evT, bin_add, bin_sub, mthOk_ins, attV_ins, cmpP_lt, cmpP_le, cmpP_gt, cmpP_ge, cmp_lt, cmp_le, cmp_gt, cmp_ge, cmp_eqi, cmp_eqs, cmp_eqb, cmp_nei, cmp_nes, cmp_neb, cmp_isn, cmp_nin, cmp_isb, cmp_nib, tru_bl, tru_int, isNon_lst, isNon_non, item_l, item_t, blt_lenl, blt_lent, blt_lend, blt_all, blt_any, mapM_t1, mapM_t2, embLM_t0, embLM_t1, embLM_t2, embLM_t3, Option.bind_some, Option.map_some, Bool.not_true, Bool.not_false, endC_rt, endC_nx, decide_eq_true_eq, List.mapM_nil, z0]
def six (xs : List T) (o : T) (b : Nat) : List T := [.lst (xs ++ [.int 0]), .lst xs.dropLast, o, .tup xs, .lst (xs.take b ++ [o] ++ xs.drop (b + 1)), .lst (xs.take b ++ [.int 7] ++ xs.drop (b + 1))]
theorem six_tame {xs : List T} {o : T} {b : Nat} (hx : ∀ y ∈ xs, Nm y) (ho : tame 1 o) (hl : xs.length ≤ 10) : ∀ y ∈ six xs o b, tame 2 y := by
  have h0 : ∀ y ∈ xs, tame 1 y := fun y hy => (hx y hy).tame
  have h7 : tame 1 (.int 7) := tame_int (by unfold small; decide)
  have mid : ∀ z, tame 1 z → tame 2 (.lst (xs.take b ++ [z] ++ xs.drop (b + 1))) := fun z hz => .lst (by simp; omega) fun y hy => by
    simp only [List.mem_append, List.mem_singleton] at hy
    rcases hy with (h | rfl) | h
    · exact h0 y (List.mem_of_mem_take h)
    · exact hz
    · exact h0 y (List.mem_of_mem_drop h)
  intro y hy
  simp only [six, List.mem_cons, List.not_mem_nil, or_false] at hy
  rcases hy with rfl | rfl | rfl | rfl | rfl | rfl
  · exact .lst (by simp; omega) fun y hy => by
      rcases List.mem_append.mp hy with h | h
      · exact h0 y h
      · rw [List.mem_singleton.mp h]; exact tame_0
  · exact .lst (by simp; omega) fun y hy => h0 y ((List.dropLast_sublist _).subset hy)
  · exact ho.up
  · exact .tup (by omega) h0
  · exact mid _ ho
  · exact mid _ h7
theorem bent_ok {k : Nat} {R : List T} (h1 : 1 ≤ k) (hk : k ≤ 4) (hl : R.length = k) (hR : ∀ y ∈ R, Rw k y) : PotFn (callN (PT.D true) rp fw (n + 4)) 1018 [.lst R] (fun t => ∃ vs, t = .lst vs ∧ vs.length ≤ 100 ∧ ∀ v ∈ vs, tame 3 v) := fun st pk hp => by
  simp only [List.map_cons, List.map_nil]
  rw [go_L_bent]
  have S0 := Sat.start1 hp
  have z0 : (0 ≤ sizeLine) = True := by simp
  have z1 : (1 ≤ sizeLine) = True := by rw [sizeL]; simp
  obtain ⟨_, s1, e1, q1, a, rfl, ha⟩ := drawF (rp := rp) (fw := fw) (n := n + 2) (m := (R.length : Int)) (by omega) (by omega) st pk S0.pot1
  simp only [List.map_cons, List.map_nil] at e1
  have S1 := S0.same q1
  have hal : a < R.length := by omega
  obtain ⟨hsq, hxl, hxn⟩ := (hR _ (List.getElem_mem hal)).itms
  have ita : itemP (.lst R) (.int (a : Int)) = some R[a] := by rw [item_l]; exact atI_nat (List.getElem?_eq_getElem hal)
  have bl : bltP .list [R[a]] = some (.lst (itms R[a])) := by
    obtain ⟨ys, h | h⟩ := seq_cases hsq <;> rw [h] <;> exact nrfl rfl
  generalize hxs : itms R[a] = xs at *
  have ln : bltP .len [.lst R] = some (.int (R.length : Int)) := blt_lenl
  obtain ⟨o, s2, e2, q2, ho⟩ := (pick_ok (rp := rp) (fw := fw) (n := n + 1)).fn (xs := oddL) (by decide) (by decide) s1 pk S1.pot1
  simp only [List.map_cons, List.map_nil] at e2
  have S2 := S1.same q2
  obtain ⟨_, s3, e3, q3, b, rfl, hb⟩ := drawF (rp := rp) (fw := fw) (n := n + 2) (m := (xs.length : Int)) (by omega) (by omega) s2 pk S2.pot1
  simp only [List.map_cons, List.map_nil] at e3
  have S3 := S2.same q3
  have hot := odd_tame o ho
  have A1 : evS (PT.D true) (callN (PT.D true) rp fw (n + 3)) (rp (callN (PT.D true) rp fw (n + 3))) fw (.asg (.gn 2) (.cal 1002 (.cons (.var 0) (.cons (.blt .len (.cons (.var 1) .nil)) .nil)))) [some (.c pk), some (.t (.lst R)), none, none, none, none, none, none] st = .nx [some (.c pk), some (.t (.lst R)), some (.t (.int (a : Int))), none, none, none, none, none] s1 := by
    simp only [evS, ev, evs, evF, evI, put, putL, bindV, bind_ok, toFl_ok, seq_nx, seq_rt, putFl_ok, rd_t, emb_t, ofO_some, ofT_some, noex_ok, E.isOmit, List.map_cons, List.map_nil, List.replicate, List.cons_append, List.nil_append, List.length_cons, List.length_nil, List.set_cons_zero, List.set_cons_succ, List.getElem?_cons_zero, List.getElem?_cons_succ, Bool.false_eq_true, if_true, if_false, reduceIte, Nat.reduceAdd, Nat.reduceSub, Nat.reduceLT, Nat.reduceLeDiff, Nat.lt_irrefl, evT, bin_add, bin_sub, mthOk_ins, attV_ins, cmpP_lt, cmpP_le, cmpP_gt, cmpP_ge, cmp_lt, cmp_le, cmp_gt, cmp_ge, cmp_eqi, cmp_eqs, cmp_eqb, cmp_nei, cmp_nes, cmp_neb, cmp_isn, cmp_nin, cmp_isb, cmp_nib, tru_bl, tru_int, isNon_lst, isNon_non, item_l, item_t, blt_lenl, blt_lent, blt_lend, blt_all, blt_any, mapM_t1, mapM_t2, embLM_t0, embLM_t1, embLM_t2, embLM_t3, Option.bind_some, Option.map_some, Bool.not_true, Bool.not_false, endC_rt, endC_nx, decide_eq_true_eq, List.mapM_nil, fl_L_draw, e1]
  have A2 : evS (PT.D true) (callN (PT.D true) rp fw (n + 3)) (rp (callN (PT.D true) rp fw (n + 3))) fw (.par (.cons (.gn 3) (.cons (.gn 4) .nil)) (.cons (.blt .list (.cons (.ix (.var 1) (.var 2)) .nil)) (.cons (.cal 1003 (.cons (.var 0) (.cons (.lst false (.cons .non (.cons (.bl true) (.cons (.bl false) (.cons (.str "1") (.cons (.lst false (.cons (.int 1) .nil)) (.cons (.tup .nil) (.cons (.dct [] .nil) .nil)))))))) .nil))) .nil))) [some (.c pk), some (.t (.lst R)), some (.t (.int (a : Int))), none, none, none, none, none] s1 = .nx [some (.c pk), some (.t (.lst R)), some (.t (.int (a : Int))), some (.t (.lst xs)), some (.t o), none, none, none] s2 := by
    have v1 : ev (PT.D true) (callN (PT.D true) rp fw (n + 3)) (rp (callN (PT.D true) rp fw (n + 3))) (.blt .list (.cons (.ix (.var 1) (.var 2)) .nil)) [some (.c pk), some (.t (.lst R)), some (.t (.int (a : Int))), none, none, none, none, none] s1 = .ok (.t (.lst xs)) s1 := by
      simp only [ev, evs, List.getElem?_cons_succ, List.getElem?_cons_zero, bind_ok, rd_t, ita, ofT_some, mapM_t1, bl]
    have v2 : evs (PT.D true) (callN (PT.D true) rp fw (n + 3)) (rp (callN (PT.D true) rp fw (n + 3))) (.cons (.var 0) (.cons (.lst false (.cons .non (.cons (.bl true) (.cons (.bl false) (.cons (.str "1") (.cons (.lst false (.cons (.int 1) .nil)) (.cons (.tup .nil) (.cons (.dct [] .nil) .nil)))))))) .nil)) [some (.c pk), some (.t (.lst R)), some (.t (.int (a : Int))), none, none, none, none, none] s1 = .ok [.c pk, .t (.lst oddL)] s1 := evs_c (by simp only [ev, List.getElem?_cons_zero]) (evs_c odd_ev evs_n)
    have v3 : ev (PT.D true) (callN (PT.D true) rp fw (n + 3)) (rp (callN (PT.D true) rp fw (n + 3))) (.cal 1003 (.cons (.var 0) (.cons (.lst false (.cons .non (.cons (.bl true) (.cons (.bl false) (.cons (.str "1") (.cons (.lst false (.cons (.int 1) .nil)) (.cons (.tup .nil) (.cons (.dct [] .nil) .nil)))))))) .nil))) [some (.c pk), some (.t (.lst R)), some (.t (.int (a : Int))), none, none, none, none, none] s1 = .ok (.t o) s2 := by
      rw [ev, v2, bind_ok, fl_L_pick, e2]
    rw [evS, evs_c v1 (evs_c v3 evs_n)]
    simp [toFl_ok, bindV]
  have A3 : evS (PT.D true) (callN (PT.D true) rp fw (n + 3)) (rp (callN (PT.D true) rp fw (n + 3))) fw (.asg (.gn 5) (.cal 1002 (.cons (.var 0) (.cons (.blt .len (.cons (.var 3) .nil)) .nil)))) [some (.c pk), some (.t (.lst R)), some (.t (.int (a : Int))), some (.t (.lst xs)), some (.t o), none, none, none] s2 = .nx [some (.c pk), some (.t (.lst R)), some (.t (.int (a : Int))), some (.t (.lst xs)), some (.t o), some (.t (.int (b : Int))), none, none] s3 := by
    simp only [evS, ev, evs, evF, evI, put, putL, bindV, bind_ok, toFl_ok, seq_nx, seq_rt, putFl_ok, rd_t, emb_t, ofO_some, ofT_some, noex_ok, E.isOmit, List.map_cons, List.map_nil, List.replicate, List.cons_append, List.nil_append, List.length_cons, List.length_nil, List.set_cons_zero, List.set_cons_succ, List.getElem?_cons_zero, List.getElem?_cons_succ, Bool.false_eq_true, if_true, if_false, reduceIte, Nat.reduceAdd, Nat.reduceSub, Nat.reduceLT, Nat.reduceLeDiff, Nat.lt_irrefl, evT, bin_add, bin_sub, mthOk_ins, attV_ins, cmpP_lt, cmpP_le, cmpP_gt, cmpP_ge, cmp_lt, cmp_le, cmp_gt, cmp_ge, cmp_eqi, cmp_eqs, cmp_eqb, cmp_nei, cmp_nes, cmp_neb, cmp_isn, cmp_nin, cmp_isb, cmp_nib, tru_bl, tru_int, isNon_lst, isNon_non, item_l, item_t, blt_lenl, blt_lent, blt_lend, blt_all, blt_any, mapM_t1, mapM_t2, embLM_t0, embLM_t1, embLM_t2, embLM_t3, Option.bind_some, Option.map_some, Bool.not_true, Bool.not_false, endC_rt, endC_nx, decide_eq_true_eq, List.mapM_nil, fl_L_draw, e3]
  have hbl : b < xs.length := by omega
  have t0 : ∀ {zs : List T} {c : Nat} {st' : Store}, c ≤ zs.length → slV (.t (.lst zs)) none (some (c : Int)) st' = .ok (.t (.lst (zs.take c))) st' := fun {zs c st'} h => by rw [slV_lt, cut_take h]
  have d0 : ∀ {zs : List T} {c : Nat} {st' : Store}, c < zs.length → slV (.t (.lst zs)) (some ((c : Int) + 1)) none st' = .ok (.t (.lst (zs.drop (c + 1)))) st' := fun {zs c st'} h => by
    rw [slV_lt]
    have := cut_drop (xs := zs) (j := c + 1) (by omega)
    rw [show ((c + 1 : Nat) : Int) = (c : Int) + 1 by omega] at this
    rw [this]
  have S4 := S3.new (xs := [])
  generalize hr : s3.length = r at S4
  -- the six
  have e6 : ∀ st' : Store, evI (PT.D true) (callN (PT.D true) rp fw (n + 3)) (rp (callN (PT.D true) rp fw (n + 3))) (.iseq (.lst false (.cons (.bin .Add (.var 3) (.lst false (.cons (.int 0) .nil))) (.cons (.sl (.var 3) .omit (.neg (.int 1))) (.cons (.var 4) (.cons (.blt .tuple (.cons (.var 3) .nil)) (.cons (.bin .Add (.bin .Add (.sl (.var 3) .omit (.var 5)) (.lst false (.cons (.var 4) .nil))) (.sl (.var 3) (.bin .Add (.var 5) (.int 1)) .omit)) (.cons (.bin .Add (.bin .Add (.sl (.var 3) .omit (.var 5)) (.lst false (.cons (.int 7) .nil))) (.sl (.var 3) (.bin .Add (.var 5) (.int 1)) .omit)) .nil)))))))) [some (.c pk), some (.t (.lst R)), some (.t (.int (a : Int))), some (.t (.lst xs)), some (.t o), some (.t (.int (b : Int))), some (.c r), none] st' = .ok (.lst (.t (.lst (six xs o b)))) st' := fun st' => by
    have ng : negV (PT.D true) (callN (PT.D true) rp fw (n + 3)) (.t (.int 1)) st' = .ok (.t (.int (-1))) st' := nrfl rfl
    have sm1 : slV (.t (.lst xs)) none (some (-1)) st' = .ok (.t (.lst xs.dropLast)) st' := by rw [slV_lt, cut_m1]
    have bt : bltP .tuple [.lst xs] = some (.tup xs) := nrfl rfl
    have ad : ∀ (us vs : List T), us.length + vs.length ≤ 50 → binV (PT.D true) (callN (PT.D true) rp fw (n + 3)) .Add (.t (.lst us)) (.t (.lst vs)) st' = .ok (.t (.lst (us ++ vs))) st' := fun us vs h => bin_addl (by rw [sizeL]; omega)
    have md : ∀ z : T, binV (PT.D true) (callN (PT.D true) rp fw (n + 3)) .Add (.t (.lst (xs.take b))) (.t (.lst [z])) st' = .ok (.t (.lst (xs.take b ++ [z]))) st' := fun z => ad _ _ (by simp; omega)
    have md2 : ∀ z : T, binV (PT.D true) (callN (PT.D true) rp fw (n + 3)) .Add (.t (.lst (xs.take b ++ [z]))) (.t (.lst (xs.drop (b + 1)))) st' = .ok (.t (.lst (xs.take b ++ [z] ++ xs.drop (b + 1)))) st' := fun z => ad _ _ (by simp; omega)
    refine it_lst ?_
    refine ev_l (ys := six xs o b) (evs_k (y := .t (.lst (xs ++ [.int 0]))) ?_ (evs_k (y := .t (.lst xs.dropLast)) ?_ (evs_k (y := .t o) ?_ (evs_k (y := .t (.tup xs)) ?_ (evs_k (y := .t (.lst (xs.take b ++ [o] ++ xs.drop (b + 1)))) ?_ (evs_k (y := .t (.lst (xs.take b ++ [.int 7] ++ xs.drop (b + 1)))) ?_ evs_n)))))) (by simp [six])
    · simp only [evS, ev, evs, evF, evI, put, putL, bindV, bind_ok, toFl_ok, seq_nx, seq_rt, putFl_ok, rd_t, emb_t, ofO_some, ofT_some, noex_ok, E.isOmit, List.map_cons, List.map_nil, List.replicate, List.cons_append, List.nil_append, List.length_cons, List.length_nil, List.set_cons_zero, List.set_cons_succ, List.getElem?_cons_zero, List.getElem?_cons_succ, Bool.false_eq_true, if_true, if_false, reduceIte, Nat.reduceAdd, Nat.reduceSub, Nat.reduceLT, Nat.reduceLeDiff, Nat.lt_irrefl, evT, bin_add, bin_sub, mthOk_ins, attV_ins, cmpP_lt, cmpP_le, cmpP_gt, cmpP_ge, cmp_lt, cmp_le, cmp_gt, cmp_ge, cmp_eqi, cmp_eqs, cmp_eqb, cmp_nei, cmp_nes, cmp_neb, cmp_isn, cmp_nin, cmp_isb, cmp_nib, tru_bl, tru_int, isNon_lst, isNon_non, item_l, item_t, blt_lenl, blt_lent, blt_lend, blt_all, blt_any, mapM_t1, mapM_t2, embLM_t0, embLM_t1, embLM_t2, embLM_t3, Option.bind_some, Option.map_some, Bool.not_true, Bool.not_false, endC_rt, endC_nx, decide_eq_true_eq, List.mapM_nil, z1, ad xs [.int 0] (by simp; omega)]
    · simp only [evS, ev, evs, evF, evI, put, putL, bindV, bind_ok, toFl_ok, seq_nx, seq_rt, putFl_ok, rd_t, emb_t, ofO_some, ofT_some, noex_ok, E.isOmit, List.map_cons, List.map_nil, List.replicate, List.cons_append, List.nil_append, List.length_cons, List.length_nil, List.set_cons_zero, List.set_cons_succ, List.getElem?_cons_zero, List.getElem?_cons_succ, Bool.false_eq_true, if_true, if_false, reduceIte, Nat.reduceAdd, Nat.reduceSub, Nat.reduceLT, Nat.reduceLeDiff, Nat.lt_irrefl, evT, bin_add, bin_sub, mthOk_ins, attV_ins, cmpP_lt, cmpP_le, cmpP_gt, cmpP_ge, cmp_lt, cmp_le, cmp_gt, cmp_ge, cmp_eqi, cmp_eqs, cmp_eqb, cmp_nei, cmp_nes, cmp_neb, cmp_isn, cmp_nin, cmp_isb, cmp_nib, tru_bl, tru_int, isNon_lst, isNon_non, item_l, item_t, blt_lenl, blt_lent, blt_lend, blt_all, blt_any, mapM_t1, mapM_t2, embLM_t0, embLM_t1, embLM_t2, embLM_t3, Option.bind_some, Option.map_some, Bool.not_true, Bool.not_false, endC_rt, endC_nx, decide_eq_true_eq, List.mapM_nil, ng, optI_i, sm1]
    · simp only [evS, ev, evs, evF, evI, put, putL, bindV, bind_ok, toFl_ok, seq_nx, seq_rt, putFl_ok, rd_t, emb_t, ofO_some, ofT_some, noex_ok, E.isOmit, List.map_cons, List.map_nil, List.replicate, List.cons_append, List.nil_append, List.length_cons, List.length_nil, List.set_cons_zero, List.set_cons_succ, List.getElem?_cons_zero, List.getElem?_cons_succ, Bool.false_eq_true, if_true, if_false, reduceIte, Nat.reduceAdd, Nat.reduceSub, Nat.reduceLT, Nat.reduceLeDiff, Nat.lt_irrefl, evT, bin_add, bin_sub, mthOk_ins, attV_ins, cmpP_lt, cmpP_le, cmpP_gt, cmpP_ge, cmp_lt, cmp_le, cmp_gt, cmp_ge, cmp_eqi, cmp_eqs, cmp_eqb, cmp_nei, cmp_nes, cmp_neb, cmp_isn, cmp_nin, cmp_isb, cmp_nib, tru_bl, tru_int, isNon_lst, isNon_non, item_l, item_t, blt_lenl, blt_lent, blt_lend, blt_all, blt_any, mapM_t1, mapM_t2, embLM_t0, embLM_t1, embLM_t2, embLM_t3, Option.bind_some, Option.map_some, Bool.not_true, Bool.not_false, endC_rt, endC_nx, decide_eq_true_eq, List.mapM_nil]
    · simp only [evS, ev, evs, evF, evI, put, putL, bindV, bind_ok, toFl_ok, seq_nx, seq_rt, putFl_ok, rd_t, emb_t, ofO_some, ofT_some, noex_ok, E.isOmit, List.map_cons, List.map_nil, List.replicate, List.cons_append, List.nil_append, List.length_cons, List.length_nil, List.set_cons_zero, List.set_cons_succ, List.getElem?_cons_zero, List.getElem?_cons_succ, Bool.false_eq_true, if_true, if_false, reduceIte, Nat.reduceAdd, Nat.reduceSub, Nat.reduceLT, Nat.reduceLeDiff, Nat.lt_irrefl, evT, bin_add, bin_sub, mthOk_ins, attV_ins, cmpP_lt, cmpP_le, cmpP_gt, cmpP_ge, cmp_lt, cmp_le, cmp_gt, cmp_ge, cmp_eqi, cmp_eqs, cmp_eqb, cmp_nei, cmp_nes, cmp_neb, cmp_isn, cmp_nin, cmp_isb, cmp_nib, tru_bl, tru_int, isNon_lst, isNon_non, item_l, item_t, blt_lenl, blt_lent, blt_lend, blt_all, blt_any, mapM_t1, mapM_t2, embLM_t0, embLM_t1, embLM_t2, embLM_t3, Option.bind_some, Option.map_some, Bool.not_true, Bool.not_false, endC_rt, endC_nx, decide_eq_true_eq, List.mapM_nil, bt]
    · simp only [ev, evs, List.getElem?_cons_succ, List.getElem?_cons_zero, bind_ok, E.isOmit, if_true, Bool.false_eq_true, if_false, rd_t, optI_i, t0 (show b ≤ xs.length by omega), embLM_t1, List.length_cons, List.length_nil, Nat.reduceAdd, z1, md, bin_add, d0 hbl, md2]
    · simp only [ev, evs, List.getElem?_cons_succ, List.getElem?_cons_zero, bind_ok, E.isOmit, if_true, Bool.false_eq_true, if_false, rd_t, optI_i, t0 (show b ≤ xs.length by omega), embLM_t1, List.length_cons, List.length_nil, Nat.reduceAdd, z1, md, bin_add, d0 hbl, md2]
  have hrs : r = s3.length := hr.symm
  obtain ⟨l2, s5, e5, ⟨o7, rfl⟩, fs, hfl, hfs, S5⟩ := loopF_invA (src := .lst (.t (.lst (six xs o b)))) (g := .gn 7) (body := evS (PT.D true) (callN (PT.D true) rp fw (n + 3)) (rp (callN (PT.D true) rp fw (n + 3))) fw FB_L_bent_0) (six xs o b) id
    (fun i loc st' => (∃ o7, loc = [some (.c pk), some (.t (.lst R)), some (.t (.int (a : Int))), some (.t (.lst xs)), some (.t o), some (.t (.int (b : Int))), some (.c r), o7]) ∧ ∃ fs : List T, fs.length = i ∧ (∀ v ∈ fs, tame 3 v) ∧ Sat st [pk] [(r, fs)] st')
    (fun i loc st' _ => by rw [List.map_id]; exact Wk.lst.here i)
    (fun i z loc st' hz hI => by
      obtain ⟨⟨o7, rfl⟩, fs, hfl, hfs, S6⟩ := hI
      have hi : i < 6 := (List.getElem?_eq_some_iff.mp hz).1
      have hzt := six_tame (o := o) (b := b) hxn hot (by omega) z (List.mem_of_getElem? hz)
      have m1 : binV (PT.D true) (callN (PT.D true) rp fw (n + 3)) .Add (.t (.lst (R.take a))) (.t (.lst [z])) st' = .ok (.t (.lst (R.take a ++ [z]))) st' := bin_addl (by rw [sizeL]; simp; omega)
      have m2 : binV (PT.D true) (callN (PT.D true) rp fw (n + 3)) .Add (.t (.lst (R.take a ++ [z]))) (.t (.lst (R.drop (a + 1)))) st' = .ok (.t (.lst (R.take a ++ [z] ++ R.drop (a + 1)))) st' := bin_addl (by rw [sizeL]; simp; omega)
      refine ⟨_, rfl, [some (.c pk), some (.t (.lst R)), some (.t (.int (a : Int))), some (.t (.lst xs)), some (.t o), some (.t (.int (b : Int))), some (.c r), some (.t z)], st'.set r (.lst (fs ++ [.lst (R.take a ++ [z] ++ R.drop (a + 1))])), .inl ?_, ⟨_, rfl⟩, fs ++ [.lst (R.take a ++ [z] ++ R.drop (a + 1))], by simp [hfl], ?_, S6.putr⟩
      · unfold FB_L_bent_0
        simp only [evS]
        rw [cell_at (k := r) (xs := fs) rfl S6.get]
        simp only [id, ev, evs, List.set_cons_succ, List.set_cons_zero, List.getElem?_cons_succ, List.getElem?_cons_zero, bind_ok, E.isOmit, if_true, Bool.false_eq_true, if_false, rd_t, optI_i, t0 (show a ≤ R.length by omega), embLM_t1, List.length_cons, List.length_nil, Nat.reduceAdd, z1, m1, bin_add, d0 hal, m2, toFl_ok]
        exact app_to rfl S6.get (by rw [sizeL]; omega)
      · intro v hv
        rcases List.mem_append.mp hv with h | h
        · exact hfs v h
        · rw [List.mem_singleton.mp h]
          refine .lst (by simp; omega) fun y hy => ?_
          simp only [List.mem_append, List.mem_singleton] at hy
          rcases hy with (h | rfl) | h
          · exact ((hR y (List.mem_of_mem_take h)).tame (by omega)).up
          · exact hzt
          · exact ((hR y (List.mem_of_mem_drop h)).tame (by omega)).up)
    (m := Src.most (s3 ++ [.lst []]) (.lst (.t (.lst (six xs o b))))) (loc := [some (.c pk), some (.t (.lst R)), some (.t (.int (a : Int))), some (.t (.lst xs)), some (.t o), some (.t (.int (b : Int))), some (.c r), none]) (s := s3 ++ [.lst []]) (by rw [most_lst rfl]; simp [six]) ⟨⟨_, rfl⟩, [], rfl, by simp, S4⟩
  have hfl6 : fs.length = 6 := hfl
  have A5 : evS (PT.D true) (callN (PT.D true) rp fw (n + 3)) (rp (callN (PT.D true) rp fw (n + 3))) fw FS_L_bent_0 [some (.c pk), some (.t (.lst R)), some (.t (.int (a : Int))), some (.t (.lst xs)), some (.t o), some (.t (.int (b : Int))), some (.c r), none] (s3 ++ [.lst []]) = .nx [some (.c pk), some (.t (.lst R)), some (.t (.int (a : Int))), some (.t (.lst xs)), some (.t o), some (.t (.int (b : Int))), some (.c r), o7] s5 := by
    unfold FS_L_bent_0
    rw [evS, e6]
    exact e5
  -- the last six
  have zk : binV (PT.D true) (callN (PT.D true) rp fw (n + 3)) .Mult (.t (.lst [.int 0])) (.t (.int (R.length : Int))) s5 = .ok (.t (.lst (List.replicate R.length (.int 0)))) s5 := bin_rep (by omega)
  have bt : bltP .tuple [.lst R] = some (.tup R) := nrfl rfl
  have r1 : slV (.t (.lst R)) (some 1) none s5 = .ok (.t (.lst (R.drop 1))) s5 := by
    rw [slV_lt]
    have := cut_drop (xs := R) (j := 1) (by omega)
    rw [show ((1 : Nat) : Int) = 1 from rfl] at this
    rw [this]
  have hlc : ev (PT.D true) (callN (PT.D true) rp fw (n + 3)) (rp (callN (PT.D true) rp fw (n + 3))) LC_L_bent_0 [some (.c pk), some (.t (.lst R)), some (.t (.int (a : Int))), some (.t (.lst xs)), some (.t o), some (.t (.int (b : Int))), some (.c r), o7] s5 = .ok (.t (.lst (R.map fun y => .lst (itms y ++ [.int 0])))) s5 := by
    unfold LC_L_bent_0
    have g0 : evI (PT.D true) (callN (PT.D true) rp fw (n + 3)) (rp (callN (PT.D true) rp fw (n + 3))) (.iseq (.var 1)) [some (.c pk), some (.t (.lst R)), some (.t (.int (a : Int))), some (.t (.lst xs)), some (.t o), some (.t (.int (b : Int))), some (.c r), o7] s5 = .ok (.lst (.t (.lst R))) s5 := it_lst (by simp only [evS, ev, evs, evF, evI, put, putL, bindV, bind_ok, toFl_ok, seq_nx, seq_rt, putFl_ok, rd_t, emb_t, ofO_some, ofT_some, noex_ok, E.isOmit, List.map_cons, List.map_nil, List.replicate, List.cons_append, List.nil_append, List.length_cons, List.length_nil, List.set_cons_zero, List.set_cons_succ, List.getElem?_cons_zero, List.getElem?_cons_succ, Bool.false_eq_true, if_true, if_false, reduceIte, Nat.reduceAdd, Nat.reduceSub, Nat.reduceLT, Nat.reduceLeDiff, Nat.lt_irrefl, evT, bin_add, bin_sub, mthOk_ins, attV_ins, cmpP_lt, cmpP_le, cmpP_gt, cmpP_ge, cmp_lt, cmp_le, cmp_gt, cmp_ge, cmp_eqi, cmp_eqs, cmp_eqb, cmp_nei, cmp_nes, cmp_neb, cmp_isn, cmp_nin, cmp_isb, cmp_nib, tru_bl, tru_int, isNon_lst, isNon_non, item_l, item_t, blt_lenl, blt_lent, blt_lend, blt_all, blt_any, mapM_t1, mapM_t2, embLM_t0, embLM_t1, embLM_t2, embLM_t3, Option.bind_some, Option.map_some, Bool.not_true, Bool.not_false, endC_rt, endC_nx, decide_eq_true_eq, List.mapM_nil])
    have gw : Wk s5 (.lst (.t (.lst R))) (R.map id) := by rw [List.map_id]; exact Wk.lst
    refine lc_go R id (f := fun y => .lst (itms y ++ [.int 0])) g0 gw (by rw [sizeL]; omega) fun y hy acc => ?_
    obtain ⟨g1, g2, g3⟩ := (hR y hy).itms
    have bl : bltP .list [y] = some (.lst (itms y)) := by
      obtain ⟨ys, h | h⟩ := seq_cases g1 <;> rw [h] <;> exact nrfl rfl
    have ad : binV (PT.D true) (callN (PT.D true) rp fw (n + 3)) .Add (.t (.lst (itms y))) (.t (.lst [.int 0])) (s5 ++ [.lst acc]) = .ok (.t (.lst (itms y ++ [.int 0]))) (s5 ++ [.lst acc]) := bin_addl (by rw [sizeL]; simp; omega)
    simp only [bindE, bindG, bindGs, wipeL, items, evS, ev, evs, evF, evI, put, putL, bindV, bind_ok, toFl_ok, seq_nx, seq_rt, putFl_ok, rd_t, emb_t, ofO_some, ofT_some, noex_ok, E.isOmit, List.map_cons, List.map_nil, List.replicate, List.cons_append, List.nil_append, List.length_cons, List.length_nil, List.set_cons_zero, List.set_cons_succ, List.getElem?_cons_zero, List.getElem?_cons_succ, Bool.false_eq_true, if_true, if_false, reduceIte, Nat.reduceAdd, Nat.reduceSub, Nat.reduceLT, Nat.reduceLeDiff, Nat.lt_irrefl, evT, bin_add, bin_sub, mthOk_ins, attV_ins, cmpP_lt, cmpP_le, cmpP_gt, cmpP_ge, cmp_lt, cmp_le, cmp_gt, cmp_ge, cmp_eqi, cmp_eqs, cmp_eqb, cmp_nei, cmp_nes, cmp_neb, cmp_isn, cmp_nin, cmp_isb, cmp_nib, tru_bl, tru_int, isNon_lst, isNon_non, item_l, item_t, blt_lenl, blt_lent, blt_lend, blt_all, blt_any, mapM_t1, mapM_t2, embLM_t0, embLM_t1, embLM_t2, embLM_t3, Option.bind_some, Option.map_some, Bool.not_true, Bool.not_false, endC_rt, endC_nx, decide_eq_true_eq, List.mapM_nil, id, bl, z1, ad]
  have a1 : binV (PT.D true) (callN (PT.D true) rp fw (n + 3)) .Add (.t (.lst R)) (.t (.lst [.lst xs])) s5 = .ok (.t (.lst (R ++ [.lst xs]))) s5 := bin_addl (by rw [sizeL]; simp; omega)
  have a2 : binV (PT.D true) (callN (PT.D true) rp fw (n + 3)) .Add (.t (.lst R)) (.t (.lst [.lst (List.replicate R.length (.int 0))])) s5 = .ok (.t (.lst (R ++ [.lst (List.replicate R.length (.int 0))]))) s5 := bin_addl (by rw [sizeL]; simp; omega)
  have vE : ev (PT.D true) (callN (PT.D true) rp fw (n + 3)) (rp (callN (PT.D true) rp fw (n + 3))) (.lst false (.cons (.bin .Add (.var 1) (.lst false (.cons (.var 3) .nil))) (.cons (.sl (.var 1) (.int 1) .omit) (.cons (.lst false (.cons (.var 1) .nil)) (.cons LC_L_bent_0 (.cons (.bin .Add (.var 1) (.lst false (.cons (.bin .Mult (.lst false (.cons (.int 0) .nil)) (.blt .len (.cons (.var 1) .nil))) .nil))) (.cons (.blt .tuple (.cons (.var 1) .nil)) .nil))))))) [some (.c pk), some (.t (.lst R)), some (.t (.int (a : Int))), some (.t (.lst xs)), some (.t o), some (.t (.int (b : Int))), some (.c r), o7] s5 = .ok (.t (.lst [.lst (R ++ [.lst xs]), .lst (R.drop 1), .lst [.lst R], .lst (R.map fun y => .lst (itms y ++ [.int 0])), .lst (R ++ [.lst (List.replicate R.length (.int 0))]), .tup R])) s5 := by
    refine ev_l (ys := [.lst (R ++ [.lst xs]), .lst (R.drop 1), .lst [.lst R], .lst (R.map fun y => .lst (itms y ++ [.int 0])), .lst (R ++ [.lst (List.replicate R.length (.int 0))]), .tup R]) (evs_k (y := .t (.lst (R ++ [.lst xs]))) ?_ (evs_k (y := .t (.lst (R.drop 1))) ?_ (evs_k (y := .t (.lst [.lst R])) ?_ (evs_k hlc (evs_k (y := .t (.lst (R ++ [.lst (List.replicate R.length (.int 0))]))) ?_ (evs_k (y := .t (.tup R)) ?_ evs_n)))))) (by simp)
    · simp only [evS, ev, evs, evF, evI, put, putL, bindV, bind_ok, toFl_ok, seq_nx, seq_rt, putFl_ok, rd_t, emb_t, ofO_some, ofT_some, noex_ok, E.isOmit, List.map_cons, List.map_nil, List.replicate, List.cons_append, List.nil_append, List.length_cons, List.length_nil, List.set_cons_zero, List.set_cons_succ, List.getElem?_cons_zero, List.getElem?_cons_succ, Bool.false_eq_true, if_true, if_false, reduceIte, Nat.reduceAdd, Nat.reduceSub, Nat.reduceLT, Nat.reduceLeDiff, Nat.lt_irrefl, evT, bin_add, bin_sub, mthOk_ins, attV_ins, cmpP_lt, cmpP_le, cmpP_gt, cmpP_ge, cmp_lt, cmp_le, cmp_gt, cmp_ge, cmp_eqi, cmp_eqs, cmp_eqb, cmp_nei, cmp_nes, cmp_neb, cmp_isn, cmp_nin, cmp_isb, cmp_nib, tru_bl, tru_int, isNon_lst, isNon_non, item_l, item_t, blt_lenl, blt_lent, blt_lend, blt_all, blt_any, mapM_t1, mapM_t2, embLM_t0, embLM_t1, embLM_t2, embLM_t3, Option.bind_some, Option.map_some, Bool.not_true, Bool.not_false, endC_rt, endC_nx, decide_eq_true_eq, List.mapM_nil, z1, a1]
    · simp only [evS, ev, evs, evF, evI, put, putL, bindV, bind_ok, toFl_ok, seq_nx, seq_rt, putFl_ok, rd_t, emb_t, ofO_some, ofT_some, noex_ok, E.isOmit, List.map_cons, List.map_nil, List.replicate, List.cons_append, List.nil_append, List.length_cons, List.length_nil, List.set_cons_zero, List.set_cons_succ, List.getElem?_cons_zero, List.getElem?_cons_succ, Bool.false_eq_true, if_true, if_false, reduceIte, Nat.reduceAdd, Nat.reduceSub, Nat.reduceLT, Nat.reduceLeDiff, Nat.lt_irrefl, evT, bin_add, bin_sub, mthOk_ins, attV_ins, cmpP_lt, cmpP_le, cmpP_gt, cmpP_ge, cmp_lt, cmp_le, cmp_gt, cmp_ge, cmp_eqi, cmp_eqs, cmp_eqb, cmp_nei, cmp_nes, cmp_neb, cmp_isn, cmp_nin, cmp_isb, cmp_nib, tru_bl, tru_int, isNon_lst, isNon_non, item_l, item_t, blt_lenl, blt_lent, blt_lend, blt_all, blt_any, mapM_t1, mapM_t2, embLM_t0, embLM_t1, embLM_t2, embLM_t3, Option.bind_some, Option.map_some, Bool.not_true, Bool.not_false, endC_rt, endC_nx, decide_eq_true_eq, List.mapM_nil, optI_i, r1]
    · simp only [evS, ev, evs, evF, evI, put, putL, bindV, bind_ok, toFl_ok, seq_nx, seq_rt, putFl_ok, rd_t, emb_t, ofO_some, ofT_some, noex_ok, E.isOmit, List.map_cons, List.map_nil, List.replicate, List.cons_append, List.nil_append, List.length_cons, List.length_nil, List.set_cons_zero, List.set_cons_succ, List.getElem?_cons_zero, List.getElem?_cons_succ, Bool.false_eq_true, if_true, if_false, reduceIte, Nat.reduceAdd, Nat.reduceSub, Nat.reduceLT, Nat.reduceLeDiff, Nat.lt_irrefl, evT, bin_add, bin_sub, mthOk_ins, attV_ins, cmpP_lt, cmpP_le, cmpP_gt, cmpP_ge, cmp_lt, cmp_le, cmp_gt, cmp_ge, cmp_eqi, cmp_eqs, cmp_eqb, cmp_nei, cmp_nes, cmp_neb, cmp_isn, cmp_nin, cmp_isb, cmp_nib, tru_bl, tru_int, isNon_lst, isNon_non, item_l, item_t, blt_lenl, blt_lent, blt_lend, blt_all, blt_any, mapM_t1, mapM_t2, embLM_t0, embLM_t1, embLM_t2, embLM_t3, Option.bind_some, Option.map_some, Bool.not_true, Bool.not_false, endC_rt, endC_nx, decide_eq_true_eq, List.mapM_nil, z1]
    · simp only [evS, ev, evs, evF, evI, put, putL, bindV, bind_ok, toFl_ok, seq_nx, seq_rt, putFl_ok, rd_t, emb_t, ofO_some, ofT_some, noex_ok, E.isOmit, List.map_cons, List.map_nil, List.replicate, List.cons_append, List.nil_append, List.length_cons, List.length_nil, List.set_cons_zero, List.set_cons_succ, List.getElem?_cons_zero, List.getElem?_cons_succ, Bool.false_eq_true, if_true, if_false, reduceIte, Nat.reduceAdd, Nat.reduceSub, Nat.reduceLT, Nat.reduceLeDiff, Nat.lt_irrefl, evT, bin_add, bin_sub, mthOk_ins, attV_ins, cmpP_lt, cmpP_le, cmpP_gt, cmpP_ge, cmp_lt, cmp_le, cmp_gt, cmp_ge, cmp_eqi, cmp_eqs, cmp_eqb, cmp_nei, cmp_nes, cmp_neb, cmp_isn, cmp_nin, cmp_isb, cmp_nib, tru_bl, tru_int, isNon_lst, isNon_non, item_l, item_t, blt_lenl, blt_lent, blt_lend, blt_all, blt_any, mapM_t1, mapM_t2, embLM_t0, embLM_t1, embLM_t2, embLM_t3, Option.bind_some, Option.map_some, Bool.not_true, Bool.not_false, endC_rt, endC_nx, decide_eq_true_eq, List.mapM_nil, z1, zk, a2]
    · simp only [evS, ev, evs, evF, evI, put, putL, bindV, bind_ok, toFl_ok, seq_nx, seq_rt, putFl_ok, rd_t, emb_t, ofO_some, ofT_some, noex_ok, E.isOmit, List.map_cons, List.map_nil, List.replicate, List.cons_append, List.nil_append, List.length_cons, List.length_nil, List.set_cons_zero, List.set_cons_succ, List.getElem?_cons_zero, List.getElem?_cons_succ, Bool.false_eq_true, if_true, if_false, reduceIte, Nat.reduceAdd, Nat.reduceSub, Nat.reduceLT, Nat.reduceLeDiff, Nat.lt_irrefl, evT, bin_add, bin_sub, mthOk_ins, attV_ins, cmpP_lt, cmpP_le, cmpP_gt, cmpP_ge, cmp_lt, cmp_le, cmp_gt, cmp_ge, cmp_eqi, cmp_eqs, cmp_eqb, cmp_nei, cmp_nes, cmp_neb, cmp_isn, cmp_nin, cmp_isb, cmp_nib, tru_bl, tru_int, isNon_lst, isNon_non, item_l, item_t, blt_lenl, blt_lent, blt_lend, blt_all, blt_any, mapM_t1, mapM_t2, embLM_t0, embLM_t1, embLM_t2, embLM_t3, Option.bind_some, Option.map_some, Bool.not_true, Bool.not_false, endC_rt, endC_nx, decide_eq_true_eq, List.mapM_nil, bt]
  have aF := bin_addc (D := (PT.D true)) (cf := callN (PT.D true) rp fw (n + 3)) (ys := [.lst (R ++ [.lst xs]), .lst (R.drop 1), .lst [.lst R], .lst (R.map fun y => .lst (itms y ++ [.int 0])), .lst (R ++ [.lst (List.replicate R.length (.int 0))]), .tup R]) S5.get (by rw [sizeL]; simp; omega)
  have tR : ∀ y ∈ R, tame 2 y := fun y hy => ((hR y hy).tame (by omega)).up
  have tx : tame 2 (.lst xs) := .lst (by omega) fun y hy => (hxn y hy).tame
  obtain ⟨s', w1, w2⟩ := S5.ret (x := .lst (fs ++ [.lst (R ++ [.lst xs]), .lst (R.drop 1), .lst [.lst R], .lst (R.map fun y => .lst (itms y ++ [.int 0])), .lst (R ++ [.lst (List.replicate R.length (.int 0))]), .tup R]))
  refine ⟨.lst (fs ++ [.lst (R ++ [.lst xs]), .lst (R.drop 1), .lst [.lst R], .lst (R.map fun y => .lst (itms y ++ [.int 0])), .lst (R ++ [.lst (List.replicate R.length (.int 0))]), .tup R]), s', ?_, w2, fs ++ [.lst (R ++ [.lst xs]), .lst (R.drop 1), .lst [.lst R], .lst (R.map fun y => .lst (itms y ++ [.int 0])), .lst (R ++ [.lst (List.replicate R.length (.int 0))]), .tup R], rfl, ?_, fun v hv => ?_⟩
  · rw [← w1]
    unfold S_L_bent
    rw [seq_go A1, seq_go A2, seq_go A3]
    rw [seq_go (l1 := [some (.c pk), some (.t (.lst R)), some (.t (.int (a : Int))), some (.t (.lst xs)), some (.t o), some (.t (.int (b : Int))), some (.c r), none]) (s1 := s3 ++ [.lst []]) (by rw [← hr]; simp only [evS, ev, evs, evF, evI, put, putL, bindV, bind_ok, toFl_ok, seq_nx, seq_rt, putFl_ok, rd_t, emb_t, ofO_some, ofT_some, noex_ok, E.isOmit, List.map_cons, List.map_nil, List.replicate, List.cons_append, List.nil_append, List.length_cons, List.length_nil, List.set_cons_zero, List.set_cons_succ, List.getElem?_cons_zero, List.getElem?_cons_succ, Bool.false_eq_true, if_true, if_false, reduceIte, Nat.reduceAdd, Nat.reduceSub, Nat.reduceLT, Nat.reduceLeDiff, Nat.lt_irrefl, evT, bin_add, bin_sub, mthOk_ins, attV_ins, cmpP_lt, cmpP_le, cmpP_gt, cmpP_ge, cmp_lt, cmp_le, cmp_gt, cmp_ge, cmp_eqi, cmp_eqs, cmp_eqb, cmp_nei, cmp_nes, cmp_neb, cmp_isn, cmp_nin, cmp_isb, cmp_nib, tru_bl, tru_int, isNon_lst, isNon_non, item_l, item_t, blt_lenl, blt_lent, blt_lend, blt_all, blt_any, mapM_t1, mapM_t2, embLM_t0, embLM_t1, embLM_t2, embLM_t3, Option.bind_some, Option.map_some, Bool.not_true, Bool.not_false, endC_rt, endC_nx, decide_eq_true_eq, List.mapM_nil, z0])]
    rw [seq_go A5]
    have v6 : ev (PT.D true) (callN (PT.D true) rp fw (n + 3)) (rp (callN (PT.D true) rp fw (n + 3))) (.var 6) [some (.c pk), some (.t (.lst R)), some (.t (.int (a : Int))), some (.t (.lst xs)), some (.t o), some (.t (.int (b : Int))), some (.c r), o7] s5 = .ok (.c r) s5 := by simp only [ev, List.getElem?_cons_succ, List.getElem?_cons_zero]
    rw [evS, ev, v6, bind_ok, vE, bind_ok, aF]
    simp only [toFl_ok, emb_t, Bool.false_eq_true, if_false]
  · simp; omega
  · rcases List.mem_append.mp hv with h | h
    · exact hfs v h
    · simp only [List.mem_cons, List.not_mem_nil, or_false] at h
      rcases h with rfl | rfl | rfl | rfl | rfl | rfl
      · exact .lst (by simp; omega) fun y hy => by
          rcases List.mem_append.mp hy with h | h
          · exact tR y h
          · rw [List.mem_singleton.mp h]; exact tx
      · exact .lst (by simp; omega) fun y hy => tR y (List.mem_of_mem_drop hy)
      · exact .lst (by simp) fun y hy => by
          rw [List.mem_singleton.mp hy]
          exact .lst (by omega) fun y hy => (hR y hy).tame (by omega)
      · exact .lst (by simp; omega) fun y hy => by
          obtain ⟨z, hz, rfl⟩ := List.mem_map.mp hy
          obtain ⟨g1, g2, g3⟩ := (hR z hz).itms
          exact .lst (by simp; omega) fun y hy => by
            rcases List.mem_append.mp hy with h | h
            · exact (g3 y h).tame
            · rw [List.mem_singleton.mp h]; exact tame_0
      · exact .lst (by simp; omega) fun y hy => by
          rcases List.mem_append.mp hy with h | h
          · exact tR y h
          · rw [List.mem_singleton.mp h]
            exact .lst (by simp; omega) fun y hy => by rw [List.eq_of_mem_replicate hy]; exact tame_0
      · exact .tup (by omega) tR
end
end Tw
set_option maxHeartbeats 4000000
namespace Tw
open PySem L2
def dK : T := .dct [(.inl 0, .lst [.int 1])]
def Vl (t : T) : Prop := tame 3 t ∨ t = dK
theorem Vl.okN {t : T} (h : Vl t) (hc : ((PT.D true)).cls 55 = true) : okN (PT.D true) 2 t := by
  rcases h with h | rfl
  · exact tame_okN hc 2 h
  · exact ⟨rfl, by decide, fun y hy => by simp [dK, Tw.itms] at hy⟩
def cL1 : List T := [.lst (List.replicate 5 (.lst (List.replicate 5 (.int 0)))), .lst (List.replicate 4 (.lst (List.replicate 4 (.int 0)))), .lst [.lst [.int 5]], .tup [.tup [mkR 1 2]], .lst [.lst [.bl true]], .lst [.int 1], .lst [.lst [.int 1, .int 2]]]
def cL2 : List T := [.non, .int 0, .str "", .str "ab", .dct [], .lst [], .tup [], .lst [.lst []], dK, .bl true, mkR 1 1, .lst [.lst [.int 1], .lst [.int 2]], .lst (List.replicate 4 (.int 0)), .tup [.int 1, .int 2, .int 3, .int 4], .lst (List.replicate 9 (.int 0)), .lst (List.replicate 16 (.int 0)), .lst (List.replicate 25 (.int 0)), .lst [.non]]
theorem mk_12 : mkR 1 2 = ratT 1 2 := by
  have h : cmn 1 2 = 1 := by decide +kernel
  unfold mkR
  rw [h, fdiv_one, fdiv_one]
theorem mk_11 : mkR 1 1 = ratT 1 1 := mkR_int 1
theorem t_rep {d k : Nat} {x : T} (hk : k ≤ 40) (h : tame d x) : tame (d + 1) (.lst (List.replicate k x)) := .lst (by simpa using hk) fun y hy => by rw [List.eq_of_mem_replicate hy]; exact h
theorem t_i {d : Nat} {i : Int} (h : i.natAbs < 100) : tame d (.int i) := tame_int (by unfold small; exact Nat.lt_trans h (by decide))
theorem cL1_ok : ∀ v ∈ cL1, Vl v := by
  intro v hv
  simp only [cL1, List.mem_cons, List.not_mem_nil, or_false] at hv
  rcases hv with rfl | rfl | rfl | rfl | rfl | rfl | rfl
  · exact .inl (t_rep (by decide) (t_rep (d := 1) (by decide) tame_0))
  · exact .inl (t_rep (by decide) (t_rep (d := 1) (by decide) tame_0))
  · exact .inl (.lst (by decide) (by simp; exact .lst (by decide) (by simp; exact t_i (by decide))))
  · rw [mk_12]; exact .inl (.tup (by simp) (by simp; exact .tup (by simp) (by simp; exact tame_rat (by unfold small; decide) (by unfold small; decide))))
  · exact .inl (.lst (by decide) (by simp; exact .lst (by decide) (by simp; exact tame_bl)))
  · exact .inl (.lst (by decide) (by simp; exact t_i (by decide)))
  · exact .inl (.lst (by decide) (by simp; exact .lst (by decide) (by simp; exact ⟨t_i (by decide), t_i (by decide)⟩)))
theorem cL2_ok : ∀ v ∈ cL2, Vl v := by
  intro v hv
  simp only [cL2, List.mem_cons, List.not_mem_nil, or_false] at hv
  rcases hv with rfl | rfl | rfl | rfl | rfl | rfl | rfl | rfl | rfl | rfl | rfl | rfl | rfl | rfl | rfl | rfl | rfl | rfl
  · exact .inl tame_non
  · exact .inl tame_0
  · exact .inl (tame_str (by decide +kernel))
  · exact .inl (tame_str (by decide +kernel))
  · exact .inl tame_d0
  · exact .inl (.lst (by decide) (by simp))
  · exact .inl (.tup (by decide) (by simp))
  · exact .inl (.lst (by decide) (by simp; exact .lst (by decide) (by simp)))
  · exact .inr rfl
  · exact .inl tame_bl
  · rw [mk_11]; exact .inl (tame_rat (by unfold small; decide) (by unfold small; decide))
  · exact .inl (.lst (by decide) (by simp; exact ⟨.lst (by decide) (by simp; exact t_i (by decide)), .lst (by decide) (by simp; exact t_i (by decide))⟩))
  · exact .inl (t_rep (by decide) tame_0)
  · exact .inl (.tup (by decide) (by simp; exact ⟨t_i (by decide), t_i (by decide), t_i (by decide), t_i (by decide)⟩))
  · exact .inl (t_rep (by decide) tame_0)
  · exact .inl (t_rep (by decide) tame_0)
  · exact .inl (t_rep (by decide) tame_0)
  · exact .inl (.lst (by decide) (by simp; exact tame_non))
section
variable {rp : CF → Store → T → Out Str} {fw n : Nat} {s : Store}
theorem cL1_ev {loc : Loc} : ev (PT.D true) (callN (PT.D true) rp fw (n + 6)) (rp (callN (PT.D true) rp fw (n + 6))) (.lst false (.cons (.bin .Mult (.lst false (.cons (.bin .Mult (.lst false (.cons (.int 0) .nil)) (.int 5)) .nil)) (.int 5)) (.cons (.bin .Mult (.lst false (.cons (.bin .Mult (.lst false (.cons (.int 0) .nil)) (.int 4)) .nil)) (.int 4)) (.cons (.lst false (.cons (.lst false (.cons (.int 5) .nil)) .nil)) (.cons (.tup (.cons (.tup (.cons (.mk 55 (.cons (.int 1) (.cons (.int 2) .nil))) .nil)) .nil)) (.cons (.lst false (.cons (.lst false (.cons (.bl true) .nil)) .nil)) (.cons (.lst false (.cons (.int 1) .nil)) (.cons (.lst false (.cons (.lst false (.cons (.int 1) (.cons (.int 2) .nil))) .nil)) .nil)))))))) loc s = .ok (.t (.lst cL1)) s := by
  have z0 : (0 ≤ sizeLine) = True := by simp
  have z1 : (1 ≤ sizeLine) = True := by rw [sizeL]; simp
  have z2 : (2 ≤ sizeLine) = True := by rw [sizeL]; simp
  have z4 : (4 ≤ sizeLine) = True := by rw [sizeL]; simp
  have em4 : ∀ a b c d : T, embLM s [.t a, .t b, .t c, .t d] = .ok [a, b, c, d] s := fun _ _ _ _ => nrfl rfl
  have br : ∀ (m : Nat) (x : T), m ≤ 100 → binV (PT.D true) (callN (PT.D true) rp fw (n + 6)) .Mult (.t (.lst [x])) (.t (.int (m : Int))) s = .ok (.t (.lst (List.replicate m x))) s := fun m x h => bin_rep h
  have br4 : ∀ x : T, binV (PT.D true) (callN (PT.D true) rp fw (n + 6)) .Mult (.t (.lst [x])) (.t (.int 4)) s = .ok (.t (.lst (List.replicate 4 x))) s := fun x => br 4 x (by decide)
  have br5 : ∀ x : T, binV (PT.D true) (callN (PT.D true) rp fw (n + 6)) .Mult (.t (.lst [x])) (.t (.int 5)) s = .ok (.t (.lst (List.replicate 5 x))) s := fun x => br 5 x (by decide)
  have br9 : ∀ x : T, binV (PT.D true) (callN (PT.D true) rp fw (n + 6)) .Mult (.t (.lst [x])) (.t (.int 9)) s = .ok (.t (.lst (List.replicate 9 x))) s := fun x => br 9 x (by decide)
  have br16 : ∀ x : T, binV (PT.D true) (callN (PT.D true) rp fw (n + 6)) .Mult (.t (.lst [x])) (.t (.int 16)) s = .ok (.t (.lst (List.replicate 16 x))) s := fun x => br 16 x (by decide)
  have br25 : ∀ x : T, binV (PT.D true) (callN (PT.D true) rp fw (n + 6)) .Mult (.t (.lst [x])) (.t (.int 25)) s = .ok (.t (.lst (List.replicate 25 x))) s := fun x => br 25 x (by decide)
  have i2 := ratio_init_ok (D := (PT.D true)) (rp := rp) (fw := fw) (n := n + 4) (s := s) (a := 1) (b := 2) (by decide) (by decide)
  have i1 := ratio_init_ok (D := (PT.D true)) (rp := rp) (fw := fw) (n := n + 4) (s := s) (a := 1) (b := 1) (by decide) (by decide)
  unfold cL1
  refine ev_l (ys := [.lst (List.replicate 5 (.lst (List.replicate 5 (.int 0)))), .lst (List.replicate 4 (.lst (List.replicate 4 (.int 0)))), .lst [.lst [.int 5]], .tup [.tup [mkR 1 2]], .lst [.lst [.bl true]], .lst [.int 1], .lst [.lst [.int 1, .int 2]]]) (evs_k (y := .t (.lst (List.replicate 5 (.lst (List.replicate 5 (.int 0)))))) ?_ (evs_k (y := .t (.lst (List.replicate 4 (.lst (List.replicate 4 (.int 0)))))) ?_ (evs_k (y := .t (.lst [.lst [.int 5]])) ?_ (evs_k (y := .t (.tup [.tup [mkR 1 2]])) ?_ (evs_k (y := .t (.lst [.lst [.bl true]])) ?_ (evs_k (y := .t (.lst [.int 1])) ?_ (evs_k (y := .t (.lst [.lst [.int 1, .int 2]])) ?_ evs_n))))))) (by simp)
  · have b2 := br5 (.lst (List.replicate 5 (.int 0)))
    have b1 := br5 (.int 0)
    generalize hX : List.replicate 5 (T.lst (List.replicate 5 (.int 0))) = X at b2 ⊢
    generalize List.replicate 5 (T.int 0) = Y at b1 b2
    simp only [evS, ev, evs, evF, evI, put, putL, bindV, bind_ok, toFl_ok, seq_nx, seq_rt, putFl_ok, rd_t, emb_t, ofO_some, ofT_some, noex_ok, E.isOmit, List.map_cons, List.map_nil, List.replicate, List.cons_append, List.nil_append, List.length_cons, List.length_nil, List.set_cons_zero, List.set_cons_succ, List.getElem?_cons_zero, List.getElem?_cons_succ, Bool.false_eq_true, if_true, if_false, reduceIte, Nat.reduceAdd, Nat.reduceSub, Nat.reduceLT, Nat.reduceLeDiff, Nat.lt_irrefl, evT, bin_add, bin_sub, mthOk_ins, attV_ins, cmpP_lt, cmpP_le, cmpP_gt, cmpP_ge, cmp_lt, cmp_le, cmp_gt, cmp_ge, cmp_eqi, cmp_eqs, cmp_eqb, cmp_nei, cmp_nes, cmp_neb, cmp_isn, cmp_nin, cmp_isb, cmp_nib, tru_bl, tru_int, isNon_lst, isNon_non, item_l, item_t, blt_lenl, blt_lent, blt_lend, blt_all, blt_any, mapM_t1, mapM_t2, embLM_t0, embLM_t1, embLM_t2, embLM_t3, Option.bind_some, Option.map_some, Bool.not_true, Bool.not_false, endC_rt, endC_nx, decide_eq_true_eq, List.mapM_nil, z1, b1, b2]
  · have b2 := br4 (.lst (List.replicate 4 (.int 0)))
    have b1 := br4 (.int 0)
    generalize hX : List.replicate 4 (T.lst (List.replicate 4 (.int 0))) = X at b2 ⊢
    generalize List.replicate 4 (T.int 0) = Y at b1 b2
    simp only [evS, ev, evs, evF, evI, put, putL, bindV, bind_ok, toFl_ok, seq_nx, seq_rt, putFl_ok, rd_t, emb_t, ofO_some, ofT_some, noex_ok, E.isOmit, List.map_cons, List.map_nil, List.replicate, List.cons_append, List.nil_append, List.length_cons, List.length_nil, List.set_cons_zero, List.set_cons_succ, List.getElem?_cons_zero, List.getElem?_cons_succ, Bool.false_eq_true, if_true, if_false, reduceIte, Nat.reduceAdd, Nat.reduceSub, Nat.reduceLT, Nat.reduceLeDiff, Nat.lt_irrefl, evT, bin_add, bin_sub, mthOk_ins, attV_ins, cmpP_lt, cmpP_le, cmpP_gt, cmpP_ge, cmp_lt, cmp_le, cmp_gt, cmp_ge, cmp_eqi, cmp_eqs, cmp_eqb, cmp_nei, cmp_nes, cmp_neb, cmp_isn, cmp_nin, cmp_isb, cmp_nib, tru_bl, tru_int, isNon_lst, isNon_non, item_l, item_t, blt_lenl, blt_lent, blt_lend, blt_all, blt_any, mapM_t1, mapM_t2, embLM_t0, embLM_t1, embLM_t2, embLM_t3, Option.bind_some, Option.map_some, Bool.not_true, Bool.not_false, endC_rt, endC_nx, decide_eq_true_eq, List.mapM_nil, z1, b1, b2]
  · simp only [evS, ev, evs, evF, evI, put, putL, bindV, bind_ok, toFl_ok, seq_nx, seq_rt, putFl_ok, rd_t, emb_t, ofO_some, ofT_some, noex_ok, E.isOmit, List.map_cons, List.map_nil, List.replicate, List.cons_append, List.nil_append, List.length_cons, List.length_nil, List.set_cons_zero, List.set_cons_succ, List.getElem?_cons_zero, List.getElem?_cons_succ, Bool.false_eq_true, if_true, if_false, reduceIte, Nat.reduceAdd, Nat.reduceSub, Nat.reduceLT, Nat.reduceLeDiff, Nat.lt_irrefl, evT, bin_add, bin_sub, mthOk_ins, attV_ins, cmpP_lt, cmpP_le, cmpP_gt, cmpP_ge, cmp_lt, cmp_le, cmp_gt, cmp_ge, cmp_eqi, cmp_eqs, cmp_eqb, cmp_nei, cmp_nes, cmp_neb, cmp_isn, cmp_nin, cmp_isb, cmp_nib, tru_bl, tru_int, isNon_lst, isNon_non, item_l, item_t, blt_lenl, blt_lent, blt_lend, blt_all, blt_any, mapM_t1, mapM_t2, embLM_t0, embLM_t1, embLM_t2, embLM_t3, Option.bind_some, Option.map_some, Bool.not_true, Bool.not_false, endC_rt, endC_nx, decide_eq_true_eq, List.mapM_nil, z0, z1, z2, z4, em4]
  · simp only [evS, ev, evs, evF, evI, put, putL, bindV, bind_ok, toFl_ok, seq_nx, seq_rt, putFl_ok, rd_t, emb_t, ofO_some, ofT_some, noex_ok, E.isOmit, List.map_cons, List.map_nil, List.replicate, List.cons_append, List.nil_append, List.length_cons, List.length_nil, List.set_cons_zero, List.set_cons_succ, List.getElem?_cons_zero, List.getElem?_cons_succ, Bool.false_eq_true, if_true, if_false, reduceIte, Nat.reduceAdd, Nat.reduceSub, Nat.reduceLT, Nat.reduceLeDiff, Nat.lt_irrefl, evT, bin_add, bin_sub, mthOk_ins, attV_ins, cmpP_lt, cmpP_le, cmpP_gt, cmpP_ge, cmp_lt, cmp_le, cmp_gt, cmp_ge, cmp_eqi, cmp_eqs, cmp_eqb, cmp_nei, cmp_nes, cmp_neb, cmp_isn, cmp_nin, cmp_isb, cmp_nib, tru_bl, tru_int, isNon_lst, isNon_non, item_l, item_t, blt_lenl, blt_lent, blt_lend, blt_all, blt_any, mapM_t1, mapM_t2, embLM_t0, embLM_t1, embLM_t2, embLM_t3, Option.bind_some, Option.map_some, Bool.not_true, Bool.not_false, endC_rt, endC_nx, decide_eq_true_eq, List.mapM_nil, ini_55, fl_ratios_Ratio___init__, i2, mkEnd_app, Cell.tree, mkR, ratT, z1]
  · simp only [evS, ev, evs, evF, evI, put, putL, bindV, bind_ok, toFl_ok, seq_nx, seq_rt, putFl_ok, rd_t, emb_t, ofO_some, ofT_some, noex_ok, E.isOmit, List.map_cons, List.map_nil, List.replicate, List.cons_append, List.nil_append, List.length_cons, List.length_nil, List.set_cons_zero, List.set_cons_succ, List.getElem?_cons_zero, List.getElem?_cons_succ, Bool.false_eq_true, if_true, if_false, reduceIte, Nat.reduceAdd, Nat.reduceSub, Nat.reduceLT, Nat.reduceLeDiff, Nat.lt_irrefl, evT, bin_add, bin_sub, mthOk_ins, attV_ins, cmpP_lt, cmpP_le, cmpP_gt, cmpP_ge, cmp_lt, cmp_le, cmp_gt, cmp_ge, cmp_eqi, cmp_eqs, cmp_eqb, cmp_nei, cmp_nes, cmp_neb, cmp_isn, cmp_nin, cmp_isb, cmp_nib, tru_bl, tru_int, isNon_lst, isNon_non, item_l, item_t, blt_lenl, blt_lent, blt_lend, blt_all, blt_any, mapM_t1, mapM_t2, embLM_t0, embLM_t1, embLM_t2, embLM_t3, Option.bind_some, Option.map_some, Bool.not_true, Bool.not_false, endC_rt, endC_nx, decide_eq_true_eq, List.mapM_nil, z0, z1, z2, z4, em4]
  · simp only [evS, ev, evs, evF, evI, put, putL, bindV, bind_ok, toFl_ok, seq_nx, seq_rt, putFl_ok, rd_t, emb_t, ofO_some, ofT_some, noex_ok, E.isOmit, List.map_cons, List.map_nil, List.replicate, List.cons_append, List.nil_append, List.length_cons, List.length_nil, List.set_cons_zero, List.set_cons_succ, List.getElem?_cons_zero, List.getElem?_cons_succ, Bool.false_eq_true, if_true, if_false, reduceIte, Nat.reduceAdd, Nat.reduceSub, Nat.reduceLT, Nat.reduceLeDiff, Nat.lt_irrefl, evT, bin_add, bin_sub, mthOk_ins, attV_ins, cmpP_lt, cmpP_le, cmpP_gt, cmpP_ge, cmp_lt, cmp_le, cmp_gt, cmp_ge, cmp_eqi, cmp_eqs, cmp_eqb, cmp_nei, cmp_nes, cmp_neb, cmp_isn, cmp_nin, cmp_isb, cmp_nib, tru_bl, tru_int, isNon_lst, isNon_non, item_l, item_t, blt_lenl, blt_lent, blt_lend, blt_all, blt_any, mapM_t1, mapM_t2, embLM_t0, embLM_t1, embLM_t2, embLM_t3, Option.bind_some, Option.map_some, Bool.not_true, Bool.not_false, endC_rt, endC_nx, decide_eq_true_eq, List.mapM_nil, z0, z1, z2, z4, em4]
  · simp only [evS, ev, evs, evF, evI, put, putL, bindV, bind_ok, toFl_ok, seq_nx, seq_rt, putFl_ok, rd_t, emb_t, ofO_some, ofT_some, noex_ok, E.isOmit, List.map_cons, List.map_nil, List.replicate, List.cons_append, List.nil_append, List.length_cons, List.length_nil, List.set_cons_zero, List.set_cons_succ, List.getElem?_cons_zero, List.getElem?_cons_succ, Bool.false_eq_true, if_true, if_false, reduceIte, Nat.reduceAdd, Nat.reduceSub, Nat.reduceLT, Nat.reduceLeDiff, Nat.lt_irrefl, evT, bin_add, bin_sub, mthOk_ins, attV_ins, cmpP_lt, cmpP_le, cmpP_gt, cmpP_ge, cmp_lt, cmp_le, cmp_gt, cmp_ge, cmp_eqi, cmp_eqs, cmp_eqb, cmp_nei, cmp_nes, cmp_neb, cmp_isn, cmp_nin, cmp_isb, cmp_nib, tru_bl, tru_int, isNon_lst, isNon_non, item_l, item_t, blt_lenl, blt_lent, blt_lend, blt_all, blt_any, mapM_t1, mapM_t2, embLM_t0, embLM_t1, embLM_t2, embLM_t3, Option.bind_some, Option.map_some, Bool.not_true, Bool.not_false, endC_rt, endC_nx, decide_eq_true_eq, List.mapM_nil, z0, z1, z2, z4, em4]
theorem cL2_ev {loc : Loc} : ev (PT.D true) (callN (PT.D true) rp fw (n + 6)) (rp (callN (PT.D true) rp fw (n + 6))) (.lst false (.cons .non (.cons (.int 0) (.cons (.str "") (.cons (.str "ab") (.cons (.dct [] .nil) (.cons (.lst false .nil) (.cons (.tup .nil) (.cons (.lst false (.cons (.lst false .nil) .nil)) (.cons (.dct [.inl 0] (.cons (.lst false (.cons (.int 1) .nil)) .nil)) (.cons (.bl true) (.cons (.mk 55 (.cons (.int 1) .nil)) (.cons (.lst false (.cons (.lst false (.cons (.int 1) .nil)) (.cons (.lst false (.cons (.int 2) .nil)) .nil))) (.cons (.bin .Mult (.lst false (.cons (.int 0) .nil)) (.int 4)) (.cons (.tup (.cons (.int 1) (.cons (.int 2) (.cons (.int 3) (.cons (.int 4) .nil))))) (.cons (.bin .Mult (.lst false (.cons (.int 0) .nil)) (.int 9)) (.cons (.bin .Mult (.lst false (.cons (.int 0) .nil)) (.int 16)) (.cons (.bin .Mult (.lst false (.cons (.int 0) .nil)) (.int 25)) (.cons (.lst false (.cons .non .nil)) .nil))))))))))))))))))) loc s = .ok (.t (.lst cL2)) s := by
  have z0 : (0 ≤ sizeLine) = True := by simp
  have z1 : (1 ≤ sizeLine) = True := by rw [sizeL]; simp
  have z2 : (2 ≤ sizeLine) = True := by rw [sizeL]; simp
  have z4 : (4 ≤ sizeLine) = True := by rw [sizeL]; simp
  have em4 : ∀ a b c d : T, embLM s [.t a, .t b, .t c, .t d] = .ok [a, b, c, d] s := fun _ _ _ _ => nrfl rfl
  have br : ∀ (m : Nat) (x : T), m ≤ 100 → binV (PT.D true) (callN (PT.D true) rp fw (n + 6)) .Mult (.t (.lst [x])) (.t (.int (m : Int))) s = .ok (.t (.lst (List.replicate m x))) s := fun m x h => bin_rep h
  have br4 : ∀ x : T, binV (PT.D true) (callN (PT.D true) rp fw (n + 6)) .Mult (.t (.lst [x])) (.t (.int 4)) s = .ok (.t (.lst (List.replicate 4 x))) s := fun x => br 4 x (by decide)
  have br5 : ∀ x : T, binV (PT.D true) (callN (PT.D true) rp fw (n + 6)) .Mult (.t (.lst [x])) (.t (.int 5)) s = .ok (.t (.lst (List.replicate 5 x))) s := fun x => br 5 x (by decide)
  have br9 : ∀ x : T, binV (PT.D true) (callN (PT.D true) rp fw (n + 6)) .Mult (.t (.lst [x])) (.t (.int 9)) s = .ok (.t (.lst (List.replicate 9 x))) s := fun x => br 9 x (by decide)
  have br16 : ∀ x : T, binV (PT.D true) (callN (PT.D true) rp fw (n + 6)) .Mult (.t (.lst [x])) (.t (.int 16)) s = .ok (.t (.lst (List.replicate 16 x))) s := fun x => br 16 x (by decide)
  have br25 : ∀ x : T, binV (PT.D true) (callN (PT.D true) rp fw (n + 6)) .Mult (.t (.lst [x])) (.t (.int 25)) s = .ok (.t (.lst (List.replicate 25 x))) s := fun x => br 25 x (by decide)
  have i2 := ratio_init_ok (D := (PT.D true)) (rp := rp) (fw := fw) (n := n + 4) (s := s) (a := 1) (b := 2) (by decide) (by decide)
  have i1 := ratio_init_ok (D := (PT.D true)) (rp := rp) (fw := fw) (n := n + 4) (s := s) (a := 1) (b := 1) (by decide) (by decide)
  unfold cL2
  refine ev_l (ys := [.non, .int 0, .str "", .str "ab", .dct [], .lst [], .tup [], .lst [.lst []], dK, .bl true, mkR 1 1, .lst [.lst [.int 1], .lst [.int 2]], .lst (List.replicate 4 (.int 0)), .tup [.int 1, .int 2, .int 3, .int 4], .lst (List.replicate 9 (.int 0)), .lst (List.replicate 16 (.int 0)), .lst (List.replicate 25 (.int 0)), .lst [.non]]) (evs_k (y := .t (.non)) ?_ (evs_k (y := .t (.int 0)) ?_ (evs_k (y := .t (.str "")) ?_ (evs_k (y := .t (.str "ab")) ?_ (evs_k (y := .t (.dct [])) ?_ (evs_k (y := .t (.lst [])) ?_ (evs_k (y := .t (.tup [])) ?_ (evs_k (y := .t (.lst [.lst []])) ?_ (evs_k (y := .t (dK)) ?_ (evs_k (y := .t (.bl true)) ?_ (evs_k (y := .t (mkR 1 1)) ?_ (evs_k (y := .t (.lst [.lst [.int 1], .lst [.int 2]])) ?_ (evs_k (y := .t (.lst (List.replicate 4 (.int 0)))) ?_ (evs_k (y := .t (.tup [.int 1, .int 2, .int 3, .int 4])) ?_ (evs_k (y := .t (.lst (List.replicate 9 (.int 0)))) ?_ (evs_k (y := .t (.lst (List.replicate 16 (.int 0)))) ?_ (evs_k (y := .t (.lst (List.replicate 25 (.int 0)))) ?_ (evs_k (y := .t (.lst [.non])) ?_ evs_n)))))))))))))))))) (by simp)
  · simp only [evS, ev, evs, evF, evI, put, putL, bindV, bind_ok, toFl_ok, seq_nx, seq_rt, putFl_ok, rd_t, emb_t, ofO_some, ofT_some, noex_ok, E.isOmit, List.map_cons, List.map_nil, List.replicate, List.cons_append, List.nil_append, List.length_cons, List.length_nil, List.set_cons_zero, List.set_cons_succ, List.getElem?_cons_zero, List.getElem?_cons_succ, Bool.false_eq_true, if_true, if_false, reduceIte, Nat.reduceAdd, Nat.reduceSub, Nat.reduceLT, Nat.reduceLeDiff, Nat.lt_irrefl, evT, bin_add, bin_sub, mthOk_ins, attV_ins, cmpP_lt, cmpP_le, cmpP_gt, cmpP_ge, cmp_lt, cmp_le, cmp_gt, cmp_ge, cmp_eqi, cmp_eqs, cmp_eqb, cmp_nei, cmp_nes, cmp_neb, cmp_isn, cmp_nin, cmp_isb, cmp_nib, tru_bl, tru_int, isNon_lst, isNon_non, item_l, item_t, blt_lenl, blt_lent, blt_lend, blt_all, blt_any, mapM_t1, mapM_t2, embLM_t0, embLM_t1, embLM_t2, embLM_t3, Option.bind_some, Option.map_some, Bool.not_true, Bool.not_false, endC_rt, endC_nx, decide_eq_true_eq, List.mapM_nil, z0, z1, z2, z4, em4]
  · simp only [evS, ev, evs, evF, evI, put, putL, bindV, bind_ok, toFl_ok, seq_nx, seq_rt, putFl_ok, rd_t, emb_t, ofO_some, ofT_some, noex_ok, E.isOmit, List.map_cons, List.map_nil, List.replicate, List.cons_append, List.nil_append, List.length_cons, List.length_nil, List.set_cons_zero, List.set_cons_succ, List.getElem?_cons_zero, List.getElem?_cons_succ, Bool.false_eq_true, if_true, if_false, reduceIte, Nat.reduceAdd, Nat.reduceSub, Nat.reduceLT, Nat.reduceLeDiff, Nat.lt_irrefl, evT, bin_add, bin_sub, mthOk_ins, attV_ins, cmpP_lt, cmpP_le, cmpP_gt, cmpP_ge, cmp_lt, cmp_le, cmp_gt, cmp_ge, cmp_eqi, cmp_eqs, cmp_eqb, cmp_nei, cmp_nes, cmp_neb, cmp_isn, cmp_nin, cmp_isb, cmp_nib, tru_bl, tru_int, isNon_lst, isNon_non, item_l, item_t, blt_lenl, blt_lent, blt_lend, blt_all, blt_any, mapM_t1, mapM_t2, embLM_t0, embLM_t1, embLM_t2, embLM_t3, Option.bind_some, Option.map_some, Bool.not_true, Bool.not_false, endC_rt, endC_nx, decide_eq_true_eq, List.mapM_nil, z0, z1, z2, z4, em4]
  · simp only [evS, ev, evs, evF, evI, put, putL, bindV, bind_ok, toFl_ok, seq_nx, seq_rt, putFl_ok, rd_t, emb_t, ofO_some, ofT_some, noex_ok, E.isOmit, List.map_cons, List.map_nil, List.replicate, List.cons_append, List.nil_append, List.length_cons, List.length_nil, List.set_cons_zero, List.set_cons_succ, List.getElem?_cons_zero, List.getElem?_cons_succ, Bool.false_eq_true, if_true, if_false, reduceIte, Nat.reduceAdd, Nat.reduceSub, Nat.reduceLT, Nat.reduceLeDiff, Nat.lt_irrefl, evT, bin_add, bin_sub, mthOk_ins, attV_ins, cmpP_lt, cmpP_le, cmpP_gt, cmpP_ge, cmp_lt, cmp_le, cmp_gt, cmp_ge, cmp_eqi, cmp_eqs, cmp_eqb, cmp_nei, cmp_nes, cmp_neb, cmp_isn, cmp_nin, cmp_isb, cmp_nib, tru_bl, tru_int, isNon_lst, isNon_non, item_l, item_t, blt_lenl, blt_lent, blt_lend, blt_all, blt_any, mapM_t1, mapM_t2, embLM_t0, embLM_t1, embLM_t2, embLM_t3, Option.bind_some, Option.map_some, Bool.not_true, Bool.not_false, endC_rt, endC_nx, decide_eq_true_eq, List.mapM_nil, z0, z1, z2, z4, em4]
  · simp only [evS, ev, evs, evF, evI, put, putL, bindV, bind_ok, toFl_ok, seq_nx, seq_rt, putFl_ok, rd_t, emb_t, ofO_some, ofT_some, noex_ok, E.isOmit, List.map_cons, List.map_nil, List.replicate, List.cons_append, List.nil_append, List.length_cons, List.length_nil, List.set_cons_zero, List.set_cons_succ, List.getElem?_cons_zero, List.getElem?_cons_succ, Bool.false_eq_true, if_true, if_false, reduceIte, Nat.reduceAdd, Nat.reduceSub, Nat.reduceLT, Nat.reduceLeDiff, Nat.lt_irrefl, evT, bin_add, bin_sub, mthOk_ins, attV_ins, cmpP_lt, cmpP_le, cmpP_gt, cmpP_ge, cmp_lt, cmp_le, cmp_gt, cmp_ge, cmp_eqi, cmp_eqs, cmp_eqb, cmp_nei, cmp_nes, cmp_neb, cmp_isn, cmp_nin, cmp_isb, cmp_nib, tru_bl, tru_int, isNon_lst, isNon_non, item_l, item_t, blt_lenl, blt_lent, blt_lend, blt_all, blt_any, mapM_t1, mapM_t2, embLM_t0, embLM_t1, embLM_t2, embLM_t3, Option.bind_some, Option.map_some, Bool.not_true, Bool.not_false, endC_rt, endC_nx, decide_eq_true_eq, List.mapM_nil, z0, z1, z2, z4, em4]
  · exact ev_d0
  · simp only [evS, ev, evs, evF, evI, put, putL, bindV, bind_ok, toFl_ok, seq_nx, seq_rt, putFl_ok, rd_t, emb_t, ofO_some, ofT_some, noex_ok, E.isOmit, List.map_cons, List.map_nil, List.replicate, List.cons_append, List.nil_append, List.length_cons, List.length_nil, List.set_cons_zero, List.set_cons_succ, List.getElem?_cons_zero, List.getElem?_cons_succ, Bool.false_eq_true, if_true, if_false, reduceIte, Nat.reduceAdd, Nat.reduceSub, Nat.reduceLT, Nat.reduceLeDiff, Nat.lt_irrefl, evT, bin_add, bin_sub, mthOk_ins, attV_ins, cmpP_lt, cmpP_le, cmpP_gt, cmpP_ge, cmp_lt, cmp_le, cmp_gt, cmp_ge, cmp_eqi, cmp_eqs, cmp_eqb, cmp_nei, cmp_nes, cmp_neb, cmp_isn, cmp_nin, cmp_isb, cmp_nib, tru_bl, tru_int, isNon_lst, isNon_non, item_l, item_t, blt_lenl, blt_lent, blt_lend, blt_all, blt_any, mapM_t1, mapM_t2, embLM_t0, embLM_t1, embLM_t2, embLM_t3, Option.bind_some, Option.map_some, Bool.not_true, Bool.not_false, endC_rt, endC_nx, decide_eq_true_eq, List.mapM_nil, z0, z1, z2, z4, em4]
  · simp only [evS, ev, evs, evF, evI, put, putL, bindV, bind_ok, toFl_ok, seq_nx, seq_rt, putFl_ok, rd_t, emb_t, ofO_some, ofT_some, noex_ok, E.isOmit, List.map_cons, List.map_nil, List.replicate, List.cons_append, List.nil_append, List.length_cons, List.length_nil, List.set_cons_zero, List.set_cons_succ, List.getElem?_cons_zero, List.getElem?_cons_succ, Bool.false_eq_true, if_true, if_false, reduceIte, Nat.reduceAdd, Nat.reduceSub, Nat.reduceLT, Nat.reduceLeDiff, Nat.lt_irrefl, evT, bin_add, bin_sub, mthOk_ins, attV_ins, cmpP_lt, cmpP_le, cmpP_gt, cmpP_ge, cmp_lt, cmp_le, cmp_gt, cmp_ge, cmp_eqi, cmp_eqs, cmp_eqb, cmp_nei, cmp_nes, cmp_neb, cmp_isn, cmp_nin, cmp_isb, cmp_nib, tru_bl, tru_int, isNon_lst, isNon_non, item_l, item_t, blt_lenl, blt_lent, blt_lend, blt_all, blt_any, mapM_t1, mapM_t2, embLM_t0, embLM_t1, embLM_t2, embLM_t3, Option.bind_some, Option.map_some, Bool.not_true, Bool.not_false, endC_rt, endC_nx, decide_eq_true_eq, List.mapM_nil, z0, z1, z2, z4, em4]
  · simp only [evS, ev, evs, evF, evI, put, putL, bindV, bind_ok, toFl_ok, seq_nx, seq_rt, putFl_ok, rd_t, emb_t, ofO_some, ofT_some, noex_ok, E.isOmit, List.map_cons, List.map_nil, List.replicate, List.cons_append, List.nil_append, List.length_cons, List.length_nil, List.set_cons_zero, List.set_cons_succ, List.getElem?_cons_zero, List.getElem?_cons_succ, Bool.false_eq_true, if_true, if_false, reduceIte, Nat.reduceAdd, Nat.reduceSub, Nat.reduceLT, Nat.reduceLeDiff, Nat.lt_irrefl, evT, bin_add, bin_sub, mthOk_ins, attV_ins, cmpP_lt, cmpP_le, cmpP_gt, cmpP_ge, cmp_lt, cmp_le, cmp_gt, cmp_ge, cmp_eqi, cmp_eqs, cmp_eqb, cmp_nei, cmp_nes, cmp_neb, cmp_isn, cmp_nin, cmp_isb, cmp_nib, tru_bl, tru_int, isNon_lst, isNon_non, item_l, item_t, blt_lenl, blt_lent, blt_lend, blt_all, blt_any, mapM_t1, mapM_t2, embLM_t0, embLM_t1, embLM_t2, embLM_t3, Option.bind_some, Option.map_some, Bool.not_true, Bool.not_false, endC_rt, endC_nx, decide_eq_true_eq, List.mapM_nil, z0, z1, z2, z4, em4]
  · exact ev_d1
  · simp only [evS, ev, evs, evF, evI, put, putL, bindV, bind_ok, toFl_ok, seq_nx, seq_rt, putFl_ok, rd_t, emb_t, ofO_some, ofT_some, noex_ok, E.isOmit, List.map_cons, List.map_nil, List.replicate, List.cons_append, List.nil_append, List.length_cons, List.length_nil, List.set_cons_zero, List.set_cons_succ, List.getElem?_cons_zero, List.getElem?_cons_succ, Bool.false_eq_true, if_true, if_false, reduceIte, Nat.reduceAdd, Nat.reduceSub, Nat.reduceLT, Nat.reduceLeDiff, Nat.lt_irrefl, evT, bin_add, bin_sub, mthOk_ins, attV_ins, cmpP_lt, cmpP_le, cmpP_gt, cmpP_ge, cmp_lt, cmp_le, cmp_gt, cmp_ge, cmp_eqi, cmp_eqs, cmp_eqb, cmp_nei, cmp_nes, cmp_neb, cmp_isn, cmp_nin, cmp_isb, cmp_nib, tru_bl, tru_int, isNon_lst, isNon_non, item_l, item_t, blt_lenl, blt_lent, blt_lend, blt_all, blt_any, mapM_t1, mapM_t2, embLM_t0, embLM_t1, embLM_t2, embLM_t3, Option.bind_some, Option.map_some, Bool.not_true, Bool.not_false, endC_rt, endC_nx, decide_eq_true_eq, List.mapM_nil, z0, z1, z2, z4, em4]
  · simp only [evS, ev, evs, evF, evI, put, putL, bindV, bind_ok, toFl_ok, seq_nx, seq_rt, putFl_ok, rd_t, emb_t, ofO_some, ofT_some, noex_ok, E.isOmit, List.map_cons, List.map_nil, List.replicate, List.cons_append, List.nil_append, List.length_cons, List.length_nil, List.set_cons_zero, List.set_cons_succ, List.getElem?_cons_zero, List.getElem?_cons_succ, Bool.false_eq_true, if_true, if_false, reduceIte, Nat.reduceAdd, Nat.reduceSub, Nat.reduceLT, Nat.reduceLeDiff, Nat.lt_irrefl, evT, bin_add, bin_sub, mthOk_ins, attV_ins, cmpP_lt, cmpP_le, cmpP_gt, cmpP_ge, cmp_lt, cmp_le, cmp_gt, cmp_ge, cmp_eqi, cmp_eqs, cmp_eqb, cmp_nei, cmp_nes, cmp_neb, cmp_isn, cmp_nin, cmp_isb, cmp_nib, tru_bl, tru_int, isNon_lst, isNon_non, item_l, item_t, blt_lenl, blt_lent, blt_lend, blt_all, blt_any, mapM_t1, mapM_t2, embLM_t0, embLM_t1, embLM_t2, embLM_t3, Option.bind_some, Option.map_some, Bool.not_true, Bool.not_false, endC_rt, endC_nx, decide_eq_true_eq, List.mapM_nil, ini_55, fl1_ratios_Ratio___init__, i1, mkEnd_app, Cell.tree, mkR, ratT, z1]
  · simp only [evS, ev, evs, evF, evI, put, putL, bindV, bind_ok, toFl_ok, seq_nx, seq_rt, putFl_ok, rd_t, emb_t, ofO_some, ofT_some, noex_ok, E.isOmit, List.map_cons, List.map_nil, List.replicate, List.cons_append, List.nil_append, List.length_cons, List.length_nil, List.set_cons_zero, List.set_cons_succ, List.getElem?_cons_zero, List.getElem?_cons_succ, Bool.false_eq_true, if_true, if_false, reduceIte, Nat.reduceAdd, Nat.reduceSub, Nat.reduceLT, Nat.reduceLeDiff, Nat.lt_irrefl, evT, bin_add, bin_sub, mthOk_ins, attV_ins, cmpP_lt, cmpP_le, cmpP_gt, cmpP_ge, cmp_lt, cmp_le, cmp_gt, cmp_ge, cmp_eqi, cmp_eqs, cmp_eqb, cmp_nei, cmp_nes, cmp_neb, cmp_isn, cmp_nin, cmp_isb, cmp_nib, tru_bl, tru_int, isNon_lst, isNon_non, item_l, item_t, blt_lenl, blt_lent, blt_lend, blt_all, blt_any, mapM_t1, mapM_t2, embLM_t0, embLM_t1, embLM_t2, embLM_t3, Option.bind_some, Option.map_some, Bool.not_true, Bool.not_false, endC_rt, endC_nx, decide_eq_true_eq, List.mapM_nil, z0, z1, z2, z4, em4]
  · have b1 := br4 (.int 0)
    generalize List.replicate 4 (T.int 0) = Y at b1 ⊢
    simp only [evS, ev, evs, evF, evI, put, putL, bindV, bind_ok, toFl_ok, seq_nx, seq_rt, putFl_ok, rd_t, emb_t, ofO_some, ofT_some, noex_ok, E.isOmit, List.map_cons, List.map_nil, List.replicate, List.cons_append, List.nil_append, List.length_cons, List.length_nil, List.set_cons_zero, List.set_cons_succ, List.getElem?_cons_zero, List.getElem?_cons_succ, Bool.false_eq_true, if_true, if_false, reduceIte, Nat.reduceAdd, Nat.reduceSub, Nat.reduceLT, Nat.reduceLeDiff, Nat.lt_irrefl, evT, bin_add, bin_sub, mthOk_ins, attV_ins, cmpP_lt, cmpP_le, cmpP_gt, cmpP_ge, cmp_lt, cmp_le, cmp_gt, cmp_ge, cmp_eqi, cmp_eqs, cmp_eqb, cmp_nei, cmp_nes, cmp_neb, cmp_isn, cmp_nin, cmp_isb, cmp_nib, tru_bl, tru_int, isNon_lst, isNon_non, item_l, item_t, blt_lenl, blt_lent, blt_lend, blt_all, blt_any, mapM_t1, mapM_t2, embLM_t0, embLM_t1, embLM_t2, embLM_t3, Option.bind_some, Option.map_some, Bool.not_true, Bool.not_false, endC_rt, endC_nx, decide_eq_true_eq, List.mapM_nil, z1, b1]
  · simp only [evS, ev, evs, evF, evI, put, putL, bindV, bind_ok, toFl_ok, seq_nx, seq_rt, putFl_ok, rd_t, emb_t, ofO_some, ofT_some, noex_ok, E.isOmit, List.map_cons, List.map_nil, List.replicate, List.cons_append, List.nil_append, List.length_cons, List.length_nil, List.set_cons_zero, List.set_cons_succ, List.getElem?_cons_zero, List.getElem?_cons_succ, Bool.false_eq_true, if_true, if_false, reduceIte, Nat.reduceAdd, Nat.reduceSub, Nat.reduceLT, Nat.reduceLeDiff, Nat.lt_irrefl, evT, bin_add, bin_sub, mthOk_ins, attV_ins, cmpP_lt, cmpP_le, cmpP_gt, cmpP_ge, cmp_lt, cmp_le, cmp_gt, cmp_ge, cmp_eqi, cmp_eqs, cmp_eqb, cmp_nei, cmp_nes, cmp_neb, cmp_isn, cmp_nin, cmp_isb, cmp_nib, tru_bl, tru_int, isNon_lst, isNon_non, item_l, item_t, blt_lenl, blt_lent, blt_lend, blt_all, blt_any, mapM_t1, mapM_t2, embLM_t0, embLM_t1, embLM_t2, embLM_t3, Option.bind_some, Option.map_some, Bool.not_true, Bool.not_false, endC_rt, endC_nx, decide_eq_true_eq, List.mapM_nil, z0, z1, z2, z4, em4]
  · have b1 := br9 (.int 0)
    generalize List.replicate 9 (T.int 0) = Y at b1 ⊢
    simp only [evS, ev, evs, evF, evI, put, putL, bindV, bind_ok, toFl_ok, seq_nx, seq_rt, putFl_ok, rd_t, emb_t, ofO_some, ofT_some, noex_ok, E.isOmit, List.map_cons, List.map_nil, List.replicate, List.cons_append, List.nil_append, List.length_cons, List.length_nil, List.set_cons_zero, List.set_cons_succ, List.getElem?_cons_zero, List.getElem?_cons_succ, Bool.false_eq_true, if_true, if_false, reduceIte, Nat.reduceAdd, Nat.reduceSub, Nat.reduceLT, Nat.reduceLeDiff, Nat.lt_irrefl, evT, bin_add, bin_sub, mthOk_ins, attV_ins, cmpP_lt, cmpP_le, cmpP_gt, cmpP_ge, cmp_lt, cmp_le, cmp_gt, cmp_ge, cmp_eqi, cmp_eqs, cmp_eqb, cmp_nei, cmp_nes, cmp_neb, cmp_isn, cmp_nin, cmp_isb, cmp_nib, tru_bl, tru_int, isNon_lst, isNon_non, item_l, item_t, blt_lenl, blt_lent, blt_lend, blt_all, blt_any, mapM_t1, mapM_t2, embLM_t0, embLM_t1, embLM_t2, embLM_t3, Option.bind_some, Option.map_some, Bool.not_true, Bool.not_false, endC_rt, endC_nx, decide_eq_true_eq, List.mapM_nil, z1, b1]
  · have b1 := br16 (.int 0)
    generalize List.replicate 16 (T.int 0) = Y at b1 ⊢
    simp only [evS, ev, evs, evF, evI, put, putL, bindV, bind_ok, toFl_ok, seq_nx, seq_rt, putFl_ok, rd_t, emb_t, ofO_some, ofT_some, noex_ok, E.isOmit, List.map_cons, List.map_nil, List.replicate, List.cons_append, List.nil_append, List.length_cons, List.length_nil, List.set_cons_zero, List.set_cons_succ, List.getElem?_cons_zero, List.getElem?_cons_succ, Bool.false_eq_true, if_true, if_false, reduceIte, Nat.reduceAdd, Nat.reduceSub, Nat.reduceLT, Nat.reduceLeDiff, Nat.lt_irrefl, evT, bin_add, bin_sub, mthOk_ins, attV_ins, cmpP_lt, cmpP_le, cmpP_gt, cmpP_ge, cmp_lt, cmp_le, cmp_gt, cmp_ge, cmp_eqi, cmp_eqs, cmp_eqb, cmp_nei, cmp_nes, cmp_neb, cmp_isn, cmp_nin, cmp_isb, cmp_nib, tru_bl, tru_int, isNon_lst, isNon_non, item_l, item_t, blt_lenl, blt_lent, blt_lend, blt_all, blt_any, mapM_t1, mapM_t2, embLM_t0, embLM_t1, embLM_t2, embLM_t3, Option.bind_some, Option.map_some, Bool.not_true, Bool.not_false, endC_rt, endC_nx, decide_eq_true_eq, List.mapM_nil, z1, b1]
  · have b1 := br25 (.int 0)
    generalize List.replicate 25 (T.int 0) = Y at b1 ⊢
    simp only [evS, ev, evs, evF, evI, put, putL, bindV, bind_ok, toFl_ok, seq_nx, seq_rt, putFl_ok, rd_t, emb_t, ofO_some, ofT_some, noex_ok, E.isOmit, List.map_cons, List.map_nil, List.replicate, List.cons_append, List.nil_append, List.length_cons, List.length_nil, List.set_cons_zero, List.set_cons_succ, List.getElem?_cons_zero, List.getElem?_cons_succ, Bool.false_eq_true, if_true, if_false, reduceIte, Nat.reduceAdd, Nat.reduceSub, Nat.reduceLT, Nat.reduceLeDiff, Nat.lt_irrefl, evT, bin_add, bin_sub, mthOk_ins, attV_ins, cmpP_lt, cmpP_le, cmpP_gt, cmpP_ge, cmp_lt, cmp_le, cmp_gt, cmp_ge, cmp_eqi, cmp_eqs, cmp_eqb, cmp_nei, cmp_nes, cmp_neb, cmp_isn, cmp_nin, cmp_isb, cmp_nib, tru_bl, tru_int, isNon_lst, isNon_non, item_l, item_t, blt_lenl, blt_lent, blt_lend, blt_all, blt_any, mapM_t1, mapM_t2, embLM_t0, embLM_t1, embLM_t2, embLM_t3, Option.bind_some, Option.map_some, Bool.not_true, Bool.not_false, endC_rt, endC_nx, decide_eq_true_eq, List.mapM_nil, z1, b1]
  · simp only [evS, ev, evs, evF, evI, put, putL, bindV, bind_ok, toFl_ok, seq_nx, seq_rt, putFl_ok, rd_t, emb_t, ofO_some, ofT_some, noex_ok, E.isOmit, List.map_cons, List.map_nil, List.replicate, List.cons_append, List.nil_append, List.length_cons, List.length_nil, List.set_cons_zero, List.set_cons_succ, List.getElem?_cons_zero, List.getElem?_cons_succ, Bool.false_eq_true, if_true, if_false, reduceIte, Nat.reduceAdd, Nat.reduceSub, Nat.reduceLT, Nat.reduceLeDiff, Nat.lt_irrefl, evT, bin_add, bin_sub, mthOk_ins, attV_ins, cmpP_lt, cmpP_le, cmpP_gt, cmpP_ge, cmp_lt, cmp_le, cmp_gt, cmp_ge, cmp_eqi, cmp_eqs, cmp_eqb, cmp_nei, cmp_nes, cmp_neb, cmp_isn, cmp_nin, cmp_isb, cmp_nib, tru_bl, tru_int, isNon_lst, isNon_non, item_l, item_t, blt_lenl, blt_lent, blt_lend, blt_all, blt_any, mapM_t1, mapM_t2, embLM_t0, embLM_t1, embLM_t2, embLM_t3, Option.bind_some, Option.map_some, Bool.not_true, Bool.not_false, endC_rt, endC_nx, decide_eq_true_eq, List.mapM_nil, z0, z1, z2, z4, em4]
end
end Tw
set_option maxHeartbeats 4000000
namespace Tw
open PySem L2
section
variable {rp : CF → Store → T → Out Str} {fw n : Nat} {s : Store}
theorem value_ok (hc : ((PT.D true)).cls 55 = true) (hq : ∀ (cf : CF) (s : Store) (t : T), Vl t → ∃ z, rp cf s t = .ok z s) {v : T} (hv : Vl v) {o0 o1 o2 o3 o5 o6 : Option VV} :
    ∃ o5' o6', evS (PT.D true) (callN (PT.D true) rp fw (n + 6)) (rp (callN (PT.D true) rp fw (n + 6))) fw FB_L_right_0 [o0, o1, o2, o3, some (.t v), o5, o6] s = .nx [o0, o1, o2, o3, some (.t v), o5', o6'] s := by
  have ok2 := hv.okN hc
  obtain ⟨z, hz⟩ := hq (callN (PT.D true) rp fw (n + 6)) s v hv
  have e1 := own_table_ok (rp := rp) (fw := fw) (n := n + 3) (s := s) ok2
  have e2 := is_table_pub (rp := rp) (fw := fw) (n := n + 1) (s := s) ok2
  have e3 := lets_ok (rp := rp) (fw := fw) (n := n + 1) (s := s) ok2.down
  have e4 := own_long_ok (rp := rp) (fw := fw) (n := n + 4) (s := s) ok2.down
  generalize tblOk v = b at e1 e2
  generalize isLong v = l at e3 e4
  have tb : tame 3 (.lst [.bl b, .bl b]) := .lst (by simp) fun y hy => by
    simp only [List.mem_cons, List.not_mem_nil, or_false] at hy
    rcases hy with rfl | rfl <;> exact tame_bl
  obtain ⟨z2, hz2⟩ := hq (callN (PT.D true) rp fw (n + 6)) s (.lst [.bl b, .bl b]) (.inl tb)
  have z2' : (2 ≤ sizeLine) = True := by rw [sizeL]; simp
  have pk0 : ∀ y : VV, pick [0] [y] = some [y] := fun _ => rfl
  refine ⟨some (.t (.str z)), some (.t (.bl b)), ?_⟩
  unfold FB_L_right_0
  rw [seq_go (l1 := [o0, o1, o2, o3, some (.t v), some (.t (.str z)), some (.t (.bl b))]) (s1 := s) (by simp only [evS, ev, evs, evF, evI, put, putL, bindV, bind_ok, toFl_ok, seq_nx, seq_rt, putFl_ok, rd_t, emb_t, ofO_some, ofT_some, noex_ok, E.isOmit, List.map_cons, List.map_nil, List.replicate, List.cons_append, List.nil_append, List.length_cons, List.length_nil, List.set_cons_zero, List.set_cons_succ, List.getElem?_cons_zero, List.getElem?_cons_succ, Bool.false_eq_true, if_true, if_false, reduceIte, Nat.reduceAdd, Nat.reduceSub, Nat.reduceLT, Nat.reduceLeDiff, Nat.lt_irrefl, evT, bin_add, bin_sub, mthOk_ins, attV_ins, cmpP_lt, cmpP_le, cmpP_gt, cmpP_ge, cmp_lt, cmp_le, cmp_gt, cmp_ge, cmp_eqi, cmp_eqs, cmp_eqb, cmp_nei, cmp_nes, cmp_neb, cmp_isn, cmp_nin, cmp_isb, cmp_nib, tru_bl, tru_int, isNon_lst, isNon_non, item_l, item_t, blt_lenl, blt_lent, blt_lend, blt_all, blt_any, mapM_t1, mapM_t2, embLM_t0, embLM_t1, embLM_t2, embLM_t3, Option.bind_some, Option.map_some, Bool.not_true, Bool.not_false, endC_rt, endC_nx, decide_eq_true_eq, List.mapM_nil, hz, fl_L_is_table, e1])]
  have c1 : ev (PT.D true) (callN (PT.D true) rp fw (n + 6)) (rp (callN (PT.D true) rp fw (n + 6))) (.cmp .NotEq (.blt .repr (.cons (.lst false (.cons (.cal 458 (.cons (.var 4) .nil)) (.cons (.calk 458 (.cons (.var 4) .nil) [0]) .nil))) .nil)) (.blt .repr (.cons (.lst false (.cons (.var 6) (.cons (.var 6) .nil))) .nil))) [o0, o1, o2, o3, some (.t v), some (.t (.str z)), some (.t (.bl b))] s = .ok (.t (.bl false)) s :=
    ne_reprs (by simp only [evS, ev, evs, evF, evI, put, putL, bindV, bind_ok, toFl_ok, seq_nx, seq_rt, putFl_ok, rd_t, emb_t, ofO_some, ofT_some, noex_ok, E.isOmit, List.map_cons, List.map_nil, List.replicate, List.cons_append, List.nil_append, List.length_cons, List.length_nil, List.set_cons_zero, List.set_cons_succ, List.getElem?_cons_zero, List.getElem?_cons_succ, Bool.false_eq_true, if_true, if_false, reduceIte, Nat.reduceAdd, Nat.reduceSub, Nat.reduceLT, Nat.reduceLeDiff, Nat.lt_irrefl, evT, bin_add, bin_sub, mthOk_ins, attV_ins, cmpP_lt, cmpP_le, cmpP_gt, cmpP_ge, cmp_lt, cmp_le, cmp_gt, cmp_ge, cmp_eqi, cmp_eqs, cmp_eqb, cmp_nei, cmp_nes, cmp_neb, cmp_isn, cmp_nin, cmp_isb, cmp_nib, tru_bl, tru_int, isNon_lst, isNon_non, item_l, item_t, blt_lenl, blt_lent, blt_lend, blt_all, blt_any, mapM_t1, mapM_t2, embLM_t0, embLM_t1, embLM_t2, embLM_t3, Option.bind_some, Option.map_some, Bool.not_true, Bool.not_false, endC_rt, endC_nx, decide_eq_true_eq, List.mapM_nil, fl_tables_is_table, e2, pk0, z2']) (by simp only [evS, ev, evs, evF, evI, put, putL, bindV, bind_ok, toFl_ok, seq_nx, seq_rt, putFl_ok, rd_t, emb_t, ofO_some, ofT_some, noex_ok, E.isOmit, List.map_cons, List.map_nil, List.replicate, List.cons_append, List.nil_append, List.length_cons, List.length_nil, List.set_cons_zero, List.set_cons_succ, List.getElem?_cons_zero, List.getElem?_cons_succ, Bool.false_eq_true, if_true, if_false, reduceIte, Nat.reduceAdd, Nat.reduceSub, Nat.reduceLT, Nat.reduceLeDiff, Nat.lt_irrefl, evT, bin_add, bin_sub, mthOk_ins, attV_ins, cmpP_lt, cmpP_le, cmpP_gt, cmpP_ge, cmp_lt, cmp_le, cmp_gt, cmp_ge, cmp_eqi, cmp_eqs, cmp_eqb, cmp_nei, cmp_nes, cmp_neb, cmp_isn, cmp_nin, cmp_isb, cmp_nib, tru_bl, tru_int, isNon_lst, isNon_non, item_l, item_t, blt_lenl, blt_lent, blt_lend, blt_all, blt_any, mapM_t1, mapM_t2, embLM_t0, embLM_t1, embLM_t2, embLM_t3, Option.bind_some, Option.map_some, Bool.not_true, Bool.not_false, endC_rt, endC_nx, decide_eq_true_eq, List.mapM_nil, z2']) hz2
  have c2 : ev (PT.D true) (callN (PT.D true) rp fw (n + 6)) (rp (callN (PT.D true) rp fw (n + 6))) (.cmp .NotEq (.cal 1017 (.cons (.var 4) .nil)) (.cal 1016 (.cons (.var 4) .nil))) [o0, o1, o2, o3, some (.t v), some (.t (.str z)), some (.t (.bl b))] s = .ok (.t (.bl false)) s := by
    have nb : cmpV (PT.D true) (callN (PT.D true) rp fw (n + 6)) .NotEq (.t (.bl l)) (.t (.bl l)) s = some false := by simp [cmp_neb]
    simp only [ev, evs, List.getElem?_cons_succ, List.getElem?_cons_zero, bind_ok, fl_L_lets, e3, fl_L_is_long, e4, nb, Option.map_some, ofT_some]
  rw [seq_go (l1 := [o0, o1, o2, o3, some (.t v), some (.t (.str z)), some (.t (.bl b))]) (s1 := s) (by
    simp only [evS, evT]
    rw [ev_or_t c1 fun _ => c2]
    simp only [evS, ev, evs, evF, evI, put, putL, bindV, bind_ok, toFl_ok, seq_nx, seq_rt, putFl_ok, rd_t, emb_t, ofO_some, ofT_some, noex_ok, E.isOmit, List.map_cons, List.map_nil, List.replicate, List.cons_append, List.nil_append, List.length_cons, List.length_nil, List.set_cons_zero, List.set_cons_succ, List.getElem?_cons_zero, List.getElem?_cons_succ, Bool.false_eq_true, if_true, if_false, reduceIte, Nat.reduceAdd, Nat.reduceSub, Nat.reduceLT, Nat.reduceLeDiff, Nat.lt_irrefl, evT, bin_add, bin_sub, mthOk_ins, attV_ins, cmpP_lt, cmpP_le, cmpP_gt, cmpP_ge, cmp_lt, cmp_le, cmp_gt, cmp_ge, cmp_eqi, cmp_eqs, cmp_eqb, cmp_nei, cmp_nes, cmp_neb, cmp_isn, cmp_nin, cmp_isb, cmp_nib, tru_bl, tru_int, isNon_lst, isNon_non, item_l, item_t, blt_lenl, blt_lent, blt_lend, blt_all, blt_any, mapM_t1, mapM_t2, embLM_t0, embLM_t1, embLM_t2, embLM_t3, Option.bind_some, Option.map_some, Bool.not_true, Bool.not_false, endC_rt, endC_nx, decide_eq_true_eq, List.mapM_nil, Bool.or_self])]
  have c3 : ev (PT.D true) (callN (PT.D true) rp fw (n + 6)) (rp (callN (PT.D true) rp fw (n + 6))) (.cmp .NotEq (.blt .repr (.cons (.var 4) .nil)) (.var 5)) [o0, o1, o2, o3, some (.t v), some (.t (.str z)), some (.t (.bl b))] s = .ok (.t (.bl false)) s := by
    have nb : cmpV (PT.D true) (callN (PT.D true) rp fw (n + 6)) .NotEq (.t (.str z)) (.t (.str z)) s = some false := by simp [cmp_nes]
    simp only [evS, ev, evs, evF, evI, put, putL, bindV, bind_ok, toFl_ok, seq_nx, seq_rt, putFl_ok, rd_t, emb_t, ofO_some, ofT_some, noex_ok, E.isOmit, List.map_cons, List.map_nil, List.replicate, List.cons_append, List.nil_append, List.length_cons, List.length_nil, List.set_cons_zero, List.set_cons_succ, List.getElem?_cons_zero, List.getElem?_cons_succ, Bool.false_eq_true, if_true, if_false, reduceIte, Nat.reduceAdd, Nat.reduceSub, Nat.reduceLT, Nat.reduceLeDiff, Nat.lt_irrefl, evT, bin_add, bin_sub, mthOk_ins, attV_ins, cmpP_lt, cmpP_le, cmpP_gt, cmpP_ge, cmp_lt, cmp_le, cmp_gt, cmp_ge, cmp_eqi, cmp_eqs, cmp_eqb, cmp_nei, cmp_nes, cmp_neb, cmp_isn, cmp_nin, cmp_isb, cmp_nib, tru_bl, tru_int, isNon_lst, isNon_non, item_l, item_t, blt_lenl, blt_lent, blt_lend, blt_all, blt_any, mapM_t1, mapM_t2, embLM_t0, embLM_t1, embLM_t2, embLM_t3, Option.bind_some, Option.map_some, Bool.not_true, Bool.not_false, endC_rt, endC_nx, decide_eq_true_eq, List.mapM_nil, hz, nb]
  simp only [evS, evT]
  rw [c3]
  simp only [evS, ev, evs, evF, evI, put, putL, bindV, bind_ok, toFl_ok, seq_nx, seq_rt, putFl_ok, rd_t, emb_t, ofO_some, ofT_some, noex_ok, E.isOmit, List.map_cons, List.map_nil, List.replicate, List.cons_append, List.nil_append, List.length_cons, List.length_nil, List.set_cons_zero, List.set_cons_succ, List.getElem?_cons_zero, List.getElem?_cons_succ, Bool.false_eq_true, if_true, if_false, reduceIte, Nat.reduceAdd, Nat.reduceSub, Nat.reduceLT, Nat.reduceLeDiff, Nat.lt_irrefl, evT, bin_add, bin_sub, mthOk_ins, attV_ins, cmpP_lt, cmpP_le, cmpP_gt, cmpP_ge, cmp_lt, cmp_le, cmp_gt, cmp_ge, cmp_eqi, cmp_eqs, cmp_eqb, cmp_nei, cmp_nes, cmp_neb, cmp_isn, cmp_nin, cmp_isb, cmp_nib, tru_bl, tru_int, isNon_lst, isNon_non, item_l, item_t, blt_lenl, blt_lent, blt_lend, blt_all, blt_any, mapM_t1, mapM_t2, embLM_t0, embLM_t1, embLM_t2, embLM_t3, Option.bind_some, Option.map_some, Bool.not_true, Bool.not_false, endC_rt, endC_nx, decide_eq_true_eq, List.mapM_nil]
theorem right_ok (hc : ((PT.D true)).cls 55 = true) (hq : ∀ (cf : CF) (s : Store) (t : T), Vl t → ∃ z, rp cf s t = .ok z s) (hf : 200 ≤ fw) : PotFn (callN (PT.D true) rp fw (n + 7)) 1019 [] (fun t => t = .bl true) := fun st pk hp => by
  simp only [List.map_nil]
  rw [go_L_right]
  have S0 := Sat.start1 hp
  obtain ⟨_, s1, e1, q1, d, rfl, hd⟩ := drawF (rp := rp) (fw := fw) (n := n + 5) (m := 4) (by decide) (by decide) st pk S0.pot1
  simp only [List.map_cons, List.map_nil] at e1
  have S1 := S0.same q1
  have hk1 : 1 ≤ 1 + d := by omega
  have hk4 : 1 + d ≤ 4 := by omega
  have ek : (1 : Int) + (d : Int) = ((1 + d : Nat) : Int) := by omega
  have A1 : evS (PT.D true) (callN (PT.D true) rp fw (n + 6)) (rp (callN (PT.D true) rp fw (n + 6))) fw (.asg (.gn 1) (.bin .Add (.int 1) (.cal 1002 (.cons (.var 0) (.cons (.int 4) .nil))))) [some (.c pk), none, none, none, none, none, none] st = .nx [some (.c pk), some (.t (.int ((1 + d : Nat) : Int))), none, none, none, none, none] s1 := by
    simp only [evS, ev, evs, evF, evI, put, putL, bindV, bind_ok, toFl_ok, seq_nx, seq_rt, putFl_ok, rd_t, emb_t, ofO_some, ofT_some, noex_ok, E.isOmit, List.map_cons, List.map_nil, List.replicate, List.cons_append, List.nil_append, List.length_cons, List.length_nil, List.set_cons_zero, List.set_cons_succ, List.getElem?_cons_zero, List.getElem?_cons_succ, Bool.false_eq_true, if_true, if_false, reduceIte, Nat.reduceAdd, Nat.reduceSub, Nat.reduceLT, Nat.reduceLeDiff, Nat.lt_irrefl, evT, bin_add, bin_sub, mthOk_ins, attV_ins, cmpP_lt, cmpP_le, cmpP_gt, cmpP_ge, cmp_lt, cmp_le, cmp_gt, cmp_ge, cmp_eqi, cmp_eqs, cmp_eqb, cmp_nei, cmp_nes, cmp_neb, cmp_isn, cmp_nin, cmp_isb, cmp_nib, tru_bl, tru_int, isNon_lst, isNon_non, item_l, item_t, blt_lenl, blt_lent, blt_lend, blt_all, blt_any, mapM_t1, mapM_t2, embLM_t0, embLM_t1, embLM_t2, embLM_t3, Option.bind_some, Option.map_some, Bool.not_true, Bool.not_false, endC_rt, endC_nx, decide_eq_true_eq, List.mapM_nil, fl_L_draw, e1, ek]
  generalize 1 + d = k at A1 hk1 hk4
  obtain ⟨_, s2, e2, q2, rows, rfl, hT⟩ := table_ok (rp := rp) (fw := fw) (n := n) hk1 hk4 hf s1 pk S1.pot1
  simp only [List.map_cons, List.map_nil] at e2
  have S2 := S1.same q2
  obtain ⟨g, s3, e3, q3, R, hg, hRl, hR⟩ := given_ok (rp := rp) (fw := fw) (n := n + 1) hT (by omega) s2 pk S2.pot1
  simp only [List.map_cons, List.map_nil] at e3
  have S3 := S2.same q3
  have bl : bltP .list [g] = some (.lst R) := by rcases hg with rfl | rfl <;> exact nrfl rfl
  have A2 : evS (PT.D true) (callN (PT.D true) rp fw (n + 6)) (rp (callN (PT.D true) rp fw (n + 6))) fw (.asg (.gn 2) (.blt .list (.cons (.cal 1008 (.cons (.var 0) (.cons (.cal 1012 (.cons (.var 0) (.cons (.var 1) .nil))) .nil))) .nil))) [some (.c pk), some (.t (.int (k : Int))), none, none, none, none, none] s1 = .nx [some (.c pk), some (.t (.int (k : Int))), some (.t (.lst R)), none, none, none, none] s3 := by
    simp only [evS, ev, evs, evF, evI, put, putL, bindV, bind_ok, toFl_ok, seq_nx, seq_rt, putFl_ok, rd_t, emb_t, ofO_some, ofT_some, noex_ok, E.isOmit, List.map_cons, List.map_nil, List.replicate, List.cons_append, List.nil_append, List.length_cons, List.length_nil, List.set_cons_zero, List.set_cons_succ, List.getElem?_cons_zero, List.getElem?_cons_succ, Bool.false_eq_true, if_true, if_false, reduceIte, Nat.reduceAdd, Nat.reduceSub, Nat.reduceLT, Nat.reduceLeDiff, Nat.lt_irrefl, evT, bin_add, bin_sub, mthOk_ins, attV_ins, cmpP_lt, cmpP_le, cmpP_gt, cmpP_ge, cmp_lt, cmp_le, cmp_gt, cmp_ge, cmp_eqi, cmp_eqs, cmp_eqb, cmp_nei, cmp_nes, cmp_neb, cmp_isn, cmp_nin, cmp_isb, cmp_nib, tru_bl, tru_int, isNon_lst, isNon_non, item_l, item_t, blt_lenl, blt_lent, blt_lend, blt_all, blt_any, mapM_t1, mapM_t2, embLM_t0, embLM_t1, embLM_t2, embLM_t3, Option.bind_some, Option.map_some, Bool.not_true, Bool.not_false, endC_rt, endC_nx, decide_eq_true_eq, List.mapM_nil, fl_L_table, e2, fl_L_given, e3, bl]
  obtain ⟨_, s4, e4, q4, vs, rfl, hvl, hvs⟩ := bent_ok (rp := rp) (fw := fw) (n := n + 2) hk1 hk4 hRl hR s3 pk S3.pot1
  simp only [List.map_cons, List.map_nil] at e4
  have S4 := S3.same q4
  have z2 : (2 ≤ sizeLine) = True := by rw [sizeL]; simp
  have bt : bltP .tuple [.lst R] = some (.tup R) := nrfl rfl
  have l1 : cL1.length = 7 := rfl
  have l2 : cL2.length = 18 := rfl
  have b1 : binV (PT.D true) (callN (PT.D true) rp fw (n + 6)) .Add (.t (.lst [.lst R, .tup R])) (.t (.lst vs)) s4 = .ok (.t (.lst ([.lst R, .tup R] ++ vs))) s4 := bin_addl (by rw [sizeL]; simp; omega)
  have b2 : binV (PT.D true) (callN (PT.D true) rp fw (n + 6)) .Add (.t (.lst ([.lst R, .tup R] ++ vs))) (.t (.lst cL1)) s4 = .ok (.t (.lst ([.lst R, .tup R] ++ vs ++ cL1))) s4 := bin_addl (by rw [sizeL]; simp; omega)
  have b3 : binV (PT.D true) (callN (PT.D true) rp fw (n + 6)) .Add (.t (.lst ([.lst R, .tup R] ++ vs ++ cL1))) (.t (.lst cL2)) s4 = .ok (.t (.lst ([.lst R, .tup R] ++ vs ++ cL1 ++ cL2))) s4 := bin_addl (by rw [sizeL]; simp; omega)
  have hall : ∀ v ∈ [.lst R, .tup R] ++ vs ++ cL1 ++ cL2, Vl v := by
    intro v hv
    have tR : ∀ y ∈ R, tame 2 y := fun y hy => ((hR y hy).tame (by omega)).up
    simp only [List.mem_append, List.mem_cons, List.not_mem_nil, or_false] at hv
    rcases hv with (((rfl | rfl) | h) | h) | h
    · exact .inl (.lst (by omega) tR)
    · exact .inl (.tup (by omega) tR)
    · exact .inl (hvs v h)
    · exact cL1_ok v h
    · exact cL2_ok v h
  generalize hV : [.lst R, .tup R] ++ vs ++ cL1 ++ cL2 = V at b3 hall
  have hVl : V.length ≤ 200 := by rw [← hV]; simp; omega
  have cL1e := cL1_ev (rp := rp) (fw := fw) (n := n) (s := s4) (loc := [some (.c pk), some (.t (.int (k : Int))), some (.t (.lst R)), none, none, none, none])
  have cL2e := cL2_ev (rp := rp) (fw := fw) (n := n) (s := s4) (loc := [some (.c pk), some (.t (.int (k : Int))), some (.t (.lst R)), some (.t (.lst ([.lst R, .tup R] ++ vs ++ cL1))), none, none, none])
  have v0 : ev (PT.D true) (callN (PT.D true) rp fw (n + 6)) (rp (callN (PT.D true) rp fw (n + 6))) (.bin .Add (.lst false (.cons (.var 2) (.cons (.blt .tuple (.cons (.var 2) .nil)) .nil))) (.cal 1018 (.cons (.var 0) (.cons (.var 2) .nil)))) [some (.c pk), some (.t (.int (k : Int))), some (.t (.lst R)), none, none, none, none] s3 = .ok (.t (.lst ([.lst R, .tup R] ++ vs))) s4 := by
    simp only [ev, evs, List.getElem?_cons_succ, List.getElem?_cons_zero, bind_ok, mapM_t1, bt, ofT_some, embLM_t2, List.length_cons, List.length_nil, Nat.reduceAdd, z2, if_true, Bool.false_eq_true, if_false, fl_L_bent, e4, b1]
  obtain ⟨l2', s5, e5, ⟨o4, o5, o6, rfl⟩, rfl⟩ := loopF_invA (src := .lst (.t (.lst V))) (g := .gn 4) (body := evS (PT.D true) (callN (PT.D true) rp fw (n + 6)) (rp (callN (PT.D true) rp fw (n + 6))) fw FB_L_right_0) V id
    (fun i loc st' => (∃ o4 o5 o6, loc = [some (.c pk), some (.t (.int (k : Int))), some (.t (.lst R)), some (.t (.lst V)), o4, o5, o6]) ∧ s4 = st')
    (fun i loc st' _ => by rw [List.map_id]; exact Wk.lst.here i)
    (fun i v loc st' hv hI => by
      obtain ⟨⟨o4, o5, o6, rfl⟩, rfl⟩ := hI
      obtain ⟨o5', o6', e⟩ := value_ok (rp := rp) (fw := fw) (n := n) (s := s4) hc hq (hall v (List.mem_of_getElem? hv)) (o0 := some (.c pk)) (o1 := some (.t (.int (k : Int)))) (o2 := some (.t (.lst R))) (o3 := some (.t (.lst V))) (o5 := o5) (o6 := o6)
      exact ⟨[some (.c pk), some (.t (.int (k : Int))), some (.t (.lst R)), some (.t (.lst V)), some (.t v), o5, o6], rfl, _, s4, .inl e, ⟨_, _, _, rfl⟩, rfl⟩)
    (m := Src.most s4 (.lst (.t (.lst V)))) (loc := [some (.c pk), some (.t (.int (k : Int))), some (.t (.lst R)), some (.t (.lst V)), none, none, none]) (s := s4) (by rw [most_lst rfl]; omega) ⟨⟨_, _, _, rfl⟩, rfl⟩
  have ei : evI (PT.D true) (callN (PT.D true) rp fw (n + 6)) (rp (callN (PT.D true) rp fw (n + 6))) (.iseq (.var 3)) [some (.c pk), some (.t (.int (k : Int))), some (.t (.lst R)), some (.t (.lst V)), none, none, none] s4 = .ok (.lst (.t (.lst V))) s4 := it_lst (by simp only [evS, ev, evs, evF, evI, put, putL, bindV, bind_ok, toFl_ok, seq_nx, seq_rt, putFl_ok, rd_t, emb_t, ofO_some, ofT_some, noex_ok, E.isOmit, List.map_cons, List.map_nil, List.replicate, List.cons_append, List.nil_append, List.length_cons, List.length_nil, List.set_cons_zero, List.set_cons_succ, List.getElem?_cons_zero, List.getElem?_cons_succ, Bool.false_eq_true, if_true, if_false, reduceIte, Nat.reduceAdd, Nat.reduceSub, Nat.reduceLT, Nat.reduceLeDiff, Nat.lt_irrefl, evT, bin_add, bin_sub, mthOk_ins, attV_ins, cmpP_lt, cmpP_le, cmpP_gt, cmpP_ge, cmp_lt, cmp_le, cmp_gt, cmp_ge, cmp_eqi, cmp_eqs, cmp_eqb, cmp_nei, cmp_nes, cmp_neb, cmp_isn, cmp_nin, cmp_isb, cmp_nib, tru_bl, tru_int, isNon_lst, isNon_non, item_l, item_t, blt_lenl, blt_lent, blt_lend, blt_all, blt_any, mapM_t1, mapM_t2, embLM_t0, embLM_t1, embLM_t2, embLM_t3, Option.bind_some, Option.map_some, Bool.not_true, Bool.not_false, endC_rt, endC_nx, decide_eq_true_eq, List.mapM_nil])
  obtain ⟨s', w1, w2⟩ := S4.ret (x := .bl true)
  refine ⟨.bl true, s', ?_, w2, rfl⟩
  rw [← w1]
  unfold S_L_right
  rw [seq_go A1, seq_go A2]
  rw [seq_go (l1 := [some (.c pk), some (.t (.int (k : Int))), some (.t (.lst R)), some (.t (.lst ([.lst R, .tup R] ++ vs ++ cL1))), none, none, none]) (s1 := s4) (by
    rw [evS, ev, v0, bind_ok, cL1e, bind_ok, b2]
    simp only [toFl_ok, put, List.set_cons_succ, List.set_cons_zero, List.length_cons, List.length_nil, Nat.reduceAdd, Nat.reduceLT, if_true, putFl_ok])]
  rw [seq_go (l1 := [some (.c pk), some (.t (.int (k : Int))), some (.t (.lst R)), some (.t (.lst V)), none, none, none]) (s1 := s4) (by
    have v3 : ev (PT.D true) (callN (PT.D true) rp fw (n + 6)) (rp (callN (PT.D true) rp fw (n + 6))) (.var 3) [some (.c pk), some (.t (.int (k : Int))), some (.t (.lst R)), some (.t (.lst ([.lst R, .tup R] ++ vs ++ cL1))), none, none, none] s4 = .ok (.t (.lst ([.lst R, .tup R] ++ vs ++ cL1))) s4 := by simp only [ev, List.getElem?_cons_succ, List.getElem?_cons_zero]
    rw [evS, ev, v3, bind_ok, cL2e, bind_ok, b3]
    simp only [toFl_ok, put, List.set_cons_succ, List.set_cons_zero, List.length_cons, List.length_nil, Nat.reduceAdd, Nat.reduceLT, if_true, putFl_ok])]
  rw [seq_go (l1 := [some (.c pk), some (.t (.int (k : Int))), some (.t (.lst R)), some (.t (.lst V)), o4, o5, o6]) (s1 := s4) (by unfold FS_L_right_0; simp only [evS, ei, toFl_ok]; exact e5)]
  simp only [evS, ev, evs, evF, evI, put, putL, bindV, bind_ok, toFl_ok, seq_nx, seq_rt, putFl_ok, rd_t, emb_t, ofO_some, ofT_some, noex_ok, E.isOmit, List.map_cons, List.map_nil, List.replicate, List.cons_append, List.nil_append, List.length_cons, List.length_nil, List.set_cons_zero, List.set_cons_succ, List.getElem?_cons_zero, List.getElem?_cons_succ, Bool.false_eq_true, if_true, if_false, reduceIte, Nat.reduceAdd, Nat.reduceSub, Nat.reduceLT, Nat.reduceLeDiff, Nat.lt_irrefl, evT, bin_add, bin_sub, mthOk_ins, attV_ins, cmpP_lt, cmpP_le, cmpP_gt, cmpP_ge, cmp_lt, cmp_le, cmp_gt, cmp_ge, cmp_eqi, cmp_eqs, cmp_eqb, cmp_nei, cmp_nes, cmp_neb, cmp_isn, cmp_nin, cmp_isb, cmp_nib, tru_bl, tru_int, isNon_lst, isNon_non, item_l, item_t, blt_lenl, blt_lent, blt_lend, blt_all, blt_any, mapM_t1, mapM_t2, embLM_t0, embLM_t1, embLM_t2, embLM_t3, Option.bind_some, Option.map_some, Bool.not_true, Bool.not_false, endC_rt, endC_nx, decide_eq_true_eq, List.mapM_nil]
theorem law_ok (hc : ((PT.D true)).cls 55 = true) (hq : ∀ (cf : CF) (s : Store) (t : T), Vl t → ∃ z, rp cf s t = .ok z s) (hf : 200 ≤ fw) (ns : List Int) : ∃ s, callN (PT.D true) rp fw (n + 8) 1020 [.t (.scr ns)] [] = .ok (.t (.bl true)) s := by
  rw [go_L_law]
  obtain ⟨pa, pb, ep⟩ := pot_ok (rp := rp) (fw := fw) (n := n + 6) (s := []) (ns := ns) (k := 0) (by decide) (by decide)
  have hp : PotAt ([] ++ [potC pa pb]) ([] : Store).length := ⟨pa, pb, app_get⟩
  obtain ⟨_, s', er, h', rfl⟩ := right_ok (rp := rp) (fw := fw) (n := n) hc hq hf _ _ hp
  simp only [List.map_nil] at er
  refine ⟨s'.take 0, ?_⟩
  have er' : callN (PT.D true) rp fw (n + 7) 1019 [.c 0] [potC pa pb] = .ok (.t (.bl true)) s' := er
  simp only [S_L_law, evS, ev, evs, evF, evI, put, putL, bindV, bind_ok, toFl_ok, seq_nx, seq_rt, putFl_ok, rd_t, emb_t, ofO_some, ofT_some, noex_ok, E.isOmit, List.map_cons, List.map_nil, List.replicate, List.cons_append, List.nil_append, List.length_cons, List.length_nil, List.set_cons_zero, List.set_cons_succ, List.getElem?_cons_zero, List.getElem?_cons_succ, Bool.false_eq_true, if_true, if_false, reduceIte, Nat.reduceAdd, Nat.reduceSub, Nat.reduceLT, Nat.reduceLeDiff, Nat.lt_irrefl, evT, bin_add, bin_sub, mthOk_ins, attV_ins, cmpP_lt, cmpP_le, cmpP_gt, cmpP_ge, cmp_lt, cmp_le, cmp_gt, cmp_ge, cmp_eqi, cmp_eqs, cmp_eqb, cmp_nei, cmp_nes, cmp_neb, cmp_isn, cmp_nin, cmp_isb, cmp_nib, tru_bl, tru_int, isNon_lst, isNon_non, item_l, item_t, blt_lenl, blt_lent, blt_lend, blt_all, blt_any, mapM_t1, mapM_t2, embLM_t0, embLM_t1, embLM_t2, embLM_t3, Option.bind_some, Option.map_some, Bool.not_true, Bool.not_false, endC_rt, endC_nx, decide_eq_true_eq, List.mapM_nil, fl_L_pot, ep, fl_L_right, er']
  exact endC_rt' rfl
end
theorem pure_law (ns : List Int) (h : ns.length ≤ 63) : ∃ s, callN (PT.D true) (PT.rp 300 8 12) 300 12 1020 [.t (.scr ns)] [] = .ok (.t (.bl true)) s := by
  refine law_ok (rp := PT.rp 300 8 12) (fw := 300) (n := 4) rfl (fun cf s t ht => ?_) (by decide) ns
  rcases ht with ht | rfl
  · have hr : (PT.D false).rep 55 = some 353 := rfl
    obtain ⟨z, e, _⟩ := tame_rpr (D := PT.D false) (cf := callN (PT.D false) rp0 300 8) hr (fun s a b ha hb => ratio_repr_ok (D := PT.D false) (rp := rp0) (fw := 299) (n := 6) ha hb) s 3 (by decide) t ht 9
    refine ⟨z, ?_⟩
    show rpT (PT.D false) (callN (PT.D false) rp0 300 8) 12 s t = _
    unfold rpT
    rw [if_pos (tame_noS ht), e]
    rfl
  · have e : reprT (PT.D false) (callN (PT.D false) rp0 300 8) s 13 dK = some (Str.ofString "{0: [1]}") := by
      unfold dK reprT
      decide +kernel
    refine ⟨Str.ofString "{0: [1]}", ?_⟩
    show rpT (PT.D false) (callN (PT.D false) rp0 300 8) 12 s dK = _
    unfold rpT
    rw [if_pos (by decide), e]
    rfl
end Tw
set_option maxHeartbeats 8000000
namespace Tw
open PySem PySem.Spec PyProof.Rows L2
abbrev CC (b : Bool) (cA : CA) (fA : Nat → Addr) (fdA : Nat → FuncData) (psA : Nat → List Str) (fw : Nat) (k : Nat) (cf : CF) (rp : Store → T → Out Str) : Cl := ⟨PT.D b, PT.M b, cA, fA, fdA, psA, k, cf, rp, fw⟩
variable {cA : CA} {fA : Nat → Addr} {fdA : Nat → FuncData} {psA : Nat → List Str} {fw : Nat}
theorem body31 (b : Bool) (k : Nat) (cf : CF) (rp : Store → T → Out Str) : Kb (CC b cA fA fdA psA fw k cf rp) N_basics_is_integer (defScope st31) (defBody st31) S_basics_is_integer :=
  (b_one (t_ret (k_and (k_isi1 (by decide +kernel) rfl (k_var rfl (by decide +kernel)) (k_ty (by decide +kernel) (by decide +kernel))) (k_one (k_not (k_isi1 (by decide +kernel) rfl (k_var rfl (by decide +kernel)) (k_ty (by decide +kernel) (by decide +kernel))))))))
theorem ok31 : FiOk PT fw fi31 := ⟨⟨rfl, rfl, rfl, by decide +kernel, rfl, by decide +kernel, by decide +kernel⟩, rfl,
  fun _ kV doc pm an cdv ct us hl => match us, hl with | [_], _ => rfl,
  fun h => absurd rfl h,
  fun b cA fA fdA psA k cf rp => match b with | true => body31 true k cf rp | false => body31 false k cf rp⟩
theorem body33 (b : Bool) (k : Nat) (cf : CF) (rp : Store → T → Out Str) : Kb (CC b cA fA fdA psA fw k cf rp) N_basics_is_list (defScope st33) (defBody st33) S_basics_is_list :=
  (b_one (t_ret (k_isiT (by decide +kernel) rfl (by decide) (k_var rfl (by decide +kernel)) (.cons (k_ty (by decide +kernel) (by decide +kernel)) (.cons (k_ty (by decide +kernel) (by decide +kernel)) .nil)))))
theorem ok33 : FiOk PT fw fi33 := ⟨⟨rfl, rfl, rfl, by decide +kernel, rfl, by decide +kernel, by decide +kernel⟩, rfl,
  fun _ kV doc pm an cdv ct us hl => match us, hl with | [_], _ => rfl,
  fun h => absurd rfl h,
  fun b cA fA fdA psA k cf rp => match b with | true => body33 true k cf rp | false => body33 false k cf rp⟩
theorem body159 (b : Bool) (k : Nat) (cf : CF) (rp : Store → T → Out Str) : Kb (CC b cA fA fdA psA fw k cf rp) N_errors_InvalidRow___init__ (defScope st159) (defBody st159) S_errors_InvalidRow___init__ :=
  (b_one (t_satt (fun _ => rfl) (k_var rfl (by decide +kernel)) (k_var rfl (by decide +kernel))))
theorem ok159 : FiOk PT fw fi159 := ⟨⟨rfl, rfl, rfl, by decide +kernel, rfl, by decide +kernel, by decide +kernel⟩, rfl,
  fun _ kV doc pm an cdv ct us hl => match us, hl with | [_, _], _ => rfl,
  fun h => absurd rfl h,
  fun b cA fA fdA psA k cf rp => match b with | true => body159 true k cf rp | false => body159 false k cf rp⟩
theorem body332 (b : Bool) (k : Nat) (cf : CF) (rp : Store → T → Out Str) : Kb (CC b cA fA fdA psA fw k cf rp) N_ratios_digits_of (defScope st332) (defBody st332) S_ratios_digits_of :=
  (b_cons (t_par2 rfl rfl (by decide) (by decide +kernel) (by decide +kernel) (fun env h => by cases env; cases h; rfl) (k_cons rfl (k_ite (k_tcmp rfl (k_var rfl (by decide +kernel)) k_int) (k_var rfl (by decide +kernel)) (k_bin k_int (k_var rfl (by decide +kernel)))) (k_cons rfl k_str k_nil)))
    (b_cons (t_whl (k_tcmp rfl (k_var rfl (by decide +kernel)) (k_gi (by decide +kernel) rfl)) (b_cons (t_asg (fun _ _ => rfl) (fun _ _ => rfl) (fun _ => rfl) (g_gn rfl (by decide +kernel)) (k_bin (k_bin (k_blt (by decide +kernel) (by decide) (by decide +kernel) (fun h => nomatch h) rfl (k_cons rfl (k_var rfl (by decide +kernel)) k_nil)) (k_gi (by decide +kernel) rfl)) (k_gi (by decide +kernel) rfl)))
    (b_cons (t_asg (fun _ _ => rfl) (fun _ _ => rfl) (fun _ => rfl) (g_gn rfl (by decide +kernel)) (k_fst (k_fcons (k_fmt (k_sl (k_blt (by decide +kernel) (by decide) (by decide +kernel) (fun h => nomatch h) rfl (k_cons rfl (k_var rfl (by decide +kernel)) k_nil)) (k_part rfl k_int) k_omit)) (k_fcons (k_fmt (k_var rfl (by decide +kernel))) k_fnil))))
    (b_one (t_asg (fun _ _ => rfl) (fun _ _ => rfl) (fun _ => rfl) (g_gn rfl (by decide +kernel)) (k_bin (k_var rfl (by decide +kernel)) (k_gi (by decide +kernel) rfl)))))))
    (b_cons (t_asg (fun _ _ => rfl) (fun _ _ => rfl) (fun _ => rfl) (g_gn rfl (by decide +kernel)) (k_ite (k_tcmp rfl (k_var rfl (by decide +kernel)) k_int) k_str k_str))
    (b_one (t_ret (k_fst (k_fcons (k_fmt (k_var rfl (by decide +kernel))) (k_fcons (k_fmt (k_var rfl (by decide +kernel))) (k_fcons (k_fmt (k_var rfl (by decide +kernel))) k_fnil)))))))))
theorem ok332 : FiOk PT fw fi332 := ⟨⟨rfl, rfl, rfl, by decide +kernel, rfl, by decide +kernel, by decide +kernel⟩, rfl,
  fun _ kV doc pm an cdv ct us hl => match us, hl with | [_], _ => rfl,
  fun h => absurd rfl h,
  fun b cA fA fdA psA k cf rp => match b with | true => body332 true k cf rp | false => body332 false k cf rp⟩
theorem body333 (b : Bool) (k : Nat) (cf : CF) (rp : Store → T → Out Str) : Kb (CC b cA fA fdA psA fw k cf rp) N_ratios_divisor_of (defScope st333) (defBody st333) S_ratios_divisor_of :=
  (b_one (t_ret (k_blt (by decide +kernel) (by decide) (by decide +kernel) (fun _ => rfl) rfl (k_cons rfl (k_var rfl (by decide +kernel)) (k_cons rfl (k_var rfl (by decide +kernel)) k_nil)))))
theorem ok333 : FiOk PT fw fi333 := ⟨⟨rfl, rfl, rfl, by decide +kernel, rfl, by decide +kernel, by decide +kernel⟩, rfl,
  fun _ kV doc pm an cdv ct us hl => match us, hl with | [_, _], _ => rfl,
  fun h => absurd rfl h,
  fun b cA fA fdA psA k cf rp => match b with | true => body333 true k cf rp | false => body333 false k cf rp⟩
theorem body334 (b : Bool) (k : Nat) (cf : CF) (rp : Store → T → Out Str) : Kb (CC b cA fA fdA psA fw k cf rp) N_ratios_Ratio___init__ (defScope st334) (defBody st334) S_ratios_Ratio___init__ :=
  (b_cons (t_if (k_tnot (k_tv rfl (k_cal rfl (by decide +kernel) rfl rfl (k_cons rfl (k_var rfl (by decide +kernel)) k_nil) (fun h => nomatch h)))) (b_one t_junk) b_nil)
    (b_cons (t_if (k_tw (k_wor (k_tnot (k_tv rfl (k_cal rfl (by decide +kernel) rfl rfl (k_cons rfl (k_var rfl (by decide +kernel)) k_nil) (fun h => nomatch h)))) (k_w1o (k_tcmp rfl (k_var rfl (by decide +kernel)) k_int)))) (b_one t_junk) b_nil)
    (b_cons (t_asg (fun _ _ => rfl) (fun _ _ => rfl) (fun _ => rfl) (g_gn rfl (by decide +kernel)) (k_cal rfl (by decide +kernel) rfl rfl (k_cons rfl (k_var rfl (by decide +kernel)) (k_cons rfl (k_var rfl (by decide +kernel)) k_nil)) (fun h => nomatch h)))
    (b_cons (t_if (k_tcmp rfl (k_var rfl (by decide +kernel)) k_int) (b_one (t_asg (fun _ _ => rfl) (fun _ _ => rfl) (fun _ => rfl) (g_gn rfl (by decide +kernel)) (k_bin k_int (k_var rfl (by decide +kernel))))) b_nil)
    (b_cons (t_satt (fun _ => rfl) (k_var rfl (by decide +kernel)) (k_bin (k_var rfl (by decide +kernel)) (k_var rfl (by decide +kernel))))
    (b_one (t_satt (fun _ => rfl) (k_var rfl (by decide +kernel)) (k_bin (k_var rfl (by decide +kernel)) (k_var rfl (by decide +kernel))))))))))
theorem ok334 : FiOk PT fw fi334 := ⟨⟨rfl, rfl, rfl, by decide +kernel, rfl, by decide +kernel, by decide +kernel⟩, rfl,
  fun h => (by cases h),
  fun _ n h => match n, h with | 0, _ => ⟨by decide, fun T kV doc pm an cdv ct us its hu hi => match us, its, hu, hi with | [_, _, _], [_], _, _ => ⟨_, rfl, rfl⟩⟩ | 1, _ => ⟨by decide, fun T kV doc pm an cdv ct us its hu hi => match us, its, hu, hi with | [_, _], [_], _, _ => ⟨_, rfl, rfl⟩⟩ | n + 2, h => (Nat.not_succ_le_zero _ (Nat.le_of_add_le_add_right (b := 1) (show n + 1 + 1 ≤ 0 + 1 from h))).elim,
  fun b cA fA fdA psA k cf rp => match b with | true => body334 true k cf rp | false => body334 false k cf rp⟩
theorem body340 (b : Bool) (k : Nat) (cf : CF) (rp : Store → T → Out Str) : Kb (CC b cA fA fdA psA fw k cf rp) N_ratios_Ratio___add__ (defScope st340) (defBody st340) S_ratios_Ratio___add__ :=
  (b_cons (t_asg (fun _ _ => rfl) (fun _ _ => rfl) (fun _ => rfl) (g_gt rfl rfl (g_pcons rfl (g_gn rfl (by decide +kernel)) (g_pcons rfl (g_gn rfl (by decide +kernel)) g_pnil))) (k_cal rfl (by decide +kernel) rfl rfl (k_cons rfl (k_var rfl (by decide +kernel)) k_nil) (fun h => nomatch h)))
    (b_one (t_ret (k_mk rfl rfl (by decide +kernel) rfl rfl (k_cons rfl (k_bin (k_bin (k_att rfl (k_var rfl (by decide +kernel))) (k_var rfl (by decide +kernel))) (k_bin (k_var rfl (by decide +kernel)) (k_att rfl (k_var rfl (by decide +kernel))))) (k_cons rfl (k_bin (k_att rfl (k_var rfl (by decide +kernel))) (k_var rfl (by decide +kernel))) k_nil))))))
theorem ok340 : FiOk PT fw fi340 := ⟨⟨rfl, rfl, rfl, by decide +kernel, rfl, by decide +kernel, by decide +kernel⟩, rfl,
  fun _ kV doc pm an cdv ct us hl => match us, hl with | [_, _], _ => rfl,
  fun h => absurd rfl h,
  fun b cA fA fdA psA k cf rp => match b with | true => body340 true k cf rp | false => body340 false k cf rp⟩
theorem body341 (b : Bool) (k : Nat) (cf : CF) (rp : Store → T → Out Str) : Kb (CC b cA fA fdA psA fw k cf rp) N_ratios_Ratio___radd__ (defScope st341) (defBody st341) S_ratios_Ratio___radd__ :=
  (b_cons (t_asg (fun _ _ => rfl) (fun _ _ => rfl) (fun _ => rfl) (g_gt rfl rfl (g_pcons rfl (g_gn rfl (by decide +kernel)) (g_pcons rfl (g_gn rfl (by decide +kernel)) g_pnil))) (k_cal rfl (by decide +kernel) rfl rfl (k_cons rfl (k_var rfl (by decide +kernel)) k_nil) (fun h => nomatch h)))
    (b_one (t_ret (k_mk rfl rfl (by decide +kernel) rfl rfl (k_cons rfl (k_bin (k_bin (k_att rfl (k_var rfl (by decide +kernel))) (k_var rfl (by decide +kernel))) (k_bin (k_var rfl (by decide +kernel)) (k_att rfl (k_var rfl (by decide +kernel))))) (k_cons rfl (k_bin (k_att rfl (k_var rfl (by decide +kernel))) (k_var rfl (by decide +kernel))) k_nil))))))
theorem ok341 : FiOk PT fw fi341 := ⟨⟨rfl, rfl, rfl, by decide +kernel, rfl, by decide +kernel, by decide +kernel⟩, rfl,
  fun _ kV doc pm an cdv ct us hl => match us, hl with | [_, _], _ => rfl,
  fun h => absurd rfl h,
  fun b cA fA fdA psA k cf rp => match b with | true => body341 true k cf rp | false => body341 false k cf rp⟩
theorem body342 (b : Bool) (k : Nat) (cf : CF) (rp : Store → T → Out Str) : Kb (CC b cA fA fdA psA fw k cf rp) N_ratios_Ratio___sub__ (defScope st342) (defBody st342) S_ratios_Ratio___sub__ :=
  (b_cons (t_asg (fun _ _ => rfl) (fun _ _ => rfl) (fun _ => rfl) (g_gt rfl rfl (g_pcons rfl (g_gn rfl (by decide +kernel)) (g_pcons rfl (g_gn rfl (by decide +kernel)) g_pnil))) (k_cal rfl (by decide +kernel) rfl rfl (k_cons rfl (k_var rfl (by decide +kernel)) k_nil) (fun h => nomatch h)))
    (b_one (t_ret (k_mk rfl rfl (by decide +kernel) rfl rfl (k_cons rfl (k_bin (k_bin (k_att rfl (k_var rfl (by decide +kernel))) (k_var rfl (by decide +kernel))) (k_bin (k_var rfl (by decide +kernel)) (k_att rfl (k_var rfl (by decide +kernel))))) (k_cons rfl (k_bin (k_att rfl (k_var rfl (by decide +kernel))) (k_var rfl (by decide +kernel))) k_nil))))))
theorem ok342 : FiOk PT fw fi342 := ⟨⟨rfl, rfl, rfl, by decide +kernel, rfl, by decide +kernel, by decide +kernel⟩, rfl,
  fun _ kV doc pm an cdv ct us hl => match us, hl with | [_, _], _ => rfl,
  fun h => absurd rfl h,
  fun b cA fA fdA psA k cf rp => match b with | true => body342 true k cf rp | false => body342 false k cf rp⟩
theorem body343 (b : Bool) (k : Nat) (cf : CF) (rp : Store → T → Out Str) : Kb (CC b cA fA fdA psA fw k cf rp) N_ratios_Ratio___rsub__ (defScope st343) (defBody st343) S_ratios_Ratio___rsub__ :=
  (b_cons (t_asg (fun _ _ => rfl) (fun _ _ => rfl) (fun _ => rfl) (g_gt rfl rfl (g_pcons rfl (g_gn rfl (by decide +kernel)) (g_pcons rfl (g_gn rfl (by decide +kernel)) g_pnil))) (k_cal rfl (by decide +kernel) rfl rfl (k_cons rfl (k_var rfl (by decide +kernel)) k_nil) (fun h => nomatch h)))
    (b_one (t_ret (k_mk rfl rfl (by decide +kernel) rfl rfl (k_cons rfl (k_bin (k_bin (k_var rfl (by decide +kernel)) (k_att rfl (k_var rfl (by decide +kernel)))) (k_bin (k_att rfl (k_var rfl (by decide +kernel))) (k_var rfl (by decide +kernel)))) (k_cons rfl (k_bin (k_att rfl (k_var rfl (by decide +kernel))) (k_var rfl (by decide +kernel))) k_nil))))))
theorem ok343 : FiOk PT fw fi343 := ⟨⟨rfl, rfl, rfl, by decide +kernel, rfl, by decide +kernel, by decide +kernel⟩, rfl,
  fun _ kV doc pm an cdv ct us hl => match us, hl with | [_, _], _ => rfl,
  fun h => absurd rfl h,
  fun b cA fA fdA psA k cf rp => match b with | true => body343 true k cf rp | false => body343 false k cf rp⟩
theorem body344 (b : Bool) (k : Nat) (cf : CF) (rp : Store → T → Out Str) : Kb (CC b cA fA fdA psA fw k cf rp) N_ratios_Ratio___mul__ (defScope st344) (defBody st344) S_ratios_Ratio___mul__ :=
  (b_cons (t_asg (fun _ _ => rfl) (fun _ _ => rfl) (fun _ => rfl) (g_gt rfl rfl (g_pcons rfl (g_gn rfl (by decide +kernel)) (g_pcons rfl (g_gn rfl (by decide +kernel)) g_pnil))) (k_cal rfl (by decide +kernel) rfl rfl (k_cons rfl (k_var rfl (by decide +kernel)) k_nil) (fun h => nomatch h)))
    (b_one (t_ret (k_mk rfl rfl (by decide +kernel) rfl rfl (k_cons rfl (k_bin (k_att rfl (k_var rfl (by decide +kernel))) (k_var rfl (by decide +kernel))) (k_cons rfl (k_bin (k_att rfl (k_var rfl (by decide +kernel))) (k_var rfl (by decide +kernel))) k_nil))))))
theorem ok344 : FiOk PT fw fi344 := ⟨⟨rfl, rfl, rfl, by decide +kernel, rfl, by decide +kernel, by decide +kernel⟩, rfl,
  fun _ kV doc pm an cdv ct us hl => match us, hl with | [_, _], _ => rfl,
  fun h => absurd rfl h,
  fun b cA fA fdA psA k cf rp => match b with | true => body344 true k cf rp | false => body344 false k cf rp⟩
theorem body345 (b : Bool) (k : Nat) (cf : CF) (rp : Store → T → Out Str) : Kb (CC b cA fA fdA psA fw k cf rp) N_ratios_Ratio___rmul__ (defScope st345) (defBody st345) S_ratios_Ratio___rmul__ :=
  (b_cons (t_asg (fun _ _ => rfl) (fun _ _ => rfl) (fun _ => rfl) (g_gt rfl rfl (g_pcons rfl (g_gn rfl (by decide +kernel)) (g_pcons rfl (g_gn rfl (by decide +kernel)) g_pnil))) (k_cal rfl (by decide +kernel) rfl rfl (k_cons rfl (k_var rfl (by decide +kernel)) k_nil) (fun h => nomatch h)))
    (b_one (t_ret (k_mk rfl rfl (by decide +kernel) rfl rfl (k_cons rfl (k_bin (k_att rfl (k_var rfl (by decide +kernel))) (k_var rfl (by decide +kernel))) (k_cons rfl (k_bin (k_att rfl (k_var rfl (by decide +kernel))) (k_var rfl (by decide +kernel))) k_nil))))))
theorem ok345 : FiOk PT fw fi345 := ⟨⟨rfl, rfl, rfl, by decide +kernel, rfl, by decide +kernel, by decide +kernel⟩, rfl,
  fun _ kV doc pm an cdv ct us hl => match us, hl with | [_, _], _ => rfl,
  fun h => absurd rfl h,
  fun b cA fA fdA psA k cf rp => match b with | true => body345 true k cf rp | false => body345 false k cf rp⟩
theorem body346 (b : Bool) (k : Nat) (cf : CF) (rp : Store → T → Out Str) : Kb (CC b cA fA fdA psA fw k cf rp) N_ratios_Ratio___neg__ (defScope st346) (defBody st346) S_ratios_Ratio___neg__ :=
  (b_one (t_ret (k_mk rfl rfl (by decide +kernel) rfl rfl (k_cons rfl (k_bin k_int (k_att rfl (k_var rfl (by decide +kernel)))) (k_cons rfl (k_att rfl (k_var rfl (by decide +kernel))) k_nil)))))
theorem ok346 : FiOk PT fw fi346 := ⟨⟨rfl, rfl, rfl, by decide +kernel, rfl, by decide +kernel, by decide +kernel⟩, rfl,
  fun _ kV doc pm an cdv ct us hl => match us, hl with | [_], _ => rfl,
  fun h => absurd rfl h,
  fun b cA fA fdA psA k cf rp => match b with | true => body346 true k cf rp | false => body346 false k cf rp⟩
theorem body351 (b : Bool) (k : Nat) (cf : CF) (rp : Store → T → Out Str) : Kb (CC b cA fA fdA psA fw k cf rp) N_ratios_Ratio___eq__ (defScope st351) (defBody st351) S_ratios_Ratio___eq__ :=
  (b_cons (t_if (k_tnot (k_tv rfl (k_isi1 (by decide +kernel) rfl (k_var rfl (by decide +kernel)) (k_cls (by decide +kernel) rfl)))) (b_one (t_ret k_bl)) b_nil)
    (b_one (t_ret (k_and (k_cmp rfl (k_att rfl (k_var rfl (by decide +kernel))) (k_att rfl (k_var rfl (by decide +kernel)))) (k_one (k_cmp rfl (k_att rfl (k_var rfl (by decide +kernel))) (k_att rfl (k_var rfl (by decide +kernel)))))))))
theorem ok351 : FiOk PT fw fi351 := ⟨⟨rfl, rfl, rfl, by decide +kernel, rfl, by decide +kernel, by decide +kernel⟩, rfl,
  fun _ kV doc pm an cdv ct us hl => match us, hl with | [_, _], _ => rfl,
  fun h => absurd rfl h,
  fun b cA fA fdA psA k cf rp => match b with | true => body351 true k cf rp | false => body351 false k cf rp⟩
theorem body353 (b : Bool) (k : Nat) (cf : CF) (rp : Store → T → Out Str) : Kb (CC b cA fA fdA psA fw k cf rp) N_ratios_Ratio___repr__ (defScope st353) (defBody st353) S_ratios_Ratio___repr__ :=
  (b_one (t_ret (k_fst (k_fcons k_str (k_fcons (k_fmt (k_cal rfl (by decide +kernel) rfl rfl (k_cons rfl (k_att rfl (k_var rfl (by decide +kernel))) k_nil) (fun h => nomatch h))) (k_fcons k_str (k_fcons (k_fmt (k_cal rfl (by decide +kernel) rfl rfl (k_cons rfl (k_att rfl (k_var rfl (by decide +kernel))) k_nil) (fun h => nomatch h))) (k_fcons k_str k_fnil))))))))
theorem ok353 : FiOk PT fw fi353 := ⟨⟨rfl, rfl, rfl, by decide +kernel, rfl, by decide +kernel, by decide +kernel⟩, rfl,
  fun _ kV doc pm an cdv ct us hl => match us, hl with | [_], _ => rfl,
  fun h => absurd rfl h,
  fun b cA fA fdA psA k cf rp => match b with | true => body353 true k cf rp | false => body353 false k cf rp⟩
theorem body354 (b : Bool) (k : Nat) (cf : CF) (rp : Store → T → Out Str) : Kb (CC b cA fA fdA psA fw k cf rp) N_ratios_told_pair (defScope st354) (defBody st354) S_ratios_told_pair :=
  (b_cons (t_if (k_tv rfl (k_isi1 (by decide +kernel) rfl (k_var rfl (by decide +kernel)) (k_cls (by decide +kernel) rfl))) (b_one (t_ret (k_tup (k_cons rfl (k_att rfl (k_var rfl (by decide +kernel))) (k_cons rfl (k_att rfl (k_var rfl (by decide +kernel))) k_nil))))) b_nil)
    (b_cons (t_if (k_tnot (k_tv rfl (k_cal rfl (by decide +kernel) rfl rfl (k_cons rfl (k_var rfl (by decide +kernel)) k_nil) (fun h => nomatch h)))) (b_one t_junk) b_nil)
    (b_one (t_ret (k_tup (k_cons rfl (k_var rfl (by decide +kernel)) (k_cons rfl k_int k_nil)))))))
theorem ok354 : FiOk PT fw fi354 := ⟨⟨rfl, rfl, rfl, by decide +kernel, rfl, by decide +kernel, by decide +kernel⟩, rfl,
  fun _ kV doc pm an cdv ct us hl => match us, hl with | [_], _ => rfl,
  fun h => absurd rfl h,
  fun b cA fA fdA psA k cf rp => match b with | true => body354 true k cf rp | false => body354 false k cf rp⟩
theorem body355 (b : Bool) (k : Nat) (cf : CF) (rp : Store → T → Out Str) : Kb (CC b cA fA fdA psA fw k cf rp) N_ratios_is_number (defScope st355) (defBody st355) S_ratios_is_number :=
  (b_one (t_ret (k_or (k_cal rfl (by decide +kernel) rfl rfl (k_cons rfl (k_var rfl (by decide +kernel)) k_nil) (fun h => nomatch h)) (k_one (k_isi1 (by decide +kernel) rfl (k_var rfl (by decide +kernel)) (k_cls (by decide +kernel) rfl))))))
theorem ok355 : FiOk PT fw fi355 := ⟨⟨rfl, rfl, rfl, by decide +kernel, rfl, by decide +kernel, by decide +kernel⟩, rfl,
  fun _ kV doc pm an cdv ct us hl => match us, hl with | [_], _ => rfl,
  fun h => absurd rfl h,
  fun b cA fA fdA psA k cf rp => match b with | true => body355 true k cf rp | false => body355 false k cf rp⟩
theorem body356 (b : Bool) (k : Nat) (cf : CF) (rp : Store → T → Out Str) : Kb (CC b cA fA fdA psA fw k cf rp) N_ratios_ratio_of (defScope st356) (defBody st356) S_ratios_ratio_of :=
  (b_one (t_ret (k_ite (k_tv rfl (k_isi1 (by decide +kernel) rfl (k_var rfl (by decide +kernel)) (k_cls (by decide +kernel) rfl))) (k_var rfl (by decide +kernel)) (k_mk rfl rfl (by decide +kernel) rfl rfl (k_cons rfl (k_var rfl (by decide +kernel)) k_nil)))))
theorem ok356 : FiOk PT fw fi356 := ⟨⟨rfl, rfl, rfl, by decide +kernel, rfl, by decide +kernel, by decide +kernel⟩, rfl,
  fun _ kV doc pm an cdv ct us hl => match us, hl with | [_], _ => rfl,
  fun h => absurd rfl h,
  fun b cA fA fdA psA k cf rp => match b with | true => body356 true k cf rp | false => body356 false k cf rp⟩
theorem body420 (b : Bool) (k : Nat) (cf : CF) (rp : Store → T → Out Str) : Kb (CC b cA fA fdA psA fw k cf rp) N_solved_are_numbers (defScope st420) (defBody st420) S_solved_are_numbers :=
  (b_one (t_ret (k_and (k_cal rfl (by decide +kernel) rfl rfl (k_cons rfl (k_var rfl (by decide +kernel)) k_nil) (fun h => nomatch h)) (k_and (k_cmp rfl (k_blt (by decide +kernel) (by decide) (by decide +kernel) (fun h => nomatch h) rfl (k_cons rfl (k_var rfl (by decide +kernel)) k_nil)) (k_var rfl (by decide +kernel))) (k_one (k_blt (by decide +kernel) (by decide) (by decide +kernel) (fun h => nomatch h) rfl (k_cons rfl (k_lc ⟨(by decide +kernel), (by decide +kernel), rfl, (by decide +kernel)⟩ (k_iseq (k_var rfl (by decide +kernel))) k_ts0 (k_cal rfl (by decide +kernel) rfl rfl (k_cons rfl (k_var rfl (by decide +kernel)) k_nil) (fun h => nomatch h))) k_nil)))))))
theorem ok420 : FiOk PT fw fi420 := ⟨⟨rfl, rfl, rfl, by decide +kernel, rfl, by decide +kernel, by decide +kernel⟩, rfl,
  fun _ kV doc pm an cdv ct us hl => match us, hl with | [_, _], _ => rfl,
  fun h => absurd rfl h,
  fun b cA fA fdA psA k cf rp => match b with | true => body420 true k cf rp | false => body420 false k cf rp⟩
theorem body436 (b : Bool) (k : Nat) (cf : CF) (rp : Store → T → Out Str) : Kb (CC b cA fA fdA psA fw k cf rp) N_tables_table_in (defScope st436) (defBody st436) S_tables_table_in :=
  (b_cons (t_if (k_tw (k_wor (k_tnot (k_tv rfl (k_cal rfl (by decide +kernel) rfl rfl (k_cons rfl (k_var rfl (by decide +kernel)) k_nil) (fun h => nomatch h)))) (k_w1o (k_tnot (k_tcmp2 rfl k_int (k_blt (by decide +kernel) (by decide) (by decide +kernel) (fun h => nomatch h) rfl (k_cons rfl (k_var rfl (by decide +kernel)) k_nil)) (k_gi (by decide +kernel) rfl)))))) (b_one (t_ret k_non)) b_nil)
    (b_cons (t_if (k_tnot (k_tv rfl (k_blt (by decide +kernel) (by decide) (by decide +kernel) (fun h => nomatch h) rfl (k_cons rfl (k_lc ⟨(by decide +kernel), (by decide +kernel), rfl, (by decide +kernel)⟩ (k_iseq (k_var rfl (by decide +kernel))) k_ts0 (k_cal rfl (by decide +kernel) rfl rfl (k_cons rfl (k_var rfl (by decide +kernel)) (k_cons rfl (k_blt (by decide +kernel) (by decide) (by decide +kernel) (fun h => nomatch h) rfl (k_cons rfl (k_var rfl (by decide +kernel)) k_nil)) k_nil)) (fun h => nomatch h))) k_nil)))) (b_one (t_ret k_non)) b_nil)
    (b_one (t_ret (k_lc ⟨(by decide +kernel), (by decide +kernel), rfl, (by decide +kernel)⟩ (k_iseq (k_var rfl (by decide +kernel))) k_ts0 (k_lc ⟨(by decide +kernel), (by decide +kernel), rfl, (by decide +kernel)⟩ (k_iseq (k_var rfl (by decide +kernel))) k_ts0 (k_cal rfl (by decide +kernel) rfl rfl (k_cons rfl (k_var rfl (by decide +kernel)) k_nil) (fun h => nomatch h))))))))
theorem ok436 : FiOk PT fw fi436 := ⟨⟨rfl, rfl, rfl, by decide +kernel, rfl, by decide +kernel, by decide +kernel⟩, rfl,
  fun _ kV doc pm an cdv ct us hl => match us, hl with | [_], _ => rfl,
  fun h => absurd rfl h,
  fun b cA fA fdA psA k cf rp => match b with | true => body436 true k cf rp | false => body436 false k cf rp⟩
theorem body455 (b : Bool) (k : Nat) (cf : CF) (rp : Store → T → Out Str) : Kb (CC b cA fA fdA psA fw k cf rp) N_tables_short_of (defScope st455) (defBody st455) S_tables_short_of :=
  (b_one (t_ret (k_lc ⟨(by decide +kernel), (by decide +kernel), rfl, (by decide +kernel)⟩ (k_irng1 (by decide +kernel) rfl (k_var rfl (by decide +kernel))) k_ts0 (k_sl (k_var rfl (by decide +kernel)) (k_part rfl (k_bin (k_var rfl (by decide +kernel)) (k_var rfl (by decide +kernel)))) (k_part rfl (k_bin (k_bin (k_var rfl (by decide +kernel)) k_int) (k_var rfl (by decide +kernel))))))))
theorem ok455 : FiOk PT fw fi455 := ⟨⟨rfl, rfl, rfl, by decide +kernel, rfl, by decide +kernel, by decide +kernel⟩, rfl,
  fun _ kV doc pm an cdv ct us hl => match us, hl with | [_, _], _ => rfl,
  fun h => absurd rfl h,
  fun b cA fA fdA psA k cf rp => match b with | true => body455 true k cf rp | false => body455 false k cf rp⟩
theorem body458 (b : Bool) (k : Nat) (cf : CF) (rp : Store → T → Out Str) : Kb (CC b cA fA fdA psA fw k cf rp) N_tables_is_table (defScope st458) (defBody st458) S_tables_is_table :=
  (b_one (t_ret (k_cmp rfl (k_cal rfl (by decide +kernel) rfl rfl (k_cons rfl (k_var rfl (by decide +kernel)) k_nil) (fun h => nomatch h)) k_non)))
theorem ok458 : FiOk PT fw fi458 := ⟨⟨rfl, rfl, rfl, by decide +kernel, rfl, by decide +kernel, by decide +kernel⟩, rfl,
  fun _ kV doc pm an cdv ct us hl => match us, hl with | [_], _ => rfl,
  fun h => absurd rfl h,
  fun b cA fA fdA psA k cf rp => match b with | true => body458 true k cf rp | false => body458 false k cf rp⟩
theorem body469 (b : Bool) (k : Nat) (cf : CF) (rp : Store → T → Out Str) : Kb (CC b cA fA fdA psA fw k cf rp) N_tables_from_long_x (defScope st469) (defBody st469) S_tables_from_long_x :=
  (b_cons (t_for rfl (by decide +kernel) (k_irng2 (by decide +kernel) rfl rfl k_int (k_bin (k_gi (by decide +kernel) rfl) k_int)) (b_one (t_if (k_tv rfl (k_cal rfl (by decide +kernel) rfl rfl (k_cons rfl (k_var rfl (by decide +kernel)) (k_cons rfl (k_bin (k_var rfl (by decide +kernel)) (k_var rfl (by decide +kernel))) k_nil)) (fun h => nomatch h))) (b_one (t_ret (k_cal rfl (by decide +kernel) rfl rfl (k_cons rfl (k_lc ⟨(by decide +kernel), (by decide +kernel), rfl, (by decide +kernel)⟩ (k_iseq (k_var rfl (by decide +kernel))) k_ts0 (k_cal rfl (by decide +kernel) rfl rfl (k_cons rfl (k_var rfl (by decide +kernel)) k_nil) (fun h => nomatch h))) (k_cons rfl (k_var rfl (by decide +kernel)) k_nil)) (fun h => nomatch h)))) b_nil)))
    (b_one (t_raise rfl rfl (by decide +kernel) rfl (k_var rfl (by decide +kernel)))))
theorem ok469 : FiOk PT fw fi469 := ⟨⟨rfl, rfl, rfl, by decide +kernel, rfl, by decide +kernel, by decide +kernel⟩, rfl,
  fun _ kV doc pm an cdv ct us hl => match us, hl with | [_], _ => rfl,
  fun h => absurd rfl h,
  fun b cA fA fdA psA k cf rp => match b with | true => body469 true k cf rp | false => body469 false k cf rp⟩
theorem body1001 (b : Bool) (k : Nat) (cf : CF) (rp : Store → T → Out Str) : Kb (CC b cA fA fdA psA fw k cf rp) N_L_pot (defScope st1001) (defBody st1001) S_L_pot :=
  (b_cons (t_asg (fun _ _ => rfl) (fun _ _ => rfl) (fun _ => rfl) (g_gn rfl (by decide +kernel)) (k_bin (k_bin k_int (k_var rfl (by decide +kernel))) k_int))
    (b_cons (t_if (k_tcmp rfl (k_var rfl (by decide +kernel)) (k_blt (by decide +kernel) (by decide) (by decide +kernel) (fun h => nomatch h) rfl (k_cons rfl (k_var rfl (by decide +kernel)) k_nil))) (b_one (t_asg (fun _ _ => rfl) (fun _ _ => rfl) (fun _ => rfl) (g_gn rfl (by decide +kernel)) (k_blt (by decide +kernel) (by decide) (by decide +kernel) (fun h => nomatch h) rfl (k_cons rfl (k_ix rfl (k_var rfl (by decide +kernel)) (k_var rfl (by decide +kernel))) k_nil)))) b_nil)
    (b_one (t_ret (k_lst (k_cons rfl (k_blt (by decide +kernel) (by decide) (by decide +kernel) (fun h => nomatch h) rfl (k_cons rfl k_int (k_cons rfl (k_bin (k_var rfl (by decide +kernel)) (k_bin k_int k_int)) k_nil))) (k_cons rfl (k_bin (k_bin (k_bin (k_blt (by decide +kernel) (by decide) (by decide +kernel) (fun h => nomatch h) rfl (k_cons rfl (k_bin (k_bin (k_blt (by decide +kernel) (by decide) (by decide +kernel) (fun h => nomatch h) rfl (k_cons rfl (k_var rfl (by decide +kernel)) k_nil)) k_int) k_int) k_nil)) (k_bin (k_bin (k_bin k_int (k_var rfl (by decide +kernel))) k_int) k_int)) k_int) k_int) k_nil)))))))
theorem ok1001 : FiOk PT fw fi1001 := ⟨⟨rfl, rfl, rfl, by decide +kernel, rfl, by decide +kernel, by decide +kernel⟩, rfl,
  fun _ kV doc pm an cdv ct us hl => match us, hl with | [_, _], _ => rfl,
  fun h => absurd rfl h,
  fun b cA fA fdA psA k cf rp => match b with | true => body1001 true k cf rp | false => body1001 false k cf rp⟩
theorem body1002 (b : Bool) (k : Nat) (cf : CF) (rp : Store → T → Out Str) : Kb (CC b cA fA fdA psA fw k cf rp) N_L_draw (defScope st1002) (defBody st1002) S_L_draw :=
  (b_cons (t_if (k_tcmp rfl (k_ix rfl (k_var rfl (by decide +kernel)) k_int) k_int) (b_cons (t_asg (fun _ _ => rfl) (fun _ _ => rfl) (fun _ => rfl) (g_gt rfl rfl (g_pcons rfl (g_ix (fun _ _ => rfl) (k_var rfl (by decide +kernel)) k_int) (g_pcons rfl (g_gn rfl (by decide +kernel)) g_pnil))) (k_blt (by decide +kernel) (by decide) (by decide +kernel) (fun h => nomatch h) rfl (k_cons rfl (k_ix rfl (k_var rfl (by decide +kernel)) k_int) (k_cons rfl (k_var rfl (by decide +kernel)) k_nil))))
    (b_one (t_ret (k_var rfl (by decide +kernel))))) b_nil)
    (b_cons (t_asg (fun _ _ => rfl) (fun _ _ => rfl) (fun _ => rfl) (g_ix (fun _ _ => rfl) (k_var rfl (by decide +kernel)) k_int) (k_bin (k_blt (by decide +kernel) (by decide) (by decide +kernel) (fun h => nomatch h) rfl (k_cons rfl (k_bin (k_bin (k_ix rfl (k_var rfl (by decide +kernel)) k_int) k_int) k_int) k_nil)) k_int))
    (b_one (t_ret (k_bin (k_blt (by decide +kernel) (by decide) (by decide +kernel) (fun h => nomatch h) rfl (k_cons rfl (k_bin (k_bin (k_blt (by decide +kernel) (by decide) (by decide +kernel) (fun h => nomatch h) rfl (k_cons rfl (k_bin (k_ix rfl (k_var rfl (by decide +kernel)) k_int) (k_ix rfl (k_var rfl (by decide +kernel)) k_int)) k_nil)) k_int) k_int) k_nil)) (k_var rfl (by decide +kernel)))))))
theorem ok1002 : FiOk PT fw fi1002 := ⟨⟨rfl, rfl, rfl, by decide +kernel, rfl, by decide +kernel, by decide +kernel⟩, rfl,
  fun _ kV doc pm an cdv ct us hl => match us, hl with | [_, _], _ => rfl,
  fun h => absurd rfl h,
  fun b cA fA fdA psA k cf rp => match b with | true => body1002 true k cf rp | false => body1002 false k cf rp⟩
theorem body1003 (b : Bool) (k : Nat) (cf : CF) (rp : Store → T → Out Str) : Kb (CC b cA fA fdA psA fw k cf rp) N_L_pick (defScope st1003) (defBody st1003) S_L_pick :=
  (b_one (t_ret (k_ix rfl (k_var rfl (by decide +kernel)) (k_cal rfl (by decide +kernel) rfl rfl (k_cons rfl (k_var rfl (by decide +kernel)) (k_cons rfl (k_blt (by decide +kernel) (by decide) (by decide +kernel) (fun h => nomatch h) rfl (k_cons rfl (k_var rfl (by decide +kernel)) k_nil)) k_nil)) (fun h => nomatch h)))))
theorem ok1003 : FiOk PT fw fi1003 := ⟨⟨rfl, rfl, rfl, by decide +kernel, rfl, by decide +kernel, by decide +kernel⟩, rfl,
  fun _ kV doc pm an cdv ct us hl => match us, hl with | [_, _], _ => rfl,
  fun h => absurd rfl h,
  fun b cA fA fdA psA k cf rp => match b with | true => body1003 true k cf rp | false => body1003 false k cf rp⟩
theorem body1004 (b : Bool) (k : Nat) (cf : CF) (rp : Store → T → Out Str) : Kb (CC b cA fA fdA psA fw k cf rp) N_L_low (defScope st1004) (defBody st1004) S_L_low :=
  (b_cons (t_par2 rfl rfl (by decide) (by decide +kernel) (by decide +kernel) (fun env h => by cases env; cases h; rfl) (k_cons rfl (k_blt (by decide +kernel) (by decide) (by decide +kernel) (fun h => nomatch h) rfl (k_cons rfl (k_var rfl (by decide +kernel)) k_nil)) (k_cons rfl (k_blt (by decide +kernel) (by decide) (by decide +kernel) (fun h => nomatch h) rfl (k_cons rfl (k_var rfl (by decide +kernel)) k_nil)) k_nil)))
    (b_cons (t_whl (k_tcmp rfl (k_var rfl (by decide +kernel)) k_int) (b_one (t_par2 rfl rfl (by decide) (by decide +kernel) (by decide +kernel) (fun env h => by cases env; cases h; rfl) (k_cons rfl (k_var rfl (by decide +kernel)) (k_cons rfl (k_bin (k_blt (by decide +kernel) (by decide) (by decide +kernel) (fun h => nomatch h) rfl (k_cons rfl (k_var rfl (by decide +kernel)) k_nil)) (k_var rfl (by decide +kernel))) k_nil)))))
    (b_cons (t_asg (fun _ _ => rfl) (fun _ _ => rfl) (fun _ => rfl) (g_gn rfl (by decide +kernel)) (k_ite (k_tcmp rfl (k_var rfl (by decide +kernel)) k_int) (k_var rfl (by decide +kernel)) (k_bin k_int (k_var rfl (by decide +kernel)))))
    (b_one (t_ret (k_tup (k_cons rfl (k_bin (k_var rfl (by decide +kernel)) (k_var rfl (by decide +kernel))) (k_cons rfl (k_bin (k_var rfl (by decide +kernel)) (k_var rfl (by decide +kernel))) k_nil))))))))
theorem ok1004 : FiOk PT fw fi1004 := ⟨⟨rfl, rfl, rfl, by decide +kernel, rfl, by decide +kernel, by decide +kernel⟩, rfl,
  fun _ kV doc pm an cdv ct us hl => match us, hl with | [_, _], _ => rfl,
  fun h => absurd rfl h,
  fun b cA fA fdA psA k cf rp => match b with | true => body1004 true k cf rp | false => body1004 false k cf rp⟩
theorem body1005 (b : Bool) (k : Nat) (cf : CF) (rp : Store → T → Out Str) : Kb (CC b cA fA fdA psA fw k cf rp) N_L_by (defScope st1005) (defBody st1005) S_L_by :=
  (b_one (t_ret (k_cal rfl (by decide +kernel) rfl rfl (k_cons rfl (k_bin (k_ix rfl (k_var rfl (by decide +kernel)) k_int) (k_ix rfl (k_var rfl (by decide +kernel)) k_int)) (k_cons rfl (k_bin (k_ix rfl (k_var rfl (by decide +kernel)) k_int) (k_ix rfl (k_var rfl (by decide +kernel)) k_int)) k_nil)) (fun h => nomatch h))))
theorem ok1005 : FiOk PT fw fi1005 := ⟨⟨rfl, rfl, rfl, by decide +kernel, rfl, by decide +kernel, by decide +kernel⟩, rfl,
  fun _ kV doc pm an cdv ct us hl => match us, hl with | [_, _], _ => rfl,
  fun h => absurd rfl h,
  fun b cA fA fdA psA k cf rp => match b with | true => body1005 true k cf rp | false => body1005 false k cf rp⟩
theorem body1006 (b : Bool) (k : Nat) (cf : CF) (rp : Store → T → Out Str) : Kb (CC b cA fA fdA psA fw k cf rp) N_L_passed (defScope st1006) (defBody st1006) S_L_passed :=
  (b_cons (t_asg (fun _ _ => rfl) (fun _ _ => rfl) (fun _ => rfl) (g_gn rfl (by decide +kernel)) (k_and (k_cmp rfl (k_ix rfl (k_var rfl (by decide +kernel)) k_int) k_int) (k_one (k_cmp rfl (k_blt (by decide +kernel) (by decide) (by decide +kernel) (fun h => nomatch h) rfl (k_cons rfl (k_ix rfl (k_var rfl (by decide +kernel)) k_int) k_nil)) (k_bin k_int k_int)))))
    (b_one (t_ret (k_ite (k_tw (k_wand (k_tv rfl (k_var rfl (by decide +kernel))) (k_w1a (k_tcmp rfl (k_cal rfl (by decide +kernel) rfl rfl (k_cons rfl (k_var rfl (by decide +kernel)) (k_cons rfl k_int k_nil)) (fun h => nomatch h)) k_int)))) (k_ix rfl (k_var rfl (by decide +kernel)) k_int) (k_mk rfl rfl (by decide +kernel) rfl rfl (k_cons rfl (k_ix rfl (k_var rfl (by decide +kernel)) k_int) (k_cons rfl (k_ix rfl (k_var rfl (by decide +kernel)) k_int) k_nil)))))))
theorem ok1006 : FiOk PT fw fi1006 := ⟨⟨rfl, rfl, rfl, by decide +kernel, rfl, by decide +kernel, by decide +kernel⟩, rfl,
  fun _ kV doc pm an cdv ct us hl => match us, hl with | [_, _], _ => rfl,
  fun h => absurd rfl h,
  fun b cA fA fdA psA k cf rp => match b with | true => body1006 true k cf rp | false => body1006 false k cf rp⟩
theorem body1007 (b : Bool) (k : Nat) (cf : CF) (rp : Store → T → Out Str) : Kb (CC b cA fA fdA psA fw k cf rp) N_L_given_row (defScope st1007) (defBody st1007) S_L_given_row :=
  (b_cons (t_lc rfl (by decide +kernel) (by decide +kernel) rfl (by decide +kernel) ⟨(by decide +kernel), (by decide +kernel), rfl, (by decide +kernel)⟩ (k_iseq (k_var rfl (by decide +kernel))) k_ts0 (k_cal rfl (by decide +kernel) rfl rfl (k_cons rfl (k_var rfl (by decide +kernel)) (k_cons rfl (k_var rfl (by decide +kernel)) k_nil)) (fun h => nomatch h)))
    (b_one (t_ret (k_ite (k_tcmp rfl (k_cal rfl (by decide +kernel) rfl rfl (k_cons rfl (k_var rfl (by decide +kernel)) (k_cons rfl k_int k_nil)) (fun h => nomatch h)) k_int) (k_blt (by decide +kernel) (by decide) (by decide +kernel) (fun h => nomatch h) rfl (k_cons rfl (k_var rfl (by decide +kernel)) k_nil)) (k_var rfl (by decide +kernel))))))
theorem ok1007 : FiOk PT fw fi1007 := ⟨⟨rfl, rfl, rfl, by decide +kernel, rfl, by decide +kernel, by decide +kernel⟩, rfl,
  fun _ kV doc pm an cdv ct us hl => match us, hl with | [_, _], _ => rfl,
  fun h => absurd rfl h,
  fun b cA fA fdA psA k cf rp => match b with | true => body1007 true k cf rp | false => body1007 false k cf rp⟩
theorem body1008 (b : Bool) (k : Nat) (cf : CF) (rp : Store → T → Out Str) : Kb (CC b cA fA fdA psA fw k cf rp) N_L_given (defScope st1008) (defBody st1008) S_L_given :=
  (b_cons (t_lc rfl (by decide +kernel) (by decide +kernel) rfl (by decide +kernel) ⟨(by decide +kernel), (by decide +kernel), rfl, (by decide +kernel)⟩ (k_iseq (k_var rfl (by decide +kernel))) k_ts0 (k_cal rfl (by decide +kernel) rfl rfl (k_cons rfl (k_var rfl (by decide +kernel)) (k_cons rfl (k_var rfl (by decide +kernel)) k_nil)) (fun h => nomatch h)))
    (b_one (t_ret (k_ite (k_tcmp rfl (k_cal rfl (by decide +kernel) rfl rfl (k_cons rfl (k_var rfl (by decide +kernel)) (k_cons rfl k_int k_nil)) (fun h => nomatch h)) k_int) (k_blt (by decide +kernel) (by decide) (by decide +kernel) (fun h => nomatch h) rfl (k_cons rfl (k_var rfl (by decide +kernel)) k_nil)) (k_var rfl (by decide +kernel))))))
theorem ok1008 : FiOk PT fw fi1008 := ⟨⟨rfl, rfl, rfl, by decide +kernel, rfl, by decide +kernel, by decide +kernel⟩, rfl,
  fun _ kV doc pm an cdv ct us hl => match us, hl with | [_, _], _ => rfl,
  fun h => absurd rfl h,
  fun b cA fA fdA psA k cf rp => match b with | true => body1008 true k cf rp | false => body1008 false k cf rp⟩
theorem body1009 (b : Bool) (k : Nat) (cf : CF) (rp : Store → T → Out Str) : Kb (CC b cA fA fdA psA fw k cf rp) N_L_entry (defScope st1009) (defBody st1009) S_L_entry :=
  (b_one (t_ret (k_cal rfl (by decide +kernel) rfl rfl (k_cons rfl (k_var rfl (by decide +kernel)) (k_cons rfl (k_lst (k_cons rfl (k_tup (k_cons rfl k_int (k_cons rfl k_int k_nil))) (k_cons rfl (k_tup (k_cons rfl k_int (k_cons rfl k_int k_nil))) (k_cons rfl (k_tup (k_cons rfl k_int (k_cons rfl k_int k_nil))) (k_cons rfl (k_tup (k_cons rfl (k_neg k_int) (k_cons rfl k_int k_nil))) (k_cons rfl (k_tup (k_cons rfl k_int (k_cons rfl k_int k_nil))) (k_cons rfl (k_tup (k_cons rfl k_int (k_cons rfl k_int k_nil))) (k_cons rfl (k_tup (k_cons rfl (k_neg k_int) (k_cons rfl k_int k_nil))) (k_cons rfl (k_tup (k_cons rfl k_int (k_cons rfl k_int k_nil))) (k_cons rfl (k_tup (k_cons rfl (k_neg k_int) (k_cons rfl k_int k_nil))) (k_cons rfl (k_tup (k_cons rfl k_int (k_cons rfl k_int k_nil))) k_nil))))))))))) k_nil)) (fun h => nomatch h))))
theorem ok1009 : FiOk PT fw fi1009 := ⟨⟨rfl, rfl, rfl, by decide +kernel, rfl, by decide +kernel, by decide +kernel⟩, rfl,
  fun _ kV doc pm an cdv ct us hl => match us, hl with | [_], _ => rfl,
  fun h => absurd rfl h,
  fun b cA fA fdA psA k cf rp => match b with | true => body1009 true k cf rp | false => body1009 false k cf rp⟩
theorem body1010 (b : Bool) (k : Nat) (cf : CF) (rp : Store → T → Out Str) : Kb (CC b cA fA fdA psA fw k cf rp) N_L_row (defScope st1010) (defBody st1010) S_L_row :=
  (b_one (t_ret (k_lc ⟨(by decide +kernel), (by decide +kernel), rfl, (by decide +kernel)⟩ (k_irng1 (by decide +kernel) rfl (k_var rfl (by decide +kernel))) k_ts0 (k_cal rfl (by decide +kernel) rfl rfl (k_cons rfl (k_var rfl (by decide +kernel)) k_nil) (fun h => nomatch h)))))
theorem ok1010 : FiOk PT fw fi1010 := ⟨⟨rfl, rfl, rfl, by decide +kernel, rfl, by decide +kernel, by decide +kernel⟩, rfl,
  fun _ kV doc pm an cdv ct us hl => match us, hl with | [_, _], _ => rfl,
  fun h => absurd rfl h,
  fun b cA fA fdA psA k cf rp => match b with | true => body1010 true k cf rp | false => body1010 false k cf rp⟩
theorem body1011 (b : Bool) (k : Nat) (cf : CF) (rp : Store → T → Out Str) : Kb (CC b cA fA fdA psA fw k cf rp) N_L_list (defScope st1011) (defBody st1011) S_L_list :=
  (b_cons (t_asg (fun _ _ => rfl) (fun _ _ => rfl) (fun _ => rfl) (g_gn rfl (by decide +kernel)) (k_lst k_nil))
    (b_cons (t_for rfl (by decide +kernel) (k_irng1 (by decide +kernel) rfl (k_var rfl (by decide +kernel))) (b_one (t_app rfl (by decide +kernel) rfl rfl (k_cal rfl (by decide +kernel) rfl rfl (k_cons rfl (k_var rfl (by decide +kernel)) (k_cons rfl (k_var rfl (by decide +kernel)) k_nil)) (fun h => nomatch h)))))
    (b_one (t_ret (k_var rfl (by decide +kernel))))))
theorem ok1011 : FiOk PT fw fi1011 := ⟨⟨rfl, rfl, rfl, by decide +kernel, rfl, by decide +kernel, by decide +kernel⟩, rfl,
  fun _ kV doc pm an cdv ct us hl => match us, hl with | [_, _, _], _ => rfl,
  fun h => absurd rfl h,
  fun b cA fA fdA psA k cf rp => match b with | true => body1011 true k cf rp | false => body1011 false k cf rp⟩
theorem body1012 (b : Bool) (k : Nat) (cf : CF) (rp : Store → T → Out Str) : Kb (CC b cA fA fdA psA fw k cf rp) N_L_table (defScope st1012) (defBody st1012) S_L_table :=
  (b_cons (t_asg (fun _ _ => rfl) (fun _ _ => rfl) (fun _ => rfl) (g_gn rfl (by decide +kernel)) (k_cal rfl (by decide +kernel) rfl rfl (k_cons rfl (k_var rfl (by decide +kernel)) (k_cons rfl (k_var rfl (by decide +kernel)) (k_cons rfl (k_var rfl (by decide +kernel)) k_nil))) (fun h => nomatch h)))
    (b_cons (t_if (k_tw (k_wand (k_tcmp rfl (k_var rfl (by decide +kernel)) k_int) (k_w1a (k_tcmp rfl (k_cal rfl (by decide +kernel) rfl rfl (k_cons rfl (k_var rfl (by decide +kernel)) (k_cons rfl k_int k_nil)) (fun h => nomatch h)) k_int)))) (b_cons (t_parT (fun _ _ => rfl) (fun env h => by cases env; cases h; rfl) (fun _ => rfl) rfl (by decide) rfl (gv_cons rfl (by decide +kernel) (gv_cons rfl (by decide +kernel) (gv_cons rfl (by decide +kernel) gv_nil))) (k_cons rfl (k_cal rfl (by decide +kernel) rfl rfl (k_cons rfl (k_var rfl (by decide +kernel)) (k_cons rfl (k_var rfl (by decide +kernel)) k_nil)) (fun h => nomatch h)) (k_cons rfl (k_cal rfl (by decide +kernel) rfl rfl (k_cons rfl (k_var rfl (by decide +kernel)) (k_cons rfl (k_var rfl (by decide +kernel)) k_nil)) (fun h => nomatch h)) (k_cons rfl (k_cal rfl (by decide +kernel) rfl rfl (k_cons rfl (k_var rfl (by decide +kernel)) k_nil) (fun h => nomatch h)) k_nil))))
    (b_one (t_asg (fun _ _ => rfl) (fun _ _ => rfl) (fun _ => rfl) (g_ix (fun _ _ => rfl) (k_var rfl (by decide +kernel)) (k_var rfl (by decide +kernel))) (k_ite (k_tcmp rfl (k_var rfl (by decide +kernel)) (k_var rfl (by decide +kernel))) (k_lc ⟨(by decide +kernel), (by decide +kernel), rfl, (by decide +kernel)⟩ (k_iseq (k_ix rfl (k_var rfl (by decide +kernel)) (k_var rfl (by decide +kernel)))) k_ts0 (k_cal rfl (by decide +kernel) rfl rfl (k_cons rfl (k_var rfl (by decide +kernel)) (k_cons rfl (k_var rfl (by decide +kernel)) k_nil)) (fun h => nomatch h))) (k_bin (k_lst (k_cons rfl (k_tup (k_cons rfl k_int (k_cons rfl k_int k_nil))) k_nil)) (k_var rfl (by decide +kernel))))))) b_nil)
    (b_one (t_ret (k_var rfl (by decide +kernel))))))
theorem ok1012 : FiOk PT fw fi1012 := ⟨⟨rfl, rfl, rfl, by decide +kernel, rfl, by decide +kernel, by decide +kernel⟩, rfl,
  fun _ kV doc pm an cdv ct us hl => match us, hl with | [_, _], _ => rfl,
  fun h => absurd rfl h,
  fun b cA fA fdA psA k cf rp => match b with | true => body1012 true k cf rp | false => body1012 false k cf rp⟩
theorem body1013 (b : Bool) (k : Nat) (cf : CF) (rp : Store → T → Out Str) : Kb (CC b cA fA fdA psA fw k cf rp) N_L_is_number (defScope st1013) (defBody st1013) S_L_is_number :=
  (b_one (t_ret (k_or (k_isi1 (by decide +kernel) rfl (k_var rfl (by decide +kernel)) (k_cls (by decide +kernel) rfl)) (k_one (k_and (k_isi1 (by decide +kernel) rfl (k_var rfl (by decide +kernel)) (k_ty (by decide +kernel) (by decide +kernel))) (k_one (k_not (k_isi1 (by decide +kernel) rfl (k_var rfl (by decide +kernel)) (k_ty (by decide +kernel) (by decide +kernel))))))))))
theorem ok1013 : FiOk PT fw fi1013 := ⟨⟨rfl, rfl, rfl, by decide +kernel, rfl, by decide +kernel, by decide +kernel⟩, rfl,
  fun _ kV doc pm an cdv ct us hl => match us, hl with | [_], _ => rfl,
  fun h => absurd rfl h,
  fun b cA fA fdA psA k cf rp => match b with | true => body1013 true k cf rp | false => body1013 false k cf rp⟩
theorem body1014 (b : Bool) (k : Nat) (cf : CF) (rp : Store → T → Out Str) : Kb (CC b cA fA fdA psA fw k cf rp) N_L_is_row (defScope st1014) (defBody st1014) S_L_is_row :=
  (b_one (t_ret (k_and (k_isiT (by decide +kernel) rfl (by decide) (k_var rfl (by decide +kernel)) (.cons (k_ty (by decide +kernel) (by decide +kernel)) (.cons (k_ty (by decide +kernel) (by decide +kernel)) .nil))) (k_and (k_cmp rfl (k_blt (by decide +kernel) (by decide) (by decide +kernel) (fun h => nomatch h) rfl (k_cons rfl (k_var rfl (by decide +kernel)) k_nil)) (k_var rfl (by decide +kernel))) (k_one (k_blt (by decide +kernel) (by decide) (by decide +kernel) (fun h => nomatch h) rfl (k_cons rfl (k_lc ⟨(by decide +kernel), (by decide +kernel), rfl, (by decide +kernel)⟩ (k_iseq (k_var rfl (by decide +kernel))) k_ts0 (k_cal rfl (by decide +kernel) rfl rfl (k_cons rfl (k_var rfl (by decide +kernel)) k_nil) (fun h => nomatch h))) k_nil)))))))
theorem ok1014 : FiOk PT fw fi1014 := ⟨⟨rfl, rfl, rfl, by decide +kernel, rfl, by decide +kernel, by decide +kernel⟩, rfl,
  fun _ kV doc pm an cdv ct us hl => match us, hl with | [_, _], _ => rfl,
  fun h => absurd rfl h,
  fun b cA fA fdA psA k cf rp => match b with | true => body1014 true k cf rp | false => body1014 false k cf rp⟩
theorem body1015 (b : Bool) (k : Nat) (cf : CF) (rp : Store → T → Out Str) : Kb (CC b cA fA fdA psA fw k cf rp) N_L_is_table (defScope st1015) (defBody st1015) S_L_is_table :=
  (b_cons (t_if (k_tw (k_wor (k_tnot (k_tv rfl (k_isiT (by decide +kernel) rfl (by decide) (k_var rfl (by decide +kernel)) (.cons (k_ty (by decide +kernel) (by decide +kernel)) (.cons (k_ty (by decide +kernel) (by decide +kernel)) .nil))))) (k_w1o (k_tnot (k_tcmp2 rfl k_int (k_blt (by decide +kernel) (by decide) (by decide +kernel) (fun h => nomatch h) rfl (k_cons rfl (k_var rfl (by decide +kernel)) k_nil)) k_int))))) (b_one (t_ret k_bl)) b_nil)
    (b_one (t_ret (k_blt (by decide +kernel) (by decide) (by decide +kernel) (fun h => nomatch h) rfl (k_cons rfl (k_lc ⟨(by decide +kernel), (by decide +kernel), rfl, (by decide +kernel)⟩ (k_iseq (k_var rfl (by decide +kernel))) k_ts0 (k_cal rfl (by decide +kernel) rfl rfl (k_cons rfl (k_var rfl (by decide +kernel)) (k_cons rfl (k_blt (by decide +kernel) (by decide) (by decide +kernel) (fun h => nomatch h) rfl (k_cons rfl (k_var rfl (by decide +kernel)) k_nil)) k_nil)) (fun h => nomatch h))) k_nil)))))
theorem ok1015 : FiOk PT fw fi1015 := ⟨⟨rfl, rfl, rfl, by decide +kernel, rfl, by decide +kernel, by decide +kernel⟩, rfl,
  fun _ kV doc pm an cdv ct us hl => match us, hl with | [_], _ => rfl,
  fun h => absurd rfl h,
  fun b cA fA fdA psA k cf rp => match b with | true => body1015 true k cf rp | false => body1015 false k cf rp⟩
theorem body1016 (b : Bool) (k : Nat) (cf : CF) (rp : Store → T → Out Str) : Kb (CC b cA fA fdA psA fw k cf rp) N_L_is_long (defScope st1016) (defBody st1016) S_L_is_long :=
  (b_one (t_ret (k_and (k_isiT (by decide +kernel) rfl (by decide) (k_var rfl (by decide +kernel)) (.cons (k_ty (by decide +kernel) (by decide +kernel)) (.cons (k_ty (by decide +kernel) (by decide +kernel)) .nil))) (k_and (k_cmp rfl (k_blt (by decide +kernel) (by decide) (by decide +kernel) (fun h => nomatch h) rfl (k_cons rfl (k_var rfl (by decide +kernel)) k_nil)) (k_lst (k_cons rfl k_int (k_cons rfl k_int (k_cons rfl k_int (k_cons rfl k_int k_nil)))))) (k_one (k_blt (by decide +kernel) (by decide) (by decide +kernel) (fun h => nomatch h) rfl (k_cons rfl (k_lc ⟨(by decide +kernel), (by decide +kernel), rfl, (by decide +kernel)⟩ (k_iseq (k_var rfl (by decide +kernel))) k_ts0 (k_cal rfl (by decide +kernel) rfl rfl (k_cons rfl (k_var rfl (by decide +kernel)) k_nil) (fun h => nomatch h))) k_nil)))))))
theorem ok1016 : FiOk PT fw fi1016 := ⟨⟨rfl, rfl, rfl, by decide +kernel, rfl, by decide +kernel, by decide +kernel⟩, rfl,
  fun _ kV doc pm an cdv ct us hl => match us, hl with | [_], _ => rfl,
  fun h => absurd rfl h,
  fun b cA fA fdA psA k cf rp => match b with | true => body1016 true k cf rp | false => body1016 false k cf rp⟩
theorem body1017 (b : Bool) (k : Nat) (cf : CF) (rp : Store → T → Out Str) : Kb (CC b cA fA fdA psA fw k cf rp) N_L_lets (defScope st1017) (defBody st1017) S_L_lets :=
  (b_cons (t_asg (fun _ _ => rfl) (fun _ _ => rfl) (fun _ => rfl) (g_gn rfl (by decide +kernel)) k_bl)
    (b_cons (t_try rfl rfl (by decide +kernel) (b_one (t_exp (fun _ => rfl) (k_cal rfl (by decide +kernel) rfl rfl (k_cons rfl (k_var rfl (by decide +kernel)) k_nil) (fun h => nomatch h)))) (h_one (h_set (fun _ => rfl) rfl (by decide +kernel) kk_bl)))
    (b_one (t_ret (k_var rfl (by decide +kernel))))))
theorem ok1017 : FiOk PT fw fi1017 := ⟨⟨rfl, rfl, rfl, by decide +kernel, rfl, by decide +kernel, by decide +kernel⟩, rfl,
  fun _ kV doc pm an cdv ct us hl => match us, hl with | [_], _ => rfl,
  fun h => absurd rfl h,
  fun b cA fA fdA psA k cf rp => match b with | true => body1017 true k cf rp | false => body1017 false k cf rp⟩
theorem body1018 (b : Bool) (k : Nat) (cf : CF) (rp : Store → T → Out Str) : Kb (CC b cA fA fdA psA fw k cf rp) N_L_bent (defScope st1018) (defBody st1018) S_L_bent :=
  (b_cons (t_asg (fun _ _ => rfl) (fun _ _ => rfl) (fun _ => rfl) (g_gn rfl (by decide +kernel)) (k_cal rfl (by decide +kernel) rfl rfl (k_cons rfl (k_var rfl (by decide +kernel)) (k_cons rfl (k_blt (by decide +kernel) (by decide) (by decide +kernel) (fun h => nomatch h) rfl (k_cons rfl (k_var rfl (by decide +kernel)) k_nil)) k_nil)) (fun h => nomatch h)))
    (b_cons (t_par2 rfl rfl (by decide) (by decide +kernel) (by decide +kernel) (fun env h => by cases env; cases h; rfl) (k_cons rfl (k_blt (by decide +kernel) (by decide) (by decide +kernel) (fun h => nomatch h) rfl (k_cons rfl (k_ix rfl (k_var rfl (by decide +kernel)) (k_var rfl (by decide +kernel))) k_nil)) (k_cons rfl (k_cal rfl (by decide +kernel) rfl rfl (k_cons rfl (k_var rfl (by decide +kernel)) (k_cons rfl (k_lst (k_cons rfl k_non (k_cons rfl k_bl (k_cons rfl k_bl (k_cons rfl k_str (k_cons rfl (k_lst (k_cons rfl k_int k_nil)) (k_cons rfl (k_tup k_nil) (k_cons rfl k_dct0 k_nil)))))))) k_nil)) (fun h => nomatch h)) k_nil)))
    (b_cons (t_asg (fun _ _ => rfl) (fun _ _ => rfl) (fun _ => rfl) (g_gn rfl (by decide +kernel)) (k_cal rfl (by decide +kernel) rfl rfl (k_cons rfl (k_var rfl (by decide +kernel)) (k_cons rfl (k_blt (by decide +kernel) (by decide) (by decide +kernel) (fun h => nomatch h) rfl (k_cons rfl (k_var rfl (by decide +kernel)) k_nil)) k_nil)) (fun h => nomatch h)))
    (b_cons (t_asg (fun _ _ => rfl) (fun _ _ => rfl) (fun _ => rfl) (g_gn rfl (by decide +kernel)) (k_lst k_nil))
    (b_cons (t_for rfl (by decide +kernel) (k_iseq (k_lst (k_cons rfl (k_bin (k_var rfl (by decide +kernel)) (k_lst (k_cons rfl k_int k_nil))) (k_cons rfl (k_sl (k_var rfl (by decide +kernel)) k_omit (k_part rfl (k_neg k_int))) (k_cons rfl (k_var rfl (by decide +kernel)) (k_cons rfl (k_blt (by decide +kernel) (by decide) (by decide +kernel) (fun h => nomatch h) rfl (k_cons rfl (k_var rfl (by decide +kernel)) k_nil)) (k_cons rfl (k_bin (k_bin (k_sl (k_var rfl (by decide +kernel)) k_omit (k_part rfl (k_var rfl (by decide +kernel)))) (k_lst (k_cons rfl (k_var rfl (by decide +kernel)) k_nil))) (k_sl (k_var rfl (by decide +kernel)) (k_part rfl (k_bin (k_var rfl (by decide +kernel)) k_int)) k_omit)) (k_cons rfl (k_bin (k_bin (k_sl (k_var rfl (by decide +kernel)) k_omit (k_part rfl (k_var rfl (by decide +kernel)))) (k_lst (k_cons rfl k_int k_nil))) (k_sl (k_var rfl (by decide +kernel)) (k_part rfl (k_bin (k_var rfl (by decide +kernel)) k_int)) k_omit)) k_nil)))))))) (b_one (t_app rfl (by decide +kernel) rfl rfl (k_bin (k_bin (k_sl (k_var rfl (by decide +kernel)) k_omit (k_part rfl (k_var rfl (by decide +kernel)))) (k_lst (k_cons rfl (k_var rfl (by decide +kernel)) k_nil))) (k_sl (k_var rfl (by decide +kernel)) (k_part rfl (k_bin (k_var rfl (by decide +kernel)) k_int)) k_omit)))))
    (b_one (t_ret (k_bin (k_var rfl (by decide +kernel)) (k_lst (k_cons rfl (k_bin (k_var rfl (by decide +kernel)) (k_lst (k_cons rfl (k_var rfl (by decide +kernel)) k_nil))) (k_cons rfl (k_sl (k_var rfl (by decide +kernel)) (k_part rfl k_int) k_omit) (k_cons rfl (k_lst (k_cons rfl (k_var rfl (by decide +kernel)) k_nil)) (k_cons rfl (k_lc ⟨(by decide +kernel), (by decide +kernel), rfl, (by decide +kernel)⟩ (k_iseq (k_var rfl (by decide +kernel))) k_ts0 (k_bin (k_blt (by decide +kernel) (by decide) (by decide +kernel) (fun h => nomatch h) rfl (k_cons rfl (k_var rfl (by decide +kernel)) k_nil)) (k_lst (k_cons rfl k_int k_nil)))) (k_cons rfl (k_bin (k_var rfl (by decide +kernel)) (k_lst (k_cons rfl (k_bin (k_lst (k_cons rfl k_int k_nil)) (k_blt (by decide +kernel) (by decide) (by decide +kernel) (fun h => nomatch h) rfl (k_cons rfl (k_var rfl (by decide +kernel)) k_nil))) k_nil))) (k_cons rfl (k_blt (by decide +kernel) (by decide) (by decide +kernel) (fun h => nomatch h) rfl (k_cons rfl (k_var rfl (by decide +kernel)) k_nil)) k_nil)))))))))))))))
theorem ok1018 : FiOk PT fw fi1018 := ⟨⟨rfl, rfl, rfl, by decide +kernel, rfl, by decide +kernel, by decide +kernel⟩, rfl,
  fun _ kV doc pm an cdv ct us hl => match us, hl with | [_, _], _ => rfl,
  fun h => absurd rfl h,
  fun b cA fA fdA psA k cf rp => match b with | true => body1018 true k cf rp | false => body1018 false k cf rp⟩
theorem body1019 (k : Nat) (cf : CF) (rp : Store → T → Out Str) : Kb (CC true cA fA fdA psA fw k cf rp) N_L_right (defScope st1019) (defBody st1019) S_L_right :=
  (b_cons (t_asg (fun _ _ => rfl) (fun _ _ => rfl) (fun _ => rfl) (g_gn rfl (by decide +kernel)) (k_bin k_int (k_cal rfl (by decide +kernel) rfl rfl (k_cons rfl (k_var rfl (by decide +kernel)) (k_cons rfl k_int k_nil)) (fun h => nomatch h))))
    (b_cons (t_asg (fun _ _ => rfl) (fun _ _ => rfl) (fun _ => rfl) (g_gn rfl (by decide +kernel)) (k_blt (by decide +kernel) (by decide) (by decide +kernel) (fun h => nomatch h) rfl (k_cons rfl (k_cal rfl (by decide +kernel) rfl rfl (k_cons rfl (k_var rfl (by decide +kernel)) (k_cons rfl (k_cal rfl (by decide +kernel) rfl rfl (k_cons rfl (k_var rfl (by decide +kernel)) (k_cons rfl (k_var rfl (by decide +kernel)) k_nil)) (fun h => nomatch h)) k_nil)) (fun h => nomatch h)) k_nil)))
    (b_cons (t_asg (fun _ _ => rfl) (fun _ _ => rfl) (fun _ => rfl) (g_gn rfl (by decide +kernel)) (k_bin (k_bin (k_lst (k_cons rfl (k_var rfl (by decide +kernel)) (k_cons rfl (k_blt (by decide +kernel) (by decide) (by decide +kernel) (fun h => nomatch h) rfl (k_cons rfl (k_var rfl (by decide +kernel)) k_nil)) k_nil))) (k_cal rfl (by decide +kernel) rfl rfl (k_cons rfl (k_var rfl (by decide +kernel)) (k_cons rfl (k_var rfl (by decide +kernel)) k_nil)) (fun h => nomatch h))) (k_lst (k_cons rfl (k_bin (k_lst (k_cons rfl (k_bin (k_lst (k_cons rfl k_int k_nil)) k_int) k_nil)) k_int) (k_cons rfl (k_bin (k_lst (k_cons rfl (k_bin (k_lst (k_cons rfl k_int k_nil)) k_int) k_nil)) k_int) (k_cons rfl (k_lst (k_cons rfl (k_lst (k_cons rfl k_int k_nil)) k_nil)) (k_cons rfl (k_tup (k_cons rfl (k_tup (k_cons rfl (k_mk rfl rfl (by decide +kernel) rfl rfl (k_cons rfl k_int (k_cons rfl k_int k_nil))) k_nil)) k_nil)) (k_cons rfl (k_lst (k_cons rfl (k_lst (k_cons rfl k_bl k_nil)) k_nil)) (k_cons rfl (k_lst (k_cons rfl k_int k_nil)) (k_cons rfl (k_lst (k_cons rfl (k_lst (k_cons rfl k_int (k_cons rfl k_int k_nil))) k_nil)) k_nil))))))))))
    (b_cons (t_asg (fun _ _ => rfl) (fun _ _ => rfl) (fun _ => rfl) (g_gn rfl (by decide +kernel)) (k_bin (k_var rfl (by decide +kernel)) (k_lst (k_cons rfl k_non (k_cons rfl k_int (k_cons rfl k_str (k_cons rfl k_str (k_cons rfl k_dct0 (k_cons rfl (k_lst k_nil) (k_cons rfl (k_tup k_nil) (k_cons rfl (k_lst (k_cons rfl (k_lst k_nil) k_nil)) (k_cons rfl (k_dct rfl rfl (by intro h; cases h) (by decide) (kd_cons kk_intk (k_lst (k_cons rfl k_int k_nil)) kd_nil)) (k_cons rfl k_bl (k_cons rfl (k_mk rfl rfl (by decide +kernel) rfl rfl (k_cons rfl k_int k_nil)) (k_cons rfl (k_lst (k_cons rfl (k_lst (k_cons rfl k_int k_nil)) (k_cons rfl (k_lst (k_cons rfl k_int k_nil)) k_nil))) (k_cons rfl (k_bin (k_lst (k_cons rfl k_int k_nil)) k_int) (k_cons rfl (k_tup (k_cons rfl k_int (k_cons rfl k_int (k_cons rfl k_int (k_cons rfl k_int k_nil))))) (k_cons rfl (k_bin (k_lst (k_cons rfl k_int k_nil)) k_int) (k_cons rfl (k_bin (k_lst (k_cons rfl k_int k_nil)) k_int) (k_cons rfl (k_bin (k_lst (k_cons rfl k_int k_nil)) k_int) (k_cons rfl (k_lst (k_cons rfl k_non k_nil)) k_nil)))))))))))))))))))))
    (b_cons (t_for rfl (by decide +kernel) (k_iseq (k_var rfl (by decide +kernel))) (b_cons (t_par2 rfl rfl (by decide) (by decide +kernel) (by decide +kernel) (fun env h => by cases env; cases h; rfl) (k_cons rfl (k_repr rfl (by decide +kernel) rfl (k_var rfl (by decide +kernel))) (k_cons rfl (k_cal rfl (by decide +kernel) rfl rfl (k_cons rfl (k_var rfl (by decide +kernel)) k_nil) (fun h => nomatch h)) k_nil)))
    (b_cons (t_if (k_tw (k_wor (k_tcmp rfl (k_repr rfl (by decide +kernel) rfl (k_lst (k_cons rfl (k_cal rfl (by decide +kernel) rfl rfl (k_cons rfl (k_var rfl (by decide +kernel)) k_nil) (fun h => nomatch h)) (k_cons rfl (k_calk rfl (by decide +kernel) rfl rfl rfl (kkw_cons (k_var rfl (by decide +kernel)) kkw_nil)) k_nil)))) (k_repr rfl (by decide +kernel) rfl (k_lst (k_cons rfl (k_var rfl (by decide +kernel)) (k_cons rfl (k_var rfl (by decide +kernel)) k_nil))))) (k_w1o (k_tcmp rfl (k_cal rfl (by decide +kernel) rfl rfl (k_cons rfl (k_var rfl (by decide +kernel)) k_nil) (fun h => nomatch h)) (k_cal rfl (by decide +kernel) rfl rfl (k_cons rfl (k_var rfl (by decide +kernel)) k_nil) (fun h => nomatch h)))))) (b_one (t_ret k_bl)) b_nil)
    (b_one (t_if (k_tcmp rfl (k_repr rfl (by decide +kernel) rfl (k_var rfl (by decide +kernel))) (k_var rfl (by decide +kernel))) (b_one (t_ret k_bl)) b_nil)))))
    (b_one (t_ret k_bl)))))))
theorem ok1019 : FiOk PT fw fi1019 := ⟨⟨rfl, rfl, rfl, by decide +kernel, rfl, by decide +kernel, by decide +kernel⟩, rfl,
  fun _ kV doc pm an cdv ct us hl => match us, hl with | [_], _ => rfl,
  fun h => absurd rfl h,
  fun b cA fA fdA psA k cf rp => match b with | true => body1019 k cf rp | false => b_junk⟩
theorem body1020 (b : Bool) (k : Nat) (cf : CF) (rp : Store → T → Out Str) : Kb (CC b cA fA fdA psA fw k cf rp) N_L_law (defScope st1020) (defBody st1020) S_L_law :=
  (b_one (t_ret (k_cal rfl (by decide +kernel) rfl rfl (k_cons rfl (k_cal rfl (by decide +kernel) rfl rfl (k_cons rfl (k_var rfl (by decide +kernel)) (k_cons rfl k_int k_nil)) (fun h => nomatch h)) k_nil) (fun h => nomatch h))))
theorem ok1020 : FiOk PT fw fi1020 := ⟨⟨rfl, rfl, rfl, by decide +kernel, rfl, by decide +kernel, by decide +kernel⟩, rfl,
  fun _ kV doc pm an cdv ct us hl => match us, hl with | [_], _ => rfl,
  fun h => absurd rfl h,
  fun b cA fA fdA psA k cf rp => match b with | true => body1020 true k cf rp | false => body1020 false k cf rp⟩
theorem kw0 : KwOk PT (458, ["value"], [0]) := fun i e => by
  cases e
  exact ⟨rfl, fun _ kV doc pm an cdv ct ws zs hw hp => match ws, hw with | [_], _ => by cases hp; rfl, fun h => absurd rfl h⟩
theorem okPT : PT.Ok fw := ⟨(.cons ok31 (.cons ok33 (.cons ok159 (.cons ok332 (.cons ok333 (.cons ok334 (.cons ok340 (.cons ok341 (.cons ok342 (.cons ok343 (.cons ok344 (.cons ok345 (.cons ok346 (.cons ok351 (.cons ok353 (.cons ok354 (.cons ok355 (.cons ok356 (.cons ok420 (.cons ok436 (.cons ok455 (.cons ok458 (.cons ok469 (.cons ok1001 (.cons ok1002 (.cons ok1003 (.cons ok1004 (.cons ok1005 (.cons ok1006 (.cons ok1007 (.cons ok1008 (.cons ok1009 (.cons ok1010 (.cons ok1011 (.cons ok1012 (.cons ok1013 (.cons ok1014 (.cons ok1015 (.cons ok1016 (.cons ok1017 (.cons ok1018 (.cons ok1019 (.cons ok1020 .nil))))))))))))))))))))))))))))))))))))))))))),
  (.cons kw0 .nil),
  (.cons (fun v f h1 h2 => by cases h1; cases h2; exact ⟨fi159, _, _, _, _, _, _, rfl, rfl, rfl, rfl, by decide +kernel, by decide +kernel, rfl⟩) (.cons (fun _ _ h _ => nomatch h) .nil))⟩
theorem statPT : PT.statB = true := by decide +kernel
end Tw
open PySem PySem.W PySem.Calls PyProof.Rows
set_option maxRecDepth 100000 in
set_option maxHeartbeats 0 in
theorem PySem.Challenge.cw_tracewords_k12_any_values_as_tables_holds : PySem.Challenge.rw_tracewords_k12_any_values_as_tables.Holds := by
  w_on; o_law
  refine HandSHeadRun.head_imp (r := OpenLaw.row PySem.Challenge.rw_tracewords_k12_any_values_as_tables) (q := view (OpenLaw.row PySem.Challenge.rw_tracewords_k12_any_values_as_tables).prog [0, 45]) (H := Tw.hookP 0 Tw.PT) (ob := Tw.obP 0 Tw.PT) (M := 60000) (loose := Tw.looseL) (d := HandSHeadRun.topDef (OpenLaw.row PySem.Challenge.rw_tracewords_k12_any_values_as_tables).prog 45) (kwd := []) (Tw.obP_eq 0 Tw.PT) Tw.run
    (by kernel_rfl) (by kernel_rfl) (by kernel_rfl) (by rfl) (by first | assumption | decide +kernel) (by decide +kernel) ⟨rfl, rfl, rfl, rfl, rfl, by decide +kernel⟩ ?hw ?hc
  case hw => w_witness2
  case hc => exact Tw.walkP (l := PySem.Challenge.rw_tracewords_k12_any_values_as_tables) (n := 63) (m := 12) (n0 := 8) (dp := 12) (fw := 300) (m0 := 1020) (i0 := Tw.fi1020) (x := "_law_script") rfl (by decide) rfl ⟨rfl, by decide, by decide⟩ rfl rfl rfl rfl rfl Tw.okPT Tw.statPT Tw.pure_law
